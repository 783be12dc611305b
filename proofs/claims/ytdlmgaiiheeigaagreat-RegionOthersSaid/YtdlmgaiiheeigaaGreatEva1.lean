/- A reading of the program, proved sound against the model, and what its functions answer by it: part 1. -/
import Derived.Test.YtdlmgaiiheeigaaGreatEva0
import Derived.Laws.Externs
import Derived.OrdersHeld
import Derived.KernelRfl
import Derived.ChangeArms
import Derived.SizedLaws
import Derived.Carry
import Derived.OpenShut
import Derived.ChangeOld
import Derived.Test.YtdlmgaiiheeigaaGreatProg
set_option linter.unusedSimpArgs false
set_option linter.unusedVariables false
open List renaming length → zq, map → zz, replicate → zj, set → zx, take → zw, drop → zk
open Int renaming toNat → zy, tmod → zg, fdiv → zh
open Go.IntKind renaming i64 → zd, u64 → zf, wrap → zp
open BitVec renaming ofInt → zb
open Go.Eva.Res renaming mk → qz
open Go.Eva.Ex renaming ret → qj, exit → qx
open Go.Eva.Ob renaming arr → qv, one → qg
open Go.Eva.T renaming sl → qk
open Go.Eva.V renaming all → qy
namespace Go.Eva
open Go.RowKit
section
variable {P:Program} {cx:Cx} {S:Task→(Res→Prop)→Prop} {o:Oper} {e:Env} {H:Heap} {a:Act} {w:World} {ι:Io} {F:Nat→Prop} {R:V×Heap→Prop}
theorem Aiz {es:Nat} {s x:V} {ws:List V} (h:vecOf es s x H=some ws): ∃id lim,s= .fit 1 []∧x= .all id lim∧es=1∧H[id]?=some (.vec ws)∧0<ws.length:=by
 unfold vecOf at h
 split at h
 ·rename_i z id lim
  rw [Aaj] at h
  split at h
  ·rename_i hb ho
   simp only [Bool.and_eq_true] at hb
   have h1:=Nat.eq_of_beq_eq_true hb.1
   have h2:=Nat.eq_of_beq_eq_true hb.2
   subst h1
   cases h
   exact ⟨id,lim,rfl,rfl,h2,ho,by simp⟩
  ·contradiction
 ·contradiction
theorem AjV (hg:Good ι F w H) {ws:List V} {news:List Value} (e:TypeId) (hn:news.length=ws.length) (h1: ∀v∈news,v.oneCell'=true)
  (hv: ∀(i:Nat) (v:V) (u:Value),ws[i]?=some v→news[i]?=some u→VR ι F w H v u∧v≠ .t .any) {g:Nat} (hge:ws.length≤g) {zc:Array Value} (hz1: ∀(j:Nat) c,zc[j]?=some c→c.oneCell'=true):
  ∃ι' w',w'=w.drew.alloc (.cells (([]:List Value).toArray++news.toArray++Builtin.zeroCells zc (g-(0+ws.length))) e)∧Good ι' F w' (H++ [.vec ws])∧Step ι F H w ι' F (H++ [.vec ws]) w'∧
   VR ι' F w' (H++ [.vec ws]) (.all H.length none) (.slice (some ⟨w.heap.size,0,none⟩) (0+ws.length) g):=by
 obtain ⟨d1,d2⟩:=Ags hg
 generalize hcs:([]:List Value).toArray++news.toArray++Builtin.zeroCells zc (g-(0+ws.length))=cs
 have hget: ∀(i:Nat) (c:Value),cs[i]?=some c→i<ws.length→news[i]?=some c:=by
  intro i c hc hi
  rw [←hcs] at hc
  rw [Array.getElem?_append_left (by simp [hn,hi])] at hc
  simpa using hc
 obtain ⟨k1,k2⟩:=Ac6 d1 (.vec ws) cs e rfl (by
  refine ⟨w.drew.heap.size,cs,e,by simp [upd],AaL,?_,fun i c hc=> ?_,fun i v c hvi hc=> ?_⟩
  ·rw [←hcs];simp [hn]
  ·by_cases hi:i<ws.length
   ·exact h1 c (List.mem_of_getElem? (hget i c hc hi))
   ·rw [←hcs] at hc
    rw [Array.getElem?_append_right (by simp [hn];omega)] at hc
    have hm:=Array.mem_of_getElem? hc
    simp [Builtin.zeroCells] at hm
    obtain ⟨k,hk,rfl⟩:=hm
    have hpos:0<zc.size:=by rcases Nat.eq_zero_or_pos zc.size with h|h;rw [h] at hk;simp at hk;exact h
    have hlt:k%zc.size<zc.size:=Nat.mod_lt _ hpos
    simp only [hlt,getElem!_pos]
    exact hz1 (k%zc.size) _ (by simp [hlt])
  ·obtain ⟨q1,q2⟩:=hv i v c hvi (hget i c hc (List.getElem?_eq_some_iff.1 hvi).1)
   exact ⟨(d2.vr hg q1).mono (fun _ h=>h) (fun b hb=>Aay (d1.fin b hb)) (Adx d1.lt),q2⟩)
 refine ⟨_,_,rfl,k1,d2.trans k2,.all _ _ _ ?_⟩
 unfold OwnSl
 rw [show (H++ [Ob.vec ws])[H.length]?=some (.vec ws) by simp]
 exact ⟨_,g,w.drew.heap.size,by simp,by simpa using hge,by simp,by simp [upd],.inr rfl⟩
theorem AhE (hc:CxTy P cx) (hg:Good ι F w H) {s x:V} {u v:Value} (hs:VR ι F w H s u) (hx:VR ι F w H x v) {t t' ty:Nat} (h:wpQ S (builtinV cx .append [t,t'] [s,x] H) R):
  ∃val w',(Builtin.append_ #[t,t'] ty #[u,v]).run P w= .ok val w'∧BPost R ι F H w val w'∧((∃z xs,s= .fit z xs)→OldSame w w'):=by
 unfold builtinV at h
 simp only at h
 split at h
 ·rename_i el he
  obtain ⟨e1,i,inf,e2,e3,e4,e5,e6,e7,e8⟩:=Abo hc he
  obtain ⟨inf',d',c1,c2,c3,c4,c5,c6,zv,hz,hzz⟩:=hc.ty el i e2
  rw [e4] at c1
  obtain rfl:=Option.some.inj c1
  rw [e7,e8,←e5,←e6] at h
  have hpos:0<inf.size:=by omega
  split at h
  ·rename_i k n
   split at h
   ·rename_i z hint hzv
    have hv:=hx.t_inv.int_inv
    subst hv
    have hzz:=hzz z hzv
    obtain ⟨x',H1,F1,inf2,zv2,r1,g1,s1,q1,q2,q3,q4,q5,q6,q7⟩:=Agg hc e2 hzv hg (bb:=false) (Aaa _ _ _ h)
    rw [e4] at q1
    obtain rfl:=Option.some.inj q1
    rw [hz] at q2
    obtain rfl:=Option.some.inj q2
    clear h
    obtain ⟨⟨c0,c1',c2'⟩,h⟩:=r1
    have hap:(appendMax:Nat)=140737488355328:=rfl
    rw [hap] at c1' c2'
    have hkn: ∃kn,P.underlying t'=some (.int kn):=by
     unfold isInt at hint
     split at hint
     ·rename_i ii hget
      obtain ⟨inf3,d3,h1,h2,h3,h4,h5,_⟩:=hc.ty _ _ hget
      split at hint
      ·rename_i kk hk
       rw [hk] at h5
       simp only [TyR] at h5
       exact ⟨kk,h5 ▸ h2⟩
      ·contradiction
     ·contradiction
    have hrow:=q7 n.toNat w (fun _ _=>rfl)
    rw [←q3] at hrow
    have hn:((n.toNat:Nat):Int)=n:=Int.toNat_of_nonneg c0
    have hsrc:Src P w inf zv t' (.int k n) (zj n.toNat x').length (Builtin.zeroCells zv.cells n.toNat).toList:=by
     refine .inr ⟨hkn,⟨k,by simp [hn]⟩,by simpa using c1',by simpa using c2',by simp⟩
    have hrow':Row F1 w inf.size (zj n.toNat x') (Builtin.zeroCells zv.cells n.toNat).toList:=by
     have he:Builtin.zeroCells zv.cells n.toNat=(Array.range (n.toNat*inf.size)).map fun k=>zv.cells[k%inf.size]!:=by simp [Builtin.zeroCells,q5,q3]
     rw [he]
     exact hrow
    obtain ⟨r,H',ι',val,w',k1,k2,k3,k4,k6,k5⟩:=AfE (ty:=ty) g1 e1 e4 hz hpos (by rw [q5,q3]) q6 hsrc hrow' (s1.vr hg hs) h
    exact ⟨val,w',k5,⟨r,H',ι',F1,k1,k2,s1.trans k3,k4⟩,k6⟩
   ·exact h.elim
  ·split at h
   ·rename_i ws hb hvo
    obtain rfl:=Nat.eq_of_beq_eq_true hb
    obtain ⟨id,lim,rfl,rfl,hs1,hob,hpw⟩:=Aiz hvo
    cases hs with
    |fit _ _ p hs=>
    cases hx with
    |all _ _ _ hx=>
    unfold OwnSl at hx
    rw [hob] at hx
    obtain ⟨q,cap,b,rfl,hcap,_,hbb,hq⟩:=hx
    simp only [Option.getD_none] at*
    have hq:q=some ⟨b,0,none⟩:=hq.resolve_left (by omega)
    subst hq
    obtain ⟨b',cs,e',o1,o2,o3,o4,o5⟩:=hg.obj id _ hob
    rw [hbb] at o1
    obtain rfl:=Option.some.inj o1
    obtain ⟨⟨hby,r1,r2⟩,h⟩:=h
    replace h:=Aa5 (Aaa _ _ _ h)
    obtain ⟨z1,z2⟩:=hc.zc el i inf zv e2 e4 hz (by rw [←e6];exact hby)
    have hlen:(cs.toList.take ws.length).length=ws.length:=by simp;omega
    have hrd:Reads P w inf.size ws.length (.slice (some ⟨b,0,none⟩) ws.length cap) (cs.toList.take ws.length):=by
     rw [hs1]
     refine Aea (by rw [hlen];omega) (fun j v hv=> ?_)
     rw [cell_of_row w b _ cs _ _ o2,Nat.zero_add]
     rw [List.getElem?_take] at hv
     split at hv
     ·simpa using hv
     ·contradiction
    have hone: ∀v∈cs.toList.take ws.length,v.oneCell'=true:=by
     intro v hv
     obtain ⟨j,hj⟩:=List.getElem?_of_mem (List.mem_of_mem_take hv)
     exact o4 j v (by simpa using hj)
    have hap:(appendMax:Nat)=140737488355328:=rfl
    rw [hap] at r1 r2
    have hrun:=Ae1 t t ty el inf zv e1 e4 hz hpos (.inl ⟨⟨el,e1⟩,⟨_,_,rfl⟩,hrd⟩) p 0 0 (olds:= []) AaH (Nat.le_refl _) (by omega) (by simpa using r1) (by simpa using r2)
    obtain ⟨ι',w',rfl,g1,g2,g3⟩:=AjV (g:=grownCap w (0+ws.length) 0 el) (zc:=zv.cells) hg el hlen hone (fun j v u hv hu=>by
     rw [List.getElem?_take] at hu
     split at hu
     ·exact o5 j v u hv (by simpa using hu)
     ·contradiction) (by have:=grownCap_ge w (0+ws.length) 0 el;simp at this⊢;omega) z2
    exact ⟨_,_,hrun,⟨_,_,ι',F,h,g1,g2,g3⟩,fun _=> .alloc w.drew _⟩
   ·split at h
    ·rename_i ys hb hel
     obtain rfl:=Nat.eq_of_beq_eq_true hb
     obtain ⟨p,c,vs,rfl,k1,k2⟩:=Agi (P:=P) hg hel hx
     have hfull:=k1.full k2
     obtain ⟨hby,h⟩:=h
     obtain ⟨z1,z2⟩:=hc.zc el i inf zv e2 e4 hz (by rw [←e6];exact hby)
     rw [←e5] at z1
     obtain ⟨r,H',ι',val,w',k1,k2,k3,k4,k6,k5⟩:=AfE (ty:=ty) hg e1 e4 hz hpos z1 z2 (.inl ⟨⟨el,e1⟩,⟨p,c,rfl⟩,hfull⟩) k1 hs h
     exact ⟨val,w',k5,⟨r,H',ι',F,k1,k2,k3,k4⟩,k6⟩
    ·exact h.elim
 ·exact h.elim
theorem Aeh (hg:Good ι F w H) {s id off len:Nat} {n:Option Nat} {lim:Option Nat} {d:Value} (hlen: ∀s xs sp ro,H[id]?=some (.arr s xs sp ro)→n.getD xs.length=len) (hv:OwnSl ι w H id off n lim d) {ys:List T} {vs:List Value} (hy:Row F w s ys vs)
  (h:wpQ S (writeOver s id off len ys H) R):
  ∃p cap w' H' r,d= .slice p len cap∧r= .t (.int .i64 (min ys.length len:Nat))∧R (r,H')∧Good ι F w' H'∧Step ι F H w ι F H' w'∧(min ys.length len=0→w'=w)∧
   (min ys.length len≠0→ ∃a,p=some a∧(storeCells a (vs.take (min ys.length len*s))).run P w= .ok () w'):=by
 unfold writeOver at h
 rw [Aaj] at h
 split at h
 ·rename_i s' xs sp ho
  split at h
  ·rename_i hb
   obtain rfl:=Nat.eq_of_beq_eq_true hb
   obtain ⟨hid,h⟩:=Abj (Aaa _ _ _ h)
   obtain ⟨p,cap,rfl,q1,q2,q3⟩:=Adg ho hv
   rw [hlen _ _ _ _ ho] at q1 q2⊢
   by_cases h0:min ys.length len=0
   ·rw [h0] at h⊢
    have:xs.take off++ys.take 0++xs.drop (off+0)=xs:=by simp
    rw [this,AhU ho] at h
    exact ⟨p,cap,w,H,_,rfl,rfl,h,hg,.refl ι F H w,fun _=>rfl,fun h=>absurd rfl h⟩
   ·obtain ⟨_,hob⟩:=Acp hg ho
    unfold CapR at q3
    rcases hob with ⟨b1,rfl,b3⟩|⟨b,cs,e',b1,b2,b3,b4,b5,b6,b7,b8⟩
    ·simp at q2
     omega
    ·rw [b1] at q3
     obtain ⟨hp,_⟩:=q3
     have hpp:p=some ⟨b,off*s',none⟩:=by rcases hp with hp|hp;omega;exact hp
     obtain ⟨cs',rfl,k1,k2⟩:=Ah1 (m:=min ys.length len) (off:=off) hg ho b1 b2 (hy.take (min ys.length len)) (by simp) (by omega)
     refine ⟨p,cap,_,_,_,rfl,rfl,h,k1,k2,fun h=>absurd h h0,fun _=>⟨_,hpp,?_⟩⟩
     have hl:(vs.take (min ys.length len*s')).length=min ys.length len*s':=by
      have:=(hy.take (min ys.length len)).len
      rw [this]
      simp
     have hfit:(off+min ys.length len)*s'≤cs.size:=Nat.le_trans (Nat.mul_le_mul_right _ (by omega)) b4
     have hst:=run_storeCells_at P b (off*s') e' (vs.take (min ys.length len*s')) 0 cs w b2 (by rw [hl,Nat.add_zero,←Nat.add_mul];exact hfit) (hy.take (min ys.length len)).one
     simp only [Nat.add_zero] at hst
     rw [hst,hl,←Nat.add_mul]
  ·exact h.elim
 ·exact h.elim
theorem Aih (hg:Good ι F w H) {s:Nat} {d:V} {u:Value} (hd:VR ι F w H d u) {ys:List T} {vs:List Value} (hy:Row F w s ys vs) (h:wpQ S (copyV s d ys H) R):
  ∃p len cap w' H' r,u= .slice p len cap∧(∀k,lenV d H=some k→k=len)∧r= .t (.int .i64 (min ys.length len:Nat))∧R (r,H')∧Good ι F w' H'∧Step ι F H w ι F H' w'∧(min ys.length len=0→w'=w)∧
   (min ys.length len≠0→ ∃a,p=some a∧(storeCells a (vs.take (min ys.length len*s))).run P w= .ok () w'):=by
 unfold copyV at h
 split at h
 ·rename_i id lim
  split at h
  ·rename_i s' xs sp ro ho
   have ho':=ho
   rw [Aaj] at ho
   cases hd with
   |all _ _ _ hv=>
   obtain ⟨p,cap,w',H',r,k⟩:=Aeh hg (n:=none) (fun s' xs' sp' ro' h=>by rw [ho] at h;simp at h;simp [h.2.1]) hv hy h
   exact ⟨p,xs.length,cap,w',H',r,k.1,fun k hk=>by simp [lenV,ho'] at hk;omega,k.2⟩
  ·exact h.elim
 ·rename_i id off len lim
  cases hd with
  |sl _ _ _ _ _ hv=>
  obtain ⟨p,cap,w',H',r,k⟩:=Aeh hg (n:=some len) (fun _ _ _ _ _=>rfl) hv hy h
  refine ⟨p,len,cap,w',H',r,k.1,fun k hk=> ?_,k.2⟩
  simp only [lenV] at hk
  split at hk
  ·simp at hk;exact hk.symm
  ·contradiction
 ·exact h.elim
theorem Alf (hc:CxTy P cx) (hg:Good ι F w H) {d x:V} {u v:Value} (hd:VR ι F w H d u) (hx:VR ι F w H x v) {t t' ty:Nat} (h:wpQ S (builtinV cx .copy [t,t'] [d,x] H) R):
  ∃val w',(Builtin.copy_ #[t,t'] ty #[u,v]).run P w= .ok val w'∧BPost R ι F H w val w':=by
 unfold builtinV at h
 simp only at h
 split at h
 ·rename_i el he
  split at h
  ·rename_i ys hel
   obtain ⟨e1,i,inf,e2,e3,e4,e5,e6,e7,e8⟩:=Abo hc he
   obtain ⟨px,c,vs,rfl,k1,k2⟩:=Agi (P:=P) hg hel hx
   obtain ⟨p,len,cap,w',H',r,rfl,_,rfl,hR,g1,g2,n0,n1⟩:=Aih (P:=P) hg hd k1 h
   have hr:=k2 (min ys.length len) (by omega) w rfl
   rw [e7,←e5] at hr n1
   refine ⟨.int .i64 (min ys.length len:Nat),w',?_,_,_,ι,F,hR,g1,g2,.t _ _ (.int _ _)⟩
   have hmin:Nat.min ys.length len=min ys.length len:=rfl
   by_cases h0:min ys.length len=0
   ·have:=n0 h0
    subst this
    rw [h0] at hr
    simp only [Nat.zero_mul,List.take_zero] at hr
    cases p<;>simp [Builtin.copy_,run_underlying e1,Go.sizeOf,typeInfo,e4,Builtin.lenOf,hmin,h0,hr,storeCells,goInt]
   ·obtain ⟨a,rfl,hst⟩:=n1 h0
    simp [Builtin.copy_,run_underlying e1,Go.sizeOf,typeInfo,e4,Builtin.lenOf,hmin,hr,hst,goInt]
  ·exact h.elim
 ·exact h.elim
theorem AkA (hc:CxTy P cx) (hg:Good ι F w H) {d:V} {u:Value} (hd:VR ι F w H d u) {t ty:Nat} (h:wpQ S (builtinV cx .clear [t] [d] H) R):
  ∃val w',(Builtin.clear_ #[t] ty #[u]).run P w= .ok val w'∧BPost R ι F H w val w':=by
 unfold builtinV at h
 simp only at h
 split at h
 ·rename_i el he
  split at h
  ·rename_i z hzv
   obtain ⟨e1,i,inf,e2,e3,e4,e5,e6,e7,e8⟩:=Abo hc he
   obtain ⟨x',H1,F1,inf2,zv,r1,g1,s1,q1,q2,q3,q4,q5,q6,q7⟩:=Agg hc e2 hzv hg (bb:=false) (Aaa _ _ _ h)
   rw [e4] at q1
   obtain rfl:=Option.some.inj q1
   clear h
   simp only at r1
   split at r1
   ·rename_i n hlen
    have hrow:=q7 n w (fun _ _=>rfl)
    rw [←e7] at hrow
    have hd1:=s1.vr hg hd
    obtain ⟨p,len,cap,w',H',r,rfl,hl,rfl,hR,g2,s2,n0,n1⟩:=Aih (P:=P) g1 hd1 hrow (Aaa _ _ _ r1)
    have hn:=hl n hlen
    subst hn
    simp only [List.length_replicate,Nat.min_self] at n0 n1 hR
    refine ⟨.tuple #[],w',?_,_,_,ι,F1,hR,g2,s1.trans s2,.tup _ _ rfl (by simp)⟩
    by_cases h0:n=0
    ·subst h0
     have:=n0 rfl
     subst this
     cases p<;>simp [Builtin.clear_,run_underlying e1]
    ·obtain ⟨a,rfl,hst⟩:=n1 h0
     have hz:(((Array.range (n*sizeOf cx el)).map fun k=>zv.cells[k%sizeOf cx el]!).toList).take (n*sizeOf cx el)=(Builtin.zeroCells zv.cells n).toList:=by
      rw [List.take_of_length_le (by simp)]
      simp [Builtin.zeroCells,q5,e7]
     rw [hz] at hst
     cases n with
     |zero=>contradiction
     |succ k=>simp [Builtin.clear_,run_underlying e1,zeroValue,typeInfo,e4,q2,hst]
   ·exact r1.elim
  ·exact h.elim
 ·exact h.elim
end
end Go.Eva
namespace Go.Eva
open Go.RowKit
section
variable {P:Program} {cx:Cx} {S:Task→(Res→Prop)→Prop} {o:Oper} {e:Env} {H:Heap} {a:Act} {w:World} {ι:Io} {F:Nat→Prop} {R:V×Heap→Prop}
theorem Ag7 (hg:Good ι F w H) {id off:Nat} {n lim:Option Nat} {u:Value} (hv:OwnSl ι w H id off n lim u) (h:wpQ S (capOwn id off lim H) R):
  ∃p len cap,u= .slice p len cap∧BPost R ι F H w (.int .i64 cap) w:=by
 unfold capOwn at h
 rw [Aaj] at h
 split at h
 ·rename_i s xs sp ro ho
  obtain ⟨p,cap,rfl,q1,q2,q3⟩:=Adg ho hv
  refine ⟨p,_,cap,rfl,?_⟩
  obtain ⟨h0,hob⟩:=Acp hg ho
  have q3':=q3
  unfold CapR at q3
  split at h
  ·obtain ⟨hne,h⟩:=h
   rcases hob with ⟨b1,rfl,b3⟩|⟨b,cs,e',b1,b2,b3,b4,b5,b6,b7,b8⟩
   ·exact absurd rfl hne
   ·rw [b1] at q3
    simp only at q3
    simp only [wpQ] at h
    rw [←q3.2.1,show off+cap-off=cap by omega] at h
    exact ⟨_,_,ι,F,h,hg,.refl ι F H w,.t _ _ (.int _ _)⟩
  ·rename_i k
   simp only [wpQ] at h
   have:xs.length+k-off=cap:=by
    rcases hob with ⟨b1,rfl,b3⟩|⟨b,cs,e',b1,b2,b3,b4,b5,b6,b7,b8⟩
    ·have:=b3 k rfl
     rw [b1] at q3
     simp only at q3
     simp only [List.length_nil] at q2
     simp
     omega
    ·rw [b1] at q3
     simp only at q3
     have hk:=b5 _ rfl
     rw [b3,←hk] at q3
     have:=Nat.eq_of_mul_eq_mul_right h0 q3.2
     omega
   rw [this] at h
   exact ⟨_,_,ι,F,h,hg,.refl ι F H w,.t _ _ (.int _ _)⟩
  ·simp only [wpQ] at h
   have hge:xs.length≤off+cap:=by
    rcases hob with ⟨b1,rfl,b3⟩|⟨b,cs,e',b1,b2,b3,b4,b5,b6,b7,b8⟩
    ·simp
    ·rw [b1] at q3
     simp only at q3
     rw [b3] at q3
     exact Nat.le_of_mul_le_mul_right (by omega) h0
   have h:=h (off+cap) hge
   obtain ⟨hid,h⟩:=Abj (Aaa _ _ _ h)
   simp only [wpQ] at h
   rw [show off+cap-off=cap by omega] at h
   obtain ⟨k1,k2⟩:=Ahh (w':=w) (o':= .arr s xs (some (off+cap-xs.length)) ro) hg ho rfl rfl rfl rfl (fun _ _=>rfl) (.inr ⟨rfl,fun _ _=>rfl,xs,_,ro,rfl,rfl⟩) (fun _=>rfl) (fun hl=>by
    have:=(hg.obj id _ ho).mono (F':=F) (w':=w) (fun _ h=>h) (fun _ _=>rfl) hl (fun _=>rfl) (fun _ _ _=>rfl)
    obtain ⟨g0,g⟩:=this
    refine ⟨g0,?_⟩
    rcases g with ⟨b1,rfl,b3⟩|⟨b,cs,e',b1,b2,b4,b5,b6,b7,b8⟩
    ·refine .inl ⟨b1,rfl,fun k hk=> ?_⟩
     rw [b1] at q3
     simp only at q3
     simp at q2 hk
     omega
    ·refine .inr ⟨b,cs,e',b1,b2,b4,fun k hk=> ?_,b6,b7,b8⟩
     rw [b1] at q3
     simp only at q3
     obtain rfl:=Option.some.inj hk
     have hbl:blk w b=cs.size:=by unfold blk;rw [b2]
     rw [←hbl,←q3.2]
     congr 1
     omega)
   exact ⟨_,_,ι,F,h,k1,k2,.t _ _ (.int _ _)⟩
 ·exact h.elim
theorem b_cap (hc:CxTy P cx) (hg:Good ι F w H) {v:V} {u:Value} (hv:VR ι F w H v u) {t ty:Nat} (h:wpQ S (builtinV cx .cap [t] [v] H) R): ∃val,(∀w,(Builtin.cap_ #[t] ty #[u]).run P w= .ok val w)∧BPost R ι F H w val w:=by
 unfold builtinV at h
 simp only at h
 split at h
 ·rename_i el he
  obtain ⟨e1,_⟩:=Abo hc he
  have key: ∃p len cap,u= .slice p len cap∧BPost R ι F H w (.int .i64 cap) w:=by
   unfold capV at h
   split at h
   ·have ht:=hv.t_inv
    have hsl: ∃p n c,u= .slice p n c:=by cases ht<;>exact ⟨_,_,_,rfl⟩
    obtain ⟨p,n,c,rfl⟩:=hsl
    rename_i xs
    have hle:xs.length≤c:=by
     cases ht with
     |slN=>exact Nat.zero_le _
     |slC _ _ _ _ _ _ _ hcap=>exact hcap
    exact ⟨p,n,c,rfl,_,_,ι,F,h c hle,hg,.refl ι F H w,.t _ _ (.int _ _)⟩
   ·cases hv with
    |fit _ _ p ht=>exact ⟨p,_,_,rfl,_,_,ι,F,h,hg,.refl ι F H w,.t _ _ (.int _ _)⟩
   ·cases hv with
    |all _ _ _ hv=>exact Ag7 hg hv h
   ·cases hv with
    |sl _ _ _ _ _ hv=>exact Ag7 hg hv h
   ·exact h.elim
  obtain ⟨p,len,cap,rfl,hb⟩:=key
  exact ⟨_,fun w=>by simp [Builtin.cap_,run_underlying e1,goInt],hb⟩
 ·exact h.elim
theorem AfW {f:Int→Int→Int} {g:Value→Value→Sem Value} {k:IntKind} (hfg: ∀w n m,(g (.int k n) (.int k m)).run P w= .ok (.int k (f n m)) w): ∀ {vs:List V} {us:List Value} {n:Int} {R:V→Prop},
  wpQ S (foldI f k n vs) R→vs.length=us.length→(∀(i:Nat) v u,vs[i]?=some v→us[i]?=some u→VR ι F w H v u)→ ∃m,R (.t (.int k m))∧ ∀w,(us.foldlM g (.int k n)).run P w= .ok (.int k m) w
 | [],us,n,R,h,hl,hv=>by
  have:us= []:=List.eq_nil_of_length_eq_zero (by simpa using hl.symm)
  subst this
  exact ⟨n,h,fun _=>rfl⟩
 |v::vs,us,n,R,h,hl,hv=>by
  cases us with
  |nil=>simp at hl
  |cons u us=>
   unfold foldI at h
   split at h
   ·contradiction
   ·rename_i k' m r heq
    simp only [List.cons.injEq] at heq
    obtain ⟨rfl,rfl⟩:=heq
    split at h
    ·rename_i hk
     simp at hk
     subst hk
     have hu:=(hv 0 _ _ rfl rfl).t_inv.int_inv
     subst hu
     obtain ⟨m',h1,h2⟩:=AfW hfg h (by simpa using hl) (fun i v u h1 h2=>hv (i+1) v u (by simpa using h1) (by simpa using h2))
     refine ⟨m',h1,fun w=> ?_⟩
     rw [List.foldlM_cons,Sem.run_bind,hfg]
     exact h2 w
    ·exact h.elim
   ·exact h.elim
theorem b_min (hg:Good ι F w H) {vs:List V} {us:List Value} {ts:Array Nat} {ty:Nat} (hl:vs.length=us.length) (hv: ∀(i:Nat) v u,vs[i]?=some v→us[i]?=some u→VR ι F w H v u) (h:wpQ S (builtinV cx .min ts.toList vs H) R):
  ∃val,(∀w,(Builtin.min_ ts ty us.toArray).run P w= .ok val w)∧BPost R ι F H w val w:=by
 unfold builtinV at h
 split at h<;>try contradiction
 ·rename_i k n r hb _
  cases us with
  |nil=>simp at hl
  |cons u us=>
   have hu:=(hv 0 _ _ rfl rfl).t_inv.int_inv
   subst hu
   obtain ⟨m,h1,h2⟩:=AfW (P:=P) (g:=Builtin.min2) (fun w n m=>by simp [Builtin.min2,minI]) (Aaa _ _ _ h) (by simpa using hl) (fun i v u h1 h2=>hv (i+1) v u (by simpa using h1) (by simpa using h2))
   exact ⟨_,fun w=>by simpa [Builtin.min_] using h2 w,_,_,ι,F,h1,hg,.refl ι F H w,.t _ _ (.int _ _)⟩
theorem b_max (hg:Good ι F w H) {vs:List V} {us:List Value} {ts:Array Nat} {ty:Nat} (hl:vs.length=us.length) (hv: ∀(i:Nat) v u,vs[i]?=some v→us[i]?=some u→VR ι F w H v u) (h:wpQ S (builtinV cx .max ts.toList vs H) R):
  ∃val,(∀w,(Builtin.max_ ts ty us.toArray).run P w= .ok val w)∧BPost R ι F H w val w:=by
 unfold builtinV at h
 split at h<;>try contradiction
 ·rename_i k n r hb _
  cases us with
  |nil=>simp at hl
  |cons u us=>
   have hu:=(hv 0 _ _ rfl rfl).t_inv.int_inv
   subst hu
   obtain ⟨m,h1,h2⟩:=AfW (P:=P) (g:=Builtin.max2) (fun w n m=>by simp [Builtin.max2,maxI]) (Aaa _ _ _ h) (by simpa using hl) (fun i v u h1 h2=>hv (i+1) v u (by simpa using h1) (by simpa using h2))
   exact ⟨_,fun w=>by simpa [Builtin.max_] using h2 w,_,_,ι,F,h1,hg,.refl ι F H w,.t _ _ (.int _ _)⟩
end
end Go.Eva
namespace Go.Eva
open Go.RowKit
def ResR (ι:Io) (F:Nat→Prop) (w:World) (H:Heap):List V→Value→Prop
 | [v],u=>VR ι F w H v u
 |vs,u=> ∃cs,u= .tuple cs∧vs.length=cs.size∧ ∀(i:Nat) x c,vs[i]?=some x→cs[i]?=some c→VR ι F w H x c
def VRs (ι:Io) (F:Nat→Prop) (w:World) (H:Heap) (vs:List V) (us:List Value):Prop:=vs.length=us.length∧ ∀(i:Nat) v u,vs[i]?=some v→us[i]?=some u→VR ι F w H v u
def CallS (P:Program) (f:Nat) (az:List V) (H:Heap) (R:Res→Prop):Prop:= ∀(w:World) (ι:Io) (F:Nat→Prop) (vals:Array Value),Good ι F w H→VRs ι F w H az vals.toList→
 Calls P f vals w fun en w'=> ∃x v ι' F',en= .returned v∧R x∧x.e= .ret∧Good ι' F' w' x.H∧ResR ι' F' w' x.H x.vs v∧Ext H.length ι F H w ι' F' x.H w'
section
variable {S:Task→(Res→Prop)→Prop} {w:World} {ι:Io} {F:Nat→Prop} {H:Heap}
theorem Abf {vs:List V} {u:Value} {R:V×Heap→Prop} (h:wpQ S (packRes vs H) R) {ι:Io} {F:Nat→Prop} {w:World} (hr:ResR ι F w H vs u): ∃v,R (v,H)∧VR ι F w H v u:=by
 unfold packRes at h
 split at h
 ·exact ⟨_,h,hr⟩
 ·rename_i hne
  unfold ResR at hr
  split at hr
  ·exact absurd rfl (hne _)
  ·obtain ⟨cs,rfl,h1,h2⟩:=hr
   exact ⟨_,h,.tup _ _ h1 h2⟩
theorem Adw (hg:Good ι F w H) (l:List Nat): ∀ {vs:List V} {us:List Value} {R:List T→Prop},wpQ S (fzArgs l H vs) R→VRs ι F w H vs us→
  ∃ts:List T,R ts∧ts.length=us.length∧ ∀(i:Nat) t u,ts[i]?=some t→us[i]?=some u→TR (fun b=>F b∨Fl ι H l b) w t u
 | [],us,R,h,hv=>by
  have:us= []:=List.eq_nil_of_length_eq_zero (by simpa using hv.1.symm)
  subst this
  exact ⟨[],h,rfl,by simp⟩
 |v::vs,us,R,h,hv=>by
  cases us with
  |nil=>have:=hv.1;simp at this
  |cons u us=>
   have h0:=hv.2 0 v u rfl rfl
   have hrest:VRs ι F w H vs us:=⟨by simpa using hv.1,fun i v u h1 h2=>hv.2 (i+1) v u (by simpa using h1) (by simpa using h2)⟩
   have cont: ∀x,TR (fun b=>F b∨Fl ι H l b) w x u→wpQ S ((fzArgs l H vs).bind fun ts=> .ret (x::ts)) R→
     ∃ts:List T,R ts∧ts.length=(u::us).length∧ ∀(i:Nat) t u',ts[i]?=some t→(u::us)[i]?=some u'→TR (fun b=>F b∨Fl ι H l b) w t u':=by
    intro x hx h
    obtain ⟨ts,h1,h2,h3⟩:=Adw hg l (Aaa _ _ _ h) hrest
    refine ⟨x::ts,h1,by simp [h2],?_⟩
    intro i t u' ht hu
    cases i with
    |zero=>simp at ht hu;subst ht;subst hu;exact hx
    |succ i=>simp at ht hu;exact h3 i t u' ht hu
   unfold fzArgs at h
   split at h
   ·exact cont _ (h0.t_inv.mono (fun _ h=> .inl h) (fun _ _=>rfl)) h
   ·cases h0 with
    |fit _ _ p ht=>exact cont _ (ht.mono (fun _ h=> .inl h) (fun _ _=>rfl)) h
   ·split at h
    ·rename_i x hx
     exact cont _ ((fz_ok hg l _).1 _ _ _ hx h0).1 h
    ·exact h.elim
   ·split at h
    ·rename_i x hx
     exact cont _ ((fz_ok hg l _).1 _ _ _ hx h0).1 h
    ·exact h.elim
theorem Agl {w':World} {F':Nat→Prop} (hg:Good ι F w H) (hos:w'.os=w.os) (htape:w'.tape=w.tape) (hout:w'.output=w.output) (hsize:w.heap.size≤w'.heap.size)
  (hsame: ∀b,b<w.heap.size→w'.heap[b]?=w.heap[b]?) (hsub: ∀b,F b→F' b) (hffr: ∀b,b<w.heap.size→F' b→F b) (hfin: ∀b,F' b→b<w'.heap.size):
  Good ι F' w' H∧Step ι F H w ι F' H w':=by
 have hl: ∀i oi,H[i]?=some oi→ ∃o'',H[i]?=some o''∧Like ι ι w w' i oi o'':=by
  intro i oi hi
  refine ⟨oi,hi,?_⟩
  unfold Like
  cases oi with
  |dead=>exact .inl rfl
  |one s v r=>exact .inr ⟨rfl,v,r,rfl⟩
  |arr s xs sp r=>exact .inr ⟨rfl,fun b hb=>AfK (hsame b (hg.lt i _ b hi rfl hb)),xs,sp,r,rfl,rfl⟩
  |vec vs=>exact .inr ⟨rfl,vs,rfl,rfl⟩
 have hlt: ∀b,Own ι H b→b<w.heap.size:=by
  rintro b ⟨id,ob,h1,h2,h3⟩
  exact hg.lt id ob b h1 (by cases ob<;>simp_all [Ob.ro,Ob.isDead]) h3
 exact ⟨⟨hfin,fun id ob h=>(hg.obj id ob h).mono hsub (fun b hb=>hsame b (hg.fin b hb)) hl (fun _=>rfl) (fun hd b hb=>hsame b (hg.lt id ob b h hd hb)),hg.inj,
  fun b ho hf=>hg.sep b ho (hffr b (hlt b ho) hf),fun id ob b h hd hr hb=>hsub b (hg.rof id ob b h hd hr hb)⟩,
  ⟨hos,htape,hout,hsize,fun b hb _=>hsame b hb,fun _ _ h=>h,hsub,fun b hb h=> .inl (hffr b hb h),hl,fun _ _ h=>h⟩⟩
theorem Ae6 {F:Nat→Prop} (hf: ∀b,F b→b<w.heap.size):Good ι F w []:=
 ⟨hf,by simp,by simp,fun b h=>by obtain ⟨i,o,h1,_⟩:=h;simp at h1,by simp⟩
theorem Adh {b:Nat} (h:Own ι [] b):False:=by obtain ⟨i,o,h1,_⟩:=h;simp at h1
theorem AkY {b:Nat} (h:Fl ι H [] b):False:=by obtain ⟨i,o,h1,_⟩:=h;simp at h1
theorem fl_lt (hg:Good ι F w H) {l:List Nat} {b:Nat} (h:Fl ι H l b):b<w.heap.size:=by
 obtain ⟨i,o,_,h1,h2,h3⟩:=h
 exact hg.lt i o b h1 h2 h3
theorem AgK: ∀ {ts:List T},flats ts=true→ ∀t∈ts,t.flat=true
 | [],_,t,ht=>by simp at ht
 |x::r,h,t,ht=>by
  simp only [flats,Bool.and_eq_true] at h
  rcases List.mem_cons.1 ht with rfl|ht
  ·exact h.1
  ·exact AgK h.2 t ht
theorem Ae3 {F F':Nat→Prop} {w w':World} {ι ι':Io} {H H':Heap} {vs vs':List V} {u:Value} (hl:vs'.length=vs.length) (h:ResR ι F w H vs u) (hm: ∀(i:Nat) v v' u,vs[i]?=some v→vs'[i]?=some v'→VR ι F w H v u→VR ι' F' w' H' v' u):ResR ι' F' w' H' vs' u:=by
 match vs,vs',hl with
 | [],[],_=>
  obtain ⟨cs,rfl,h1,h2⟩:=h
  exact ⟨cs,rfl,h1,by simp⟩
 | [v],[v'],_=>exact hm 0 v v' u rfl rfl h
 |a::b::r,a'::b'::r',hl=>
  obtain ⟨cs,rfl,h1,h2⟩:=h
  refine ⟨cs,rfl,by simpa using hl.trans h1,?_⟩
  intro i x c hx hc
  have hi:i<(a::b::r).length:=by
   have:=(List.getElem?_eq_some_iff.1 hx).1
   omega
  exact hm i _ x c (List.getElem?_eq_getElem hi) hx (h2 i _ c (List.getElem?_eq_getElem hi) hc)
end
end Go.Eva
namespace Go.Eva
open Go.RowKit
def CPost (R:V×Heap→Prop) (ι:Io) (F:Nat→Prop) (H:Heap) (w:World) (en:Ending) (w':World):Prop:=
 ∃v r H' ι' F',en= .returned v∧R (r,H')∧Good ι' F' w' H'∧Step ι F H w ι' F' H' w'∧VR ι' F' w' H' r v
section
variable {P:Program} {S:Task→(Res→Prop)→Prop} {w:World} {ι:Io} {F:Nat→Prop} {H:Heap} {R:V×Heap→Prop}
theorem AeT (hS: ∀f az H R,S (.call f az H) R→CallS P f az H R) (hg:Good ι F w H) {f:Nat} {args:List V} {cs:List T} {us cvs:List Value} (h:wpQ S (pureCall f args cs H) R) (hv:VRs ι F w H args us)
  (hcl:cs.length=cvs.length) (hcs: ∀(i:Nat) t u,cs[i]?=some t→cvs[i]?=some u→TR F w t u):Calls P f (us++cvs).toArray w (fun en w'=>CPost R ι F H w en w'∧OldSame w w'):=by
 unfold pureCall at h
 replace h:=Abn (Aaa _ _ _ h)
 generalize reach H 200 (idss args) []=l at h
 obtain ⟨ts,h1,h2,h3⟩:=Adw hg l (Aaa _ _ _ h) hv
 clear h
 obtain ⟨R',hSR,_,h4⟩:=h1
 obtain ⟨hg1,hst1⟩:=AiV hg l
 have hfin1: ∀b,(F b∨Fl ι H l b)→b<w.heap.size:=fun b hb=>hb.elim (hg.fin b) (fl_lt hg)
 have hargs:VRs ι (fun b=>F b∨Fl ι H l b) w [] ((ts++cs).map .t) (us++cvs).toArray.toList:=by
  refine ⟨by simp [h2,hcl],?_⟩
  intro i v u hx hu
  simp only [List.getElem?_map] at hx hu
  obtain ⟨t,ht,rfl⟩:=Option.map_eq_some_iff.1 hx
  refine .t _ _ ?_
  rcases Nat.lt_or_ge i ts.length with hi|hi
  ·rw [List.getElem?_append_left hi] at ht
   rw [List.getElem?_append_left (by omega)] at hu
   exact h3 i t u ht hu
  ·rw [List.getElem?_append_right hi] at ht
   rw [List.getElem?_append_right (by omega)] at hu
   exact (hcs _ t u ht (by rw [h2];exact hu)).mono (fun _ h=> .inl h) (fun _ _=>rfl)
 refine Calls.mono (hS _ _ _ _ hSR w ι _ _ (Ae6 hfin1) hargs) ?_
 rintro en w' ⟨x,v,ι',F',rfl,hR',he,hgx,hrx,hx⟩
 have hk:=h4 x hR'
 obtain ⟨xe,vs,H1⟩:=x
 simp only at he hgx hrx hx hk
 subst he
 simp only at hk
 have hsame: ∀b,b<w.heap.size→w'.heap[b]?=w.heap[b]?:=fun b hb=>hx.same b hb (fun h=>Adh h)
 split at hk
 ·rename_i ts' hts
  have hvs:=AbG hts
  subst hvs
  split at hk
  ·
   have hF1: ∀b,(F b∨Fl ι H [] b)→F b:=fun b hb=>hb.elim id (fun h=>(AkY h).elim)
   obtain ⟨k1,k2⟩:=Agl (F':=F') hg hx.os hx.tape hx.output hx.size hsame (fun b hb=>hx.fsub b (.inl hb)) (fun b hb hf=>hF1 b ((hx.ffr b hb hf).resolve_right Adh)) hgx.fin
   obtain ⟨r,hr1,hr2⟩:=Abf hk (Ae3 (F':=F') (w':=w') (ι':=ι) (H':=H) rfl hrx (fun i v v' u h1 h2 hvr=>by
    rw [h1] at h2
    obtain rfl:=Option.some.inj h2
    simp only [List.getElem?_map] at h1
    obtain ⟨t,ht,rfl⟩:=Option.map_eq_some_iff.1 h1
    exact .t _ _ hvr.t_inv))
   exact ⟨⟨v,r,H,ι,F',rfl,hr1,k1,k2,hr2⟩,hx.size,hsame⟩
  ·simp only [wpQ] at hk
   split at hk
   ·
    rename_i hfl
    have hfl:=AgK hfl
    obtain ⟨k1,k2⟩:=Agl (F':=F) hg hx.os hx.tape hx.output hx.size hsame (fun b hb=>hb) (fun b hb hf=>hf) (fun b hb=>Nat.lt_of_lt_of_le (hg.fin b hb) hx.size)
    obtain ⟨r,hr1,hr2⟩:=Abf hk (Ae3 (F':=F) (w':=w') (ι':=ι) (H':=H) rfl hrx (fun i v v' u h1 h2 hvr=>by
     rw [h1] at h2
     obtain rfl:=Option.some.inj h2
     simp only [List.getElem?_map] at h1
     obtain ⟨t,ht,rfl⟩:=Option.map_eq_some_iff.1 h1
     exact .t _ _ (hvr.t_inv.flat (hfl t (List.mem_of_getElem? ht)))))
    exact ⟨⟨v,r,H,ι,F,rfl,hr1,k1,k2,hr2⟩,hx.size,hsame⟩
   ·obtain ⟨k1,k2⟩:=Agl (F':=F') hg1 hx.os hx.tape hx.output hx.size hsame hx.fsub (fun b hb hf=>(hx.ffr b hb hf).resolve_right Adh) hgx.fin
    obtain ⟨r,hr1,hr2⟩:=Abf hk (Ae3 (F':=F') (w':=w') (ι':=ι) (H':=roAll 0 l H) rfl hrx (fun i v v' u h1 h2 hvr=>by
     rw [h1] at h2
     obtain rfl:=Option.some.inj h2
     simp only [List.getElem?_map] at h1
     obtain ⟨t,ht,rfl⟩:=Option.map_eq_some_iff.1 h1
     exact .t _ _ hvr.t_inv))
    exact ⟨⟨v,r,_,ι,F',rfl,hr1,k1,hst1.trans k2,hr2⟩,hx.size,hsame⟩
 ·exact hk.elim
end
end Go.Eva
namespace Go.Eva
open Go.RowKit
def LikeAt (ι ι':Io) (i j:Nat) (o o':Ob):Prop:=o'= .dead∨(match o with
 | .dead=>o'= .dead
 | .one s _ _=>ι' j=ι i∧ ∃v' ro',o'= .one s v' ro'
 | .arr s xs _ _=>ι' j=ι i∧ ∃xs' sp' ro',o'= .arr s xs' sp' ro'∧xs'.length=xs.length
 | .vec vs=>ι' j=ι i∧ ∃vs',o'= .vec vs'∧vs'.length=vs.length)
section
variable {w:World} {ι ι':Io} {F:Nat→Prop} {H H':Heap} {m:Nat→Option Nat}
theorem OwnSl.re (hm: ∀i j o,m i=some j→H[i]?=some o→ ∃o',H'[j]?=some o'∧LikeAt ι ι' i j o o') {i j off:Nat} {n lim:Option Nat} {v:Value} (h:OwnSl ι w H i off n lim v) (hij:m i=some j):OwnSl ι' w H' j off n lim v:=by
 unfold OwnSl at h⊢
 cases ho:H[i]? with
 |none=>simp [ho] at h
 |some o=>
  obtain ⟨o',ho',hk⟩:=hm i j o hij ho
  rw [ho']
  rcases hk with rfl|hk
  ·trivial
  ·cases o with
   |dead=>simp only at hk;subst hk;trivial
   |one s v r=>simp [ho] at h
   |arr s xs sp ro=>
    simp only at hk
    obtain ⟨h1,xs',sp',ro',rfl,hxs⟩:=hk
    rw [ho] at h
    simp only at h⊢
    obtain ⟨a,cap,e,h3,h4,h5⟩:=h
    refine ⟨a,cap,by rw [hxs];exact e,by rw [hxs];exact h3,by rw [hxs];exact h4,?_⟩
    rw [h1]
    exact h5
   |vec vs=>
    simp only at hk
    obtain ⟨h1,vs',rfl,hvs⟩:=hk
    rw [ho] at h
    simp only at h⊢
    obtain ⟨a,cap,b,e,h3,h4,h5,h6⟩:=h
    exact ⟨a,cap,b,by rw [hvs];exact e,by rw [hvs];exact h3,by rw [hvs];exact h4,by rw [h1];exact h5,h6⟩
theorem OwnPtr.re (hm: ∀i j o,m i=some j→H[i]?=some o→ ∃o',H'[j]?=some o'∧LikeAt ι ι' i j o o') {i j a b:Nat} {v:Value} (h:OwnPtr ι H i a b v) (hij:m i=some j):OwnPtr ι' H' j a b v:=by
 unfold OwnPtr at h⊢
 cases ho:H[i]? with
 |none=>simp [ho] at h
 |some o=>
  obtain ⟨o',ho',hk⟩:=hm i j o hij ho
  rw [ho']
  rcases hk with rfl|hk
  ·trivial
  ·cases o with
   |dead=>simp only at hk;subst hk;trivial
   |one s v r=>
    simp only at hk
    obtain ⟨h1,v',ro',rfl⟩:=hk
    rw [ho] at h
    simp only at h⊢
    rw [h1];exact h
   |arr s xs sp ro=>
    simp only at hk
    obtain ⟨h1,xs',sp',ro',rfl,hxs⟩:=hk
    rw [ho] at h
    simp only at h⊢
    rw [h1,hxs];exact h
   |vec vs=>
    simp only at hk
    obtain ⟨h1,vs',rfl,hvs⟩:=hk
    rw [ho] at h
    simp only at h⊢
    rw [h1,hvs];exact h
theorem Afi: ∀ {vs vs':List V},vre m vs=some vs'→vs'.length=vs.length∧ ∀(i:Nat) v',vs'[i]?=some v'→ ∃v,vs[i]?=some v∧v.re m=some v'
 | [],vs',h=>by simp [vre] at h;subst h;simp
 |v::r,vs',h=>by
  simp only [vre] at h
  split at h
  ·rename_i x l hx hl
   simp at h;subst h
   obtain ⟨h1,h2⟩:=Afi hl
   refine ⟨by simp [h1],?_⟩
   intro i v' hv
   cases i with
   |zero=>simp at hv;subst hv;exact ⟨v,rfl,hx⟩
   |succ i=>simp at hv;exact h2 i v' hv
  ·contradiction
mutual
theorem re_ok (hm: ∀i j o,m i=some j→H[i]?=some o→ ∃o',H'[j]?=some o'∧LikeAt ι ι' i j o o'): ∀(v v':V) (u:Value),v.re m=some v'→VR ι F w H v u→VR ι' F w H' v' u
 | .t x,v',u,h,hv=>by simp [V.re] at h;subst h;exact .t _ _ hv.t_inv
 | .nil,v',u,h,hv=>by simp [V.re] at h;subst h;cases hv;exact .nil
 | .fit s xs,v',u,h,hv=>by simp [V.re] at h;subst h;cases hv with|fit _ _ a h=>exact .fit _ _ a h
 | .all i l,v',u,h,hv=>by
  simp only [V.re] at h
  split at h
  ·rename_i j hj
   simp at h;subst h
   cases hv with|all _ _ _ h=>exact .all _ _ _ (h.re hm hj)
  ·contradiction
 | .sl i o n l,v',u,h,hv=>by
  simp only [V.re] at h
  split at h
  ·rename_i j hj
   simp at h;subst h
   cases hv with|sl _ _ _ _ _ h=>exact .sl _ _ _ _ _ (h.re hm hj)
  ·contradiction
 | .ptr i a b,v',u,h,hv=>by
  simp only [V.re] at h
  split at h
  ·rename_i j hj
   simp at h;subst h
   cases hv with|ptr _ _ _ _ h=>exact .ptr _ _ _ _ (h.re hm hj)
  ·contradiction
 | .clo f cs,v',u,h,hv=>by
  simp only [V.re] at h
  split at h
  ·rename_i l hl
   simp at h;subst h
   cases hv with|clo _ _ vs hn hc=>
   obtain ⟨h1,h2⟩:=res_ok hm cs l vs.toList hl (by simpa using hn) (fun i x v hx hv=>hc i x v hx (by simpa using hv))
   exact .clo _ _ _ (by simpa using h1) (fun i x v hx hv=>h2 i x v hx (by simpa using hv))
  ·contradiction
 | .agg cs,v',u,h,hv=>by
  simp only [V.re] at h
  split at h
  ·rename_i l hl
   simp at h;subst h
   cases hv with|agg _ vs hn h1 hc=>
   obtain ⟨k1,k2⟩:=res_ok hm cs l vs.toList hl (by simpa using hn) (fun i x v hx hv=>hc i x v hx (by simpa using hv))
   exact .agg _ _ (by simpa using k1) h1 (fun i x v hx hv=>k2 i x v hx (by simpa using hv))
  ·contradiction
 | .tup cs,v',u,h,hv=>by
  simp only [V.re] at h
  split at h
  ·rename_i l hl
   simp at h;subst h
   cases hv with|tup _ vs hn hc=>
   obtain ⟨k1,k2⟩:=res_ok hm cs l vs.toList hl (by simpa using hn) (fun i x v hx hv=>hc i x v hx (by simpa using hv))
   exact .tup _ _ (by simpa using k1) (fun i x v hx hv=>k2 i x v hx (by simpa using hv))
  ·contradiction
theorem res_ok (hm: ∀i j o,m i=some j→H[i]?=some o→ ∃o',H'[j]?=some o'∧LikeAt ι ι' i j o o'): ∀(vs vs':List V) (us:List Value),vre m vs=some vs'→vs.length=us.length→(∀(i:Nat) v u,vs[i]?=some v→us[i]?=some u→VR ι F w H v u)→
  vs'.length=us.length∧ ∀(i:Nat) v u,vs'[i]?=some v→us[i]?=some u→VR ι' F w H' v u
 | [],vs',us,h,hl,hv=>by simp [vre] at h;subst h;exact ⟨hl,by simp⟩
 |v::r,vs',us,h,hl,hv=>by
  cases us with
  |nil=>simp at hl
  |cons u us=>
   simp only [vre] at h
   split at h
   ·rename_i x l hx hl'
    simp at h;subst h
    have h0:=re_ok hm v x u hx (hv 0 v u rfl rfl)
    obtain ⟨h1,h2⟩:=res_ok hm r l us hl' (by simpa using hl) (fun i v u h1 h2=>hv (i+1) v u (by simpa using h1) (by simpa using h2))
    refine ⟨by simp [h1],?_⟩
    intro i y z hy hz
    cases i with
    |zero=>simp at hy hz;subst hy;subst hz;exact h0
    |succ i=>simp at hy hz;exact h2 i y z hy hz
   ·contradiction
end
theorem AhJ {v v':V} (h:v.re m=some v'):v'.size=v.size∧(v≠ .t .any→v'≠ .t .any):=by
 have one: ∀(m:Nat→Option Nat),True:=fun _=>trivial
 cases v with
 |t x=>simp [V.re] at h;subst h;exact ⟨rfl,id⟩
 |nil=>simp [V.re] at h;subst h;exact ⟨rfl,fun _=>by simp⟩
 |fit s xs=>simp [V.re] at h;subst h;exact ⟨rfl,fun _=>by simp⟩
 |all i l=>simp only [V.re] at h;split at h<;>simp at h;subst h;exact ⟨rfl,fun _=>by simp⟩
 |sl i o n l=>simp only [V.re] at h;split at h<;>simp at h;subst h;exact ⟨rfl,fun _=>by simp⟩
 |ptr i a b=>simp only [V.re] at h;split at h<;>simp at h;subst h;exact ⟨rfl,fun _=>by simp⟩
 |clo f cs=>simp only [V.re] at h;split at h<;>simp at h;subst h;exact ⟨rfl,fun _=>by simp⟩
 |agg cs=>
  simp only [V.re] at h
  split at h
  ·rename_i l hl
   simp at h;subst h
   exact ⟨(Afi hl).1,fun _=>by simp⟩
  ·contradiction
 |tup cs=>simp only [V.re] at h;split at h<;>simp at h;subst h;exact ⟨rfl,fun _=>by simp⟩
theorem ob_re {o o':Ob} (h:o.re m=some o'):o'.isDead=o.isDead∧o'.ro=o.ro∧(∀i j,ι' j=ι i→LikeAt ι ι' i j o o'):=by
 cases o with
 |dead=>simp [Ob.re] at h;subst h;exact ⟨rfl,rfl,fun _ _ _=> .inl rfl⟩
 |one s v r=>
  simp only [Ob.re] at h
  split at h
  ·simp at h;subst h;exact ⟨rfl,rfl,fun i j hij=> .inr ⟨hij,_,_,rfl⟩⟩
  ·contradiction
 |arr s xs sp r=>simp [Ob.re] at h;subst h;exact ⟨rfl,rfl,fun i j hij=> .inr ⟨hij,_,_,_,rfl,rfl⟩⟩
 |vec vs=>
  simp only [Ob.re] at h
  split at h
  ·rename_i l hl
   simp at h;subst h
   exact ⟨rfl,rfl,fun i j hij=> .inr ⟨hij,_,rfl,(Afi hl).1⟩⟩
  ·contradiction
theorem ObR.re (hm: ∀i j o,m i=some j→H[i]?=some o→ ∃o',H'[j]?=some o'∧LikeAt ι ι' i j o o') {i j:Nat} {o o':Ob} (h:ObR ι F w H i o) (ho:o.re m=some o') (hij:o.isDead=false→ι' j=ι i):ObR ι' F w H' j o':=by
 cases o with
 |dead=>simp [Ob.re] at ho;subst ho;trivial
 |one s v r=>
  simp only [Ob.re] at ho
  split at ho
  ·rename_i v' hv
   simp at ho;subst ho
   obtain ⟨h1,h2,b,val,e,h3,h4,h5,h6,h7⟩:=h
   obtain ⟨k1,k2⟩:=AhJ hv
   exact ⟨k2 h1,k1.trans h2,b,val,e,(hij rfl).trans h3,h4,re_ok hm v v' val hv h5,h6,h7⟩
  ·contradiction
 |arr s xs sp r=>
  simp [Ob.re] at ho;subst ho
  obtain ⟨h0,h⟩:=h
  refine ⟨h0,?_⟩
  rcases h with ⟨h1,h2,h3⟩|⟨b,cs,e,h1,h2⟩
  ·exact .inl ⟨(hij rfl).trans h1,h2,h3⟩
  ·exact .inr ⟨b,cs,e,(hij rfl).trans h1,h2⟩
 |vec vs=>
  simp only [Ob.re] at ho
  split at ho
  ·rename_i l hl
   simp at ho;subst ho
   obtain ⟨b,cs,e,h1,h2,h3,h4,h5⟩:=h
   obtain ⟨k1,k2⟩:=Afi hl
   refine ⟨b,cs,e,(hij rfl).trans h1,h2,by rw [k1];exact h3,h4,fun i v' c hv hc=> ?_⟩
   obtain ⟨v,q1,q2⟩:=k2 i v' hv
   obtain ⟨r1,r2⟩:=h5 i v c q1 hc
   exact ⟨re_ok hm v v' c q2 r1,(AhJ q2).2 r2⟩
  ·contradiction
theorem AhY: ∀ {H H':Heap},obre m H=some H'→H'.length=H.length∧ ∀(i:Nat) o,H[i]?=some o→ ∃o',o.re m=some o'∧H'[i]?=some o'
 | [],H',h=>by simp [obre] at h;subst h;simp
 |o::r,H',h=>by
  simp only [obre] at h
  split at h
  ·rename_i x l hx hl
   simp at h;subst h
   obtain ⟨h1,h2⟩:=AhY hl
   refine ⟨by simp [h1],?_⟩
   intro i o' ho
   cases i with
   |zero=>simp at ho;subst ho;exact ⟨x,hx,rfl⟩
   |succ i=>simp at ho;simpa using h2 i o' ho
  ·contradiction
theorem AhV: ∀ {l:List Nat} {H':Heap},pull m H l=some H'→H'.length=l.length∧ ∀(k i:Nat),l[k]?=some i→ ∃o o',H[i]?=some o∧o.re m=some o'∧H'[k]?=some o'
 | [],H',h=>by simp [pull] at h;subst h;simp
 |x::r,H',h=>by
  simp only [pull] at h
  split at h
  ·rename_i o ho
   rw [Aaj] at ho
   split at h
   ·rename_i o' l ho' hl
    simp at h;subst h
    obtain ⟨h1,h2⟩:=AhV hl
    refine ⟨by simp [h1],?_⟩
    intro k i hk
    cases k with
    |zero=>simp at hk;subst hk;exact ⟨o,o',ho,ho',rfl⟩
    |succ k=>simp at hk;simpa using h2 k i hk
   ·contradiction
  ·contradiction
theorem Adq: ∀ {l:List Nat} {i n k:Nat},place l i n=some k→n≤k∧l[k-n]?=some i
 | [],i,n,k,h=>by simp [place] at h
 |x::r,i,n,k,h=>by
  simp only [place] at h
  split at h
  ·rename_i hb
   simp at h;subst h
   simp [Nat.eq_of_beq_eq_true hb]
  ·obtain ⟨h1,h2⟩:=Adq h
   refine ⟨by omega,?_⟩
   rw [show k-n=(k-(n+1))+1 by omega]
   simpa using h2
theorem Ag5: ∀ {l:List Nat},nodupB l=true→l.Nodup
 | [],_=>List.nodup_nil
 |x::r,h=>by
  simp only [nodupB] at h
  split at h
  ·contradiction
  ·rename_i hm
   refine List.nodup_cons.2 ⟨fun hx=> ?_,Ag5 h⟩
   rw [AcX.2 hx] at hm
   contradiction
theorem Agw {l:List Nat} (h:l.Nodup) {i j x:Nat} (hi:l[i]?=some x) (hj:l[j]?=some x):i=j:=by
 obtain ⟨h1,e1⟩:=List.getElem?_eq_some_iff.1 hi
 obtain ⟨h2,e2⟩:=List.getElem?_eq_some_iff.1 hj
 have hp:=List.pairwise_iff_getElem.1 h
 rcases Nat.lt_trichotomy i j with hlt|rfl|hlt
 ·exact absurd (e1.trans e2.symm) (hp i j h1 h2 hlt)
 ·rfl
 ·exact absurd (e2.trans e1.symm) (hp j i h2 h1 hlt)
theorem AfI: ∀ {i n:Nat} {l:List Nat},startsB i n l=true→ ∀k,k<n→l[k]?=some (i+k)
 |_,0,_,_,k,hk=>by omega
 |i,n+1,[],h,k,hk=>by simp [startsB] at h
 |i,n+1,x::r,h,k,hk=>by
  simp only [startsB] at h
  split at h
  ·rename_i hb
   obtain rfl:=Nat.eq_of_beq_eq_true hb
   cases k with
   |zero=>rfl
   |succ k=>
    have:=AfI h k (by omega)
    simp only [List.getElem?_cons_succ,this]
    congr 1
    omega
  ·contradiction
end
section
variable {S:Task→(Res→Prop)→Prop} {w:World} {ι:Io} {F:Nat→Prop} {H:Heap}
theorem gc_ok (hg:Good ι F w H) {keep:Nat} {vs:List V} {us:List Value} {R:Gc→Prop} (h:wpQ S (gc keep vs H) R) (hv:VRs ι F w H vs us):
  ∃g ιg,R g∧g.back.Nodup∧g.H.length=g.back.length∧(∀k i,g.back[k]?=some i→ιg k=ι i∧ ∃o o',H[i]?=some o∧g.H[k]?=some o'∧o'.isDead=o.isDead∧o'.ro=o.ro∧ ∀ι1 ι2 i' j',ι2 j'=ι1 i'→LikeAt ι1 ι2 i' j' o o')∧
   Good ιg F w g.H∧VRs ιg F w g.H g.vs us∧Ext keep ι F H w ιg F g.H w:=by
 unfold gc at h
 replace h:=Abn (Aaa _ _ _ h)
 generalize reach H 200 (upto 0 keep++idss vs) []=back at h
 split at h
 ·rename_i vs' H' hb hvs hH
  simp only [Bool.and_eq_true] at hb
  have hnd:=Ag5 hb.1
  have hst:=AfI hb.2
  obtain ⟨p1,p2⟩:=AhV hH
  let ιg:Io:=fun k=>match back[k]? with|some i=>ι i|none=>none
  have hιg: ∀k i,back[k]?=some i→ιg k=ι i:=fun k i hk=>by simp only [ιg,hk]
  have hm: ∀i j o,place back i 0=some j→H[i]?=some o→ ∃o',H'[j]?=some o'∧LikeAt ι ιg i j o o':=by
   intro i j o hij ho
   obtain ⟨_,hk⟩:=Adq hij
   simp only [Nat.sub_zero] at hk
   obtain ⟨o1,o',q1,q2,q3⟩:=p2 j i hk
   rw [ho] at q1
   obtain rfl:=Option.some.inj q1
   exact ⟨o',q3,(ob_re (ι:=ι) (ι':=ιg) q2).2.2 i j (hιg j i hk)⟩
  have back_of: ∀(k:Nat) (o':Ob),H'[k]?=some o'→ ∃(i:Nat) (o:Ob),back[k]?=some i∧H[i]?=some o∧o.re (fun i=>place back i 0)=some o':=by
   intro k o' hk
   have hlt:k<back.length:=by have:=(List.getElem?_eq_some_iff.1 hk).1;omega
   obtain ⟨o,o1,q1,q2,q3⟩:=p2 k _ (List.getElem?_eq_getElem hlt)
   rw [hk] at q3
   obtain rfl:=Option.some.inj q3
   exact ⟨_,o,List.getElem?_eq_getElem hlt,q1,q2⟩
  have hown: ∀b,Own ιg H' b→Own ι H b:=by
   rintro b ⟨k,o',h1,h2,h3⟩
   obtain ⟨i,o,q1,q2,q3⟩:=back_of k o' h1
   exact ⟨i,o,q2,(ob_re (ι:=ι) (ι':=ι) q3).2.1 ▸ h2,(hιg k i q1).symm.trans h3⟩
  have hlive: ∀b,Live ιg H' b→Live ι H b:=by
   rintro b ⟨k,o',h1,h2,h3⟩
   obtain ⟨i,o,q1,q2,q3⟩:=back_of k o' h1
   exact ⟨i,o,q2,(ob_re (ι:=ι) (ι':=ι) q3).1 ▸ h2,(hιg k i q1).symm.trans h3⟩
  refine ⟨_,ιg,h,hnd,p1,?_,⟨hg.fin,?_,?_,fun b ho hf=>hg.sep b (hown b ho) hf,?_⟩,?_,⟨rfl,rfl,rfl,Nat.le_refl _,fun _ _ _=>rfl,fun b _ h=>hown b h,fun _ h=>h,fun _ _ h=> .inl h,?_,fun b _ h=>hlive b h⟩⟩
  ·intro k i hk
   obtain ⟨o,o',q1,q2,q3⟩:=p2 k i hk
   exact ⟨hιg k i hk,o,o',q1,q3,(ob_re (ι:=ι) (ι':=ι) q2).1,(ob_re (ι:=ι) (ι':=ι) q2).2.1,fun ι1 ι2 i' j'=>(ob_re (ι:=ι1) (ι':=ι2) q2).2.2 i' j'⟩
  ·intro k o' hk
   obtain ⟨i,o,q1,q2,q3⟩:=back_of k o' hk
   exact (hg.obj i o q2).re hm q3 (fun _=>hιg k i q1)
  ·intro k1 k2 o1 o2 b h1 h2 d1 d2 b1 b2
   obtain ⟨i1,o1',q1,q2,q3⟩:=back_of k1 o1 h1
   obtain ⟨i2,o2',r1,r2,r3⟩:=back_of k2 o2 h2
   rw [hιg k1 i1 q1] at b1
   rw [hιg k2 i2 r1] at b2
   have:=hg.inj i1 i2 o1' o2' b q2 r2 ((ob_re (ι:=ι) (ι':=ι) q3).1 ▸ d1) ((ob_re (ι:=ι) (ι':=ι) r3).1 ▸ d2) b1 b2
   subst this
   exact Agw hnd q1 r1
  ·intro k o' b hk hd hr hb
   obtain ⟨i,o,q1,q2,q3⟩:=back_of k o' hk
   rw [hιg k i q1] at hb
   exact hg.rof i o b q2 ((ob_re (ι:=ι) (ι':=ι) q3).1 ▸ hd) ((ob_re (ι:=ι) (ι':=ι) q3).2.1 ▸ hr) hb
  ·exact res_ok hm vs vs' us hvs hv.1 hv.2
  ·intro id o hid ho
   have hk:=hst id hid
   simp only [Nat.zero_add] at hk
   obtain ⟨o1,o',q1,q2,q3⟩:=p2 id id hk
   rw [ho] at q1
   obtain rfl:=Option.some.inj q1
   refine ⟨o',q3,?_⟩
   have:=(ob_re (ι:=ι) (ι':=ιg) q2).2.2 id id (hιg id id hk)
   unfold LikeAt at this
   unfold Like
   rcases this with h|h
   ·exact .inl h
   ·right
    cases o with
    |dead=>exact h
    |one s v r=>exact h
    |arr s xs sp r=>exact ⟨h.1,fun _ _=>rfl,h.2⟩
    |vec vs=>exact h
 ·exact h.elim
end
end Go.Eva
namespace Go.Eva
open Go.RowKit
theorem Ae5: ∀(n i k:Nat),k<n→(upto i n)[k]?=some (i+k)
 |0,_,_,h=>by omega
 |n+1,i,0,_=>rfl
 |n+1,i,k+1,h=>by
  simp only [upto,List.getElem?_cons_succ]
  rw [Ae5 n (i+1) k (by omega)]
  congr 1
  omega
theorem AfV: ∀(n i:Nat),(upto i n).length=n
 |0,_=>rfl
 |n+1,i=>by simp [upto,AfV n]
theorem AfD: ∀ {l:List Nat} {i n:Nat},i∈l→ ∃k,place l i n=some k
 | [],i,n,h=>by simp at h
 |x::r,i,n,h=>by
  simp only [place]
  split
  ·exact ⟨_,rfl⟩
  ·rename_i hb
   rcases List.mem_cons.1 h with rfl|h
   ·simp at hb
   ·exact AfD h
theorem Afy: ∀ {back:List Nat} {os H Ha:Heap},setAll H back os=some Ha→back.Nodup→(∀i∈back,i<H.length)→
  Ha.length=H.length∧(∀j,j∉back→Ha[j]?=H[j]?)∧ ∀(k i:Nat),back[k]?=some i→Ha[i]?=os[k]?
 | [],[],H,Ha,h,_,_=>by simp [setAll] at h;subst h;simp
 | [],_::_,H,Ha,h,_,_=>by simp [setAll] at h
 |_::_,[],H,Ha,h,_,_=>by simp [setAll] at h
 |i::back,o::os,H,Ha,h,hnd,hlt=>by
  simp only [setAll] at h
  obtain ⟨hni,hnd'⟩:=List.nodup_cons.1 hnd
  obtain ⟨h1,h2,h3⟩:=Afy h hnd' (fun j hj=>by simpa using hlt j (List.mem_cons_of_mem _ hj))
  refine ⟨by simpa using h1,?_,?_⟩
  ·intro j hj
   simp only [List.mem_cons,not_or] at hj
   rw [h2 j hj.2,List.getElem?_set_ne (Ne.symm hj.1)]
  ·intro k j hk
   cases k with
   |zero=>
    simp at hk
    subst hk
    rw [h2 i hni]
    have:=hlt i (List.mem_cons_self ..)
    simp [this]
   |succ k=>simp at hk;simpa using h3 k j hk
theorem Ai3 {ι ιg ι' ιn:Io} {w w':World} {j k:Nat} {o o1 o2 o3:Ob} (h1: ∀ι1 ι2 i' j',ι2 j'=ι1 i'→LikeAt ι1 ι2 i' j' o o1) (hg:ιg k=ι j) (h2:Like ιg ι' w w' k o1 o2) (h3: ∀ι1 ι2 i' j',ι2 j'=ι1 i'→LikeAt ι1 ι2 i' j' o2 o3) (hn:ιn j=ι' k):
  Like ι ιn w w' j o o3:=by
 have a:=h1 ι ιg j k hg
 have c:=h3 ι' ιn k j hn
 unfold LikeAt at a c
 unfold Like at h2⊢
 rcases c with rfl|c
 ·exact .inl rfl
 rcases h2 with rfl|h2
 ·simp only at c;exact .inl c
 rcases a with rfl|a
 ·simp only at h2;subst h2;simp only at c;exact .inl c
 cases o with
 |dead=>simp only at a;subst a;simp only at h2;subst h2;simp only at c;exact .inl c
 |one s v r=>
  obtain ⟨a1,v1,r1,rfl⟩:=a
  obtain ⟨b1,v2,r2,rfl⟩:=h2
  obtain ⟨c1,v3,r3,rfl⟩:=c
  exact .inr ⟨hn.trans (b1.trans hg),v3,r3,rfl⟩
 |arr s xs sp r=>
  obtain ⟨a1,xs1,sp1,r1,rfl,e1⟩:=a
  obtain ⟨b1,b2,xs2,sp2,r2,rfl,e2⟩:=h2
  obtain ⟨c1,xs3,sp3,r3,rfl,e3⟩:=c
  exact .inr ⟨hn.trans (b1.trans hg),fun b hb=>b2 b (hg.trans hb),xs3,sp3,r3,rfl,e3.trans (e2.trans e1)⟩
 |vec vs=>
  obtain ⟨a1,vs1,rfl,e1⟩:=a
  obtain ⟨b1,vs2,rfl,e2⟩:=h2
  obtain ⟨c1,vs3,rfl,e3⟩:=c
  exact .inr ⟨hn.trans (b1.trans hg),vs3,rfl,e3.trans (e2.trans e1)⟩
section
variable {w w':World} {ι ιg ι':Io} {F F':Nat→Prop} {H Hg H1 H1' Ha:Heap} {back:List Nat}
theorem AiH (hg:Good ι F w H) (hnd:back.Nodup) (hlen:Hg.length=back.length)
  (hb: ∀k i,back[k]?=some i→ιg k=ι i∧ ∃o o',H[i]?=some o∧Hg[k]?=some o'∧o'.isDead=o.isDead∧o'.ro=o.ro∧ ∀ι1 ι2 i' j',ι2 j'=ι1 i'→LikeAt ι1 ι2 i' j' o o')
  (hx:Good ι' F' w' H1) (he:Ext Hg.length ιg F Hg w ι' F' H1 w')
  (hre:obre (nth (back++upto H.length (H1.length-back.length))) H1=some H1') (hset:setAll H back (H1'.take back.length)=some Ha):
  ∃ιn,Good ιn F' w' (Ha++H1'.drop back.length)∧Step ι F H w ιn F' (Ha++H1'.drop back.length) w'∧
   ∀v v' u,v.re (nth (back++upto H.length (H1.length-back.length)))=some v'→VR ι' F' w' H1 v u→VR ιn F' w' (Ha++H1'.drop back.length) v' u:=by
 have hblt: ∀i∈back,i<H.length:=by
  intro i hi
  obtain ⟨k,hk,e⟩:=List.getElem_of_mem hi
  obtain ⟨_,o,_,h1,_⟩:=hb k i (by rw [List.getElem?_eq_getElem hk,e])
  exact (List.getElem?_eq_some_iff.1 h1).1
 obtain ⟨s1,s2,s3⟩:=Afy hset hnd hblt
 obtain ⟨r1,r2⟩:=AhY hre
 generalize hmd:nth (back++upto H.length (H1.length-back.length))=m at*
 have hn1:back.length≤H1.length:=by
  rcases Nat.eq_zero_or_pos back.length with h0|h0
  ·omega
  ·have hk:back.length-1<back.length:=by omega
   obtain ⟨_,o,o',_,h2,_⟩:=hb _ _ (List.getElem?_eq_getElem hk)
   obtain ⟨o2,h3,_⟩:=he.like _ o' (by omega) h2
   have:=(List.getElem?_eq_some_iff.1 h3).1
   omega
 have m1: ∀k,k<back.length→m k=back[k]?:=by
  intro k hk
  rw [←hmd,Aaj,List.getElem?_append_left hk]
 have m2: ∀k,back.length≤k→k<H1.length→m k=some (H.length+(k-back.length)):=by
  intro k hk hk2
  rw [←hmd,Aaj,List.getElem?_append_right hk,Ae5 _ _ _ (by omega)]
 let ιn:Io:=fun j=>match place back j 0 with
  |some k=>ι' k
  |none=>if j<H.length then ι j else ι' (back.length+(j-H.length))
 have n1: ∀k j,back[k]?=some j→ιn j=ι' k:=by
  intro k j hk
  obtain ⟨k',hk'⟩:=AfD (n:=0) (List.mem_of_getElem? hk)
  obtain ⟨_,h2⟩:=Adq hk'
  simp only [Nat.sub_zero] at h2
  have:=Agw hnd hk h2
  subst this
  simp only [ιn,hk']
 have nomem: ∀j,j∉back→place back j 0=none:=by
  intro j hj
  cases hp:place back j 0 with
  |none=>rfl
  |some k=>exact absurd (List.mem_of_getElem? (Adq hp).2) hj
 have n2: ∀j,j∉back→j<H.length→ιn j=ι j:=by
  intro j hj hlt
  simp only [ιn,nomem j hj,hlt,if_true]
 have n3: ∀j,H.length≤j→ιn j=ι' (back.length+(j-H.length)):=by
  intro j hj
  have:j∉back:=fun h=>by have:=hblt j h;omega
  simp only [ιn,nomem j this]
  rw [if_neg (by omega)]
 generalize hHn:Ha++H1'.drop back.length=Hn
 have g1: ∀(k j:Nat),back[k]?=some j→Hn[j]?=H1'[k]?:=by
  intro k j hk
  have hj:=hblt j (List.mem_of_getElem? hk)
  have hk':=(List.getElem?_eq_some_iff.1 hk).1
  rw [←hHn,List.getElem?_append_left (by omega),s3 k j hk,List.getElem?_take,if_pos hk']
 have g2: ∀(j:Nat),j∉back→j<H.length→Hn[j]?=H[j]?:=by
  intro j hj hlt
  rw [←hHn,List.getElem?_append_left (by omega),s2 j hj]
 have g3: ∀(j:Nat),H.length≤j→Hn[j]?=H1'[back.length+(j-H.length)]?:=by
  intro j hj
  rw [←hHn,List.getElem?_append_right (by omega),List.getElem?_drop,s1]
 have entry: ∀(j:Nat) (o':Ob),Hn[j]?=some o'→(H[j]?=some o'∧j∉back∧ιn j=ι j)∨ ∃(i:Nat) (o:Ob),H1[i]?=some o∧o.re m=some o'∧m i=some j∧ιn j=ι' i:=by
  intro j o' hj
  have fromH1: ∀(i:Nat),H1'[i]?=some o'→ ∃o:Ob,H1[i]?=some o∧o.re m=some o':=by
   intro i hi
   have hlt:i<H1.length:=by have:=(List.getElem?_eq_some_iff.1 hi).1;omega
   obtain ⟨o1,q1,q2⟩:=r2 i _ (List.getElem?_eq_getElem hlt)
   rw [hi] at q2
   obtain rfl:=Option.some.inj q2
   exact ⟨_,List.getElem?_eq_getElem hlt,q1⟩
  by_cases hjb:j∈back
  ·obtain ⟨k,hk,e⟩:=List.getElem_of_mem hjb
   have hk':back[k]?=some j:=by rw [List.getElem?_eq_getElem hk,e]
   rw [g1 k j hk'] at hj
   obtain ⟨o,q1,q2⟩:=fromH1 k hj
   exact .inr ⟨k,o,q1,q2,by rw [m1 k hk,hk'],n1 k j hk'⟩
  ·by_cases hlt:j<H.length
   ·rw [g2 j hjb hlt] at hj
    exact .inl ⟨hj,hjb,n2 j hjb hlt⟩
   ·rw [g3 j (by omega)] at hj
    obtain ⟨o,q1,q2⟩:=fromH1 _ hj
    have hi:=(List.getElem?_eq_some_iff.1 q1).1
    refine .inr ⟨_,o,q1,q2,?_,n3 j (by omega)⟩
    rw [m2 _ (by omega) hi]
    congr 1
    omega
 have hm: ∀(i j:Nat) (o:Ob),m i=some j→H1[i]?=some o→ ∃o',Hn[j]?=some o'∧LikeAt ι' ιn i j o o':=by
  intro i j o hij ho
  obtain ⟨o',q1,q2⟩:=r2 i o ho
  have hlt:=(List.getElem?_eq_some_iff.1 ho).1
  by_cases hi:i<back.length
  ·rw [m1 i hi] at hij
   exact ⟨o',by rw [g1 i j hij];exact q2,(ob_re (ι:=ι') (ι':=ιn) q1).2.2 i j (n1 i j hij)⟩
  ·rw [m2 i (by omega) hlt] at hij
   obtain rfl:=Option.some.inj hij
   have e:back.length+(H.length+(i-back.length)-H.length)=i:=by omega
   exact ⟨o',by rw [g3 _ (by omega),e];exact q2,(ob_re (ι:=ι') (ι':=ιn) q1).2.2 i _ (by rw [n3 _ (by omega),e])⟩
 have hgent: ∀(k:Nat) (o':Ob),Hg[k]?=some o'→ ∃(i:Nat) (o:Ob),back[k]?=some i∧H[i]?=some o∧ιg k=ι i∧o'.isDead=o.isDead∧o'.ro=o.ro:=by
  intro k o' hk
  have hlt:k<back.length:=by have:=(List.getElem?_eq_some_iff.1 hk).1;omega
  obtain ⟨q0,o,o1,q1,q2,q3,q4,_⟩:=hb k _ (List.getElem?_eq_getElem hlt)
  rw [hk] at q2
  obtain rfl:=Option.some.inj q2
  exact ⟨_,o,List.getElem?_eq_getElem hlt,q1,q0,q3,q4⟩
 have roLive: ∀(o:Ob),o.ro=false→o.isDead=false:=fun o h=>by cases o<;>simp_all [Ob.ro,Ob.isDead]
 have gLive: ∀b,Live ιg Hg b→ ∃(i:Nat) (o:Ob),i∈back∧H[i]?=some o∧o.isDead=false∧ι i=some b:=by
  rintro b ⟨k,o',h1,h2,h3⟩
  obtain ⟨i,o,q1,q2,q3,q4,q5⟩:=hgent k o' h1
  exact ⟨i,o,List.mem_of_getElem? q1,q2,q4 ▸ h2,q3 ▸ h3⟩
 have gOwn: ∀b,Own ιg Hg b→Own ι H b:=by
  rintro b ⟨k,o',h1,h2,h3⟩
  obtain ⟨i,o,q1,q2,q3,q4,q5⟩:=hgent k o' h1
  exact ⟨i,o,q2,q5 ▸ h2,q3 ▸ h3⟩
 have ownLive: ∀b,Own ιg Hg b→Live ιg Hg b:=fun b ⟨k,o,h1,h2,h3⟩=>⟨k,o,h1,roLive o h2,h3⟩
 have apart: ∀(j:Nat) (o:Ob) b,H[j]?=some o→j∉back→o.isDead=false→ι j=some b→ ¬Live ιg Hg b:=by
  intro j o b ho hj hd hbj hl
  obtain ⟨i,o',h1,h2,h3,h4⟩:=gLive b hl
  exact hj (hg.inj j i o o' b ho h2 hd h3 hbj h4 ▸ h1)
 have blkSame: ∀(j:Nat) (o:Ob) b,H[j]?=some o→j∉back→o.isDead=false→ι j=some b→w'.heap[b]?=w.heap[b]?:=fun j o b ho hj hd hbj=>
  he.same b (hg.lt j o b ho hd hbj) (fun h=>apart j o b ho hj hd hbj (ownLive b h))
 have hl: ∀(j:Nat) (o:Ob),H[j]?=some o→ ∃o',Hn[j]?=some o'∧Like ι ιn w w' j o o':=by
  intro j o ho
  by_cases hjb:j∈back
  ·obtain ⟨k,hk,e⟩:=List.getElem_of_mem hjb
   have hk':back[k]?=some j:=by rw [List.getElem?_eq_getElem hk,e]
   obtain ⟨q0,oo,o1,q1,q2,q3,q4,q5⟩:=hb k j hk'
   rw [ho] at q1
   obtain rfl:=Option.some.inj q1
   obtain ⟨o2,e2,hlk⟩:=he.like k o1 (by omega) q2
   obtain ⟨o3,e3,e4⟩:=r2 k o2 e2
   exact ⟨o3,by rw [g1 k j hk'];exact e4,Ai3 q5 q0 hlk (fun ι1 ι2 i' j'=>(ob_re (ι:=ι1) (ι':=ι2) e3).2.2 i' j') (n1 k j hk')⟩
  ·have hlt:=(List.getElem?_eq_some_iff.1 ho).1
   refine ⟨o,by rw [g2 j hjb hlt];exact ho,?_⟩
   have hι:=n2 j hjb hlt
   unfold Like
   cases o with
   |dead=>exact .inl rfl
   |one s v r=>exact .inr ⟨hι,v,r,rfl⟩
   |arr s xs sp r=>exact .inr ⟨hι,fun b hbj=>AfK (blkSame j _ b ho hjb rfl hbj),xs,sp,r,rfl,rfl⟩
   |vec vs=>exact .inr ⟨hι,vs,rfl,rfl⟩
 have hfs: ∀b,F b→w'.heap[b]?=w.heap[b]?:=fun b hf=>he.same b (hg.fin b hf) (fun h=>hg.sep b (gOwn b h) hf)
 have hown: ∀b,b<w.heap.size→Own ιn Hn b→Own ι H b:=by
  rintro b hlt ⟨j,o',h1,h2,h3⟩
  rcases entry j o' h1 with ⟨q1,q2,q3⟩|⟨i,o,q1,q2,q3,q4⟩
  ·exact ⟨j,o',q1,h2,q3 ▸ h3⟩
  ·exact gOwn b (he.own b hlt ⟨i,o,q1,(ob_re (ι:=ι) (ι':=ι) q2).2.1 ▸ h2,q4 ▸ h3⟩)
 have hlive: ∀b,b<w.heap.size→Live ιn Hn b→Live ι H b:=by
  rintro b hlt ⟨j,o',h1,h2,h3⟩
  rcases entry j o' h1 with ⟨q1,q2,q3⟩|⟨i,o,q1,q2,q3,q4⟩
  ·exact ⟨j,o',q1,h2,q3 ▸ h3⟩
  ·obtain ⟨i',oo,e1,e2,e3,e4⟩:=gLive b (he.live b hlt ⟨i,o,q1,(ob_re (ι:=ι) (ι':=ι) q2).1 ▸ h2,q4 ▸ h3⟩)
   exact ⟨i',oo,e2,e3,e4⟩
 refine ⟨ιn,⟨hx.fin,?_,?_,?_,?_⟩,⟨he.os,he.tape,he.output,he.size,fun b hlt hno=>he.same b hlt (fun h=>hno (gOwn b h)),hown,he.fsub,fun b hlt hf=>(he.ffr b hlt hf).imp id (gOwn b),hl,hlive⟩,fun v v' u hv hvr=>re_ok hm v v' u hv hvr⟩
 ·intro j o' hj
  rcases entry j o' hj with ⟨q1,q2,q3⟩|⟨i,o,q1,q2,q3,q4⟩
  ·exact (hg.obj j o' q1).mono he.fsub hfs hl (fun _=>q3) (fun hd b hbj=>blkSame j o' b q1 q2 hd hbj)
  ·exact (hx.obj i o q1).re hm q2 (fun _=>q4)
 ·intro j1 j2 o1 o2 b h1 h2 d1 d2 b1 b2
  have cross: ∀(ja jb:Nat) (oa ob:Ob),Hn[jb]?=some ob→oa.isDead=false→ob.isDead=false→ιn ja=some b→ιn jb=some b→(H[ja]?=some oa∧ja∉back∧ιn ja=ι ja)→(∃(i:Nat) (o:Ob),H1[i]?=some o∧o.re m=some ob∧m i=some jb∧ιn jb=ι' i)→False:=by
   rintro ja jb oa ob hjb da db ba bb ⟨q1,q2,q3⟩ ⟨i,o,e1,e2,e3,e4⟩
   have hlt:=hg.lt ja oa b q1 da (q3 ▸ ba)
   exact apart ja oa b q1 q2 da (q3 ▸ ba) (he.live b hlt ⟨i,o,e1,(ob_re (ι:=ι) (ι':=ι) e2).1 ▸ db,e4 ▸ bb⟩)
  rcases entry j1 o1 h1 with a1|c1<;>rcases entry j2 o2 h2 with a2|c2
  ·exact hg.inj j1 j2 o1 o2 b a1.1 a2.1 d1 d2 (a1.2.2 ▸ b1) (a2.2.2 ▸ b2)
  ·exact (cross j1 j2 o1 o2 h2 d1 d2 b1 b2 a1 c2).elim
  ·exact (cross j2 j1 o2 o1 h1 d2 d1 b2 b1 a2 c1).elim
  ·obtain ⟨i1,p1,e1,e2,e3,e4⟩:=c1
   obtain ⟨i2,p2,f1,f2,f3,f4⟩:=c2
   have:=hx.inj i1 i2 p1 p2 b e1 f1 ((ob_re (ι:=ι) (ι':=ι) e2).1 ▸ d1) ((ob_re (ι:=ι) (ι':=ι) f2).1 ▸ d2) (e4 ▸ b1) (f4 ▸ b2)
   subst this
   rw [e3] at f3
   exact Option.some.inj f3
 ·rintro b ⟨j,o',h1,h2,h3⟩ hf
  rcases entry j o' h1 with ⟨q1,q2,q3⟩|⟨i,o,q1,q2,q3,q4⟩
  ·have hd:=roLive o' h2
   have hlt:=hg.lt j o' b q1 hd (q3 ▸ h3)
   rcases he.ffr b hlt hf with hf|ho
   ·exact hg.sep b ⟨j,o',q1,h2,q3 ▸ h3⟩ hf
   ·exact apart j o' b q1 q2 hd (q3 ▸ h3) (ownLive b ho)
  ·exact hx.sep b ⟨i,o,q1,(ob_re (ι:=ι) (ι':=ι) q2).2.1 ▸ h2,q4 ▸ h3⟩ hf
 ·intro j o' b hj hd hr hbj
  rcases entry j o' hj with ⟨q1,q2,q3⟩|⟨i,o,q1,q2,q3,q4⟩
  ·exact he.fsub b (hg.rof j o' b q1 hd hr (q3 ▸ hbj))
  ·exact hx.rof i o b q1 ((ob_re (ι:=ι) (ι':=ι) q2).1 ▸ hd) ((ob_re (ι:=ι) (ι':=ι) q2).2.1 ▸ hr) (q4 ▸ hbj)
end
end Go.Eva
namespace Go.Eva
open Go.RowKit
theorem AjB (n:Nat) (l:List Nat): ∀H:Heap,(roAll n l H).length=H.length:=by
 intro H
 induction H generalizing n with
 |nil=>rfl
 |cons o r ih=>
  simp only [roAll]
  split<;>simp [ih]
theorem Ajc (H:Heap):roAll 0 [] H=H:=by
 apply List.ext_getElem?
 intro i
 rw [Adp]
 cases H[i]?<;>simp
section
variable {P:Program} {cx:Cx} {S:Task→(Res→Prop)→Prop} {w:World} {ι:Io} {F:Nat→Prop} {H:Heap} {R:V×Heap→Prop}
theorem AiK {ι':Io} {F':Nat→Prop} {w':World} {H':Heap} {m:Nat→Option Nat} {vs vs':List V} {u:Value} (hm: ∀v v' u,v.re m=some v'→VR ι F w H v u→VR ι' F' w' H' v' u) (h:vre m vs=some vs') (hr:ResR ι F w H vs u):ResR ι' F' w' H' vs' u:=by
 obtain ⟨h1,h2⟩:=Afi h
 refine Ae3 h1 hr ?_
 intro i v v' u hv hv' hvr
 obtain ⟨v0,e1,e2⟩:=h2 i v' hv'
 rw [hv] at e1
 obtain rfl:=Option.some.inj e1
 exact hm _ _ _ e2 hvr
theorem Aj3: ∀ {vs:List V} {us:List Value} {F:Nat→Prop} {H:Heap} {R:List V×Heap→Prop},Good ι F w H→wpQ S (fzClos vs H) R→VRs ι F w H vs us→
  ∃vs' H' F',R (vs',H')∧Good ι F' w H'∧Step ι F H w ι F' H' w∧VRs ι F' w H' vs' us:=by
 intro vs
 induction vs with
 |nil=>intro us F H R hg h hv;exact ⟨_,_,F,h,hg,.refl ι F H w,hv⟩
 |cons v vs ih=>
  intro us F H R hg h hv
  match us,hv with
  | [],hv=>exact absurd hv.1 (by simp)
  |u::us,hv=>
   have h0:=hv.2 0 v u rfl rfl
   have ht:VRs ι F w H vs us:=⟨by simpa using hv.1,fun i x y hx hy=>hv.2 (i+1) x y (by simpa using hx) (by simpa using hy)⟩
   have cons: ∀ {F:Nat→Prop} {H:Heap} {v:V} {vs:List V},VR ι F w H v u→VRs ι F w H vs us→VRs ι F w H (v::vs) (u::us):=by
    intro F H v vs h k
    refine ⟨by simp [k.1],fun i x y hx hy=> ?_⟩
    cases i with
    |zero=>simp at hx hy;subst hx;subst hy;exact h
    |succ i=>exact k.2 i x y (by simpa using hx) (by simpa using hy)
   unfold fzClos at h
   split at h
   ·obtain ⟨x,H1,F1,h1,g1,s1,t1,_⟩:=Ah8 hg (Aaa _ _ _ h) h0
    obtain ⟨vs',H2,F2,h2,g2,s2,r2⟩:=ih g1 (Aaa _ _ _ h1) ⟨ht.1,fun i x y hx hy=>s1.vr hg (ht.2 i x y hx hy)⟩
    exact ⟨_,_,F2,h2,g2,s1.trans s2,cons (s2.vr g1 (.t _ _ t1)) r2⟩
   ·obtain ⟨vs',H2,F2,h2,g2,s2,r2⟩:=ih hg (Aaa _ _ _ h) ht
    exact ⟨_,_,F2,h2,g2,s2,cons (s2.vr hg h0) r2⟩
theorem Agu (hS: ∀f az H R,S (.call f az H) R→CallS P f az H R) (hg:Good ι F w H) {f:Nat} {args:List V} {us:List Value} (h:wpQ S (callF cx f args H) R) (hv:VRs ι F w H args us):Calls P f us.toArray w (fun en w'=>CPost R ι F H w en w'∧((∀fi,cx.fn.get f=some (some fi)→fi.mode≠ .inout)→OldSame w w')):=by
 unfold callF at h
 split at h
 ·rename_i fi hfi
  split at h
  ·have:=AeT (P:=P) (cvs:= []) hS hg h hv rfl (by simp)
   simp only [List.append_nil] at this
   exact Calls.mono this fun en w' h=>⟨h.1,fun _=>h.2⟩
  ·
   replace h:=Abn (Aaa _ _ _ h)
   generalize reach H 200 (idss args) []=l at h
   obtain ⟨ts,h1,h2,h3⟩:=Adw hg l (Aaa _ _ _ h) hv
   clear h
   obtain ⟨R',hSR,_,h4⟩:=h1
   obtain ⟨hg1,hst1⟩:=AiV hg l
   have hfin1: ∀b,(F b∨Fl ι H l b)→b<w.heap.size:=fun b hb=>hb.elim (hg.fin b) (fl_lt hg)
   have hargs:VRs ι (fun b=>F b∨Fl ι H l b) w [] (ts.map .t) us.toArray.toList:=by
    refine ⟨by simp [h2],?_⟩
    intro i v u hx hu
    simp only [List.getElem?_map] at hx hu
    obtain ⟨t,ht,rfl⟩:=Option.map_eq_some_iff.1 hx
    exact .t _ _ (h3 i t u ht hu)
   refine Calls.mono (hS _ _ _ _ hSR w ι _ _ (Ae6 hfin1) hargs) ?_
   rintro en w' ⟨x,v,ι',F',rfl,hR',he,hgx,hrx,hx⟩
   have hk:=h4 x hR'
   obtain ⟨xe,vs,H1⟩:=x
   simp only at he hgx hrx hx hk
   subst he
   simp only at hk
   replace hk:=Abn (Aaa _ _ _ hk)
   split at hk
   ·rename_i vs' H1' hvs hH1
    have hm:nth (upto H.length H1.length)=nth ([]++upto (roAll 0 l H).length (H1.length-([]:List Nat).length)):=by simp [AjB]
    rw [hm] at hvs hH1
    obtain ⟨ιn,k1,k2,k3⟩:=AiH (back:= []) (Hg:= []) (Ha:=roAll 0 l H) hg1 List.nodup_nil rfl (by simp) hgx hx hH1 (by simp [setAll])
    simp only [List.length_nil,List.drop_zero] at k1 k2 k3
    have hres:=AiK k3 hvs hrx
    split at hk
    ·rw [Ajc] at k1 k2 hres hst1
     obtain ⟨r,hr1,hr2⟩:=Abf hk hres
     exact ⟨⟨v,r,_,ιn,F',rfl,hr1,k1,hst1.trans k2,hr2⟩,fun _=>⟨hx.size,fun b hb=>hx.same b hb (fun h=>Adh h)⟩⟩
    ·obtain ⟨r,hr1,hr2⟩:=Abf hk hres
     exact ⟨⟨v,r,_,ιn,F',rfl,hr1,k1,hst1.trans k2,hr2⟩,fun _=>⟨hx.size,fun b hb=>hx.same b hb (fun h=>Adh h)⟩⟩
   ·exact hk.elim
  ·
   rename_i hmode
   obtain ⟨args1,H1,F1,h1,hg1,hs1,hv1⟩:=Aj3 hg (Aaa _ _ _ h) hv
   clear h
   have hst:=hs1
   clear hv
   obtain ⟨g,ιg,h1,g1,g2,g3,g4,g5,g6⟩:=gc_ok hg1 (Aaa _ _ _ h1) hv1
   obtain ⟨R',hSR,_,h4⟩:=h1
   refine Calls.mono (hS _ _ _ _ hSR w ιg _ _ g4 (by simpa using g5)) ?_
   rintro en w' ⟨x,v,ι',F',rfl,hR',he,hgx,hrx,hx⟩
   have hk:=h4 x hR'
   obtain ⟨xe,vs,H1⟩:=x
   simp only at he hgx hrx hx hk
   subst he
   simp only at hk
   replace hk:=Abn (Aaa _ _ _ hk)
   split at hk
   ·rename_i vs' H1' hvs hH1
    split at hk
    ·rename_i Ha hset
     obtain ⟨ιn,k1,k2,k3⟩:=AiH hg1 g1 g2 g3 hgx hx hH1 hset
     have hres:=AiK k3 hvs hrx
     obtain ⟨r,hr1,hr2⟩:=Abf hk hres
     exact ⟨⟨v,r,_,ιn,F',rfl,hr1,k1,hst.trans k2,hr2⟩,fun h=>absurd hmode (h fi hfi)⟩
    ·exact hk.elim
   ·exact hk.elim
 ·exact h.elim
end
end Go.Eva
namespace Go.Eva
open Go.RowKit
theorem AdB {α β:Type} (f:α→β) (l:Array α):l.map f=(l.toList.map f).toArray:=by rw [←Array.toList_map]
def opTy (cx:Cx) (o:Oper):Bool:=match o.op with
 | .load t _=>(cx.ti.get t).isSome
 | .store t _ _=>(cx.ti.get t).isSome
 | .convert t _ _=>(cx.ti.get t).isSome
 |_=>true
def Callable (P : Program) (cx : Cx) : Prop := ∀ f fi, cx.fn.get f = some (some fi) → ∃ fn, P.funcs[f]? = some fn ∧ fn.name ≠ "runtime.NumGoroutine" ∧ fn.body ≠ none
section
variable {P:Program} {cx:Cx} {S:Task→(Res→Prop)→Prop} {o:Oper} {e:Env} {H:Heap} {a:Act} {w:World} {ι:Io} {F:Nat→Prop} {R:V×Heap→Prop} {Q:Exit→Act→World→Prop}
theorem Abv (hcal:Callable P cx) {f:Nat} {fi:FI} (hf:cx.fn.get f=some (some fi)) (args:Array Value):(callFunc f args).run P w= .ok (.enter f args) w:=by
 obtain ⟨fn,h1,h2,h3⟩:=hcal f fi hf
 simp [callFunc,h1,h2,h3]
theorem AaZ (hs:Sim ι F w H e a) {xs:List Operand} {ts:List Nat} {R:List V→Prop} (h:wpQ S (args cx e xs ts) R): ∃vs,R vs∧VRs ι F w H vs (xs.map a.eval):=by
 obtain ⟨vs,h1,h2,h3⟩:=Ae9 hs h
 refine ⟨vs,h1,by simpa using h2,?_⟩
 intro i v u hv hu
 simp at hu
 obtain ⟨x,hx,rfl⟩:=hu
 exact h3 i v x hv hx
theorem Ahg {f:Nat} {vals:Array Value} (hrun:(execOp a.eval o).run P w= .ok (.enter f vals) w) {K:World→Prop} (h:Calls P f vals w (fun en w'=>CPost R ι F H w en w'∧K w')):o.wp P a w (OpPost R o ι F H w a) Q:=by
 unfold Oper.wp
 rw [hrun]
 refine Calls.mono h ?_
 rintro en w' ⟨⟨v,r,H',ι',F',rfl,h1,h2,h3,h4⟩,_⟩
 exact ⟨r,H',ι',F',v,h1,rfl,h2,h3,h4⟩
theorem AcW (b:Builtin) (c:Call) (ho:o.op= .call c) (hb:c.callee= .builtin b) {us:List Value} (hus:c.args.toList.map a.eval=us): ∃consts,∀w,(execOp a.eval o).run P w=(builtin b c.argTypes o.type consts us.toArray).run P w:=by
 have hargs:c.args.map a.eval=us.toArray:=by rw [←hus];exact AdB _ _
 refine ⟨c.args.map fun| .const _=>true|_=>false,fun w=> ?_⟩
 simp only [execOp,ho,resolve,hb,hargs,Sem.run_bind,Sem.run_pure,Result.andThen_ok,invoke]
 rfl
def quietB:Builtin→Bool
 | .len=>true
 | .cap=>true
 | .min=>true
 | .max=>true
 |_=>false
theorem Ah4 (hc:CxTy P cx) (hg:Good ι F w H) (hs:Sim ι F w H e a) (c:Call) (b:Builtin) (ho:o.op= .call c) (hb:c.callee= .builtin b) (hq:quietB b=true) (h:wpQ S (opQ cx o e H) R):Still Any P R o ι F H w a:=by
 unfold opQ at h
 rw [ho] at h
 simp only [hb] at h
 obtain ⟨vs,h1,h2⟩:=AaZ hs (Aaa _ _ _ h)
 clear h
 obtain ⟨hl,hv⟩:=h2
 obtain ⟨consts,hex⟩:=AcW (P:=P) (a:=a) b c ho hb rfl
 generalize c.args.toList.map a.eval=us at*
 generalize hts:c.argTypes=ts at*
 obtain ⟨tl⟩:=ts
 simp only at h1
 have fin: ∀ {val:Value},(∀w,(execOp a.eval o).run P w= .ok (.value val) w)→BPost R ι F H w val w→Still Any P R o ι F H w a:=by
  rintro val hr ⟨r,H',ι',F',k1,k2,k3,k4⟩
  exact ⟨r,H',ι',F',val,k1,k2,k3,k4,fun w _=>hr w⟩
 have one: ∀(v:V),vs= [v]→ ∃u,us= [u]∧VR ι F w H v u:=by
  rintro v rfl
  match us,hl with
  | [u],_=>exact ⟨u,rfl,hv 0 v u rfl rfl⟩
 have hq':=h1
 unfold builtinV at hq'
 split at hq'
 ·split at hq'
  ·obtain ⟨u,rfl,hu⟩:=one _ rfl
   obtain ⟨val,k1,k2⟩:=b_len (P:=P) (ty:=o.type) hc hg hu h1
   exact fin (fun w=>by rw [hex];simp only [builtin,Sem.run_bind,k1,Result.andThen_ok,Sem.run_pure]) k2
  ·exact hq'.elim
 ·split at hq'
  ·obtain ⟨u,rfl,hu⟩:=one _ rfl
   obtain ⟨val,k1,k2⟩:=b_cap (P:=P) (ty:=o.type) hc hg hu h1
   exact fin (fun w=>by rw [hex];simp only [builtin,Sem.run_bind,k1,Result.andThen_ok,Sem.run_pure]) k2
  ·exact hq'.elim
 ·simp [quietB] at hq
 ·simp [quietB] at hq
 ·simp [quietB] at hq
 ·obtain ⟨val,k1,k2⟩:=b_min (P:=P) (ts:=⟨tl⟩) (ty:=o.type) hg hl hv h1
  exact fin (fun w=>by rw [hex];simp only [builtin,Sem.run_bind,k1,Result.andThen_ok,Sem.run_pure]) k2
 ·obtain ⟨val,k1,k2⟩:=b_max (P:=P) (ts:=⟨tl⟩) (ty:=o.type) hg hl hv h1
  exact fin (fun w=>by rw [hex];simp only [builtin,Sem.run_bind,k1,Result.andThen_ok,Sem.run_pure]) k2
 ·exact hq'.elim
theorem Ajw {sz:Nat} {xs:List T} {u:Value} (hz:0<sz) (h:TR F w (.sl sz xs) u): ∃ad la ca,u= .slice ad la ca∧(la=0∨ ∃bl o,ad=some ⟨bl,o,none⟩∧F bl∧ ∃c ty fr,w.heap[bl]?=some (.cells c ty fr)∧c.size≠0):=by
 cases h with
 |slN _ a cap=>exact ⟨_,_,_,rfl,.inl rfl⟩
 |slC _ _ b o cap c hn hcap hF hc hl hr=>
  refine ⟨_,_,_,rfl,.inr ⟨b,o,rfl,hF,?_⟩⟩
  have:=(hc 0 0 (List.length_pos_iff.2 hn) hz).1
  unfold World.cell? at this
  split at this
  ·rename_i cc ty fr hh
   refine ⟨_,_,_,hh,fun h0=> ?_⟩
   simp at this
   have:=(Array.getElem?_eq_some_iff.1 this).1
   omega
  ·contradiction
theorem Alh (hg:Good ι F w H) {b:V} {y:Value} (hb:isOwnSl H b=true) (h:VR ι F w H b y): ∃ad la ca,y= .slice ad la ca∧(la=0∨ ∃bl o,ad=some ⟨bl,o,none⟩∧ ¬F bl∧ ∃c ty,w.heap[bl]?=some (.cells c ty (0,0))∧c.size≠0):=by
 have key: ∀ {id off:Nat} {n lim:Option Nat} {sz:Nat} {xs:List T} {sp:Option Nat},H[id]?=some (.arr sz xs sp false)→OwnSl ι w H id off n lim y→
   ∃ad la ca,y= .slice ad la ca∧(la=0∨ ∃bl o,ad=some ⟨bl,o,none⟩∧ ¬F bl∧ ∃c ty,w.heap[bl]?=some (.cells c ty (0,0))∧c.size≠0):=by
  intro id off n lim sz xs sp hid ho
  have hob:=hg.obj id _ hid
  unfold OwnSl at ho
  rw [hid] at ho
  simp only at ho
  obtain ⟨ad,cap,rfl,h1,h2,h3⟩:=ho
  refine ⟨_,_,_,rfl,?_⟩
  by_cases h0:n.getD xs.length=0
  ·exact .inl h0
  refine .inr ?_
  obtain ⟨hz,hob⟩:=hob
  rcases hob with ⟨_,rfl,_⟩|⟨b,cs,e,hb,hh,hsz,_⟩
  ·exfalso;simp at h2 h0;omega
  ·rw [hb] at h3
   simp only at h3
   rcases h3.1 with h3|rfl
   ·omega
   ·refine ⟨b,_,rfl,hg.sep b ⟨id,_,hid,rfl,hb⟩,cs,e,hh,fun h=> ?_⟩
    have:0<xs.length:=by omega
    have:=Nat.mul_pos this hz
    omega
 unfold isOwnSl at hb
 split at hb
 ·split at hb
  ·rename_i hn
   rw [Aaj] at hn
   cases h with|all _ _ _ h=>exact key hn h
  ·contradiction
 ·split at hb
  ·rename_i hn
   rw [Aaj] at hn
   cases h with|sl _ _ _ _ _ h=>exact key hn h
  ·contradiction
 ·contradiction
theorem AkX (hc:CxTy P cx) (hg:Good ι F w H) {f:Nat} {x:Xf} (hx:exAt cx.ex f=some x) {vs:List V} {us:List Value} (h:wpQ S (extV cx x vs H) R) (hv:VRs ι F w H vs us):
  ∃val,R (.t (.bool false),H)∧(callFunc f us.toArray).run P w= .ok (.value val) w∧VR ι F w H (.t (.bool false)) val:=by
 have hex:=hc.ex f x hx
 unfold extV at h
 split at h
 ·rename_i t a b
  obtain ⟨fn,k1,k2,k3,k4,k5,k6,el,hel⟩:=hex
  rw [hel] at h
  simp only at h
  split at h
  ·rename_i hcond
   simp only [Bool.and_eq_true] at hcond
   match us,hv with
   | [u,y],⟨_,hv⟩=>
    have hu:=hv 0 a u rfl rfl
    have hy:=hv 1 b y rfl rfl
    refine ⟨.bool false,h,?_,.t _ _ (.bool _)⟩
    obtain ⟨e1,i,inf,e2,e3,e4,e5,e6,e7,e8⟩:=Abo hc hel
    rw [run_callFunc_extern k1 k2 k3 k4 k5]
    suffices hov:(Extern.SlicesOverlaps.overlaps fn.params fn.resultTypes [u,y].toArray).run P w= .ok (.bool false) w by rw [hov];rfl
    have hpos:0<sizeOf cx el:=by omega
    have htree: ∃ad la ca,u= .slice ad la ca∧(la=0∨ ∃bl o,ad=some ⟨bl,o,none⟩∧F bl∧ ∃c ty fr,w.heap[bl]?=some (.cells c ty fr)∧c.size≠0):=by
     have h1:=hcond.1
     unfold isTreeSl at h1
     split at h1
     ·obtain rfl:=Nat.eq_of_beq_eq_true h1
      cases hu with|fit _ _ _ h=>exact Ajw hpos h
     ·obtain rfl:=Nat.eq_of_beq_eq_true h1
      exact Ajw hpos hu.t_inv
     ·contradiction
    obtain ⟨aa,la,ca,rfl,ha⟩:=htree
    obtain ⟨ab,lb,cb,rfl,hb⟩:=Alh hg hcond.2 hy
    have hsz:=Aav hc e2 w
    change Sem.run P (α:=Value) (do
     let some t := fn.params[0]? | stuck "slices.overlaps: no parameter types"
     let .slice elem ← underlying t | stuck "slices.overlaps: slice type expected"
     let size←Go.sizeOf elem
     match (aa:Option Addr),(ab:Option Addr) with
     |some a,some b=>
      if la=0∨lb=0∨size=0 then pure (Value.bool false)
      else if a.block !=b.block&&(←frozen a)&&(←frozen b) then unsupported .addressObserved
      else do
       if a.block !=b.block then do
        noView a;noView b
        if ← mayBeOne a b then return Value.bool ((← choose (.extern "sameAddr.stringBytes" 2)) == 1)
       pure (Value.bool (a.block==b.block&&a.off<b.off+lb*size&&b.off<a.off+la*size))
     |_,_=>pure (Value.bool false)) w=_
    by_cases h0:la=0∨lb=0
    ·cases aa<;>cases ab<;>rcases h0 with h0|h0<;>simp [k6,run_underlying e1,hsz,h0]
    ·obtain ⟨b1,o1,rfl,hF1,c1,ty1,fr1,hh1,hz1⟩:=ha.resolve_left (fun h=>h0 (.inl h))
     obtain ⟨b2,o2,rfl,hF2,c2,ty2,hh2,hz2⟩:=hb.resolve_left (fun h=>h0 (.inr h))
     have hne:b1≠b2:=fun e=>hF2 (e ▸ hF1)
     have hnb:(b1 !=b2)=true:=by simpa using hne
     have hnb':(b1==b2)=false:=by simpa using hne
     have s1:w.shape? b1=some (ty1,c1.size):=by simp [World.shape?,hh1]
     have s2:w.shape? b2=some (ty2,c2.size):=by simp [World.shape?,hh2]
     have f2: ∀o,w.frozen? ⟨b2,o,none⟩=false:=by intro o;simp [World.frozen?,hh2]
     have hs0: ¬sizeOf cx el=0:=by omega
     obtain ⟨q1,q2⟩:=not_or.1 h0
     obtain ⟨m1,hm1⟩:=Nat.exists_eq_succ_of_ne_zero hz1
     obtain ⟨m2,hm2⟩:=Nat.exists_eq_succ_of_ne_zero hz2
     rw [hm1] at s1
     rw [hm2] at s2
     simp [k6,run_underlying e1,hsz,q1,q2,hs0,hnb,hnb',frozen,noView,viewAt,mayBeOne,stringish,shape,Sem.run,s1,s2,f2]
  ·exact h.elim
 ·exact h.elim
theorem AkM (hc:CxTy P cx) (hcal:Callable P cx) (hS: ∀f az H R,S (.call f az H) R→CallS P f az H R) (hg:Good ι F w H) (hs:Sim ι F w H e a) (c:Call) (ho:o.op= .call c) (h:wpQ S (opQ cx o e H) R):o.wp P a w (OpPost R o ι F H w a) Q:=by
 have h0:=h
 unfold opQ at h
 rw [ho] at h
 simp only at h
 split at h
 ·
  rename_i b hb
  by_cases hqb:quietB b=true
  ·exact (Ah4 hc hg hs c b ho hb hqb h0).wp trivial
  obtain ⟨vs,h1,h2⟩:=AaZ hs (Aaa _ _ _ h)
  clear h
  have fin: ∀ {val:Value} {w':World},(execOp a.eval o).run P w= .ok (.value val) w'→BPost R ι F H w val w'→o.wp P a w (OpPost R o ι F H w a) Q:=by
   rintro val w' hr ⟨r,H',ι',F',k1,k2,k3,k4⟩
   exact AaB hr ⟨r,H',ι',F',val,k1,rfl,k2,k3,k4⟩
  obtain ⟨hl,hv⟩:=h2
  obtain ⟨consts,hex⟩:=AcW (P:=P) (a:=a) b c ho hb rfl
  generalize c.args.toList.map a.eval=us at*
  generalize hts:c.argTypes=ts at*
  obtain ⟨tl⟩:=ts
  simp only at h1
  have one: ∀(v:V),vs= [v]→ ∃u,us= [u]∧VR ι F w H v u:=by
   rintro v rfl
   match us,hl with
   | [u],_=>exact ⟨u,rfl,hv 0 v u rfl rfl⟩
  have two: ∀(v x:V),vs= [v,x]→ ∃u y,us= [u,y]∧VR ι F w H v u∧VR ι F w H x y:=by
   rintro v x rfl
   match us,hl with
   | [u,y],_=>exact ⟨u,y,rfl,hv 0 v u rfl rfl,hv 1 x y rfl rfl⟩
  have hq:=h1
  unfold builtinV at hq
  split at hq
  ·simp [quietB] at hqb
  ·simp [quietB] at hqb
  ·split at hq
   ·obtain ⟨u,y,rfl,hu,hy⟩:=two _ _ rfl
    obtain ⟨val,w',k1,k2,_⟩:=AhE (ty:=o.type) hc hg hu hy h1
    exact fin (by rw [hex];simp only [builtin,Sem.run_bind,k1,Result.andThen_ok,Sem.run_pure]) k2
   ·exact hq.elim
  ·split at hq
   ·obtain ⟨u,rfl,hu⟩:=one _ rfl
    obtain ⟨val,w',k1,k2⟩:=AkA (ty:=o.type) hc hg hu h1
    exact fin (by rw [hex];simp only [builtin,Sem.run_bind,k1,Result.andThen_ok,Sem.run_pure]) k2
   ·exact hq.elim
  ·split at hq
   ·obtain ⟨u,y,rfl,hu,hy⟩:=two _ _ rfl
    obtain ⟨val,w',k1,k2⟩:=Alf (ty:=o.type) hc hg hu hy h1
    exact fin (by rw [hex];simp only [builtin,Sem.run_bind,k1,Result.andThen_ok,Sem.run_pure]) k2
   ·exact hq.elim
  ·simp [quietB] at hqb
  ·simp [quietB] at hqb
  ·exact hq.elim
 ·
  rename_i f hf
  split at h
  ·rename_i x hx
   obtain ⟨vs,h1,h2⟩:=AaZ hs (Aaa _ _ _ h)
   obtain ⟨val,h3,h4⟩:=AkX (P:=P) hc hg hx h1 h2
   refine AaB (w':=w) (val:=val) ?_ ⟨_,_,ι,F,val,h3,rfl,hg,.refl ι F H w,h4.2⟩
   have hargs:c.args.map a.eval=((c.args.toList.map a.eval).toArray):=AdB _ _
   simp only [execOp,ho,resolve,hf,show a.eval (.func f)= .func (.func f) #[] #[] from rfl]
   simp [Deferred.ofValue,invoke,h4.1,hargs]
  obtain ⟨vs,h1,h2⟩:=AaZ hs (Aaa _ _ _ h)
  clear h
  have hfi: ∃fi,cx.fn.get f=some (some fi):=by
   unfold callF at h1
   split at h1
   ·rename_i fi hfi;exact ⟨fi,hfi⟩
   ·exact h1.elim
  obtain ⟨fi,hfi⟩:=hfi
  have hk:=Agu (P:=P) hS hg h1 h2
  have hargs:c.args.map a.eval=((c.args.toList.map a.eval).toArray):=AdB _ _
  refine Ahg ?_ hk
  simp only [execOp,ho,resolve,hf,show a.eval (.func f)= .func (.func f) #[] #[] from rfl]
  simp [Deferred.ofValue,invoke,Abv hcal hfi,hargs]
 ·rename_i x _ hx
  have hev:=Aal hs x
  have hargs:c.args.map a.eval=((c.args.toList.map a.eval).toArray):=AdB _ _
  split at h
  ·rename_i f cs he
   rw [he] at hev
   ·obtain ⟨hfb,h⟩:=h
    obtain ⟨fi,hfi⟩: ∃fi,cx.fn.get f=some (some fi):=by
     unfold isFnB at hfb
     split at hfb
     ·exact ⟨_,by assumption⟩
     ·contradiction
    obtain ⟨vs,h1,h2⟩:=AaZ hs (Aaa _ _ _ h)
    have hv:=hev.t_inv
    generalize hxe:a.eval x=u at hv hev
    cases hv with
    |clo _ _ cvs hl hcs=>
    have hk:=AeT (P:=P) (cvs:=cvs.toList) hS hg h1 h2 (by simpa using hl) (fun i t u ht hu=>hcs i t u ht (by simpa using hu))
    refine Ahg ?_ hk
    simp only [execOp,ho,resolve,hx,hxe]
    simp [Deferred.ofValue,invoke,Abv hcal hfi]
  ·rename_i f cs he
   rw [he] at hev
   obtain ⟨vs,h1,h2⟩:=AaZ hs (Aaa _ _ _ h)
   have hfi: ∃fi,cx.fn.get f=some (some fi):=by
    unfold callF at h1
    split at h1
    ·rename_i fi hfi;exact ⟨fi,hfi⟩
    ·exact h1.elim
   obtain ⟨fi,hfi⟩:=hfi
   generalize hxe:a.eval x=u at hev
   cases hev with
   |clo _ _ cvs hl hcs=>
   have hall:VRs ι F w H (vs++cs) (c.args.toList.map a.eval++cvs.toList):=by
    refine ⟨by simp [h2.1,hl],?_⟩
    intro i v u hv hu
    have hlen:vs.length=(c.args.toList.map a.eval).length:=h2.1
    rcases Nat.lt_or_ge i vs.length with hi|hi
    ·rw [List.getElem?_append_left hi] at hv
     rw [List.getElem?_append_left (by omega)] at hu
     exact h2.2 i v u hv hu
    ·rw [List.getElem?_append_right hi] at hv
     rw [List.getElem?_append_right (by omega)] at hu
     exact hcs _ v u hv (by rw [hlen];simpa using hu)
   have hk:=Agu (P:=P) hS hg h1 hall
   refine Ahg ?_ hk
   simp only [execOp,ho,resolve,hx,hxe]
   simp [Deferred.ofValue,invoke,Abv hcal hfi]
  ·exact h.elim
 ·exact h.elim
theorem AkZ (hc:CxTy P cx) (hcal:Callable P cx) (hS: ∀f az H R,S (.call f az H) R→CallS P f az H R) (hg:Good ι F w H) (hs:Sim ι F w H e a) (hty:opTy cx o=true) (h:wpQ S (opQ cx o e H) R):o.wp P a w (OpPost R o ι F H w a) Q:=by
 have h0:=h
 unfold opTy at hty
 unfold opQ at h
 simp only at h
 split at h
 ·rename_i x ho;rw [show o.op=_ from ho] at hty;exact (Agb hg hs x (.inl ho) h).wp trivial
 ·rename_i x ho;exact (Agb hg hs x (.inr ho) h).wp trivial
 ·rename_i c x y ho;exact (Ajq hg hs c x y ho h0).wp trivial
 ·rename_i t ho;exact Oper.wp_mono (fun _ _ h=>h.1) (AhS hc hg t ho h0)
 ·rename_i t x ho;exact Oper.wp_mono (fun _ _ h=>h.1) (Aky hg hs t x ho h0)
 ·rename_i t ps ho;exact (Aie hc hg hs t ps ho h0).wp trivial
 ·rename_i t n ps ho;exact Oper.wp_mono (fun _ _ h=>h.1) (Ad6 hc hg hs t n ps ho h0)
 ·rename_i t x ho;rw [ho] at hty;exact (Ajf hc hg hs t x ho (Option.isSome_iff_exists.1 hty) h0).wp (OldSame.refl w)
 ·rename_i t x y ho;rw [ho] at hty;exact AjT hc hg hs t x y ho (Option.isSome_iff_exists.1 hty) h0
 ·rename_i x ho;exact (AeI hg hs x ho h0).wp trivial
 ·rename_i op t x y yt ho;exact (Ak5 hc hg hs op t x y yt ho h0).wp trivial
 ·rename_i op t x ho;exact (op_un hg hs op t x ho h0).wp trivial
 ·rename_i s t x ho;rw [ho] at hty;exact (AfM hc hg hs s t x ho (Option.isSome_iff_exists.1 hty) h0).wp trivial
 ·rename_i f fi cs ho;exact (AeR hg hs f fi cs ho h0).wp trivial
 ·rename_i t l c ho;exact Oper.wp_mono (fun _ _ h=>h.1) (Aem hc hg hs t l c ho h0)
 ·rename_i t x lo hi mx ho;exact (AhX hc hg hs t x lo hi mx ho h0).wp trivial
 ·rename_i t x f ho;exact (Aeg hc hg hs t x f ho h0).wp trivial
 ·rename_i t x f ho;exact (AhI hc hg hs t x f ho h0).wp trivial
 ·rename_i t x i ho;exact (Aen hc hg hs t x i ho h0).wp trivial
 ·rename_i x i ho;exact (Af0 hg hs x i ho h0).wp trivial
 ·rename_i c ho;exact AkM hc hcal hS hg hs c ho h0
 ·exact h.elim
end
end Go.Eva
namespace Go.Eva
open Go.RowKit
section
variable {P:Program} {cx:Cx} {S:Task→(Res→Prop)→Prop} {w:World} {F:Nat→Prop}
theorem Ajs {ι:Io} {H:Heap} {v:V} {u:Value} {R:V×Heap→Prop} (hg:Good ι F w H) (h:wpQ S (ownV v H) R) (hv:VR ι F w H v u):
  ∃v' H' ι',R (v',H')∧Good ι' F w H'∧Step ι F H w ι' F H' w∧VR ι' F w H' v' u:=by
 unfold ownV at h
 split at h
 ·rename_i s
  split at h
  ·rename_i hs
   have hs:0<s:=by simpa using hs
   replace h:=Aa5 (Aaa _ _ _ h)
   obtain ⟨k1,k2⟩:=AdV hg s hs
   refine ⟨_,_,_,h,k1,k2,.all _ _ _ ?_⟩
   cases hv with
   |fit _ _ a h=>
    unfold OwnSl
    rw [List.getElem?_append_right (Nat.le_refl _)]
    simp only [Nat.sub_self,List.getElem?_cons_zero]
    refine ⟨a,0,rfl,Nat.le_refl _,Nat.le_refl _,?_⟩
    simp [upd]
  ·exact ⟨_,_,ι,h,hg,.refl ι F H w,hv⟩
 ·exact ⟨_,_,ι,h,hg,.refl ι F H w,hv⟩
theorem Age {ι:Io} {H:Heap} {v:V} {vs:List V} {u:Value} {us:List Value} (h:VR ι F w H v u) (k:VRs ι F w H vs us):VRs ι F w H (v::vs) (u::us):=by
 refine ⟨by simp [k.1],fun i x y hx hy=> ?_⟩
 cases i with
 |zero=>simp at hx hy;subst hx;subst hy;exact h
 |succ i=>exact k.2 i x y (by simpa using hx) (by simpa using hy)
theorem Ago {ι ι':Io} {F':Nat→Prop} {w':World} {H H':Heap} (hg:Good ι F w H) (h:Step ι F H w ι' F' H' w') {vs:List V} {us:List Value} (hv:VRs ι F w H vs us):VRs ι' F' w' H' vs us:=
 ⟨hv.1,fun i x y hx hy=>h.vr hg (hv.2 i x y hx hy)⟩
theorem Ajj {own:List Nat}: ∀ {ts:List Nat} {vs:List V} {us:List Value} {ι:Io} {H:Heap} {R:List V×Heap→Prop},Good ι F w H→wpQ S (ownL own ts vs H) R→VRs ι F w H vs us→
  ∃vs' H' ι',R (vs',H')∧Good ι' F w H'∧Step ι F H w ι' F H' w∧VRs ι' F w H' vs' us:=by
 intro ts
 induction ts with
 |nil=>
  intro vs us ι H R hg h hv
  have h:R (vs,H):=by cases vs<;>exact h
  exact ⟨_,_,ι,h,hg,.refl ι F H w,hv⟩
 |cons t ts ih=>
  intro vs us ι H R hg h hv
  match vs,us,hv with
  | [],us,hv=>exact ⟨_,_,ι,h,hg,.refl ι F H w,hv⟩
  |v::vs,[],hv=>exact absurd hv.1 (by simp)
  |v::vs,u::us,hv=>
   have h0:=hv.2 0 v u rfl rfl
   have ht:VRs ι F w H vs us:=⟨by simpa using hv.1,fun i x y hx hy=>hv.2 (i+1) x y (by simpa using hx) (by simpa using hy)⟩
   unfold ownL at h
   split at h
   ·obtain ⟨v',H1,ι1,h1,g1,s1,r1⟩:=Ajs hg (Aaa _ _ _ h) h0
    obtain ⟨vs',H2,ι2,h2,g2,s2,r2⟩:=ih g1 (Aaa _ _ _ h1) (Ago hg s1 ht)
    exact ⟨_,_,ι2,h2,g2,s1.trans s2,Age (s2.vr g1 r1) r2⟩
   ·obtain ⟨vs',H2,ι2,h2,g2,s2,r2⟩:=ih hg (Aaa _ _ _ h) ht
    exact ⟨_,_,ι2,h2,g2,s2,Age (s2.vr hg h0) r2⟩
theorem AhK {ι:Io} {H:Heap} (hg:Good ι F w H) {id s:Nat} {xs:List T} {sp:Option Nat} (ho:H[id]?=some (.arr s xs sp false)) (n:Nat):
  Good (upd ι H.length (ι id)) F w (H.set id .dead++ [.arr s (xs.take n) none false])∧Step ι F H w (upd ι H.length (ι id)) F (H.set id .dead++ [.arr s (xs.take n) none false]) w:=by
 refine AeM hg ho rfl rfl rfl rfl rfl rfl rfl (fun _ _=>rfl) (fun _ _=> ?_)
 have new:upd ι H.length (ι id) H.length=ι id:=by unfold upd;rw [if_pos rfl]
 obtain ⟨h0,h⟩:=hg.obj id _ ho
 refine ⟨h0,?_⟩
 rw [new]
 rcases h with ⟨h1,rfl,h3⟩|⟨b,cs,e,h1,h2,h3,h4,h5,h6,h7⟩
 ·exact .inl ⟨h1,by simp,fun k hk=>by simp at hk⟩
 ·have hle:(xs.take n).length≤xs.length:=by simp;omega
  refine .inr ⟨b,cs,e,h1,h2,Nat.le_trans (Nat.mul_le_mul_right s hle) h3,fun k hk=>by simp at hk,h5,h6,?_⟩
  obtain ⟨c,c1,c2,c3⟩:=h7
  have get: ∀(i:Nat) x,(xs.take n)[i]?=some x→xs[i]?=some x:=by
   intro i x hx
   rw [List.getElem?_take] at hx
   split at hx
   ·exact hx
   ·contradiction
  exact ⟨c,fun i j hi hj=>c1 i j (by omega) hj,fun i x hx=>c2 i x (get i x hx),fun i j x t hx=>c3 i j x t (get i x hx)⟩
theorem AjQ {ι:Io} {H:Heap} {v:V} {u:Value} {R:V×Heap→Prop} (hg:Good ι F w H) (h:wpQ S (tidyV v H) R) (hv:VR ι F w H v u):
  ∃v' H' ι',R (v',H')∧Good ι' F w H'∧Step ι F H w ι' F H' w∧VR ι' F w H' v' u:=by
 have key: ∀ {id s len:Nat} {xs:List T} {sp:Option Nat} {n:Option Nat},H[id]?=some (.arr s xs sp false)→OwnSl ι w H id 0 n none u→n.getD xs.length=len→
   OwnSl (upd ι H.length (ι id)) w (H.set id .dead++ [.arr s (xs.take len) none false]) H.length 0 none none u:=by
  intro id s len xs sp n hid ho hn
  unfold OwnSl at ho⊢
  rw [hid] at ho
  simp only [hn] at ho
  rw [List.getElem?_append_right (by simp)]
  simp only [List.length_set,Nat.sub_self,List.getElem?_cons_zero,Option.getD_none]
  obtain ⟨a,cap,rfl,h1,h2,h3⟩:=ho
  have hl:(xs.take len).length=len:=by simp;omega
  refine ⟨a,cap,by rw [hl],by rw [hl];exact h1,by rw [hl];omega,?_⟩
  have new:upd ι H.length (ι id) H.length=ι id:=by unfold upd;rw [if_pos rfl]
  rw [new]
  exact h3
 unfold tidyV at h
 split at h
 ·rename_i id
  split at h
  ·rename_i s xs sp hid
   rw [Aaj] at hid
   obtain ⟨_,h⟩:=Abj (Aaa _ _ _ h)
   replace h:=Aa5 (Aaa _ _ _ h)
   cases hv with
   |all _ _ _ ho=>
    obtain ⟨k1,k2⟩:=AhK hg hid xs.length
    have k3:=key hid ho (len:=xs.length) rfl
    rw [List.take_length] at k1 k2 k3
    simp only [List.length_set] at h
    exact ⟨_,_,_,h,k1,k2,.all _ _ _ k3⟩
  ·exact h.elim
 ·rename_i id off len
  split at h
  ·rename_i s xs sp hid hoff
   obtain rfl:=Nat.eq_of_beq_eq_true hoff
   rw [Aaj] at hid
   replace h:wpQ S ((setH H id .dead).bind fun H=>(alloc (.arr s (xs.take len) none false) H).bind fun x=> .ret (.all x.1 none,x.2)) R:=h
   obtain ⟨_,h⟩:=Abj (Aaa _ _ _ h)
   replace h:=Aa5 (Aaa _ _ _ h)
   cases hv with
   |sl _ _ _ _ _ ho=>
    obtain ⟨k1,k2⟩:=AhK hg hid len
    have k3:=key hid ho (len:=len) rfl
    simp only [List.length_set] at h
    exact ⟨_,_,_,h,k1,k2,.all _ _ _ k3⟩
  ·exact h.elim
 ·exact Ajs hg h hv
theorem Aks: ∀ {vs:List V} {us:List Value} {ι:Io} {H:Heap} {R:List V×Heap→Prop},Good ι F w H→wpQ S (tidyL vs H) R→VRs ι F w H vs us→
  ∃vs' H' ι',R (vs',H')∧Good ι' F w H'∧Step ι F H w ι' F H' w∧VRs ι' F w H' vs' us:=by
 intro vs
 induction vs with
 |nil=>intro us ι H R hg h hv;exact ⟨_,_,ι,h,hg,.refl ι F H w,hv⟩
 |cons v vs ih=>
  intro us ι H R hg h hv
  match us,hv with
  | [],hv=>exact absurd hv.1 (by simp)
  |u::us,hv=>
   have h0:=hv.2 0 v u rfl rfl
   have ht:VRs ι F w H vs us:=⟨by simpa using hv.1,fun i x y hx hy=>hv.2 (i+1) x y (by simpa using hx) (by simpa using hy)⟩
   unfold tidyL at h
   obtain ⟨v',H1,ι1,h1,g1,s1,r1⟩:=AjQ hg (Aaa _ _ _ h) h0
   obtain ⟨vs',H2,ι2,h2,g2,s2,r2⟩:=ih g1 (Aaa _ _ _ h1) (Ago hg s1 ht)
   exact ⟨_,_,ι2,h2,g2,s1.trans s2,Age (s2.vr g1 r1) r2⟩
theorem AhH {b:Bool} {vs:List V} {us:List Value} {ι:Io} {H:Heap} {R:List V×Heap→Prop} (hg:Good ι F w H) (h:wpQ S (tidyR b vs H) R) (hv:VRs ι F w H vs us):
  ∃vs' H' ι',R (vs',H')∧Good ι' F w H'∧Step ι F H w ι' F H' w∧VRs ι' F w H' vs' us:=by
 unfold tidyR at h
 split at h
 ·exact Aks hg h hv
 ·exact ⟨_,_,ι,h,hg,.refl ι F H w,hv⟩
theorem AkU {ι:Io} {us:List Value} {vs:List V}: ∀(n k:Nat) (H1 H:Heap),H1.length=k→Good ι F w (H1++H)→VRs ι F w (H1++H) vs us→
  Good ι F w (H1++killK n H)∧Step ι F (H1++H) w ι F (H1++killK n H) w∧VRs ι F w (H1++killK n H) vs us:=by
 intro n
 induction n with
 |zero=>intro k H1 H _ hg hv;exact ⟨hg,.refl ι F _ w,hv⟩
 |succ n ih=>
  intro k H1 H hk hg hv
  cases H with
  |nil=>exact ⟨hg,.refl ι F _ w,hv⟩
  |cons o r=>
   have same: ∀o',H1++o'::killK n r=(H1++ [o'])++killK n r:=by intro o';simp
   have same': ∀o',H1++o'::r=(H1++ [o'])++r:=by intro o';simp
   by_cases hd:killO o=o
   ·simp only [killK,hd]
    rw [same,same'] at*
    exact ih (k+1) _ _ (by simp [hk]) hg hv
   ·have hdd:killO o= .dead:=by cases o<;>simp_all [killO]
    simp only [killK,hdd]
    have hget:(H1++o::r)[k]?=some o:=by rw [List.getElem?_append_right (by omega)];simp [hk]
    have hset:(H1++o::r).set k .dead=H1++ .dead::r:=by rw [List.set_append_right _ _ (by omega)];simp [hk]
    obtain ⟨g1,s1⟩:=Ae7 hg hget
    rw [hset] at g1 s1
    have v1:=Ago hg s1 hv
    rw [same'] at g1 v1
    obtain ⟨g2,s2,v2⟩:=ih (k+1) _ _ (by simp [hk]) g1 v1
    rw [←same,←same'] at s2
    rw [←same] at g2 v2
    exact ⟨g2,s1.trans s2,v2⟩
theorem Ake {b:Bool} {n:Nat} {ι:Io} {us:List Value} {vs:List V} {H:Heap} (hg:Good ι F w H) (hv:VRs ι F w H vs us):
  Good ι F w (killR b n H)∧Step ι F H w ι F (killR b n H) w∧VRs ι F w (killR b n H) vs us:=by
 unfold killR
 split
 ·simpa using AkU n 0 [] H rfl hg hv
 ·exact ⟨hg,.refl ι F H w,hv⟩
end
end Go.Eva
namespace Go.Eva
open Go.RowKit
def sort (cx:Cx) (o:Oper):Nat:=match o.op with
 | .move _=>0| .assign _=>0| .pick _ _ _=>0| .build _ _=>0| .nilCheck _=>0| .binOp _ _ _ _ _=>0| .unOp _ _ _=>0| .convert _ _ _=>0
 | .makeFunc (.func _) _ _=>0| .slice _ _ _ _ _=>0| .fieldAddr _ _ _=>0| .field _ _ _=>0| .indexAddr _ _ _=>0| .extract _ _=>0
 | .load _ _=>1
 | .alloc _=>2| .box _ _=>2| .buildSlice _ _ _=>2| .makeSlice _ _ _=>2
 | .call c=>match c.callee with
  | .builtin b=>match quietB b with
   |true=>0
   |false=>match b,c.args.toList with
    | .append,.const (.slice none 0 0)::_=>2
    |_,_=>3
  | .value (.func f)=>match exAt cx.ex f with
   |some _=>3
   |none=>match cx.fn.get f with
    |some (some fi)=>match fi.mode with| .inout=>3|_=>2
    |_=>3
  |_=>3
 |_=>3
section
variable {P:Program} {cx:Cx} {S:Task→(Res→Prop)→Prop} {o:Oper} {e:Env} {H:Heap} {a:Act} {w:World} {ι:Io} {F:Nat→Prop} {R:V×Heap→Prop} {Q:Exit→Act→World→Prop}
theorem Still.mono {C C':World→Prop} (h:Still C P R o ι F H w a) (hC: ∀w,C' w→C w):Still C' P R o ι F H w a:=by
 obtain ⟨v,H',ι',F',val,h1,h2,h3,h4,h5⟩:=h
 exact ⟨v,H',ι',F',val,h1,h2,h3,h4,fun w hw=>h5 w (hC w hw)⟩
theorem Aij (hc:CxTy P cx) (hg:Good ι F w H) (hs:Sim ι F w H e a) (hty:opTy cx o=true) (hk:sort cx o=0) (h:wpQ S (opQ cx o e H) R):Still Any P R o ι F H w a:=by
 have h0:=h
 unfold opTy at hty
 unfold sort at hk
 unfold opQ at h
 simp only at h
 split at h
 ·rename_i x ho;exact Agb hg hs x (.inl ho) h
 ·rename_i x ho;exact Agb hg hs x (.inr ho) h
 ·rename_i c x y ho;exact Ajq hg hs c x y ho h0
 ·rename_i t ho;rw [ho] at hk;simp at hk
 ·rename_i t x ho;rw [ho] at hk;simp at hk
 ·rename_i t ps ho;exact Aie hc hg hs t ps ho h0
 ·rename_i t n ps ho;rw [ho] at hk;simp at hk
 ·rename_i t x ho;rw [ho] at hk;simp at hk
 ·rename_i t x y ho;rw [ho] at hk;simp at hk
 ·rename_i x ho;exact AeI hg hs x ho h0
 ·rename_i op t x y yt ho;exact Ak5 hc hg hs op t x y yt ho h0
 ·rename_i op t x ho;exact op_un hg hs op t x ho h0
 ·rename_i s t x ho;rw [ho] at hty;exact AfM hc hg hs s t x ho (Option.isSome_iff_exists.1 hty) h0
 ·rename_i f fi cs ho;exact AeR hg hs f fi cs ho h0
 ·rename_i t l c ho;rw [ho] at hk;simp at hk
 ·rename_i t x lo hi mx ho;exact AhX hc hg hs t x lo hi mx ho h0
 ·rename_i t x f ho;exact Aeg hc hg hs t x f ho h0
 ·rename_i t x f ho;exact AhI hc hg hs t x f ho h0
 ·rename_i t x i ho;exact Aen hc hg hs t x i ho h0
 ·rename_i x i ho;exact Af0 hg hs x i ho h0
 ·rename_i c ho
  rw [ho] at hk
  simp only at hk
  split at hk
  ·rename_i b hb
   split at hk
   ·rename_i hq;exact Ah4 hc hg hs c b ho hb hq h0
   ·split at hk<;>simp at hk
  ·split at hk
   ·simp at hk
   ·split at hk
    ·split at hk<;>simp at hk
    ·simp at hk
  ·simp at hk
 ·exact h.elim
theorem AhN (hc:CxTy P cx) (hg:Good ι F w H) (hs:Sim ι F w H e a) (hty:opTy cx o=true) (hk:sort cx o≤1) (h:wpQ S (opQ cx o e H) R):Still (OldSame w) P R o ι F H w a:=by
 rcases Nat.lt_or_ge (sort cx o) 1 with h0|h1
 ·exact (Aij hc hg hs hty (by omega) h).mono fun _ _=>trivial
 ·have hk:sort cx o=1:=by omega
  have: ∃t x,o.op= .load t x:=by
   unfold sort at hk
   split at hk<;>simp_all
   repeat' split at hk
   all_goals simp_all
  obtain ⟨t,x,ho⟩:=this
  unfold opTy at hty
  rw [ho] at hty
  exact Ajf hc hg hs t x ho (Option.isSome_iff_exists.1 hty) h
theorem Still.wpK {C:World→Prop} (h:Still C P R o ι F H w a) (hC:C w):o.wp P a w (fun a' w'=>OpPost R o ι F H w a a' w'∧OldSame w w') Q:=by
 obtain ⟨v,H',ι',F',val,h1,h2,h3,h4,h5⟩:=h
 exact AaB (h5 w hC) ⟨⟨v,H',ι',F',val,h1,rfl,h2,h3,h4⟩,.refl w⟩
theorem AfN {ts:List Nat} {vs:List V} (h:wpQ S (builtinV cx .append ts vs H) R): ∃t t' s x,ts= [t,t']∧vs= [s,x]:=by
 unfold builtinV at h
 split at h<;>rename_i hb<;>try contradiction
 ·split at h
  ·exact ⟨_,_,_,_,rfl,rfl⟩
  ·exact h.elim
theorem Akg (hc:CxTy P cx) (hcal:Callable P cx) (hS: ∀f az H R,S (.call f az H) R→CallS P f az H R) (hg:Good ι F w H) (hs:Sim ι F w H e a) (hty:opTy cx o=true) (hk:sort cx o≤2) (h:wpQ S (opQ cx o e H) R):
  o.wp P a w (fun a' w'=>OpPost R o ι F H w a a' w'∧OldSame w w') Q:=by
 rcases Nat.lt_or_ge (sort cx o) 2 with h0|h1
 ·exact (AhN hc hg hs hty (by omega) h).wpK (.refl w)
 have hk:sort cx o=2:=by omega
 clear h1
 unfold sort at hk
 split at hk<;>try contradiction
 ·rename_i t ho;exact AhS hc hg t ho h
 ·rename_i t x ho;exact Aky hg hs t x ho h
 ·rename_i t n ps ho;exact Ad6 hc hg hs t n ps ho h
 ·rename_i t l c ho;exact Aem hc hg hs t l c ho h
 ·rename_i c ho
  split at hk
  ·rename_i b hb
   split at hk
   ·contradiction
   ·split at hk
    ·rename_i tail hargs0 _
     unfold opQ at h
     rw [ho] at h
     simp only [hb] at h
     obtain ⟨consts,hex⟩:=AcW (P:=P) (a:=a) .append c ho hb rfl
     rw [hargs0] at h hex
     generalize hts:c.argTypes=ts at*
     obtain ⟨tl⟩:=ts
     simp only at h
     cases tl with
     |nil=>
      obtain ⟨vs,h1,h2⟩:=AaZ hs (Aaa _ _ _ h)
      obtain ⟨_,_,_,_,e,_⟩:=AfN h1
      simp at e
     |cons t tl=>
      have h:=Aaa _ _ _ h
      simp only [args] at h
      have h1:=Aaa _ _ _ h
      have hn:evalO e (.const (.slice none 0 0))= .nil:=rfl
      rw [hn] at h1
      unfold typed at h1
      simp only at h1
      split at h1
      ·split at h1
       ·replace h1:=Abz (Aaa _ _ _ h1)
        obtain ⟨vs,h2,h3⟩:=AaZ hs (Aaa _ _ _ h1)
        simp only [wpQ] at h2
        obtain ⟨h3,h4⟩:=h3
        simp only [List.map_cons] at hex
        generalize tail.map a.eval=us at*
        obtain ⟨t1,t2,s1,x1,e1,e2⟩:=AfN h2
        simp only [List.cons.injEq] at e1 e2
        obtain ⟨rfl,rfl⟩:=e1
        obtain ⟨rfl,rfl⟩:=e2
        match us,h3 with
        | [u],_=>
         obtain ⟨val,w',k1,⟨r,H',ι',F',q1,q2,q3,q4⟩,k3⟩:=AhE (P:=P) (ty:=o.type) (u:= .slice none 0 0) (v:=u) hc hg (.fit _ _ _ (.slN _ _ _)) (h4 0 _ _ rfl rfl) h2
         refine AaB (w':=w') (val:=val) ?_ ⟨⟨r,H',ι',F',val,q1,rfl,q2,q3,q4⟩,k3 ⟨_,_,rfl⟩⟩
         rw [hex]
         have:a.eval (.const (.slice none 0 0))= .slice none 0 0:=rfl
         simp only [builtin,Sem.run_bind,this,k1,Result.andThen_ok,Sem.run_pure]
       ·exact h1.elim
      ·exact h1.elim
    ·contradiction
  ·rename_i f hf
   split at hk
   ·contradiction
   rename_i hx
   split at hk
   ·rename_i fi hfi
    split at hk
    ·contradiction
    ·rename_i hmode
     unfold opQ at h
     rw [ho] at h
     simp only [hf,hx] at h
     obtain ⟨vs,h1,h2⟩:=AaZ hs (Aaa _ _ _ h)
     have hkk:=Agu (P:=P) hS hg h1 h2
     have hargs:c.args.map a.eval=((c.args.toList.map a.eval).toArray):=AdB _ _
     have hrun:(execOp a.eval o).run P w= .ok (.enter f (c.args.toList.map a.eval).toArray) w:=by
      simp only [execOp,ho,resolve,hf,show a.eval (.func f)= .func (.func f) #[] #[] from rfl]
      simp [Deferred.ofValue,invoke,Abv hcal hfi,hargs]
     unfold Oper.wp
     rw [hrun]
     refine Calls.mono hkk ?_
     rintro en w' ⟨⟨v,r,H',ι',F',rfl,k1,k2,k3,k4⟩,hold⟩
     exact ⟨⟨r,H',ι',F',v,k1,rfl,k2,k3,k4⟩,hold (fun fi' hfi'=>by
      rw [hfi] at hfi'
      simp at hfi'
      subst hfi'
      exact hmode)⟩
   ·contradiction
  ·contradiction
end
end Go.Eva
namespace Go.Eva
open Go.RowKit
theorem AjS (dst:Option Nat) (v:V) (e:Env) (t:Nat):look (put dst v e) t=if dst=some t then v else look e t:=by
 cases dst with
 |none=>simp [put]
 |some d=>
  simp only [put,look]
  by_cases h:d=t
  ·subst h;simp
  ·have:Nat.beq d t=false:=by
    cases hb:Nat.beq d t with
    |false=>rfl
    |true=>exact absurd (Nat.eq_of_beq_eq_true hb) h
   rw [this]
   simp [h]
structure In (n:Nat) (ι:Io) (F:Nat→Prop) (w:World) (H:Heap) (e:Env) (a:Act):Prop where
 good:Good ι F w H
 sim:Sim ι F w H e a
 size:a.tmps.size=n
 defers:a.defers= []
def fitO (cx:Cx) (n:Nat) (o:Oper):Bool:=opTy cx o&&(match o.dst with
 |some d=>Nat.blt d n
 |none=>true)
section
variable {P:Program} {cx:Cx} {S:Task→(Res→Prop)→Prop} {n:Nat} {ι:Io} {F:Nat→Prop} {w:World} {H:Heap} {e:Env} {a:Act}
theorem In.put {ι':Io} {F':Nat→Prop} {w':World} {H':Heap} {o:Oper} {v:V} {val:Value} (h:In n ι F w H e a) (hf:fitO cx n o=true) (hg:Good ι' F' w' H') (hst:Step ι F H w ι' F' H' w') (hv:VR ι' F' w' H' v val):
  In n ι' F' w' H' (Eva.put o.dst v e) (a.put o.dst val):=by
 refine ⟨hg,fun t=> ?_,?_,?_⟩
 ·rw [AjS]
  unfold fitO at hf
  cases hd:o.dst with
  |none=>simp only [Act.put];simpa using hst.vr h.good (h.sim t)
  |some d=>
   rw [hd] at hf
   simp only [Bool.and_eq_true] at hf
   have hlt:d<n:=by simpa using hf.2
   by_cases e:d=t
   ·subst e
    simp [Act.put,h.size,hlt,hv]
   ·have:(some d=some t)=False:=by simp [e]
    simp only [Act.put,this,if_false]
    have h1:=hst.vr h.good (h.sim t)
    simp only [Array.getD_eq_getD_getElem?] at h1⊢
    rw [Array.getElem?_setIfInBounds_ne e]
    exact h1
 ·cases o.dst<;>simp [Act.put,h.size]
 ·cases o.dst<;>simp [Act.put,h.defers]
theorem In.known {g:Nat} {b:Bool} (h:In n ι F w H e a) (hb:look e g= .t (.bool b)):In n ι F w H ((g,.t (.bool b))::e) a:=by
 refine ⟨h.good,fun t=> ?_,h.size,h.defers⟩
 simp only [look]
 split
 ·rename_i hbq
  obtain rfl:=Nat.eq_of_beq_eq_true hbq
  rw [←hb];exact h.sim g
 ·exact h.sim t
theorem AjX:VR ι F w H (.tup []) undef:= .tup [] #[] rfl (by simp)
def NextOk (n:Nat) (ι:Io) (F:Nat→Prop) (w:World) (H:Heap) (R:Env×Heap→Prop) (a':Act) (w':World):Prop:=
 ∃e' H' ι' F',R (e',H')∧In n ι' F' w' H' e' a'∧Step ι F H w ι' F' H' w'
theorem AiJ {ops:Array Oper} {j g:Nat} (h:dstOf ops.toList j=some g):(ops[j]?).bind (·.dst)=some g:=by
 unfold dstOf at h
 rw [Aaj] at h
 simp only [Array.getElem?_toList] at h
 cases ho:ops[j]? with
 |none=>simp [ho] at h
 |some o=>simp [ho] at h;simp [h]
theorem AhQ {g:Nat} {v:V} (h:In n ι F w H e a) (hv:look e g=v):VR ι F w H v (a.tmps.getD g undef):=hv ▸ h.sim g
theorem Ag3 {ops:Array Oper} {j g:Nat} {b:Bool} (hd:dstOf ops.toList j=some g) (h:In n ι F w H e a) (hb:look e g= .t (.bool b)):yielded ops a.tmps j=some b:=by
 have h1:=(AhQ h hb).t_inv.bool_inv
 have hlt:g<a.tmps.size:=by
  rcases Nat.lt_or_ge g a.tmps.size with h|h
  ·exact h
  ·simp [Array.getD,Nat.not_lt.2 h,undef] at h1
 unfold yielded
 rw [AiJ hd]
 simp only [Option.bind_some]
 have:a.tmps[g]?=some (.bool b):=by
  rw [Array.getElem?_eq_getElem hlt]
  simpa [Array.getD,hlt] using h1
 rw [this]
theorem AgT {ops:Array Oper} {j g:Nat} (hd:dstOf ops.toList j=some g) (h:In n ι F w H e a) (hb:look e g= .tup []):yielded ops a.tmps j=none:=by
 have h1:=AhQ h hb
 generalize hu:a.tmps.getD g undef=u at h1
 cases h1 with
 |tup _ cs hl hc=>
 unfold yielded
 rw [AiJ hd]
 simp only [Option.bind_some]
 cases hq:a.tmps[g]? with
 |none=>rfl
 |some v=>
  have:v= .tuple cs:=by
   rw [←hu]
   simp [Array.getD_eq_getD_getElem?,hq]
  subst this
  rfl
variable {ops:Array Oper} {i:Nat} {o:Oper} {R:Env×Heap→Prop} {Q:Exit→Act→World→Prop}
theorem Aeb (hi:In n ι F w H e a) (hf:fitO cx n o=true) (h:wpQ S (stepQ cx ops.toList o e H) R):
  (Region.wanted o (yielded ops a.tmps)=true∧ ∃e1,In n ι F w H e1 a∧wpQ S (opQ cx o e1 H) (fun x=>R (Eva.put o.dst x.1 e1,x.2)))∨
  (Region.wanted o (yielded ops a.tmps)=false∧NextOk n ι F w H R (a.put o.dst undef) w):=by
 have skip: ∀e1,In n ι F w H e1 a→R (Eva.put o.dst (.tup []) e1,H)→NextOk n ι F w H R (a.put o.dst undef) w:=fun e1 hi1 hr=>
  ⟨_,_,ι,F,hr,hi1.put hf hi1.good (.refl ι F H w) AjX,.refl ι F H w⟩
 unfold stepQ at h
 unfold Region.wanted
 split at h
 ·rename_i hg
  rw [hg]
  exact .inl ⟨rfl,e,hi,Aaa _ _ _ h⟩
 ·rename_i j ww hg
  rw [hg]
  simp only
  split at h
  ·rename_i g hd
   split at h
   ·rename_i b hb
    rw [Ag3 hd hi hb]
    simp only [wpQ] at h
    split at h
    ·rename_i hbw
     have:b=ww:=by simpa using hbw
     subst this
     exact .inl ⟨by simp,_,hi.known hb,Aaa _ _ _ h⟩
    ·rename_i hbw
     refine .inr ⟨?_,skip _ (hi.known hb) h⟩
     have:b≠ww:=by simpa using hbw
     simp [this]
   ·rename_i hb
    rw [AgT hd hi hb]
    exact .inr ⟨rfl,skip _ hi h⟩
   ·exact h.elim
  ·exact h.elim
theorem Ajx {a':Act} {w':World} {e1:Env} (hi:In n ι F w H e1 a) (hf:fitO cx n o=true) (h:OpPost (fun x=>R (Eva.put o.dst x.1 e1,x.2)) o ι F H w a a' w'):NextOk n ι F w H R a' w':=by
 obtain ⟨v,H',ι',F',val,h1,rfl,h2,h3,h4⟩:=h
 exact ⟨_,_,ι',F',h1,hi.put hf h2 h3 h4,h3⟩
theorem Aj8 (hc:CxTy P cx) (hcal:Callable P cx) (hS: ∀f az H R,S (.call f az H) R→CallS P f az H R) (ho:ops[i]?=some o) (hi:In n ι F w H e a) (hf:fitO cx n o=true) (h:wpQ S (stepQ cx ops.toList o e H) R):
  wpOp P ops Q i (NextOk n ι F w H R) a w:=by
 unfold wpOp
 rw [ho]
 simp only
 have hty:opTy cx o=true:=by unfold fitO at hf;simp only [Bool.and_eq_true] at hf;exact hf.1
 rcases Aeb hi hf h with ⟨h1,e1,h2,h3⟩|⟨h1,h2⟩
 ·rw [if_pos h1]
  exact .inl (Oper.wp_mono (fun a' w' hp=>Ajx h2 hf hp) (AkZ hc hcal hS h2.good h2.sim hty h3))
 ·rw [h1]
  simpa using h2
theorem Aiq (hc:CxTy P cx) (hcal:Callable P cx) (hS: ∀f az H R,S (.call f az H) R→CallS P f az H R) (ho:ops[i]?=some o) (hi:In n ι F w H e a) (hf:fitO cx n o=true) (hk:sort cx o≤2) (h:wpQ S (stepQ cx ops.toList o e H) R):
  wpOp P ops Q i (fun a' w'=>NextOk n ι F w H R a' w'∧OldSame w w') a w:=by
 unfold wpOp
 rw [ho]
 simp only
 have hty:opTy cx o=true:=by unfold fitO at hf;simp only [Bool.and_eq_true] at hf;exact hf.1
 rcases Aeb hi hf h with ⟨h1,e1,h2,h3⟩|⟨h1,h2⟩
 ·rw [if_pos h1]
  exact .inl (Oper.wp_mono (fun a' w' hp=>⟨Ajx h2 hf hp.1,hp.2⟩) (Akg hc hcal hS h2.good h2.sim hty hk h3))
 ·rw [h1]
  simpa using ⟨h2,.refl w⟩
theorem Af3 {C:World→Prop} (hi:In n ι F w H e a) (hf:fitO cx n o=true) (hst: ∀ {e1:Env} {R:V×Heap→Prop},In n ι F w H e1 a→wpQ S (opQ cx o e1 H) R→Still C P R o ι F H w a) (h:wpQ S (stepQ cx ops.toList o e H) R):
  ∃v,YieldsIf P ops C o v a∧NextOk n ι F w H R (a.put o.dst v) w:=by
 rcases Aeb hi hf h with ⟨h1,e1,h2,h3⟩|⟨h1,h2⟩
 ·obtain ⟨v,H',ι',F',val,k1,k2,k3,k4,k5⟩:=hst h2 h3
  exact ⟨val,.inl ⟨h1,k5⟩,_,_,ι',F',k1,h2.put hf k2 k3 k4,k3⟩
 ·exact ⟨undef,.inr ⟨h1,rfl⟩,h2⟩
theorem AgM (hc:CxTy P cx) (hcal:Callable P cx) (hS: ∀f az H R,S (.call f az H) R→CallS P f az H R) (hfit: ∀o∈ops.toList,fitO cx n o=true): ∀(l:List Oper) (k:Nat),(∀j,l[j]?=ops[k+j]?)→ ∀ {ι:Io} {F:Nat→Prop} {w:World} {H:Heap} {e:Env} {a:Act} {R:Env×Heap→Prop},
  In n ι F w H e a→wpQ S (runOps cx ops.toList l e H) R→(∀a' w',NextOk n ι F w H R a' w'→Q .normal a' w')→wpOps P ops Q (upto k l.length) a w
 | [],k,_,ι,F,w,H,e,a,R,hi,h,hQ=>by
  exact hQ a w ⟨e,H,ι,F,h,hi,.refl ι F H w⟩
 |o::l,k,hl,ι,F,w,H,e,a,R,hi,h,hQ=>by
  have ho:ops[k]?=some o:=by have:=hl 0;simpa using this.symm
  have hmem:o∈ops.toList:=by
   obtain ⟨hlt,rfl⟩:=Array.getElem?_eq_some_iff.1 ho
   simp
  simp only [List.length_cons,upto]
  rw [wpOps_cons]
  refine wpOp_mono ?_ (Aj8 (Q:=Q) hc hcal hS ho hi (hfit o hmem) (Aaa _ _ _ h))
  rintro a' w' ⟨e',H',ι',F',h1,h2,h3⟩
  refine AgM hc hcal hS hfit l (k+1) (fun j=>by have:=hl (j+1);simp at this;rw [this];congr 1;omega) h2 h1 ?_
  rintro a'' w'' ⟨e'',H'',ι'',F'',q1,q2,q3⟩
  exact hQ a'' w'' ⟨e'',H'',ι'',F'',q1,q2,h3.trans q3⟩
theorem Aim (n:Nat):upto 0 n=List.range n:=by
 apply List.ext_getElem?
 intro i
 by_cases h:i<n
 ·rw [Ae5 n 0 i h,List.getElem?_range h,Nat.zero_add]
 ·rw [List.getElem?_eq_none (by rw [AfV];omega),List.getElem?_eq_none (by simp;omega)]
theorem Ajp (hc:CxTy P cx) (hcal:Callable P cx) (hS: ∀f az H R,S (.call f az H) R→CallS P f az H R) (hfit: ∀o∈ops.toList,fitO cx n o=true) {id:Nat} (hi:In n ι F w H e a) (h:wpQ S (runOps cx ops.toList ops.toList e H) R)
  (hQ: ∀a' w',NextOk n ι F w H R a' w'→Q .normal a' w'):(Code.region id ops false).wp P Q a w:=by
 refine wp_region ?_
 rw [←Aim]
 have:=AgM (Q:=Q) hc hcal hS hfit ops.toList 0 (by simp) hi h hQ
 simpa using this
end
end Go.Eva
namespace Go.Eva
open Go.RowKit
section
variable {P:Program} {cx:Cx} {ops:Array Oper} {Q:Exit→Act→World→Prop}
def wpAnyR (P:Program) (cx:Cx) (ops:Array Oper) (Q:Exit→Act→World→Prop):Nat→Array Bool→Act→World→Prop
 |0,listed,a,w=>Region.ready .any ops listed= []∧Q .normal a w
 |f+1,listed,a,w=>(Region.ready .any ops listed= []→Q .normal a w)∧
  ∀i∈Region.ready .any ops listed,wpOp P ops Q i (fun a' w'=>((∀o,ops[i]?=some o→sort cx o≤2)→OldSame w w')∧wpAnyR P cx ops Q f (listed.setIfInBounds i true) a' w') a w
theorem AhC: ∀(f:Nat) (listed:Array Bool) (a:Act) (w:World),wpAnyR P cx ops Q f listed a w→wpAny P .any ops Q f listed a w
 |0,_,_,_,h=>h
 |f+1,_,_,_,h=>⟨h.1,fun i hi=>wpOp_mono (fun a' w' k=>AhC f _ a' w' k.2) (h.2 i hi)⟩
def lateOk (ops:Array Oper) (late:List Nat) (i:Nat):Bool:=late.all fun k=>Nat.beq k i||(match ops[k]? with
 |some o=>o.after.any fun e=>Region.binds .any e&&mem late e.on
 |none=>false)
def lateOf (ops:Array Oper):List Nat→List Nat→List Nat
 | [],acc=>acc
 |j::r,acc=>match ops[j]? with
  |some o=>match o.after.any fun e=>Region.binds .any e&&mem acc e.on with
   |true=>lateOf ops r (acc++ [j])
   |false=>lateOf ops r acc
  |none=>lateOf ops r acc
theorem AkJ {late:List Nat} {i:Nat} (h:lateOk ops late i=true): ∀k∈late,k≠i→ ∃o,ops[k]?=some o∧ ∃e∈o.after,Region.binds .any e=true∧e.on∈late:=by
 intro k hk hne
 have:=List.all_eq_true.1 h k hk
 simp only [Bool.or_eq_true] at this
 rcases this with this|this
 ·exact absurd (Nat.eq_of_beq_eq_true this) hne
 ·split at this
  ·rename_i o ho
   obtain ⟨ed,hed,hb⟩:=Array.any_eq_true'.1 this
   simp only [Bool.and_eq_true] at hb
   exact ⟨o,ho,ed,hed,hb.1,AcX.1 hb.2⟩
  ·contradiction
theorem AfR {i:Nat} {oi:Oper} {v:Value} {C:World→Prop} {late:List Nat} (hi:ops[i]?=some oi) (hsel: ∀(j:Nat) (o:Oper) cs b,ops[j]?=some o→o.op≠ .select cs b) (hQ: ∀c a w,¬Q (.panic c) a w)
  (hlate: ∀k∈late,k≠i→ ∃o,ops[k]?=some o∧ ∃e∈o.after,Region.binds .any e=true∧e.on∈late):
  ∀(f:Nat) (listed:Array Bool) (a:Act) (w:World),(∀k∈late,listed.getD k true=false)→
   (∀j oj,ops[j]?=some oj→j≠i→listed.getD j true=false→j∉late→oi.apart ops oj=true∧ ∀w1 w2,C w1→(sort cx oj≤2→OldSame w1 w2)→C w2)→
   i∈Region.ready .any ops listed→YieldsIf P ops C oi v a→C w→
   wpAnyR P cx ops Q f (listed.setIfInBounds i true) (a.put oi.dst v) w→wpAnyR P cx ops Q (f+1) listed a w:=by
 intro f
 induction f with
 |zero=>
  intro listed a w _ _ hr hy hC h
  refine ⟨fun h0=>by rw [h0] at hr;simp at hr,fun j hj=> ?_⟩
  by_cases e:j=i
  ·subst e;exact hy.wpOp hi hC ⟨fun _=> .refl w,h⟩
  ·have:=ready_mono hj e
   rw [h.1] at this
   simp at this
 |succ f ih=>
  intro listed a w hl hfree hr hy hC h
  refine ⟨fun h0=>by rw [h0] at hr;simp at hr,fun j hj=> ?_⟩
  by_cases e:j=i
  ·subst e;exact hy.wpOp hi hC ⟨fun _=> .refl w,h⟩
  ·have h1:=h.2 j (ready_mono hj e)
   obtain ⟨hun,oj,hoj,hall⟩:=mem_ready.1 hj
   have hnl:j∉late:=by
    intro hjl
    obtain ⟨o,ho,ed,hed,hb,hon⟩:=hlate j hjl e
    rw [hoj] at ho
    obtain rfl:=Option.some.inj ho
    have h2:=hall ed hed hb
    have h3:=hl ed.on hon
    rcases Nat.lt_or_ge ed.on listed.size with hlt|hge
    ·simp [hlt] at h2 h3;rw [h3] at h2;contradiction
    ·simp [Array.getElem?_eq_none hge] at h2
   obtain ⟨hap,hkeep⟩:=hfree j oj hoj e hun hnl
   have h2:=wpOp_putIf hoj hap (fun cs b=>hsel i oi cs b hi) (fun cs b=>hsel j oj cs b hoj) (fun c a w hq=>absurd hq (hQ c _ w)) hy h1
   refine wpOp_mono (fun a' w' k=>⟨k.2.1,?_⟩) h2
   have hC':C w':=hkeep w w' hC (fun hs=>k.2.1 (fun o ho=>by rw [hoj] at ho;obtain rfl:=Option.some.inj ho;exact hs))
   refine ih (listed.setIfInBounds j true) a' w' ?_ ?_ (ready_mono hr (Ne.symm e)) k.1 hC' ?_
   ·intro k' hk'
    rw [getD_set_ne true (show j≠k' from fun h=>hnl (by rw [h];exact hk'))]
    exact hl k' hk'
   ·intro k' ok hk hki hunk hno
    refine hfree k' ok hk hki ?_ hno
    by_cases hjk:j=k'
    ·subst hjk;exact hun
    ·rw [getD_set_ne true hjk] at hunk;exact hunk
   ·rw [Array.setIfInBounds_comm _ _ e]
    exact k.2.2
def freeL (cx:Cx) (ops:Array Oper) (listed:Array Bool) (late:List Nat) (i:Nat) (oi:Oper) (ld:Bool):Bool:=lateOk ops late i&&late.all (fun k=> !listed.getD k true)&&(List.range ops.size).all fun j=>
 Nat.beq j i||listed.getD j true||mem late j||(match ops[j]? with
  |some o=>oi.apart ops o&&(!ld||Nat.ble (sort cx o) 2)
  |none=>true)
theorem AhT {listed:Array Bool} {late:List Nat} {i:Nat} {oi:Oper} {ld:Bool} (h:freeL cx ops listed late i oi ld=true):
  (∀k∈late,k≠i→ ∃o,ops[k]?=some o∧ ∃e∈o.after,Region.binds .any e=true∧e.on∈late)∧(∀k∈late,listed.getD k true=false)∧
  ∀(j:Nat) oj,ops[j]?=some oj→j≠i→listed.getD j true=false→j∉late→oi.apart ops oj=true∧(ld=true→sort cx oj≤2):=by
 unfold freeL at h
 simp only [Bool.and_eq_true] at h
 refine ⟨AkJ h.1.1,fun k hk=> ?_,?_⟩
 ·have:=List.all_eq_true.1 h.1.2 k hk
  simpa using this
 intro j oj hj hne hl hno
 have hlt:=(Array.getElem?_eq_some_iff.1 hj).1
 have:=List.all_eq_true.1 h.2 j (List.mem_range.2 hlt)
 simp only [hl,hj,Bool.or_eq_true,Bool.or_false] at this
 rcases this with (this|this)|this
 ·exact absurd (Nat.eq_of_beq_eq_true this) hne
 ·exact absurd (AcX.1 this) hno
 ·simp only [Bool.and_eq_true,Bool.or_eq_true] at this
  refine ⟨this.1,fun hld=> ?_⟩
  rcases this.2 with h|h
  ·rw [hld] at h;simp at h
  ·exact Nat.le_of_ble_eq_true h
def isOne (l:List Nat) (i:Nat):Bool:=match l with
 | [x]=>Nat.beq x i
 |_=>false
def isTwo (l:List Nat) (i j:Nat):Bool:=match l with
 | [x,y]=>Nat.beq x i&&Nat.beq y j
 |_=>false
def okTo (cx:Cx) (ops:Array Oper) (fin:Nat→Array Bool→Bool):Ord→Nat→Array Bool→List Nat→Bool
 | .done,f,listed,ex=>ex.isEmpty&&fin f listed
 | .one _ _,0,_,_=>false
 | .one i r,f+1,listed,ex=>(match ops[i]? with
  |some o=>match ex with
   | []=>(Region.ready .any ops listed).contains i&&(match sort cx o with
    |0=>freeL cx ops listed (lateOf ops (List.range ops.size) [i]) i o false
    |1=>freeL cx ops listed (lateOf ops (List.range ops.size) [i]) i o true
    |_=>isOne (Region.ready .any ops listed) i)
   |ex=>isOne ((Region.ready .any ops listed).filter fun k=> !mem ex k) i
  |none=>false)&&okTo cx ops fin r f (listed.setIfInBounds i true) []
 | .two _ _ _ _,0,_,_=>false
 | .two i r j s,f+1,listed,ex=>ex.isEmpty&&(isTwo (Region.ready .any ops listed) i j&&okTo cx ops fin r f (listed.setIfInBounds i true) []&&okTo cx ops fin s f (listed.setIfInBounds j true) [])
 | .alt _ _ _,0,_,_=>false
 | .alt i r s,f+1,listed,ex=>(Region.ready .any ops listed).contains i&&(okTo cx ops fin r f (listed.setIfInBounds i true) []&&okTo cx ops fin s (f+1) listed (i::ex))
def okEnd (ops:Array Oper) (_:Nat) (listed:Array Bool):Bool:=(Region.ready .any ops listed).isEmpty
def okOrd (cx:Cx) (ops:Array Oper) (d:Ord) (f:Nat) (listed:Array Bool) (ex:List Nat):Bool:=okTo cx ops (okEnd ops) d f listed ex
variable {S:Task→(Res→Prop)→Prop} {n:Nat}
theorem Ah7 {l:List Nat} {i:Nat} (h:isOne l i=true):l= [i]:=by
 unfold isOne at h
 split at h
 ·rename_i x;rw [Nat.eq_of_beq_eq_true h]
 ·contradiction
theorem Ale (hc:CxTy P cx) (hcal:Callable P cx) (hS: ∀f az H R,S (.call f az H) R→CallS P f az H R) (hfit: ∀o∈ops.toList,fitO cx n o=true) (hsel:Region.noSelect ops=true) (hQ: ∀c a w,¬Q (.panic c) a w) {fin:Nat→Array Bool→Bool}: ∀(d:Ord) (f:Nat) (listed:Array Bool) (ex:List Nat) {ι:Io} {F:Nat→Prop} {w:World} {H:Heap} {e:Env} {a:Act} {R:Env×Heap→Prop},
  okTo cx ops fin d f listed ex=true→In n ι F w H e a→wpQ S (ordQ cx ops.toList d e H) R→(∀f listed,fin f listed=true→ ∀a' w',NextOk n ι F w H R a' w'→wpAnyR P cx ops Q f listed a' w')→(ex= []→wpAnyR P cx ops Q f listed a w)∧
   ∀g,f=g+1→ ∀k∈Region.ready .any ops listed,k∉ex→wpOp P ops Q k (fun a' w'=>((∀o,ops[k]?=some o→sort cx o≤2)→OldSame w w')∧wpAnyR P cx ops Q g (listed.setIfInBounds k true) a' w') a w:=by
 intro d
 have fit: ∀ {i:Nat} {o:Oper},ops[i]?=some o→fitO cx n o=true:=by
  intro i o ho
  obtain ⟨hlt,rfl⟩:=Array.getElem?_eq_some_iff.1 ho
  exact hfit _ (by simp)
 have both: ∀ {f:Nat} {listed:Array Bool} {a:Act} {w:World} {ex:List Nat},ex= []→wpAnyR P cx ops Q f listed a w→(ex= []→wpAnyR P cx ops Q f listed a w)∧
   ∀g,f=g+1→ ∀k∈Region.ready .any ops listed,k∉ex→wpOp P ops Q k (fun a' w'=>((∀o,ops[k]?=some o→sort cx o≤2)→OldSame w w')∧wpAnyR P cx ops Q g (listed.setIfInBounds k true) a' w') a w:=by
  intro f listed a w ex _ h
  exact ⟨fun _=>h,fun g hg k hk _=>by subst hg;exact h.2 k hk⟩
 have go: ∀(i:Nat) (o:Oper) (r:Ord) (f:Nat) (listed:Array Bool) {ι:Io} {F:Nat→Prop} {w:World} {H:Heap} {e:Env} {a:Act} {R:Env×Heap→Prop},In n ι F w H e a→(∀f listed,fin f listed=true→ ∀a' w',NextOk n ι F w H R a' w'→wpAnyR P cx ops Q f listed a' w')→ops[i]?=some o→okTo cx ops fin r f (listed.setIfInBounds i true) []=true→(∀(f:Nat) (listed:Array Bool) (ex:List Nat) {ι:Io} {F:Nat→Prop} {w:World} {H:Heap} {e:Env} {a:Act} {R:Env×Heap→Prop},
   okTo cx ops fin r f listed ex=true→In n ι F w H e a→wpQ S (ordQ cx ops.toList r e H) R→(∀f listed,fin f listed=true→ ∀a' w',NextOk n ι F w H R a' w'→wpAnyR P cx ops Q f listed a' w')→(ex= []→wpAnyR P cx ops Q f listed a w)∧
   ∀g,f=g+1→ ∀k∈Region.ready .any ops listed,k∉ex→wpOp P ops Q k (fun a' w'=>((∀o,ops[k]?=some o→sort cx o≤2)→OldSame w w')∧wpAnyR P cx ops Q g (listed.setIfInBounds k true) a' w') a w)→wpQ S ((stepQ cx ops.toList o e H).bind fun (e,H)=>ordQ cx ops.toList r e H) R→
   wpOp P ops Q i (fun a' w'=>((∀o,ops[i]?=some o→sort cx o≤2)→OldSame w w')∧wpAnyR P cx ops Q f (listed.setIfInBounds i true) a' w') a w:=by
  intro i o r f listed ι F w H e a R hi hq ho hokr ih h
  have h1:=Aaa _ _ _ h
  have next: ∀a' w',NextOk n ι F w H (fun x=>wpQ S (ordQ cx ops.toList r x.1 x.2) R) a' w'→wpAnyR P cx ops Q f (listed.setIfInBounds i true) a' w':=by
   rintro a' w' ⟨e',H',ι',F',k1,k2,k3⟩
   refine (ih f _ [] hokr k2 k1 ?_).1 rfl
   rintro f' listed' hfin a'' w'' ⟨e'',H'',ι'',F'',q1,q2,q3⟩
   exact hq f' listed' hfin a'' w'' ⟨e'',H'',ι'',F'',q1,q2,k3.trans q3⟩
  by_cases hs:sort cx o≤2
  ·exact wpOp_mono (fun a' w' k=>⟨fun _=>k.2,next a' w' k.1⟩) (Aiq hc hcal hS ho hi (fit ho) hs h1)
  ·exact wpOp_mono (fun a' w' k=>⟨fun hh=>absurd (hh o ho) hs,next a' w' k⟩) (Aj8 hc hcal hS ho hi (fit ho) h1)
 induction d with
 |done=>
  intro f listed ex ι F w H e a R hok hi h hq
  simp only [okTo,Bool.and_eq_true] at hok
  have hex:ex= []:=by simpa using hok.1
  exact both hex (hq f listed hok.2 a w ⟨e,H,ι,F,h,hi,.refl ι F H w⟩)
 |one i r ih=>
  intro f listed ex ι F w H e a R hok hi h hq
  cases f with
  |zero=>simp [okTo] at hok
  |succ f=>
   simp only [okTo,Bool.and_eq_true] at hok
   obtain ⟨hok1,hok2⟩:=hok
   unfold ordQ at h
   rw [Aaj] at h
   simp only [Array.getElem?_toList] at h
   split at hok1
   ·rename_i o ho
    rw [ho] at h
    simp only at h
    split at hok1
    ·refine both rfl ?_
     have h1:=Aaa _ _ _ h
     simp only [Bool.and_eq_true,List.contains_eq_mem,decide_eq_true_eq] at hok1
     obtain ⟨hrd,hok1⟩:=hok1
     have next: ∀a' w',NextOk n ι F w H (fun x=>wpQ S (ordQ cx ops.toList r x.1 x.2) R) a' w'→wpAnyR P cx ops Q f (listed.setIfInBounds i true) a' w':=by
      rintro a' w' ⟨e',H',ι',F',k1,k2,k3⟩
      refine (ih f _ [] hok2 k2 k1 ?_).1 rfl
      rintro f' listed' hfin a'' w'' ⟨e'',H'',ι'',F'',q1,q2,q3⟩
      exact hq f' listed' hfin a'' w'' ⟨e'',H'',ι'',F'',q1,q2,k3.trans q3⟩
     have hty:opTy cx o=true:=by have:=fit ho;unfold fitO at this;simp only [Bool.and_eq_true] at this;exact this.1
     split at hok1
     ·rename_i hs
      obtain ⟨v,k1,k2⟩:=Af3 (P:=P) (ops:=ops) (C:=Any) hi (fit ho) (fun hi' h'=>Aij hc hi'.good hi'.sim hty hs h') h1
      obtain ⟨q1,q2,q3⟩:=AhT hok1
      exact AfR ho (Region.noSelect_spec hsel) hQ q1 f listed a w q2 (fun j oj hj hne hl hno=>⟨(q3 j oj hj hne hl hno).1,fun _ _ _ _=>trivial⟩) hrd k1 trivial (next _ _ k2)
     ·rename_i hs
      obtain ⟨q1,q2,q3⟩:=AhT hok1
      obtain ⟨v,k1,k2⟩:=Af3 (P:=P) (ops:=ops) (C:=OldSame w) hi (fit ho) (fun hi' h'=>AhN hc hi'.good hi'.sim hty (by omega) h') h1
      exact AfR ho (Region.noSelect_spec hsel) hQ q1 f listed a w q2 (fun j oj hj hne hl hno=>⟨(q3 j oj hj hne hl hno).1,fun w1 w2 hw1 hk=>hw1.trans (hk ((q3 j oj hj hne hl hno).2 rfl))⟩) hrd k1 (.refl w) (next _ _ k2)
     ·have hone:=Ah7 hok1
      refine ⟨fun h0=>by rw [hone] at h0;simp at h0,fun j hj=> ?_⟩
      rw [hone] at hj
      simp only [List.mem_singleton] at hj
      subst hj
      exact go _ o r f listed hi hq ho hok2 ih h
    ·rename_i hex
     refine ⟨fun e=>absurd e hex,fun g hg k hk hne=> ?_⟩
     obtain rfl:f=g:=by omega
     have hone:=Ah7 hok1
     have:k∈(Region.ready .any ops listed).filter fun k=> !mem ex k:=by
      rw [List.mem_filter]
      refine ⟨hk,?_⟩
      cases hm:mem ex k with
      |false=>rfl
      |true=>exact absurd (AcX.1 hm) hne
     rw [hone] at this
     simp only [List.mem_singleton] at this
     subst this
     exact go _ o r f listed hi hq ho hok2 ih h
   ·contradiction
 |two i r j s ihr ihs=>
  intro f listed ex ι F w H e a R hok hi h hq
  cases f with
  |zero=>simp [okTo] at hok
  |succ f=>
   simp only [okTo,Bool.and_eq_true] at hok
   obtain ⟨hex,⟨hok1,hokr⟩,hoks⟩:=hok
   refine both (by simpa using hex) ?_
   have htwo:Region.ready .any ops listed= [i,j]:=by
    unfold isTwo at hok1
    split at hok1
    ·rename_i x y hx
     simp only [Bool.and_eq_true] at hok1
     rw [hx,Nat.eq_of_beq_eq_true hok1.1,Nat.eq_of_beq_eq_true hok1.2]
    ·contradiction
   unfold ordQ at h
   rw [Aaj,Aaj] at h
   simp only [Array.getElem?_toList] at h
   split at h
   ·rename_i o p ho hp
    obtain ⟨h1,h2⟩:=h
    refine ⟨fun h0=>by rw [htwo] at h0;simp at h0,fun k hk=> ?_⟩
    rw [htwo] at hk
    simp only [List.mem_cons,List.not_mem_nil,or_false] at hk
    rcases hk with rfl|rfl
    ·exact go _ o r f listed hi hq ho hokr ihr h1
    ·exact go _ p s f listed hi hq hp hoks ihs h2
   ·exact h.elim
 |alt i r s ihr ihs=>
  intro f listed ex ι F w H e a R hok hi h hq
  cases f with
  |zero=>simp [okTo] at hok
  |succ f=>
   simp only [okTo,Bool.and_eq_true,List.contains_eq_mem,decide_eq_true_eq] at hok
   obtain ⟨hrd,hokr,hoks⟩:=hok
   unfold ordQ at h
   rw [Aaj] at h
   simp only [Array.getElem?_toList] at h
   split at h
   ·rename_i o ho
    obtain ⟨h1,h2⟩:=h
    have key: ∀k∈Region.ready .any ops listed,k∉ex→wpOp P ops Q k (fun a' w'=>((∀o,ops[k]?=some o→sort cx o≤2)→OldSame w w')∧wpAnyR P cx ops Q f (listed.setIfInBounds k true) a' w') a w:=by
     intro k hk hne
     by_cases hki:k=i
     ·subst hki
      exact go _ o r f listed hi hq ho hokr ihr h1
     ·exact (ihs (f+1) listed (i::ex) hoks hi h2 hq).2 f rfl k hk (by simp [hki,hne])
    refine ⟨fun hex=>⟨fun h0=>by rw [h0] at hrd;simp at hrd,fun k hk=>key k hk (by rw [hex];simp)⟩,fun g hg k hk hne=> ?_⟩
    obtain rfl:f=g:=by omega
    exact key k hk hne
   ·exact h.elim
theorem AkR (hc:CxTy P cx) (hcal:Callable P cx) (hS: ∀f az H R,S (.call f az H) R→CallS P f az H R) (hfit: ∀o∈ops.toList,fitO cx n o=true) (hsel:Region.noSelect ops=true) (hQ: ∀c a w,¬Q (.panic c) a w) {d:Ord} {id:Nat} {ι:Io} {F:Nat→Prop} {w:World} {H:Heap} {e:Env} {a:Act} {R:Env×Heap→Prop}
  (hok:okOrd cx ops d ops.size (Array.replicate ops.size false) []=true) (hi:In n ι F w H e a) (h:wpQ S (ordQ cx ops.toList d e H) R) (hq: ∀a' w',NextOk n ι F w H R a' w'→Q .normal a' w'):(Code.region id ops true).wp P Q a w:=by
 refine wp_region_any hc.orders (AhC (cx:=cx) _ _ _ _ ?_)
 obtain ⟨d1,d2⟩:=Ags hi.good
 have hi':In n ι F {w with drawn:=w.drawn+1} H e a:=⟨d1,fun t=>d2.vr hi.good (hi.sim t),hi.size,hi.defers⟩
 refine (Ale hc hcal hS hfit hsel hQ d _ _ [] hok hi' h ?_).1 rfl
 rintro f listed hfin a' w' ⟨e',H',ι',F',q1,q2,q3⟩
 have hr:Region.ready .any ops listed= []:=by simpa [okEnd] using hfin
 have hQ1:=hq a' w' ⟨e',H',ι',F',q1,q2,d2.trans q3⟩
 cases f with
 |zero=>exact ⟨hr,hQ1⟩
 |succ f=>exact ⟨fun _=>hQ1,by rw [hr];simp⟩
end
end Go.Eva
namespace Go.Eva
open Go.RowKit
def exEq:Exit→Ex→Prop
 | .normal,.normal=>True
 | .exit i,.exit j=>i=j
 | .ret,.ret=>True
 |_,_=>False
def LoopWp (P:Program) (c:Code) (Q:Exit→Act→World→Prop) (a:Act) (w:World):Prop:=
 ∀(b:Frame) (k:List Item) (cs:List Frame),∃e a' w',Q e a' w'∧Arrives P (lone (b.at a (.code c:: .inLoop c::k)) cs w) b k cs e a' w'
theorem LoopWp.wp {P:Program} {c:Code} {Q:Exit→Act→World→Prop} {a:Act} {w:World} (h:LoopWp P c Q a w):(Code.loop c).wp P Q a w:=fun b k cs=>
 let ⟨e,a',w',q,r⟩:=h b k cs;⟨e,a',w',q,.of_steps (.one step_loop) r⟩
theorem LoopWp.round {P:Program} {c:Code} {Q:Exit→Act→World→Prop} {a:Act} {w:World} (h:c.wp P (Exit.then (LoopWp P c Q) Q) a w):LoopWp P c Q a w:=by
 intro b k cs
 obtain ⟨e,a₁,w₁,hq,harr⟩:=h b (.inLoop c::k) cs
 cases e with
 |normal=>
  obtain ⟨e₂,a₂,w₂,hq₂,harr₂⟩:=hq b k cs
  exact ⟨e₂,a₂,w₂,hq₂,.of_steps (Steps.trans harr (.one step_inLoop)) harr₂⟩
 |exit id=>exact ⟨_,a₁,w₁,hq,.pass (x:= .inLoop c) rfl (fun _ _=> .inl (by simp)) harr⟩
 |goto l=>exact ⟨_,a₁,w₁,hq,.pass (x:= .inLoop c) rfl (fun _ _=> .inl (by simp)) harr⟩
 |ret=>exact ⟨_,a₁,w₁,hq,.pass (x:= .inLoop c) rfl (fun _ _=> .inl (by simp)) harr⟩
 |panic ch=>exact ⟨_,a₁,w₁,hq,.pass (x:= .inLoop c) rfl (fun _ _=> .inl (by simp)) harr⟩
 |outgrown=>exact ⟨_,a₁,w₁,hq,.pass (x:= .inLoop c) rfl (fun _ _=> .inl (by simp)) harr⟩
def fitC (cx:Cx) (fi:FI) (n:Nat):Code→Bool
 | .region id ops draw=>ops.toList.all (fitO cx n)&&(match draw with
  |false=>true
  |true=>Region.noSelect ops&&(match drawAt fi.draws id with
   |some d=>okOrd cx ops d ops.size (Array.replicate ops.size false) []
   |none=>true))
 | .seq a b=>fitC cx fi n a&&fitC cx fi n b
 | .cond _ a b=>fitC cx fi n a&&fitC cx fi n b
 | .block _ a=>fitC cx fi n a
 | .loop a=>fitC cx fi n a
 |_=>true
theorem AkF {cx:Cx} {n m:Nat} {o:Oper} (h:fitO cx n o=true) (hnm:n≤m):fitO cx m o=true:=by
 unfold fitO at*
 simp only [Bool.and_eq_true] at*
 refine ⟨h.1,?_⟩
 cases hd:o.dst with
 |none=>rfl
 |some d=>
  rw [hd] at h
  have:d<n:=by simpa using h.2
  simpa using Nat.lt_of_lt_of_le this hnm
theorem Ak8 {cx:Cx} {fi:FI} {n m:Nat} (hnm:n≤m): ∀ {c:Code},fitC cx fi n c=true→fitC cx fi m c=true:=by
 intro c
 induction c with
 |region id ops draw=>
  intro h
  simp only [fitC,Bool.and_eq_true] at*
  refine ⟨List.all_eq_true.2 fun o ho=>AkF (List.all_eq_true.1 h.1 o ho) hnm,h.2⟩
 |seq a b iha ihb=>intro h;simp only [fitC,Bool.and_eq_true] at*;exact ⟨iha h.1,ihb h.2⟩
 |cond c a b iha ihb=>intro h;simp only [fitC,Bool.and_eq_true] at*;exact ⟨iha h.1,ihb h.2⟩
 |block id a ih=>intro h;simp only [fitC] at*;exact ih h
 |loop a ih=>intro h;simp only [fitC] at*;exact ih h
 |_=>intro _;rfl
def rvOf:ResultVar→RV
 | .tmp t=> .tmp t
 | .cell a t=> .cell a t
def rvTy (cx:Cx):RV→Bool
 | .tmp _=>true
 | .cell _ t=>(cx.ti.get t).isSome
structure FnOK (P:Program) (cx:Cx) (f:Nat) (fi:FI) (fn:Func):Prop where
 at_:P.funcs[f]?=some fn
 name : fn.name ≠ "runtime.NumGoroutine"
 body:fn.body=some fi.code
 res:fn.results.toList.map rvOf=fi.res
 resTy:fi.res.all (rvTy cx)=true
 fit:fitC cx fi fn.ntmps fi.code=true
def FnsOK (P:Program) (cx:Cx):Prop:= ∀f fi,cx.fn.get f=some (some fi)→ ∃fn,FnOK P cx f fi fn
theorem FnsOK.callable {P:Program} {cx:Cx} (h:FnsOK P cx):Callable P cx:=by
 intro f fi hf
 obtain ⟨fn,k⟩:=h f fi hf
 exact ⟨fn,k.at_,k.name,by rw [k.body];simp⟩
def LoopS (P:Program) (cx:Cx) (f:Nat) (p:List Nat) (keep:Nat) (vs:List V) (H:Heap) (R:Res→Prop):Prop:=
 ∀fi c live n,cx.fn.get f=some (some fi)→subAt fi.code p=some (.loop c)→liveAt fi.live p=some live→fitC cx fi n fi.code=true→
  ∀(w:World) (ι:Io) (F:Nat→Prop) (a:Act),In n ι F w H (zipE live vs) a→
   LoopWp P c (fun ex a' w'=> ∃x ι' F',R x∧exEq ex x.e∧In n ι' F' w' x.H (zipE live x.vs) a'∧Ext keep ι F H w ι' F' x.H w') a w
def TaskS (P:Program) (cx:Cx):Task→(Res→Prop)→Prop
 | .call f az H,R=>CallS P f az H R
 | .loop f p keep vs H,R=>LoopS P cx f p keep vs H R
theorem AkC {cx:Cx} {fi:FI} {n:Nat} {c:Code} (h:fitC cx fi n c=true): ∀ {p:List Nat} {d:Code},subAt c p=some d→fitC cx fi n d=true:=by
 intro p
 induction p with
 |nil=>intro d hd;simp [subAt] at hd;subst hd;exact h
 |cons k p ih=>
  intro d hd
  simp only [subAt] at hd
  split at hd
  ·rename_i a b hs
   have:=ih hs
   simp only [fitC,Bool.and_eq_true] at this
   split at hd<;>(simp at hd;subst hd)
   ·exact this.1
   ·exact this.2
  ·rename_i a b hs
   have:=ih hs
   simp only [fitC,Bool.and_eq_true] at this
   split at hd<;>(simp at hd;subst hd)
   ·exact this.1
   ·exact this.2
  ·rename_i a hs
   have:=ih hs
   simp only [fitC] at this
   simp at hd;subst hd;exact this
  ·rename_i a hs
   have:=ih hs
   simp only [fitC] at this
   simp at hd;subst hd;exact this
  ·contradiction
section
variable {P:Program} {cx:Cx} {S:Task→(Res→Prop)→Prop} {n:Nat}
def slots (a:Act) (live:List Nat):List Value:=live.map fun t=>a.tmps.getD t undef
theorem Agc {ι:Io} {F:Nat→Prop} {w:World} {H:Heap} {e:Env} {a:Act} (hi:In n ι F w H e a): ∀ {live:List Nat} {R:List V→Prop},wpQ S (looks e live) R→ ∃vs,R vs∧VRs ι F w H vs (slots a live)
 | [],R,h=>⟨[],h,rfl,by simp⟩
 |t::live,R,h=>by
  have h1:=Aat (Aaa _ _ _ h)
  obtain ⟨vs,h2,h3,h4⟩:=Agc hi (Aaa _ _ _ h1)
  refine ⟨_::vs,h2,by simp [slots,h3],?_⟩
  intro i v u hv hu
  cases i with
  |zero=>simp [slots] at hv hu;subst hv;subst hu;simpa using hi.sim t
  |succ i=>simp [slots] at hv hu;exact h4 i v u hv (by simpa [slots] using hu)
theorem Ae0 {ι:Io} {F:Nat→Prop} {w:World} {H:Heap} {a:Act}: ∀ {live:List Nat} {vs:List V},VRs ι F w H vs (slots a live)→Sim ι F w H (zipE live vs) a
 | [],vs,_,t=>by cases vs<;>exact .t _ _ (.any _)
 |_::_,[],_,t=> .t _ _ (.any _)
 |x::live,v::vs,h,t=>by
  simp only [zipE,look]
  split
  ·rename_i hb
   obtain rfl:=Nat.eq_of_beq_eq_true hb
   exact h.2 0 v _ rfl rfl
  ·exact Ae0 (live:=live) (vs:=vs) ⟨by have:=h.1;simpa [slots] using this,fun i v u h1 h2=>h.2 (i+1) v u (by simpa using h1) (by simpa [slots] using h2)⟩ t
def ExecQ (n keep:Nat) (ι:Io) (F:Nat→Prop) (H:Heap) (w:World) (R:Ex×Env×Heap→Prop) (ex:Exit) (a':Act) (w':World):Prop:=
 ∃x e' H' ι' F',exEq ex x∧R (x,e',H')∧In n ι' F' w' H' e' a'∧Ext keep ι F H w ι' F' H' w'
theorem Aj9 (hc:CxTy P cx) (hfn:FnsOK P cx) (hS: ∀t R,S t R→TaskS P cx t R) {f:Nat} {fi:FI} (hf:cx.fn.get f=some (some fi)) (hfit:fitC cx fi n fi.code=true) (keep:Nat):
  ∀(c:Code) (p:List Nat),subAt fi.code p=some c→ ∀ {ι:Io} {F:Nat→Prop} {w:World} {H:Heap} {e:Env} {a:Act} {R:Ex×Env×Heap→Prop},In n ι F w H e a→wpQ S (exec cx f fi keep p c e H) R→c.wp P (ExecQ n keep ι F H w R) a w:=by
 have hSc: ∀f az H R,S (.call f az H) R→CallS P f az H R:=fun f az H R h=>hS _ _ h
 have hcal:=hfn.callable
 have nop: ∀ {ι:Io} {F:Nat→Prop} {w:World} {H:Heap} {R:Ex×Env×Heap→Prop} c a w',¬ExecQ n keep ι F H w R (.panic c) a w':=by
  rintro ι F w H R c a w' ⟨x,_,_,_,_,hx,_⟩
  cases x<;>exact hx
 have same: ∀ {ι:Io} {F:Nat→Prop} {w:World} {H:Heap},Ext keep ι F H w ι F H w:=fun {ι F w H}=>(Step.refl ι F H w).ext keep
 have nextQ: ∀ {ι:Io} {F:Nat→Prop} {w:World} {H:Heap} {R:Ex×Env×Heap→Prop} a' w',NextOk n ι F w H (fun x=>R (.normal,x.1,x.2)) a' w'→ExecQ n keep ι F H w R .normal a' w':=by
  rintro ι F w H R a' w' ⟨e',H',ι',F',k1,k2,k3⟩
  exact ⟨.normal,e',H',ι',F',trivial,k1,k2,k3.ext keep⟩
 intro c
 induction c with
 |skip=>intro p _ ι F w H e a R hi h;exact wp_skip ⟨.normal,e,H,ι,F,trivial,h,hi,same⟩
 |region id ops draw=>
  intro p hp ι F w H e a R hi h
  have hfr:=AkC hfit hp
  simp only [fitC,Bool.and_eq_true] at hfr
  have hall:=fun o ho=>List.all_eq_true.1 hfr.1 o ho
  cases draw with
  |false=>
   simp only [exec] at h
   exact Ajp hc hcal hSc hall hi (Aaa _ _ _ h) nextQ
  |true=>
   simp only [exec] at h
   split at h
   ·rename_i d hd
    have hfr2:=hfr.2
    rw [hd] at hfr2
    simp only [Bool.and_eq_true] at hfr2
    exact AkR hc hcal hSc hall hfr2.1 nop hfr2.2 hi (Aaa _ _ _ h) nextQ
   ·exact h.elim
 |seq x y ihx ihy=>
  intro p hp ι F w H e a R hi h
  simp only [exec] at h
  refine wp_seq (wp_mono (ihx (0::p) (by simp [subAt,hp]) hi (Aaa _ _ _ h)) ?_)
  rintro ex a' w' ⟨x',e',H',ι',F',hx,hr,hi',he⟩
  cases ex<;>cases x'<;>simp only [exEq] at hx
  ·simp only [Exit.then]
   refine wp_mono (ihy (1::p) (by simp [subAt,hp]) hi' hr) ?_
   rintro ex2 a2 w2 ⟨x2,e2,H2,ι2,F2,hx2,hr2,hi2,he2⟩
   exact ⟨x2,e2,H2,ι2,F2,hx2,hr2,hi2,he.trans he2⟩
  ·exact ⟨.exit _,e',H',ι',F',hx,hr,hi',he⟩
  ·exact ⟨.ret,e',H',ι',F',trivial,hr,hi',he⟩
 |cond co x y ihx ihy=>
  intro p hp ι F w H e a R hi h
  simp only [exec] at h
  split at h
  ·rename_i t ht
   have hev:=Aal hi.sim co
   rw [ht] at hev
   have hev:=hev.t_inv.bool_inv
   simp only [wpQ] at h
   refine wp_cond (t:=t) hev ?_
   cases t with
   |true=>exact ihx (0::p) (by simp [subAt,hp]) hi h
   |false=>exact ihy (1::p) (by simp [subAt,hp]) hi h
  ·exact h.elim
 |block id x ih=>
  intro p hp ι F w H e a R hi h
  simp only [exec] at h
  refine wp_block (wp_mono (ih (0::p) (by simp [subAt,hp]) hi (Aaa _ _ _ h)) ?_)
  rintro ex a' w' ⟨x',e',H',ι',F',hx,hr,hi',he⟩
  cases ex<;>cases x'<;>simp only [exEq] at hx
  ·exact ⟨.normal,e',H',ι',F',trivial,hr,hi',he⟩
  ·rename_i i j
   subst hx
   simp only [Exit.inBlock]
   simp only at hr
   by_cases hij:i=id
   ·subst hij
    rw [if_pos rfl]
    have:Nat.beq i i=true:=by simp
    rw [this] at hr
    exact ⟨.normal,e',H',ι',F',trivial,hr,hi',he⟩
   ·rw [if_neg hij]
    have:Nat.beq i id=false:=by
     cases hb:Nat.beq i id with
     |false=>rfl
     |true=>exact absurd (Nat.eq_of_beq_eq_true hb) hij
    rw [this] at hr
    exact ⟨.exit i,e',H',ι',F',rfl,hr,hi',he⟩
  ·exact ⟨.ret,e',H',ι',F',trivial,hr,hi',he⟩
 |loop x ih=>
  intro p hp ι F w H e a R hi h
  simp only [exec] at h
  split at h
  ·rename_i live hlive
   obtain ⟨vs,h1,h2⟩:=Agc hi (Aaa _ _ _ h)
   obtain ⟨vs1,H1,ι1,h1,hg1,hs1,h2⟩:=Ajj hi.good (Aaa _ _ _ h1) h2
   obtain ⟨g,ιg,h3,_,_,_,hgg,hgv,hge⟩:=gc_ok hg1 (Aaa _ _ _ h1) h2
   replace hge:=(hs1.ext keep).trans hge
   obtain ⟨R',hR',_,h4⟩:=h3
   have hig:In n ιg F w g.H (zipE live g.vs) a:=⟨hgg,Ae0 hgv,hi.size,hi.defers⟩
   have hloop:=hS _ _ hR' fi x live n hf hp hlive hfit w ιg F a hig
   refine wp_mono hloop.wp ?_
   rintro ex a' w' ⟨r,ι',F',hr,hx,hi',he⟩
   exact ⟨r.e,zipE live r.vs,r.H,ι',F',hx,h4 r hr,hi',hge.trans he⟩
  ·exact h.elim
 |exit id=>intro p _ ι F w H e a R hi h;exact wp_exit ⟨.exit id,e,H,ι,F,rfl,h,hi,same⟩
 |ret=>intro p _ ι F w H e a R hi h;exact wp_ret ⟨.ret,e,H,ι,F,trivial,h,hi,same⟩
 |rangeFunc f ps az b _ _=>intro p _ ι F w H e a R hi h;exact h.elim
 |scope b _=>intro p _ ι F w H e a R hi h;exact h.elim
 |label l=>intro p _ ι F w H e a R hi h;exact h.elim
 |goto l=>intro p _ ι F w H e a R hi h;exact h.elim
 |refuse s=>intro p _ ι F w H e a R hi h;exact h.elim
end
end Go.Eva
namespace Go.Eva
open Go.RowKit
theorem LoopWp.mono {P:Program} {c:Code} {Q Q':Exit→Act→World→Prop} {a:Act} {w:World} (h:LoopWp P c Q a w) (hq: ∀e a w,Q e a w→Q' e a w):LoopWp P c Q' a w:=
 fun b k cs=>let ⟨e,a',w',q,r⟩:=h b k cs;⟨e,a',w',hq _ _ _ q,r⟩
theorem Ahs {ι:Io} {F:Nat→Prop} {w:World} {H:Heap} {vs:List V} {us:List Value} (h:VRs ι F w H vs us):ResR ι F w H vs (if h:us.toArray.size=1 then us.toArray[0] else .tuple us.toArray):=by
 match vs,us,h.1 with
 | [v],[u],_=>exact h.2 0 v u rfl rfl
 | [],[],_=>exact ⟨#[],rfl,rfl,by simp⟩
 |v::v'::r,u::u'::r',hl=>
  refine ⟨(u::u'::r').toArray,?_,by simpa using h.1,fun i x c hx hc=>h.2 i x c hx (by simpa using hc)⟩
  rw [dif_neg (by simp)]
def rvSem (tmps:Array Value):ResultVar→Sem Value
 | .tmp t=>pure (tmps.getD t undef)
 | .cell x t=>do loadVar t (←asAddr (tmps.getD x undef))
def Ev (cx:Cx) (t:Task) (R:Res→Prop):Prop:= ∀P,CxTy P cx→FnsOK P cx→TaskS P cx t R
section
variable {P:Program} {cx:Cx} {S:Task→(Res→Prop)→Prop}
theorem Ajk (hc:CxTy P cx) {n:Nat} {ι:Io} {F:Nat→Prop} {w:World} {H:Heap} {e:Env} {a:Act} (hi:In n ι F w H e a): ∀ {rs:List ResultVar} {R:List V→Prop},(rs.map rvOf).all (rvTy cx)=true→wpQ S (resV cx e H (rs.map rvOf)) R→
  ∃vs us,R vs∧VRs ι F w H vs us∧(rs.mapM (rvSem a.tmps)).run P w= .ok us w
 | [],R,_,h=>⟨[],[],h,⟨rfl,by simp⟩,rfl⟩
 |r::rs,R,ht,h=>by
  simp only [List.map_cons,List.all_cons,Bool.and_eq_true] at ht
  have fin: ∀ {v:V} {u:Value},wpQ S ((resV cx e H (rs.map rvOf)).bind fun l=> .ret (v::l)) R→VR ι F w H v u→(rvSem a.tmps r).run P w= .ok u w→
    ∃vs us,R vs∧VRs ι F w H vs us∧((r::rs).mapM (rvSem a.tmps)).run P w= .ok us w:=by
   intro v u h hv hr
   obtain ⟨vs,us,h1,h2,h3⟩:=Ajk hc hi ht.2 (Aaa _ _ _ h)
   refine ⟨v::vs,u::us,h1,⟨by simp [h2.1],?_⟩,?_⟩
   ·intro i x c hx hcc
    cases i with
    |zero=>simp at hx hcc;subst hx;subst hcc;exact hv
    |succ i=>simp at hx hcc;exact h2.2 i x c hx hcc
   ·rw [List.mapM_cons,Sem.run_bind,hr]
    simp only [Result.andThen_ok,Sem.run_bind,h3,Sem.run_pure]
  cases r with
  |tmp t=>
   have h1:=Aat (Aaa _ _ _ h)
   exact fin h1 (hi.sim t) rfl
  |cell x t=>
   obtain ⟨i,hti⟩:=Option.isSome_iff_exists.1 ht.1
   obtain ⟨v,u,h1,h2,_,ad,h3,h4⟩:=AgG (P:=P) hc hi.good hti (Aaa _ _ _ h) (hi.sim x)
   refine fin h1 h2 ?_
   simp [rvSem,h3,asAddr,h4 w (.refl w)]
theorem Ak9 (hc:CxTy P cx) (hfn:FnsOK P cx) (hS: ∀t R,S t R→TaskS P cx t R) {t:Task} {R:Res→Prop} (h:wpQ S (body cx t) R):TaskS P cx t R:=by
 cases t with
 |call f az H=>
  intro w ι F vals hg hv
  simp only [body] at h
  split at h
  ·rename_i fi hf
   obtain ⟨fn,hok⟩:=hfn f fi hf
   refine calls_of_wp hok.at_ hok.body ?_
   have hfit:=Ak8 (Nat.le_trans (Nat.le_max_left fn.ntmps vals.size) (Nat.le_of_eq (show max fn.ntmps vals.size=vals.size+(fn.ntmps-vals.size) by omega))) hok.fit
   generalize ha:({tmps:=vals++Array.replicate (fn.ntmps-vals.size) undef,defers:= []}:Act)=a
   have hi:In (vals.size+(fn.ntmps-vals.size)) ι F w H (zipE (upto 0 az.length) az) a:=by
    refine ⟨hg,Ae0 ?_,by rw [←ha];simp,by rw [←ha]⟩
    have:slots a (upto 0 az.length)=vals.toList:=by
     have hl:az.length=vals.size:=by simpa using hv.1
     apply List.ext_getElem?
     intro i
     unfold slots
     rw [List.getElem?_map]
     by_cases h:i<az.length
     ·rw [Ae5 _ _ _ h,←ha]
      have h':i<vals.size:=by omega
      simp [h',Array.getElem?_append_left h']
     ·rw [List.getElem?_eq_none (by rw [AfV];omega),List.getElem?_eq_none (by simp;omega)]
      rfl
    rw [this]
    exact hv
   refine wp_mono (Aj9 hc hfn hS hf hfit H.length fi.code [] rfl hi (Aaa _ _ _ h)) ?_
   rintro ex a' w' ⟨x,e',H',ι',F',hx,hr,hi',he⟩
   have key:wpQ S ((resV cx e' H' fi.res).bind fun vs=>match fi.mode with
    | .pure=>match H with
     | []=>(forceN (reach H' 200 (idss vs) [])).bind fun l=>(fzArgs l H' vs).bind fun ts=> .ret ⟨.ret,ts.map .t,[]⟩
     |_=> .fail
    | .fresh=>match H with
     | []=>(tidyR fi.tidy vs H').bind fun x=>(gc 0 x.1 x.2).bind fun g=> .ret ⟨.ret,g.vs,g.H⟩
     |_=> .fail
    | .inout=>(tidyR fi.tidy vs H').bind fun x=>(gc H.length x.1 (killR fi.tidy H.length x.2)).bind fun g=> .ret ⟨.ret,g.vs,g.H⟩) R→
     a'.defers= []∧ ∃v,(results fn a'.tmps).run P w'= .ok v w'∧ ∃x v' ι' F',Ending.returned v= .returned v'∧R x∧x.e= .ret∧Good ι' F' w' x.H∧ResR ι' F' w' x.H x.vs v'∧Ext H.length ι F H w ι' F' x.H w':=by
    intro h
    refine ⟨hi'.defers,?_⟩
    rw [←hok.res] at h
    obtain ⟨vs,us,h1,h2,h3⟩:=Ajk (P:=P) hc hi' (by rw [hok.res];exact hok.resTy) (Aaa _ _ _ h)
    have hres:(results fn a'.tmps).run P w'= .ok (if h:us.toArray.size=1 then us.toArray[0] else .tuple us.toArray) w':=by
     have hr:results fn a'.tmps=(do let vs←fn.results.mapM (rvSem a'.tmps);pure (if h:vs.size=1 then vs[0] else .tuple vs)):=rfl
     rw [hr,Array.mapM_eq_mapM_toList]
     simp only [Sem.run_bind,Sem.run_map,h3]
     rfl
    refine ⟨_,hres,?_⟩
    split at h1
    ·split at h1
     ·replace h1:=Abn (Aaa _ _ _ h1)
      generalize reach H' 200 (idss vs) []=l at h1
      obtain ⟨ts,k1,k2,k3⟩:=Adw hi'.good l (Aaa _ _ _ h1) h2
      have hfin: ∀b,(F' b∨Fl ι' H' l b)→b<w'.heap.size:=fun b hb=>hb.elim (hi'.good.fin b) (fl_lt hi'.good)
      refine ⟨_,_,ι',fun b=>F' b∨Fl ι' H' l b,rfl,k1,rfl,Ae6 hfin,?_,?_⟩
      ·refine Ahs ⟨by simp [k2],?_⟩
       intro i x c hx hcc
       simp only [List.getElem?_map] at hx
       obtain ⟨t,ht,rfl⟩:=Option.map_eq_some_iff.1 hx
       exact .t _ _ (k3 i t c ht hcc)
      ·refine ⟨he.os,he.tape,he.output,he.size,he.same,fun b _ h=>(Adh h).elim,fun b hb=> .inl (he.fsub b hb),?_,fun id o hid=>absurd hid (by simp),fun b _ h=>by obtain ⟨i,o,h1,_⟩:=h;simp at h1⟩
       rintro b hb (hf|⟨i,o,_,q1,q2,q3⟩)
       ·exact he.ffr b hb hf
       ·obtain ⟨i',o',q4,_⟩:=he.live b hb ⟨i,o,q1,q2,q3⟩
        simp at q4
     ·exact h1.elim
    ·split at h1
     ·obtain ⟨vs1,H1,ι1,h1,hg1,hs1,h2⟩:=AhH hi'.good (Aaa _ _ _ h1) h2
      obtain ⟨g,ιg,h3,_,_,_,hgg,hgv,hge⟩:=gc_ok hg1 (Aaa _ _ _ h1) h2
      exact ⟨_,_,ιg,F',rfl,h3,rfl,hgg,Ahs hgv,(he.trans (hs1.ext _)).trans hge⟩
     ·exact h1.elim
    ·obtain ⟨vs1,H1,ι1,h1,hg1,hs1,h2⟩:=AhH hi'.good (Aaa _ _ _ h1) h2
     obtain ⟨hg2,hs2,h2⟩:=Ake (b:=fi.tidy) (n:=H.length) hg1 h2
     obtain ⟨g,ιg,h3,_,_,_,hgg,hgv,hge⟩:=gc_ok hg2 (Aaa _ _ _ h1) h2
     exact ⟨_,_,ιg,F',rfl,h3,rfl,hgg,Ahs hgv,((he.trans (hs1.ext _)).trans (hs2.ext _)).trans hge⟩
   cases ex<;>cases x<;>simp only [exEq] at hx
   ·exact key hr
   ·exact hr.elim
   ·exact key hr
  ·exact h.elim
 |loop f p keep vs H=>
  intro fi c live n hf hp hlive hfit w ι F a hi
  simp only [body] at h
  rw [hf] at h
  simp only [hp,hlive] at h
  refine LoopWp.round (wp_mono (Aj9 hc hfn hS hf hfit keep c (0::p) (by simp [subAt,hp]) hi (Aaa _ _ _ h)) ?_)
  rintro ex a' w' ⟨x,e',H',ι',F',hx,hr,hi',he⟩
  obtain ⟨vs',h1,h2⟩:=Agc hi' (Aaa _ _ _ hr)
  obtain ⟨vs1,H1,ι1,h1,hg1,hs1,h2⟩:=Ajj hi'.good (Aaa _ _ _ h1) h2
  obtain ⟨g,ιg,h3,_,_,_,hgg,hgv,hge⟩:=gc_ok hg1 (Aaa _ _ _ h1) h2
  replace hge:=(hs1.ext keep).trans hge
  have hig:In n ιg F' w' g.H (zipE live g.vs) a':=⟨hgg,Ae0 hgv,hi'.size,hi'.defers⟩
  cases ex<;>cases x<;>simp only [exEq] at hx
  ·obtain ⟨R',hR',_,h4⟩:=h3
   simp only [Exit.then]
   refine LoopWp.mono (hS _ _ hR' fi c live n hf hp hlive hfit w' ιg F' a' hig) ?_
   rintro ex2 a2 w2 ⟨r,ι2,F2,hr2,hx2,hi2,he2⟩
   exact ⟨r,ι2,F2,h4 r hr2,hx2,hi2,(he.trans hge).trans he2⟩
  ·exact ⟨_,ιg,F',h3,hx,hig,he.trans hge⟩
  ·exact ⟨_,ιg,F',h3,trivial,hig,he.trans hge⟩
theorem Ev.mk {t:Task} {R:Res→Prop} (h:wpQ (Ev cx) (body cx t) R):Ev cx t R:=fun P hc hfn=>
 Ak9 hc hfn (fun _ _ h=>h) (Akd (fun _ _ h=>h P hc hfn) _ _ h)
theorem sound (hc:CxTy P cx) (hfn:FnsOK P cx) {t:Task} {R:Res→Prop} (h:Ev cx t R):TaskS P cx t R:=h P hc hfn
end
end Go.Eva
namespace Go.Eva
theorem wrap64 {n:Int} (h: -9223372036854775808≤n∧n≤9223372036854775807):IntKind.i64.wrap n=n:=by
 have h64:IntKind.i64.wrap n=if n%18446744073709551616≥9223372036854775808 then n%18446744073709551616-18446744073709551616 else n%18446744073709551616:=by
  simp [zp,IntKind.bits,IntKind.signed]
 rw [h64]
 split<;>omega
abbrev Is (cx:Cx) (t:Task) (x:Res):Prop:=Ev cx t (· =x)
abbrev Fn (cx:Cx) (f:Nat) (az:List T) (r:T):Prop:=Is cx (.call f (az.map .t) []) ⟨.ret,[.t r],[]⟩
end Go.Eva
namespace Go.Eva
open Go.RowKit
def allTr {α:Type} (p:Nat→α→Bool):(Nat→Nat)→Tr α→Bool
 |_,.z=>true
 |f,.n l v r=>p (f 0) v&&allTr p (fun k=>f (2*k+1)) l&&allTr p (fun k=>f (2*k+2)) r
 |f,.h l r=>true&&allTr p (fun k=>f (2*k+1)) l&&allTr p (fun k=>f (2*k+2)) r
theorem Adj {α:Type} {p:Nat→α→Bool}: ∀ {t:Tr α} {f:Nat→Nat},allTr p f t=true→ ∀i v,t.get i=some v→p (f i) v=true
 | .z,f,_,i,v,h=>by simp [Tr.get] at h
 | .n l x r,f,hp,i,v,h=>by
  simp only [allTr,Bool.and_eq_true] at hp
  simp only [Tr.get] at h
  split at h
  ·rename_i hb
   obtain rfl:=Nat.eq_of_beq_eq_true hb
   simp at h;subst h
   exact hp.1.1
  ·rename_i hb
   have hi:i≠0:=by
    intro e
    subst e
    simp at hb
   split at h
   ·rename_i hm
    have hm:=Nat.eq_of_beq_eq_true hm
    have:=Adj hp.1.2 _ _ h
    have e:2*(Nat.div i 2)+1=i:=by
     have h1:Nat.mod i 2=i%2:=rfl
     have h2:Nat.div i 2=i/2:=rfl
     omega
    rw [e] at this
    exact this
   ·rename_i hm
    have hm:i%2≠1:=by
     intro e
     have:Nat.beq (Nat.mod i 2) 1=true:=by
      have h1:Nat.mod i 2=i%2:=rfl
      rw [h1,e];rfl
     rw [this] at hm
     contradiction
    have:=Adj hp.2 _ _ h
    have e:2*(Nat.pred (Nat.div i 2))+2=i:=by
     have h2:Nat.div i 2=i/2:=rfl
     have h3:Nat.pred (Nat.div i 2)=i/2-1:=by rw [h2];rfl
     omega
    rw [e] at this
    exact this
 | .h l r,f,hp,i,v,h=>by
  simp only [allTr,Bool.and_eq_true] at hp
  simp only [Tr.get] at h
  split at h
  ·contradiction
  ·rename_i hb
   have hi:i≠0:=by
    intro e
    subst e
    simp at hb
   split at h
   ·rename_i hm
    have hm:=Nat.eq_of_beq_eq_true hm
    have:=Adj hp.1.2 _ _ h
    have e:2*(Nat.div i 2)+1=i:=by
     have h1:Nat.mod i 2=i%2:=rfl
     have h2:Nat.div i 2=i/2:=rfl
     omega
    rw [e] at this
    exact this
   ·rename_i hm
    have hm:i%2≠1:=by
     intro e
     have:Nat.beq (Nat.mod i 2) 1=true:=by
      have h1:Nat.mod i 2=i%2:=rfl
      rw [h1,e];rfl
     rw [this] at hm
     contradiction
    have:=Adj hp.2 _ _ h
    have e:2*(Nat.pred (Nat.div i 2))+2=i:=by
     have h2:Nat.div i 2=i/2:=rfl
     have h3:Nat.pred (Nat.div i 2)=i/2-1:=by rw [h2];rfl
     omega
    rw [e] at this
    exact this
mutual
def tvB:Nat→T→Value→Bool
 |0,_,_=>false
 |_+1,.int k n,.int k' n'=>decide (k=k')&&decide (n=n')
 |_+1,.bool b,.bool c=>b==c
 |_+1,.str s,.string s'=>Nat.beq s.data.size 0&&Nat.beq s'.data.size 0
 |_+1,.nilp,.pointer none=>true
 |_+1,.nilf,.nilFunc=>true
 |_+1,.nilm,.map none=>true
 |n+1,.agg vs,.agg cs=>tvsB n vs cs.toList
 |_,_,_=>false
def tvsB:Nat→List T→List Value→Bool
 |0,_,_=>false
 |_+1,[],[]=>true
 |n+1,x::xs,v::vs=>v.oneCell'&&tvB n x v&&tvsB n xs vs
 |_,_,_=>false
end
mutual
theorem tvB_ok {F:Nat→Prop} {w:World}: ∀(n:Nat) (x:T) (v:Value),tvB n x v=true→TR F w x v
 |0,_,_,h=>by simp [tvB] at h
 |n+1,x,v,h=>by
  unfold tvB at h
  split at h<;>try contradiction
  ·simp at h;obtain ⟨rfl,rfl⟩:=h;exact .int _ _
  ·simp at h;subst h;exact .bool _
  ·rename_i s s' _
   simp only [Bool.and_eq_true] at h
   have h1:=Nat.eq_of_beq_eq_true h.1
   have h2:=Nat.eq_of_beq_eq_true h.2
   have e1:s.data= #[]:=Array.eq_empty_of_size_eq_zero h1
   have e2:s'.data= #[]:=Array.eq_empty_of_size_eq_zero h2
   have:s=s':=by
    cases s;cases s'
    simp only at e1 e2
    rw [e1,e2]
   subst this
   exact .str _
  ·exact .nilp
  ·exact .nilf
  ·exact .nilm
  ·rename_i m vs cs heq
   cases heq
   obtain ⟨h1,h2⟩:=tvsB_ok (F:=F) (w:=w) _ vs cs.toList h
   exact .agg _ _ (by simpa using h1) (fun i c hc=>by
    have hlt:i<vs.length:=by have:=(Array.getElem?_eq_some_iff.1 hc).1;simp at h1;omega
    exact (h2 i _ c (List.getElem?_eq_getElem hlt) (by simpa using hc)).1) (fun i x c hx hc=>(h2 i x c hx (by simpa using hc)).2)
theorem tvsB_ok {F:Nat→Prop} {w:World}: ∀(n:Nat) (xs:List T) (vs:List Value),tvsB n xs vs=true→xs.length=vs.length∧ ∀(i:Nat) x v,xs[i]?=some x→vs[i]?=some v→v.oneCell'=true∧TR F w x v
 |0,_,_,h=>by simp [tvsB] at h
 |n+1,[],[],_=>⟨rfl,by simp⟩
 |n+1,[],_::_,h=>by simp [tvsB] at h
 |n+1,_::_,[],h=>by simp [tvsB] at h
 |n+1,x::xs,v::vs,h=>by
  simp only [tvsB,Bool.and_eq_true] at h
  obtain ⟨h1,h2⟩:=tvsB_ok (F:=F) (w:=w) n xs vs h.2
  refine ⟨by simp [h1],?_⟩
  intro i y u hy hu
  cases i with
  |zero=>simp at hy hu;subst hy;subst hu;exact ⟨h.1.1,tvB_ok n _ _ h.1.2⟩
  |succ i=>simp at hy hu;exact h2 i y u hy hu
end
def zv1:V→Value→Bool
 | .t x,v=>tvB 40 x v
 | .fit _ [],.slice none 0 0=>true
 |_,_=>false
theorem Ak2 {x:V} {v:Value} (h:zv1 x v=true) (ι:Io) (F:Nat→Prop) (w:World) (H:Heap):VR ι F w H x v:=by
 unfold zv1 at h
 split at h
 ·exact .t _ _ (tvB_ok _ _ _ h)
 ·exact .fit _ _ _ (.slN _ _ _)
 ·contradiction
def zvB (x:V) (v:Value):Bool:=match x,v with
 | .agg vs,.agg cs=>Nat.beq vs.length cs.size&&(vs.zip cs.toList).all fun p=>p.2.oneCell'&&zv1 p.1 p.2
 |x,v=>zv1 x v
theorem Alc {x:V} {v:Value} (h:zvB x v=true) (ι:Io) (F:Nat→Prop) (w:World) (H:Heap):VR ι F w H x v:=by
 unfold zvB at h
 split at h
 ·rename_i vs cs
  simp only [Bool.and_eq_true] at h
  have hl:=Nat.eq_of_beq_eq_true h.1
  have hall:=List.all_eq_true.1 h.2
  have at_: ∀(i:Nat) x c,vs[i]?=some x→cs[i]?=some c→c.oneCell'=true∧zv1 x c=true:=by
   intro i x c hx hc
   have hm:(x,c)∈vs.zip cs.toList:=by
    refine List.mem_of_getElem? (i:=i) ?_
    rw [List.getElem?_zip_eq_some]
    exact ⟨hx,by simpa using hc⟩
   have:=hall _ hm
   simpa only [Bool.and_eq_true] using this
  refine .agg _ _ hl (fun i c hc=> ?_) (fun i x c hx hc=>Ak2 (at_ i x c hx hc).2 ι F w H)
  have hlt:i<vs.length:=by have:=(Array.getElem?_eq_some_iff.1 hc).1;omega
  exact (at_ i _ c (List.getElem?_eq_getElem hlt) hc).1
 ·exact Ak2 h ι F w H
def isAny:V→Bool
 | .t .any=>true
 |_=>false
def tyRB (cx:Cx):Ty→TypeDesc→Bool
 | .int k,.int k'=>decide (k'=k)
 | .bool,.bool=>true
 | .str,.string=>true
 | .ptr,.pointer _=>true
 | .slice e,.slice e'=>Nat.beq e' e&&(match cx.ti.get e with|some i=>Nat.blt 0 i.size|none=>false)
 | .struct fs, .struct fields => decide (fields.toList.map (fun f => (f.offset, f.type)) = fs) && fields.toList.all fun f => (f.name != "_") && (cx.ti.get f.type).isSome
 | .map k e,.map k' e'=>Nat.beq k' k&&Nat.beq e' e
 | .fn,d=>notAggB d
 | .other,d=>notAggB d
 |_,_=>false
where notAggB:TypeDesc→Bool
 | .struct _=>false
 | .array _ _=>false
 |_=>true
def tyB (P:Program) (cx:Cx) (t:Nat) (i:TI):Bool:=match P.info? t,P.underlying t with
 |some inf,some d=>Nat.beq inf.size i.size&&Nat.beq inf.bytes i.bytes&&tyRB cx i.ty d&&(!i.eq||(!P.stoodInHeld t&& !P.eqGuardType P.depth t))&&(match inf.zero with
  |some zv=>(Nat.beq i.bytes 0||(Nat.beq zv.cells.size i.size&&zv.cells.toList.all (fun c=>c.oneCell')))&&(match zeroV cx depth t with
   |some z=>(Nat.beq zv.cells.size i.size&&zv.cells.toList.all (fun c=>c.oneCell'))&&zvB z zv&& !isAny z&&Nat.beq z.size i.size
   |none=>true)
  |none=>false)
 |_,_=>false
theorem Akn {v:V} (h:isAny v=false):v≠ .t .any:=by rintro rfl;simp [isAny] at h
theorem AkV {cx:Cx} {ty:Ty} {d:TypeDesc} (h:tyRB cx ty d=true):TyR cx ty d:=by
 have na: ∀d,tyRB.notAggB d=true→notAgg d:=by
  intro d h
  cases d<;>simp [tyRB.notAggB,notAgg] at*
 unfold tyRB at h
 split at h<;>try contradiction
 ·have:_=_:=of_decide_eq_true h;subst this;rfl
 ·rfl
 ·rfl
 ·exact ⟨_,rfl⟩
 ·rename_i e e'
  simp only [Bool.and_eq_true] at h
  obtain rfl:=Nat.eq_of_beq_eq_true h.1
  have h2:=h.2
  split at h2
  ·rename_i i hi
   exact ⟨rfl,i,hi,by simpa using h2⟩
  ·contradiction
 ·rename_i fs fields
  simp only [Bool.and_eq_true] at h
  refine ⟨fields,rfl,of_decide_eq_true h.1,fun f hf=> ?_⟩
  have:=List.all_eq_true.1 h.2 f hf
  simp only [Bool.and_eq_true] at this
  exact ⟨by simpa using this.1,Option.isSome_iff_exists.1 this.2⟩
 ·simp only [Bool.and_eq_true] at h
  obtain rfl:=Nat.eq_of_beq_eq_true h.1
  obtain rfl:=Nat.eq_of_beq_eq_true h.2
  rfl
 ·exact na _ h
 ·exact na _ h
def ExAll (P:Program) (cx:Cx):List (Nat×Xf)→Prop
 | []=>True
 |(f,x)::r=>ExOK P cx f x∧ExAll P cx r
theorem AhM {P:Program} {cx:Cx}: ∀ {l:List (Nat×Xf)},ExAll P cx l→ ∀f x,exAt l f=some x→ExOK P cx f x
 | [],_,f,x,h=>by simp [exAt] at h
 |(g,y)::r,ha,f,x,h=>by
  unfold exAt at h
  split at h
  ·rename_i hb
   obtain rfl:=Nat.eq_of_beq_eq_true hb
   obtain rfl:=Option.some.inj h
   exact ha.1
  ·exact AhM ha.2 f x h
theorem AkO {P:Program} {cx:Cx} (h:allTr (tyB P cx) id cx.ti=true) (ho:P.follows .mixedOrders=true) (hx:ExAll P cx cx.ex):CxTy P cx:=by
 have key: ∀t i,cx.ti.get t=some i→tyB P cx t i=true:=fun t i hi=>Adj h t i hi
 refine ⟨?_,?_,ho,AhM hx⟩
 ·intro t i hi
  have:=key t i hi
  unfold tyB at this
  split at this
  ·rename_i inf d h1 h2
   simp only [Bool.and_eq_true,Bool.or_eq_true] at this
   obtain ⟨⟨⟨⟨a1,a2⟩,a3⟩,a4⟩,a5⟩:=this
   split at a5
   ·rename_i zv hz
    simp only [Bool.and_eq_true] at a5
    obtain ⟨_,b3⟩:=a5
    refine ⟨inf,d,h1,h2,Nat.eq_of_beq_eq_true a1,Nat.eq_of_beq_eq_true a2,AkV a3,fun he=> ?_,zv,hz,fun z hzz=> ?_⟩
    ·rw [he] at a4
     simpa using a4
    ·rw [hzz] at b3
     simp only [Bool.and_eq_true] at b3
     obtain ⟨⟨⟨⟨c1,c2⟩,c3⟩,c4⟩,c5⟩:=b3
     have hone: ∀(j:Nat) c,zv.cells[j]?=some c→c.oneCell'=true:=by
      intro j c hc
      exact List.all_eq_true.1 c2 c (by obtain ⟨hlt,rfl⟩:=Array.getElem?_eq_some_iff.1 hc;simp)
     exact ⟨Alc c3,hone,Akn (by simpa using c4),Nat.eq_of_beq_eq_true c5,Nat.eq_of_beq_eq_true c1⟩
   ·contradiction
  ·contradiction
 ·intro t i inf zv hi hinf hz hby
  have:=key t i hi
  unfold tyB at this
  split at this
  ·rename_i inf' d h1 h2
   rw [hinf] at h1
   obtain rfl:=Option.some.inj h1
   simp only [Bool.and_eq_true] at this
   obtain ⟨_,a5⟩:=this
   rw [hz] at a5
   simp only [Bool.and_eq_true,Bool.or_eq_true] at a5
   rcases a5.1 with a6|a6
   ·have:=Nat.eq_of_beq_eq_true a6
    omega
   ·refine ⟨Nat.eq_of_beq_eq_true a6.1,fun j c hc=> ?_⟩
    exact List.all_eq_true.1 a6.2 c (by obtain ⟨hlt,rfl⟩:=Array.getElem?_eq_some_iff.1 hc;simp)
  ·contradiction
def AllTr {α:Type} (p:Nat→α→Prop):(Nat→Nat)→Tr α→Prop
 |_,.z=>True
 |f,.n l v r=>p (f 0) v∧AllTr p (fun k=>f (2*k+1)) l∧AllTr p (fun k=>f (2*k+2)) r
 |f,.h l r=>True∧AllTr p (fun k=>f (2*k+1)) l∧AllTr p (fun k=>f (2*k+2)) r
theorem AllTr.get {α:Type} {p:Nat→α→Prop}: ∀ {t:Tr α} {f:Nat→Nat},AllTr p f t→ ∀i v,t.get i=some v→p (f i) v
 | .z,f,_,i,v,h=>by simp [Tr.get] at h
 | .n l x r,f,hp,i,v,h=>by
  simp only [Tr.get] at h
  split at h
  ·rename_i hb
   obtain rfl:=Nat.eq_of_beq_eq_true hb
   simp at h;subst h
   exact hp.1
  ·rename_i hb
   have hi:i≠0:=by
    intro e
    subst e
    simp at hb
   split at h
   ·rename_i hm
    have hm:=Nat.eq_of_beq_eq_true hm
    have:=AllTr.get hp.2.1 _ _ h
    have e:2*(Nat.div i 2)+1=i:=by
     have h1:Nat.mod i 2=i%2:=rfl
     have h2:Nat.div i 2=i/2:=rfl
     omega
    rw [e] at this
    exact this
   ·rename_i hm
    have hm:i%2≠1:=by
     intro e
     have:Nat.beq (Nat.mod i 2) 1=true:=by
      have h1:Nat.mod i 2=i%2:=rfl
      rw [h1,e];rfl
     rw [this] at hm
     contradiction
    have:=AllTr.get hp.2.2 _ _ h
    have e:2*(Nat.pred (Nat.div i 2))+2=i:=by
     have h2:Nat.div i 2=i/2:=rfl
     have h3:Nat.pred (Nat.div i 2)=i/2-1:=by rw [h2];rfl
     omega
    rw [e] at this
    exact this
 | .h l r,f,hp,i,v,h=>by
  simp only [Tr.get] at h
  split at h
  ·contradiction
  ·rename_i hb
   have hi:i≠0:=by
    intro e
    subst e
    simp at hb
   split at h
   ·rename_i hm
    have hm:=Nat.eq_of_beq_eq_true hm
    have:=AllTr.get hp.2.1 _ _ h
    have e:2*(Nat.div i 2)+1=i:=by
     have h1:Nat.mod i 2=i%2:=rfl
     have h2:Nat.div i 2=i/2:=rfl
     omega
    rw [e] at this
    exact this
   ·rename_i hm
    have hm:i%2≠1:=by
     intro e
     have:Nat.beq (Nat.mod i 2) 1=true:=by
      have h1:Nat.mod i 2=i%2:=rfl
      rw [h1,e];rfl
     rw [this] at hm
     contradiction
    have:=AllTr.get hp.2.2 _ _ h
    have e:2*(Nat.pred (Nat.div i 2))+2=i:=by
     have h2:Nat.div i 2=i/2:=rfl
     have h3:Nat.pred (Nat.div i 2)=i/2-1:=by rw [h2];rfl
     omega
    rw [e] at this
    exact this
def EntOK (P:Program) (cx:Cx) (f:Nat) (o:Option FI):Prop:= ∀fi,o=some fi→ ∃fn,FnOK P cx f fi fn
theorem Aac {P:Program} {cx:Cx} (f:Nat):EntOK P cx f none:=fun _ h=>nomatch h
theorem Aab {P:Program} {cx:Cx} {f:Nat} {fi:FI} {fn:Func} (h:FnOK P cx f fi fn):EntOK P cx f (some fi):=fun _ e=>⟨fn,Option.some.inj e ▸ h⟩
theorem Akh {P:Program} {cx:Cx} (h:AllTr (EntOK P cx) id cx.fn):FnsOK P cx:=fun f fi hf=>AllTr.get h f _ hf fi rfl
end Go.Eva
namespace Go.Eva
open Go.RowKit
def Conf (cx:Cx):Nat→Nat→List T→Prop
 |0,_,_=>False
 |n+1,t,ts=>match cx.ti.get t with
  |some i=>match i.ty with
   | .int k=> ∃m,ts= [.int k m]∧(Lit.int k m).wf=true
   | .bool=> ∃b,ts= [.bool b]
   | .str=> ∃s,ts= [.str s]∧s.size≤reachBytes
   | .slice e=> ∃xs,ts= [.sl (sizeOf cx e) xs]∧xs.length≤maxLen∧xs.length*bytesOf cx e≤reachBytes∧ ∀x∈xs,x≠ .any∧(isStruct cx e=true→ ∃l,x= .agg l)∧(isStruct cx e=false→x.cells= [x])∧Conf cx n e x.cells
   | .struct fs=>ts.length=i.size∧ ∀p∈fs,Conf cx n p.2 ((ts.drop p.1).take (sizeOf cx p.2))
   |_=>False
  |none=>False
def contig (cx:Cx):Nat→List (Nat×Nat)→Option Nat
 |n,[]=>some n
 |n,(off,t)::r=>match Nat.beq off n with
  |true=>contig cx (n+sizeOf cx t) r
  |false=>none
def rdB (cx:Cx):Nat→Nat→Bool
 |0,_=>false
 |n+1,t=>match cx.ti.get t with
  |some i=>match i.ty with
   | .int _=>true
   | .bool=>true
   | .str=>true
   | .slice e=>rdB cx n e
   | .struct fs=>(fs.all fun p=>rdB cx n p.2)&&(match contig cx 0 fs with|some s=>Nat.beq s i.size|none=>false)
   |_=>false
  |none=>false
section
variable {P:Program} {cx:Cx} {H:Type} {enc:TypeId×Value→H} {w:World} {spare:Nat→Bool} {held:Bool}
theorem AdT (hc:CxTy P cx) {t:Nat} {i:TI} (h:cx.ti.get t=some i):P.cellsOf t=i.size∧sizeOf cx t=i.size:=by
 obtain ⟨inf,d,h1,h2,h3,_⟩:=hc.ty t i h
 exact ⟨by simp [Program.cellsOf,h1,h3],by simp [sizeOf,h]⟩
def Trees (w:World) (ts:List T) (cs:List Value):Prop:=ts.length=cs.length∧ ∀(i:Nat) a b,ts[i]?=some a→cs[i]?=some b→TR (· <w.heap.size) w a b∧b.oneCell'=true∧a≠ .any
theorem Trees.one {a:T} {b:Value} (h:TR (· <w.heap.size) w a b) (hb:b.oneCell'=true) (ha:a≠ .any):Trees w [a] [b]:=by
 refine ⟨rfl,fun i x y hx hy=> ?_⟩
 cases i with
 |zero=>simp at hx hy;subst hx;subst hy;exact ⟨h,hb,ha⟩
 |succ i=>simp at hx
theorem Trees.append {ts us:List T} {cs ds:List Value} (h:Trees w ts cs) (k:Trees w us ds):Trees w (ts++us) (cs++ds):=by
 refine ⟨by simp [h.1,k.1],fun i a b ha hb=> ?_⟩
 have hl:=h.1
 rcases Nat.lt_or_ge i ts.length with hi|hi
 ·rw [List.getElem?_append_left hi] at ha
  rw [List.getElem?_append_left (by omega)] at hb
  exact h.2 i a b ha hb
 ·rw [List.getElem?_append_right hi] at ha
  rw [List.getElem?_append_right (by omega)] at hb
  exact k.2 _ a b ha (by rw [hl];exact hb)
theorem AgE {cs:List Value} {Q:Nat→List T→Prop}: ∀(fs:List (Nat×Nat)) (pos s:Nat),contig cx pos fs=some s→s≤cs.length→(∀p∈fs,∃ts,Trees w ts ((cs.drop p.1).take (sizeOf cx p.2))∧Q p.2 ts)→
  pos≤s∧ ∃ts,Trees w ts ((cs.drop pos).take (s-pos))∧ ∀p∈fs,pos≤p.1∧Q p.2 ((ts.drop (p.1-pos)).take (sizeOf cx p.2))
 | [],pos,s,h,_,_=>by
  simp [contig] at h
  subst h
  exact ⟨Nat.le_refl _,[],⟨by simp,by simp⟩,by simp⟩
 |(off,t)::r,pos,s,h,hs,hq=>by
  simp only [contig] at h
  split at h
  ·rename_i hb
   obtain rfl:=Nat.eq_of_beq_eq_true hb
   obtain ⟨h1,us,h2,h3⟩:=AgE r (off+sizeOf cx t) s h hs (fun p hp=>hq p (List.mem_cons_of_mem _ hp))
   obtain ⟨ts,h4,h5⟩:=hq (off,t) (List.mem_cons_self ..)
   have hlt:ts.length=sizeOf cx t:=by have:=h4.1;simp at this;omega
   refine ⟨by omega,ts++us,?_,?_⟩
   ·have:=h4.append h2
    have e:(cs.drop off).take (sizeOf cx t)++(cs.drop (off+sizeOf cx t)).take (s-(off+sizeOf cx t))=(cs.drop off).take (s-off):=by
     rw [show s-off=sizeOf cx t+(s-(off+sizeOf cx t)) by omega,List.take_add,List.drop_drop]
    rw [e] at this
    exact this
   ·intro p hp
    rcases List.mem_cons.1 hp with rfl|hp
    ·refine ⟨Nat.le_refl _,?_⟩
     simp only [Nat.sub_self,List.drop_zero]
     rw [List.take_append_of_le_length (by omega),List.take_of_length_le (by omega)]
     exact h5
    ·obtain ⟨k1,k2⟩:=h3 p hp
     refine ⟨by omega,?_⟩
     have e:(ts++us).drop (p.1-off)=us.drop (p.1-(off+sizeOf cx t)):=by
      rw [List.drop_append,List.drop_of_length_le (by omega)]
      simp
      congr 1
      omega
     rw [e]
     exact k2
  ·contradiction
theorem AiE {a:Addr} {n:Nat} {l:List Value} (h:w.cells? 0 a n=some l):l.length=n∧ ∀j,j<n→w.cell? (a.add j)=l[j]?:=by
 unfold World.cells? at h
 rw [if_pos (Nat.zero_le _)] at h
 refine ⟨by simpa using mapM_some_length h,fun j hj=> ?_⟩
 exact mapM_some_get h j j (by simp [hj])
theorem Aig {m e:Nat} {ts:List T} (h:Conf cx m e ts) (hs:isStruct cx e=false): ∃x,ts= [x]∧x.cells= [x]∧x≠ .any:=by
 cases m with
 |zero=>exact h.elim
 |succ m=>
  unfold isStruct at hs
  simp only [Conf] at h
  cases hi:cx.ti.get e with
  |none=>rw [hi] at h;exact h.elim
  |some i=>
   rw [hi] at h hs
   cases i with
   |mk ty s b eq=>
    cases ty<;>simp only at h hs
    ·obtain ⟨v,rfl,_⟩:=h;exact ⟨_,rfl,rfl,by simp⟩
    ·obtain ⟨v,rfl⟩:=h;exact ⟨_,rfl,rfl,by simp⟩
    ·obtain ⟨v,rfl,_⟩:=h;exact ⟨_,rfl,rfl,by simp⟩
    ·obtain ⟨v,rfl,_⟩:=h;exact ⟨_,rfl,rfl,by simp⟩
    ·contradiction
theorem AeE {e:Nat}: ∀ {ds:List (DataW H)} {i:Nat} {d:DataW H},ds[i]?=some d→ ∀k∈d.weights P e,k∈DataW.weightsAll P e ds
 | [],i,d,h,_,_=>by simp at h
 |x::r,0,d,h,k,hk=>by
  simp at h;subst h
  simp only [DataW.weightsAll,List.mem_append]
  exact .inl hk
 |x::r,i+1,d,h,k,hk=>by
  simp only [DataW.weightsAll,List.mem_append]
  exact .inr (AeE (by simpa using h) k hk)
theorem AkT (hc:CxTy P cx): ∀(m n t:Nat) (cs:List Value) (x:DataW H×List MemPlace),rdB cx m t=true→(∀k∈x.1.weights P t,k≤reachBytes)→DataW.trod enc P w 0 spare held n t cs=some x→ ∃ts,Trees w ts cs∧Conf cx m t ts:=by
 intro m
 induction m with
 |zero=>intro n t cs x h;simp [rdB] at h
 |succ m ih=>
  intro n t cs x hr hw h
  unfold rdB at hr
  split at hr
  ·rename_i i hi
   obtain ⟨inf,d,h1,h2,h3,h4,h5,_⟩:=hc.ty t i hi
   have conf: ∀ts,Conf cx (m+1) t ts=(match i.ty with
    | .int k=> ∃m,ts= [.int k m]∧(Lit.int k m).wf=true
    | .bool=> ∃b,ts= [.bool b]
    | .str=> ∃s,ts= [.str s]∧s.size≤reachBytes
    | .slice e=> ∃xs,ts= [.sl (sizeOf cx e) xs]∧xs.length≤maxLen∧xs.length*bytesOf cx e≤reachBytes∧ ∀x∈xs,x≠ .any∧(isStruct cx e=true→ ∃l,x= .agg l)∧(isStruct cx e=false→x.cells= [x])∧Conf cx m e x.cells
    | .struct fs=>ts.length=i.size∧ ∀p∈fs,Conf cx m p.2 ((ts.drop p.1).take (sizeOf cx p.2))
    |_=>False):=by
    intro ts
    simp only [Conf,hi]
   cases hty:i.ty with
   |int k=>
    rw [hty] at h5
    simp only [TyR] at h5
    subst h5
    obtain ⟨v,rfl,_,hwf⟩:=DataW.trod_int h2 h
    exact ⟨[.int k v],.one (.int _ _) rfl (by simp),by rw [conf,hty];exact ⟨v,rfl,hwf⟩⟩
   |bool=>
    rw [hty] at h5
    simp only [TyR] at h5
    subst h5
    obtain ⟨v,rfl,_⟩:=DataW.trod_bool h2 h
    exact ⟨[.bool v],.one (.bool _) rfl (by simp),by rw [conf,hty];exact ⟨v,rfl⟩⟩
   |str=>
    rw [hty] at h5
    simp only [TyR] at h5
    subst h5
    obtain ⟨v,rfl,rfl,_⟩:=DataW.trod_string h2 h
    exact ⟨[.str v],.one (.str _) rfl (by simp),by rw [conf,hty];exact ⟨v,rfl,by simpa [DataW.weights] using hw⟩⟩
   |slice e=>
    rw [hty] at h5 hr
    simp only [TyR] at h5
    obtain ⟨rfl,ie,hie,hpos⟩:=h5
    obtain ⟨c1,c2⟩:=AdT hc hie
    rcases DataW.trod_slice h2 h with ⟨rfl,_⟩|⟨a,len,cap,elems,rest,n',rfl,rfl,rfl,_,hl,hmx,hel,hall,_⟩
    ·exact ⟨[.sl (sizeOf cx e) []],.one (.slN _ _ _) rfl (by simp),by rw [conf,hty];exact ⟨[],rfl,Nat.zero_le _,by simp,by simp⟩⟩
    by_cases h0:len=0
    ·subst h0
     exact ⟨[.sl (sizeOf cx e) []],.one (.slN _ _ _) rfl (by simp),by rw [conf,hty];exact ⟨[],rfl,Nat.zero_le _,by simp,by simp⟩⟩
    have each: ∀i,∃x:T,i<len→ ∃l:List Value,x≠ .any∧(isStruct cx e=true→ ∃l,x= .agg l)∧(isStruct cx e=false→x.cells= [x])∧Conf cx m e x.cells∧x.cells.length=ie.size∧(∀j,j<ie.size→w.cell? ((a.add (i*ie.size)).add j)=l[j]?)∧Trees w x.cells l∧l.length=ie.size:=by
     intro i
     by_cases hi:i<len
     ·have:=hall i hi
      rw [List.getElem?_eq_getElem (by omega:i<elems.length),Option.bind_eq_some_iff,c1] at this
      obtain ⟨l,q1,q2⟩:=this
      obtain ⟨q3,q4⟩:=AiE q1
      obtain ⟨ts,k1,k2⟩:=ih n' e l _ hr (fun k hk=>hw k (by
       simp only [DataW.weights,h2,List.mem_cons,List.mem_append]
       exact .inr (.inl (AeE (i:=i) (by rw [List.getElem?_map,List.getElem?_eq_getElem (by omega:i<elems.length)];rfl) k hk)))) q2
      have hlen:ts.length=ie.size:=k1.1.trans q3
      by_cases hst:isStruct cx e=true
      ·exact ⟨.agg ts,fun _=>⟨l,by simp,fun _=>⟨ts,rfl⟩,fun h=>absurd (hst.symm.trans h) (by simp),k2,hlen,q4,k1,q3⟩⟩
      ·obtain ⟨x,rfl,hx,hne⟩:=Aig k2 (by simpa using hst)
       exact ⟨x,fun _=>⟨l,hne,fun h=>absurd h hst,fun _=>hx,by rw [hx];exact k2,by rw [hx];exact hlen,q4,by rw [hx];exact k1,q3⟩⟩
     ·exact ⟨.any,fun h=>absurd h hi⟩
    obtain ⟨f,hf⟩:=Classical.axiomOfChoice each
    have hpos':0<len:=by omega
    obtain ⟨blk,off,spot⟩:=a
    have hcell: ∀i j,i<len→j<ie.size→ ∃v,w.cell? ⟨blk,off+i*ie.size+j,none⟩=some v∧spot=none∧v.oneCell'=true∧(∀t,(f i).cells[j]?=some t→TR (· <w.heap.size) w t v):=by
     intro i j hi hj
     obtain ⟨l,_,_,_,_,q1,q2,q3,q4⟩:=hf i hi
     have hlj:l[j]?=some l[j]:=List.getElem?_eq_getElem (by omega)
     have hcj:=q2 j hj
     rw [hlj] at hcj
     have hz:w.cell? ((⟨blk,off,spot⟩:Addr).add (0*ie.size)|>.add 0)≠none:=by
      obtain ⟨l0,_,_,_,_,_,p2,_,p4⟩:=hf 0 hpos'
      rw [p2 0 hpos,List.getElem?_eq_getElem (by omega)]
      simp
     have hspot:spot=none:=by
      cases spot with
      |none=>rfl
      |some z=>
       exfalso
       apply hz
       simp only [Nat.zero_mul,Addr.add,if_true,World.cell?]
       split<;>simp
     subst hspot
     rw [AaD,AaD] at hcj
     refine ⟨l[j],hcj,rfl,?_,fun t ht=>(q3.2 j t _ ht hlj).1⟩
     have hjt:j<(f i).cells.length:=by omega
     exact (q3.2 j _ _ (List.getElem?_eq_getElem hjt) hlj).2.1
    have hsp:spot=none:=(hcell 0 0 hpos' hpos).elim fun v h=>h.2.1
    subst hsp
    have hget: ∀(i:Nat) x,((List.range len).map f)[i]?=some x→i<len∧x=f i:=by
     intro i x hx
     rw [List.getElem?_map] at hx
     obtain ⟨k,hk,rfl⟩:=Option.map_eq_some_iff.1 hx
     have hi:i<len:=by have:=(List.getElem?_eq_some_iff.1 hk).1;simpa using this
     rw [List.getElem?_range hi] at hk
     obtain rfl:=Option.some.inj hk
     exact ⟨hi,rfl⟩
    have hblk:blk<w.heap.size:=by
     obtain ⟨v,hv,_⟩:=hcell 0 0 hpos' hpos
     rcases Nat.lt_or_ge blk w.heap.size with hb|hb
     ·exact hb
     ·have:w.heap[blk]?=none:=Array.getElem?_eq_none hb
      simp [World.cell?,this] at hv
    refine ⟨[.sl (sizeOf cx e) ((List.range len).map f)],.one ?_ rfl (by simp),?_⟩
    ·have:=TR.slC (F:=(· <w.heap.size)) (w:=w) (sizeOf cx e) ((List.range len).map f) blk off cap (fun i j=>(w.cell? ⟨blk,off+i*ie.size+j,none⟩).getD undef) (by intro hh;have:=congrArg zq hh;simp at this;omega) (by simpa using hl) hblk ?_ ?_ ?_
     ·simpa using this
     ·intro i j hi hj
      rw [c2] at hj⊢
      simp only [List.length_map,List.length_range] at hi
      obtain ⟨v,hv,_,hone,_⟩:=hcell i j hi hj
      simp only [hv,Option.getD_some]
      exact ⟨trivial,hone⟩
     ·intro i x hx _
      obtain ⟨hi,rfl⟩:=hget i x hx
      obtain ⟨l,_,_,_,_,q1,_⟩:=hf i hi
      rw [c2];exact q1
     ·intro i j x t hx _ ht
      obtain ⟨hi,rfl⟩:=hget i x hx
      obtain ⟨l,_,_,_,_,q1,_⟩:=hf i hi
      have hj:j<ie.size:=by have:=(List.getElem?_eq_some_iff.1 ht).1;omega
      obtain ⟨v,hv,_,_,htr⟩:=hcell i j hi hj
      simp only [hv,Option.getD_some]
      exact htr t ht
    ·rw [conf,hty]
     have hby:len*bytesOf cx e≤reachBytes:=by
      have:=hw ((elems.map (·.1)).length+(rest.map (·.1)).length|>(· *P.bytesOf e)) (by simp [DataW.weights,h2])
      obtain ⟨infe,de,b1,b2,b3,b4,_⟩:=hc.ty e ie hie
      have hb:P.bytesOf e=bytesOf cx e:=by simp [Program.bytesOf,b1,b4,bytesOf,hie]
      simp only [List.length_map,hb] at this
      have hle:len*bytesOf cx e≤(elems.length+rest.length)*bytesOf cx e:=Nat.mul_le_mul_right _ (by omega)
      omega
     refine ⟨_,rfl,by simp;omega,by simpa using hby,fun x hx=> ?_⟩
     obtain ⟨i,hi,rfl⟩:=List.mem_map.1 hx
     obtain ⟨l,k1,k2,k3,k4,_⟩:=hf i (by simpa using hi)
     exact ⟨k1,k2,k3,k4⟩
   |struct fs=>
    rw [hty] at h5 hr
    simp only [TyR] at h5
    obtain ⟨fields,rfl,hm,hall⟩:=h5
    simp only [Bool.and_eq_true] at hr
    obtain ⟨hr1,hr2⟩:=hr
    split at hr2
    ·rename_i s hs
     obtain rfl:=Nat.eq_of_beq_eq_true hr2
     obtain ⟨xs,n',rfl,rfl,hl,hxl,hf⟩:=DataW.trod_struct h2 h
     obtain ⟨c1,c2⟩:=AdT hc hi
     obtain ⟨_,ts,k1,k2⟩:=AgE (w:=w) (cs:=cs) (Q:=fun t ts=>Conf cx m t ts) fs 0 i.size hs (by omega) (by
      intro p hp
      rw [←hm] at hp
      simp only [List.mem_map] at hp
      obtain ⟨f,hfm,rfl⟩:=hp
      obtain ⟨j,hj,rfl⟩:=List.getElem_of_mem hfm
      have hj':j<fields.size:=by simpa using hj
      have hfj:fields[j]?=some fields[j]:=by simp [hj']
      have:=hf j _ hfj
      have hxj:xs[j]?=some xs[j]:=List.getElem?_eq_getElem (by omega)
      rw [hxj] at this
      obtain ⟨_,i',hi'⟩:=hall fields[j] (by simp)
      obtain ⟨e1,e2⟩:=AdT hc hi'
      rw [e1,←e2] at this
      simp only [Array.getElem_toList]
      exact ih n' _ _ _ (List.all_eq_true.1 hr1 (fields[j].offset,fields[j].type) (by rw [←hm];exact List.mem_map.2 ⟨fields[j],by simp,rfl⟩)) (fun k hk=>hw k (by
       simp only [DataW.weights,h2]
       exact DataW.weights_mem_each (j:=j) (by simp [hj']) (by rw [List.getElem?_map,hxj];rfl) k hk)) this)
     refine ⟨ts,by simpa [List.take_of_length_le (show cs.length≤i.size by omega)] using k1,?_⟩
     rw [conf,hty]
     refine ⟨by have:=k1.1;simp at this;omega,fun p hp=> ?_⟩
     simpa using (k2 p hp).2
    ·contradiction
   |_=>rw [hty] at hr;contradiction
  ·contradiction
end
end Go.Eva
namespace Go.Eva
open Go.RowKit Go.ChangeShapes Go.WideShapes
def Arg (cx:Cx) (m t:Nat) (x:T):Prop:=x≠ .any∧(isStruct cx t=true→ ∃l,x= .agg l)∧(isStruct cx t=false→x.cells= [x])∧Conf cx m t x.cells
def Args (cx:Cx) (m:Nat):List Nat→List T→Prop
 | [],[]=>True
 |t::ts,x::xs=>Arg cx m t x∧Args cx m ts xs
 |_,_=>False
theorem AbA {cx:Cx} {m t:Nat} {ts:List Nat} {xs:List T} (h:Args cx m (t::ts) xs): ∃x ys,xs=x::ys∧Arg cx m t x∧Args cx m ts ys:=by
 cases xs with
 |nil=>exact h.elim
 |cons x ys=>exact ⟨x,ys,rfl,h.1,h.2⟩
theorem Aki {cx:Cx} {m:Nat} {xs:List T} (h:Args cx m [] xs):xs= []:=by
 cases xs with
 |nil=>rfl
 |cons x ys=>exact h.elim
section
variable {P:Program} {cx:Cx} {H:Type} {enc:TypeId×Value→H} {W:World} {spare:Nat→Bool} {held:Bool} {base:Nat}
theorem Alb (hc:CxTy P cx) {m t:Nat} {v:Value} {d:DataW H} {p:List MemPlace} (hr:rdB cx m t=true) (hval:Value.okWide P W .any base t v) (hw: ∀k∈d.weights P t,k≤reachBytes)
  (h:DataW.Trod enc P W 0 spare held t v d p): ∃x,TR (· <W.heap.size) W x v∧Arg cx m t x:=by
 obtain ⟨fuel,hf⟩:=h
 obtain ⟨ts,h1,h2⟩:=AkT hc m fuel t _ (d,p) hr hw hf
 cases m with
 |zero=>exact h2.elim
 |succ m=>
  cases hi:cx.ti.get t with
  |none=>simp [Conf,hi] at h2
  |some i=>
   obtain ⟨inf,dd,e1,e2,e3,e4,e5,_⟩:=hc.ty t i hi
   obtain ⟨ty,isz,ib,ieq⟩:=i
   simp only at e3 e4 e5
   by_cases hs:isStruct cx t=true
   ·cases ty with
    |struct fs=>
     simp only [TyR] at e5
     obtain ⟨fields,rfl,_⟩:=e5
     obtain ⟨cs,rfl,hcs⟩:=okWide_struct e2 hval
     refine ⟨.agg ts,.agg _ _ (by simpa [Value.cells] using h1.1) ?_ ?_,by simp,fun _=>⟨ts,rfl⟩,fun h=>absurd (hs.symm.trans h) (by simp),h2⟩
     ·intro i c hic
      have hlt:i<ts.length:=by have:=(Array.getElem?_eq_some_iff.1 hic).1;have:=h1.1;simp [Value.cells] at this;omega
      exact (h1.2 i _ c (List.getElem?_eq_getElem hlt) (by simpa [Value.cells] using hic)).2.1
     ·intro i x c hx hic
      exact (h1.2 i x c hx (by simpa [Value.cells] using hic)).1
    |_=>simp [isStruct,hi] at hs
   ·have hs':isStruct cx t=false:=by simpa using hs
    obtain ⟨x,rfl,hx,hne⟩:=Aig h2 hs'
    have hv:v.cells= #[v]:=by
     unfold rdB at hr
     rw [hi] at hr
     cases ty with
     |int k=>simp only [TyR] at e5;subst e5;obtain ⟨n,rfl⟩:=okWide_int e2 hval;rfl
     |bool=>simp only [TyR] at e5;subst e5;obtain ⟨n,rfl⟩:=okWide_bool e2 hval;rfl
     |str=>simp only [TyR] at e5;subst e5;obtain ⟨n,rfl⟩:=okWide_string e2 hval;rfl
     |slice e=>simp only [TyR] at e5;obtain ⟨rfl,_⟩:=e5;obtain ⟨a,b,c,rfl⟩:=okWide_slice e2 hval;rfl
     |struct fs=>simp [isStruct,hi] at hs'
     |_=>simp at hr
    rw [hv] at h1
    exact ⟨x,(h1.2 0 x v rfl rfl).1,hne,fun h=>absurd h hs,fun _=>hx,by rw [hx];exact h2⟩
theorem AfA (hc:CxTy P cx) {m:Nat}: ∀ {pts:List Nat} {vs:List Value} {ds:List (DataW H)} {ps:List MemPlace},DataW.TrodAll enc P W 0 spare held pts vs ds ps→pts.all (rdB cx m)=true→
  (∀k∈DataW.weightsEach P pts ds,k≤reachBytes)→(∀(j:Nat) t v,pts[j]?=some t→vs[j]?=some v→Value.okWide P W .any base t v)→
  ∃xs,VRs (fun _=>none) (· <W.heap.size) W [] (xs.map .t) vs∧Args cx m pts xs
 | [],vs,ds,ps,h,_,_,_=>by
  obtain ⟨rfl,rfl,rfl⟩:=trodAll_nil h
  exact ⟨[],⟨rfl,by simp⟩,trivial⟩
 |t::pts,vs,ds,ps,h,hr,hw,hv=>by
  obtain ⟨v,vs',d,ds',p,q,rfl,rfl,rfl,h1,h2⟩:=trodAll_cons h
  simp only [List.all_cons,Bool.and_eq_true] at hr
  obtain ⟨x,k1,k2⟩:=Alb (base:=base) hc hr.1 (hv 0 t v rfl rfl) (fun k hk=>hw k (by simp only [DataW.weightsEach,List.mem_append];exact .inl hk)) h1
  obtain ⟨xs,k3,k4⟩:=AfA hc h2 hr.2 (fun k hk=>hw k (by simp only [DataW.weightsEach,List.mem_append];exact .inr hk)) (fun j t v ht hv'=>hv (j+1) t v ht hv')
  refine ⟨x::xs,⟨by have:=k3.1;simp at this;simp [this],?_⟩,k2,k4⟩
  intro i y u hy hu
  cases i with
  |zero=>simp at hy hu;subst hy;subst hu;exact .t _ _ k1
  |succ i=>exact k3.2 i y u (by simpa using hy) (by simpa using hu)
theorem Aj1 (hl:laidOutB P=true) {W':World} (bel:Below W.heap.size W W'): ∀ {pts:List Nat} {vs:List Value} {ds:List (DataW H)} {ps:List MemPlace},DataW.TrodAll enc P W 0 (fun _=>true) true pts vs ds ps→
  (pts.all fun t=>P.readableRec t&&decide (t<P.types.size))=true→DataW.TrodAll enc P W' 0 (fun b=>decide (b<W.heap.size)) true pts vs ds ps
 | [],vs,ds,ps,h,_=>by
  obtain ⟨rfl,rfl,rfl⟩:=trodAll_nil h
  exact trodAll_mk0
 |t::pts,vs,ds,ps,h,hr=>by
  obtain ⟨v,vs',d,ds',p,q,rfl,rfl,rfl,h1,h2⟩:=trodAll_cons h
  simp only [List.all_cons,Bool.and_eq_true,decide_eq_true_eq] at hr
  refine trodAll_cons_mk (Below.trod hl hr.1.1 hr.1.2 h1 bel ?_) (Aj1 hl bel h2 hr.2)
  obtain ⟨m,hm⟩:=h1
  exact DataW.trod_lt m _ _ _ hm
theorem AhG: ∀ {pts:List Nat} {vs:List Value} {ds:List (DataW H)} {ps:List MemPlace},DataW.TrodAll enc P W 0 spare held pts vs ds ps→ds.length=pts.length
 | [],vs,ds,ps,h=>by
  obtain ⟨rfl,rfl,rfl⟩:=trodAll_nil h
  rfl
 |t::pts,vs,ds,ps,h=>by
  obtain ⟨v,vs',d,ds',p,q,rfl,rfl,rfl,h1,h2⟩:=trodAll_cons h
  simp [AhG h2]
theorem Aju (hc:CxTy P cx) (hfn:FnsOK P cx) {f:Nat} {xs:List T} (h:Ev cx (.call f (xs.map .t) []) (· =⟨.ret,[.t (.bool true)],[]⟩)) {vals:Array Value}
  (hv:VRs (fun _=>none) (· <W.heap.size) W [] (xs.map .t) vals.toList):Calls P f vals W fun e W'=>e= .returned (.bool true)∧Below W.heap.size W W':=by
 have:=sound hc hfn h
 refine (this W (fun _=>none) (· <W.heap.size) vals (Ae6 fun b hb=>hb) hv).mono ?_
 rintro e W' ⟨x,v,ι',F',rfl,rfl,_,_,hr,he⟩
 refine ⟨?_,he.os,he.tape,he.output,he.size,fun k hk=>he.same k hk (fun h=>Adh h)⟩
 have:VR ι' F' W' [] (.t (.bool true)) v:=hr
 cases this with
 |t x v h=>cases h;rfl
end
end Go.Eva
namespace Go.Eva
inductive Hd where
 |fail|ret
 |ask (t:Task)|test (b:Bool)|num (k:IntKind) (n:Int)|get (xs:List T) (i:Nat)|norm (x:T)|nat (n:Nat)|cap (lo:Nat)|want (p:Prop)|both
inductive An where
 |b (c:Bool)|i (n:Int)|t (x:T)|n (m:Nat)|r (x:Res)|o
def hd {α:Type}:Q α→Hd
 | .fail=> .fail
 | .ret _=> .ret
 | .ask t _=> .ask t
 | .test b _=> .test b
 | .num k n _=> .num k n
 | .get xs i _=> .get xs i
 | .norm x _=> .norm x
 | .nat n _=> .nat n
 | .cap lo _=> .cap lo
 | .want p _=> .want p
 | .both _ _=> .both
def nx {α:Type}:Q α→An→Q α
 | .ask _ k,.r x=>k x
 | .test _ k,.b c=>k c
 | .num _ _ k,.i n=>k n
 | .get _ _ k,.t x=>k x
 | .norm _ k,.t x=>k x
 | .nat _ k,.n m=>k m
 | .cap _ k,.n m=>k m
 | .want _ q,.o=>q
 | .both p _,.b true=>p
 | .both _ q,.b false=>q
 |_,_=> .fail
def out {α:Type}:Q α→Option α
 | .ret a=>some a
 |_=>none
def Ok (S:Task→(Res→Prop)→Prop):Hd→An→Prop
 | .ask t,.r x=>S t (· =x)
 | .test b,.b c=>b=c
 | .num k n,.i m=>k.wrap n=m
 | .get xs i,.t x=>xs[i]?=some x∧x≠ .any
 | .norm x,.t y=>x=y
 | .nat n,.n m=>n=m
 | .want p,.o=>p
 |_,_=>False
def nxs {α:Type}:Q α→List An→Q α
 |q,[]=>q
 |q,a::az=>nxs (nx q a) az
def hds {α:Type}:Q α→List An→List Hd
 |_,[]=> []
 |q,a::az=>hd q::hds (nx q a) az
def Oks (S:Task→(Res→Prop)→Prop):List Hd→List An→Prop
 | [],[]=>True
 | [h],[a]=>Ok S h a
 |h::hs,a::az=>Ok S h a∧Oks S hs az
 |_,_=>False
abbrev ti (n:Int):T:= .int .i64 n
abbrev vi (n:Int):V:= .t (.int .i64 n)
abbrev vb (b:Bool):V:= .t (.bool b)
def gt {α:Type} [Inhabited α] (l:List α) (i:Nat):α:=l[i]?.getD default
section
variable {S:Task→(Res→Prop)→Prop}
theorem o_w {p:Prop} (h:p):Ok S (.want p) .o:=h
theorem o_n {n m:Nat} (h:n=m):Ok S (.nat n) (.n m):=h
theorem o_i {k:IntKind} {n m:Int} (h:k.wrap n=m):Ok S (.num k n) (.i m):=h
theorem o_t {x y:T} (h:x=y):Ok S (.norm x) (.t y):=h
theorem o_l {s:Nat} {xs ys:List T} (h:xs=ys):Ok S (.norm (.sl s xs)) (.t (.sl s ys)):=congrArg (qk s) h
theorem o_gm {α:Type} {f:α→T} {l:List α} {xs:List T} {i:Nat} {e:α} (h:xs=l.map f) (he:l[i]?=some e) (hx:f e≠ .any):Ok S (.get xs i) (.t (f e)):=⟨by subst h;rw [List.getElem?_map,he];rfl,hx⟩
theorem Ab2 {α:Type} {l:List α} {k:Nat} {e:α} (h:k<l.length):(l.set k e)[k]?=some e:=by simp [h]
theorem AdE {α:Type} [Inhabited α] {l:List α} {i:Nat} (h:i<l.length):l[i]?=some (gt l i):=by simp [gt,h]
theorem o_gt {α:Type} [Inhabited α] {f:α→T} {l:List α} {xs:List T} {i:Nat} (h:xs=l.map f) (he:i<l.length) (hx:f (gt l i)≠ .any):Ok S (.get xs i) (.t (f (gt l i))):=o_gm h (AdE he) hx
theorem o_b {b c:Bool} (h:b=c):Ok S (.test b) (.b c):=h
theorem o_a {t:Task} {x:Res} (h:S t (· =x)):Ok S (.ask t) (.r x):=h
theorem t_brp {p:Prop} [Decidable p] (h:p):Ok S (.test (decide p)) (.b true):=decide_eq_true h
theorem f_brp {p:Prop} [Decidable p] (h: ¬p):Ok S (.test (decide p)) (.b false):=decide_eq_false h
theorem t_bre {x y:Int} (h:x=y):Ok S (.test (x==y)) (.b true):=by simpa [Ok] using h
theorem f_bre {x y:Int} (h:x≠y):Ok S (.test (x==y)) (.b false):=by simpa [Ok] using h
theorem t_brn {x y:Int} (h:x≠y):Ok S (.test (x !=y)) (.b true):=by simpa [Ok] using h
theorem f_brn {x y:Int} (h:x=y):Ok S (.test (x !=y)) (.b false):=by simpa [Ok] using h
theorem AfT {b:Bool} (h:b=false):Ok S (.test (!b)) (.b true):=by simpa [Ok] using h
theorem Agd {b:Bool} (h:b=true):Ok S (.test (!b)) (.b false):=by simpa [Ok] using h
end
theorem w64 {n m:Int} (h: -9223372036854775808≤n∧n≤9223372036854775807∧n=m):IntKind.i64.wrap n=m:=by
 rw [wrap64 ⟨h.1,h.2.1⟩];exact h.2.2
theorem wu64 {n m:Int} (h:0≤n∧n≤18446744073709551615∧n=m):IntKind.u64.wrap n=m:=by
 have h64:IntKind.u64.wrap n=n%18446744073709551616:=by simp [zp,IntKind.bits,IntKind.signed]
 rw [h64];omega
section
variable {α:Type} {f:α→T} {a b:List T} {l m:List α} {x:T} {e:α} {n:Nat}
theorem Aa1 (h:a=l.map f) (k:b=m.map f):a++b=(l++m).map f:=by rw [h,k,List.map_append]
theorem AaV:([]:List T)=([]:List α).map f:=rfl
theorem Aa8 (h:x=f e) (k:a=l.map f):x::a=(e::l).map f:=by rw [h,k,List.map_cons]
theorem Ab5 (h:a=l.map f):a.take n=(l.take n).map f:=by rw [h,List.map_take]
theorem Acu (h:a=l.map f):a.drop n=(l.drop n).map f:=by rw [h,List.map_drop]
theorem Aao (h:a=l.map f) (k:x=f e):a.set n x=(l.set n e).map f:=by rw [h,k,List.map_set]
theorem Ali (k:x=f e):zj n x=(zj n e).map f:=by rw [k,List.map_replicate]
theorem nm_eq (h:a=l.map f) (k:l=m):a=m.map f:=by rw [h,k]
end
inductive Stp where
 |tt|ff
 |b (x c:Bool)|w (p:Prop)|n (n m:Nat)|l (n:Nat)|i (k:IntKind) (n m:Int)|t (x y:T)|s (x:T)|g (xs:List T) (i:Nat) (x:T)|a (t:Task) (r:Res)
def Stp.hd:Stp→Hd
 | .tt=> .test true| .ff=> .test false
 | .b x1 _=> .test x1| .w p1=> .want p1| .n n1 _=> .nat n1| .l n1=> .nat n1| .i k1 n1 _=> .num k1 n1| .t x1 _=> .norm x1| .s x1=> .norm x1| .g xs1 i1 _=> .get xs1 i1| .a t1 _=> .ask t1
def Stp.an:Stp→An
 | .tt=> .b true| .ff=> .b false
 | .b _ c1=> .b c1| .w _=> .o| .n _ m1=> .n m1| .l n1=> .n n1| .i _ _ m1=> .i m1| .t _ y1=> .t y1| .s x1=> .t x1| .g _ _ x1=> .t x1| .a _ r1=> .r r1
def hdL:List Stp→List Hd
 | []=> []
 |s::r=>s.hd::hdL r
def anL:List Stp→List An
 | []=> []
 |s::r=>s.an::anL r
def Obs (S:Task→(Res→Prop)→Prop):List Stp→Prop
 | []=>True
 | .tt::r=>Obs S r
 | .ff::r=>Obs S r
 | .l _::r=>Obs S r
 | .s _::r=>Obs S r
 |x::r=>Ok S x.hd x.an∧Obs S r
theorem Obs.oks {S:Task→(Res→Prop)→Prop}: ∀ {l:List Stp},Obs S l→Oks S (hdL l) (anL l)
 | [],_=>trivial
 |s::r,h=>by
  have key:Ok S s.hd s.an∧Oks S (hdL r) (anL r):=by
   cases s<;>first|exact ⟨h.1,Obs.oks h.2⟩|exact ⟨rfl,Obs.oks (l:=r) h⟩
  cases r with
  |nil=>exact key.1
  |cons s' r=>exact key
section
variable {S:Task→(Res→Prop)→Prop}
theorem oW {p:Prop} (h:p:=by omega):Ok S (.want p) .o:=h
theorem oA {p:Prop} (h:p:=by assumption):Ok S (.want p) .o:=h
theorem oN {n m:Nat} (h:n=m:=by omega):Ok S (.nat n) (.n m):=h
theorem oI {n m:Int} (h: -9223372036854775808≤n∧n≤9223372036854775807∧n=m:=by omega):Ok S (.num .i64 n) (.i m):=w64 h
theorem oU {n m:Int} (h:0≤n∧n≤18446744073709551615∧n=m:=by omega):Ok S (.num .u64 n) (.i m):=wu64 h
theorem oK {k:IntKind} {n m:Int} (h:k.wrap n=m:=by kernel_rfl):Ok S (.num k n) (.i m):=h
theorem oG {xs:List T} {i:Nat} {x:T} (h:xs[i]?=some x:=by kernel_rfl) (hx:x≠ .any:=by intro h;cases h):Ok S (.get xs i) (.t x):=⟨h,hx⟩
theorem oT {α:Type} [Inhabited α] {f:α→T} {l:List α} {i:Nat} (he:i<l.length:=by omega) (hx:f (gt l i)≠ .any:=by intro h;cases h):Ok S (.get (l.map f) i) (.t (f (gt l i))):=o_gt rfl he hx
theorem tP {p:Prop} [Decidable p] (h:p:=by omega):Ok S (.test (decide p)) (.b true):=decide_eq_true h
theorem fP {p:Prop} [Decidable p] (h: ¬p:=by omega):Ok S (.test (decide p)) (.b false):=decide_eq_false h
theorem tE {x y:Int} (h:x=y:=by omega):Ok S (.test (x==y)) (.b true):=t_bre h
theorem fE {x y:Int} (h:x≠y:=by omega):Ok S (.test (x==y)) (.b false):=f_bre h
theorem tN {x y:Int} (h:x≠y:=by omega):Ok S (.test (x !=y)) (.b true):=t_brn h
theorem fN {x y:Int} (h:x=y:=by omega):Ok S (.test (x !=y)) (.b false):=f_brn h
theorem tB {b:Bool} (h:b=true:=by assumption):Ok S (.test b) (.b true):=h
theorem fB {b:Bool} (h:b=false:=by assumption):Ok S (.test b) (.b false):=h
end
structure Wp (cx:Cx) (q:Q Res) (R:Res→Prop):Prop where
 h:wpQ (Ev cx) q R
section
variable {cx:Cx} {R:Res→Prop} {q:Q Res}
theorem Wp.ev {t:Task} (h:Wp cx (body cx t) R):Ev cx t R:=Ev.mk h.h
theorem go1 {a:An} (h:Ok (Ev cx) (hd q) a) (k:Wp cx (nx q a) R):Wp cx q R:=by
 constructor
 replace k:=k.h
 cases q<;>cases a<;>simp only [hd,Ok,nx] at h k<;>try exact h.elim
 ·exact ⟨_,h,⟨_,rfl⟩,fun _ e=>e ▸ k⟩
 ·subst h;exact k
 ·subst h;exact k
 ·exact ⟨_,h.1,h.2,k⟩
 ·subst h;exact k
 ·subst h;exact k
 ·exact ⟨h,k⟩
theorem go {l:List An} {hs:List Hd} (h:hds q l=hs) (o:Oks (Ev cx) hs l) (k:Wp cx (nxs q l) R):Wp cx q R:=by
 induction l generalizing q hs with
 |nil=>exact k
 |cons a l ih=>
  subst h
  cases l with
  |nil=>exact go1 o k
  |cons b l=>exact go1 o.1 (ih rfl o.2 k)
theorem gs {l:List Stp} (h:hds q (anL l)=hdL l) (o:Obs (Ev cx) l) (k:Wp cx (nxs q (anL l)) R):Wp cx q R:=go h o.oks k
theorem br {b:Bool} (h:hd q= .test b) (ht:b=true→Wp cx (nx q (.b true)) R) (hf:b=false→Wp cx (nx q (.b false)) R):Wp cx q R:=by
 cases q<;>simp only [hd,Hd.test.injEq,reduceCtorEq] at h
 subst h
 rename_i b k
 cases b with
 |true=>exact ⟨(ht rfl).h⟩
 |false=>exact ⟨(hf rfl).h⟩
theorem brp {p:Prop} [d:Decidable p] (h:hd q= .test (decide p)) (ht:p→Wp cx (nx q (.b true)) R) (hf: ¬p→Wp cx (nx q (.b false)) R):Wp cx q R:=
 br h (fun h=>ht (of_decide_eq_true h)) (fun h=>hf (of_decide_eq_false h))
theorem bre {x y:Int} (h:hd q= .test (x==y)) (ht:x=y→Wp cx (nx q (.b true)) R) (hf:x≠y→Wp cx (nx q (.b false)) R):Wp cx q R:=
 br h (fun h=>ht (by simpa using h)) (fun h=>hf (by simpa using h))
theorem brn {x y:Int} (h:hd q= .test (x !=y)) (ht:x≠y→Wp cx (nx q (.b true)) R) (hf:x=y→Wp cx (nx q (.b false)) R):Wp cx q R:=
 br h (fun h=>ht (by simpa using h)) (fun h=>hf (by simpa using h))
theorem brnot {b:Bool} (h:hd q= .test (!b)) (ht:b=false→Wp cx (nx q (.b true)) R) (hf:b=true→Wp cx (nx q (.b false)) R):Wp cx q R:=
 br h (fun h=>ht (by simpa using h)) (fun h=>hf (by simpa using h))
theorem cp {lo:Nat} (h:hd q= .cap lo) (k: ∀c,lo≤c→Wp cx (nx q (.n c)) R):Wp cx q R:=by
 cases q<;>simp only [hd,Hd.cap.injEq,reduceCtorEq] at h
 subst h
 exact ⟨fun c hc=>(k c hc).h⟩
theorem bo (h:hd q= .both) (k1:Wp cx (nx q (.b true)) R) (k2:Wp cx (nx q (.b false)) R):Wp cx q R:=by
 cases q<;>simp only [hd,reduceCtorEq] at h
 exact ⟨k1.h,k2.h⟩
theorem rt {a:Res} (h:out q=some a) (hr:R a):Wp cx q R:=by
 cases q<;>simp only [out,Option.some.injEq,reduceCtorEq] at h
 subst h
 exact ⟨hr⟩
theorem gg (l:List Stp) (o:Obs (Ev cx) l) (k:Wp cx (nxs q (anL l)) R) (h:hds q (anL l)=hdL l:=by kernel_rfl):Wp cx q R:=gs h o k
theorem bO (k1:Wp cx (nx q (.b true)) R) (k2:Wp cx (nx q (.b false)) R) (h:hd q= .both:=by kernel_rfl):Wp cx q R:=bo h k1 k2
theorem rT {a:Res} (hr:R a) (h:out q=some a:=by kernel_rfl):Wp cx q R:=rt h hr
theorem nK {S:Task→(Res→Prop)→Prop} {n m:Nat} (h:n=m:=by kernel_rfl):Ok S (.nat n) (.n m):=h
theorem bK {S:Task→(Res→Prop)→Prop} {b c:Bool} (h:b=c:=by kernel_rfl):Ok S (.test b) (.b c):=h
theorem ge {r:Res} (h:out q=some r:=by kernel_rfl):Wp cx q (· =r):=rt h rfl
end
theorem mkOk {P : Program} {cx : Cx} {f : Nat} {fi : FI} {fn : Func} (h1 : P.funcs[f]? = some fn := by kernel_rfl) (h2 : fn.name ≠ "runtime.NumGoroutine" := by decide +kernel) (h3 : fn.body = some fi.code := by kernel_rfl)
 (h4:fn.results.toList.map rvOf=fi.res:=by kernel_rfl) (h5:fi.res.all (rvTy cx)=true:=by kernel_rfl) (h6:fitC cx fi fn.ntmps fi.code=true:=by decide+kernel):FnOK P cx f fi fn:=⟨h1,h2,h3,h4,h5,h6⟩
end Go.Eva
namespace Go.Eva.S5
open Go.Proofs
noncomputable def codeOf (f:Func):Code:=match f.body with|some c=>c|none=> .skip
noncomputable def tis:Tr TI:=
 (.n (.n (.n (.n (.n (.n (.n (.n .z ⟨.fn,1,8,false⟩ .z) ⟨.slice 38,1,24,false⟩ (.n .z ⟨.ptr,1,8,false⟩ .z)) ⟨.int .i64,1,8,false⟩ (.n (.n .z ⟨.fn,1,8,false⟩ .z) ⟨.fn,
 1,8,false⟩ .z)) ⟨.ptr,1,8,false⟩ (.n (.n (.n .z ⟨.fn,1,8,false⟩ .z) ⟨.fn,1,8,false⟩ .z) ⟨.struct [(0,3),(1,3),(2,3),(3,3),(4,3),(5,3),(6,3),(7,3),(8,
 3)],9,72,false⟩ (.n (.n .z ⟨.fn,1,8,false⟩ .z) ⟨.fn,1,8,false⟩ .z))) ⟨.struct [(0,2),(1,3),(2,4),(3,6)],4,24,false⟩ (.n (.n (.n (.n .z ⟨.fn,1,8,false⟩ .z)
 ⟨.fn,1,8,false⟩ .z) ⟨.fn,1,8,false⟩ (.n (.n .z ⟨.slice 4,1,24,false⟩ .z) ⟨.fn,1,8,false⟩ .z)) ⟨.struct [(0,3),(1,3),(2,3),(3,3),(4,22)],5,40,false⟩ (.n (.n
 (.n .z ⟨.fn,1,8,false⟩ .z) ⟨.fn,1,8,false⟩ .z) ⟨.fn,1,8,false⟩ (.n (.n .z ⟨.struct [(0,17),(1,17),(2,17),(3,9)],4,40,false⟩ .z) ⟨.fn,1,8,false⟩ .z)))) ⟨.int
 .i64,1,8,false⟩ (.n (.n (.n (.n (.n .z ⟨.fn,1,8,false⟩ .z) ⟨.fn,1,8,false⟩ (.n .z ⟨.struct [(0,12),(1,12),(2,187),(3,188),(4,5),(5,5),(6,189),(7,190),(8,
 191),(9,192),(10,193)],11,48,false⟩ .z)) ⟨.int .u64,1,8,false⟩ (.n (.n .z ⟨.fn,1,8,false⟩ .z) ⟨.struct [(0,30),(5,3),(6,3),(7,25),(8,3),(9,27)],10,112,
 false⟩ .z)) ⟨.struct [(0,17)],1,8,false⟩ (.n (.n (.n .z ⟨.fn,1,8,false⟩ .z) ⟨.fn,1,8,false⟩ .z) ⟨.fn,1,8,false⟩ (.n (.n .z ⟨.fn,1,8,false⟩ .z) ⟨.fn,1,8,false⟩
 .z))) ⟨.str,1,16,false⟩ (.n (.n (.n (.n .z ⟨.fn,1,8,false⟩ .z) ⟨.fn,1,8,false⟩ .z) ⟨.other,1,0,false⟩ (.n (.n .z ⟨.fn,1,8,false⟩ .z) ⟨.fn,1,8,false⟩ .z)) ⟨.slice
 50,1,24,false⟩ (.n (.n (.n .z ⟨.fn,1,8,false⟩ .z) ⟨.fn,1,8,false⟩ .z) ⟨.fn,1,8,false⟩ (.n (.n .z ⟨.int .u32,1,4,false⟩ .z) ⟨.fn,1,8,false⟩ .z))))) ⟨.fn,1,8,
 false⟩ (.n (.n (.n (.n (.n (.n .z ⟨.fn,1,8,false⟩ .z) ⟨.struct [(0,63),(1,64)],2,48,false⟩ (.n .z ⟨.int .i32,1,4,false⟩ .z)) ⟨.fn,1,8,false⟩ (.n (.n .z ⟨.fn,1,8,
 false⟩ .z) ⟨.ptr,1,8,false⟩ .z)) ⟨.ptr,1,8,false⟩ (.n (.n (.n .z ⟨.fn,1,8,false⟩ .z) ⟨.fn,1,8,false⟩ .z) ⟨.struct [(0,3),(1,3),(2,3),(3,3),(4,48),(13,3),
 (14,3)],15,120,true⟩ (.n (.n .z ⟨.fn,1,8,false⟩ .z) ⟨.fn,1,8,false⟩ .z))) ⟨.str,1,16,false⟩ (.n (.n (.n (.n .z ⟨.ptr,1,8,false⟩ .z) ⟨.fn,1,8,false⟩ .z) ⟨.slice
 26,1,24,false⟩ (.n (.n .z ⟨.fn,1,8,false⟩ .z) ⟨.fn,1,8,false⟩ .z)) ⟨.slice 48,1,24,false⟩ (.n (.n (.n .z ⟨.struct [(0,24),(5,3),(6,3),(7,25),(8,3)],9,88,
 false⟩ .z) ⟨.fn,1,8,false⟩ .z) ⟨.fn,1,8,false⟩ (.n (.h .z .z) ⟨.fn,1,8,false⟩ .z)))) ⟨.int .u8,1,1,false⟩ (.n (.n (.n (.n (.n .z ⟨.other,1,0,false⟩ .z) ⟨.fn,1,8,
 false⟩ .z) ⟨.struct [(0,3),(1,25)],2,32,false⟩ (.n (.n .z ⟨.fn,1,8,false⟩ .z) ⟨.fn,1,8,false⟩ .z)) ⟨.int .i32,1,4,false⟩ (.n (.n (.n .z ⟨.fn,1,8,false⟩ .z) ⟨.fn,
 1,8,false⟩ .z) ⟨.fn,1,8,false⟩ (.n (.n .z ⟨.fn,1,8,false⟩ .z) ⟨.fn,1,8,false⟩ .z))) ⟨.struct [(0,9),(1,12)],2,24,false⟩ (.n (.n (.n (.n .z ⟨.fn,1,8,false⟩ .z)
 ⟨.fn,1,8,false⟩ .z) ⟨.fn,1,8,false⟩ (.n (.n .z ⟨.fn,1,8,false⟩ .z) ⟨.fn,1,8,false⟩ .z)) ⟨.struct [(0,24)],5,40,true⟩ (.n (.n (.n .z ⟨.fn,1,8,false⟩ .z) ⟨.fn,1,
 8,false⟩ .z) ⟨.struct [(0,3),(1,3),(2,4)],3,24,true⟩ (.n (.n .z ⟨.int .u8,1,1,false⟩ .z) ⟨.fn,1,8,false⟩ .z)))))) ⟨.other,1,0,false⟩ (.n (.n (.n (.n (.n (.n (.n
 .z ⟨.fn,1,8,false⟩ .z) ⟨.slice 27,1,24,false⟩ (.n .z ⟨.int .i32,1,4,false⟩ .z)) ⟨.other,1,0,false⟩ (.n (.n .z ⟨.fn,1,8,false⟩ .z) ⟨.fn,1,8,false⟩ .z)) ⟨.ptr,1,
 8,false⟩ (.n (.n (.n .z ⟨.fn,1,8,false⟩ .z) ⟨.fn,1,8,false⟩ .z) ⟨.struct [(0,3),(1,3),(2,3),(3,3),(4,3),(5,3),(6,3),(7,3),(8,3)],9,72,true⟩ (.n (.n .z
 ⟨.fn,1,8,false⟩ .z) ⟨.fn,1,8,false⟩ .z))) ⟨.struct [(0,2),(1,3),(2,4),(3,6)],4,24,false⟩ (.n (.n (.n (.n .z ⟨.fn,1,8,false⟩ .z) ⟨.fn,1,8,false⟩ .z) ⟨.fn,1,
 8,false⟩ (.n (.n .z ⟨.fn,1,8,false⟩ .z) ⟨.fn,1,8,false⟩ .z)) ⟨.struct [(0,3),(1,3),(2,3),(3,3),(4,22)],5,40,true⟩ (.n (.n (.n .z ⟨.struct [(0,24),(5,3),(6,
 3),(7,25),(8,3)],9,88,false⟩ .z) ⟨.fn,1,8,false⟩ .z) ⟨.fn,1,8,false⟩ (.n (.h .z .z) ⟨.fn,1,8,false⟩ .z)))) ⟨.bool,1,1,false⟩ (.n (.n (.n (.n (.n .z ⟨.fn,1,8,
 false⟩ .z) ⟨.other,1,0,false⟩ (.n .z ⟨.other,1,8,false⟩ .z)) ⟨.fn,1,8,false⟩ (.n (.n .z ⟨.fn,1,8,false⟩ .z) ⟨.struct [(0,30),(5,3),(6,3),(7,25),(8,3),(9,
 27)],10,112,false⟩ .z)) ⟨.other,1,16,false⟩ (.n (.n (.n .z ⟨.fn,1,8,false⟩ .z) ⟨.fn,1,8,false⟩ .z) ⟨.slice 3,1,24,false⟩ (.n (.n .z ⟨.fn,1,8,false⟩ .z) ⟨.fn,1,
 8,false⟩ .z))) ⟨.int .u64,1,8,false⟩ (.n (.n (.n (.n .z ⟨.fn,1,8,false⟩ .z) ⟨.fn,1,8,false⟩ .z) ⟨.fn,1,8,false⟩ (.n (.n .z ⟨.fn,1,8,false⟩ .z) ⟨.fn,1,8,false⟩
 .z)) ⟨.fn,1,8,false⟩ (.n (.n (.n .z ⟨.fn,1,8,false⟩ .z) ⟨.fn,1,8,false⟩ .z) ⟨.struct [(0,3),(1,3),(2,4)],3,24,false⟩ (.n (.n .z ⟨.int .u8,1,1,false⟩ .z) ⟨.fn,
 1,8,false⟩ .z))))) ⟨.int .i64,1,8,false⟩ (.n (.n (.n (.n (.n (.n .z ⟨.fn,1,8,false⟩ .z) ⟨.struct [(0,63),(1,64)],2,48,false⟩ (.n .z ⟨.struct [(0,12),(1,12),(2,
 187),(3,188),(4,5),(5,5),(6,189),(7,190),(8,191),(9,192),(10,193)],11,48,false⟩ .z)) ⟨.fn,1,8,false⟩ (.n (.n .z ⟨.fn,1,8,false⟩ .z) ⟨.fn,1,8,false⟩ .z))
 ⟨.struct [(0,17)],1,8,false⟩ (.n (.n (.n .z ⟨.fn,1,8,false⟩ .z) ⟨.fn,1,8,false⟩ .z) ⟨.struct [(0,3),(1,3),(2,3),(3,3),(4,48),(13,3),(14,3)],15,120,true⟩
 (.n (.n .z ⟨.fn,1,8,false⟩ .z) ⟨.fn,1,8,false⟩ .z))) ⟨.str,1,16,false⟩ (.n (.n (.n (.n .z ⟨.fn,1,8,false⟩ .z) ⟨.fn,1,8,false⟩ .z) ⟨.fn,1,8,false⟩ (.n (.n .z ⟨.fn,
 1,8,false⟩ .z) ⟨.fn,1,8,false⟩ .z)) ⟨.slice 61,1,24,false⟩ (.n (.n (.n .z ⟨.fn,1,8,false⟩ .z) ⟨.other,1,0,false⟩ .z) ⟨.fn,1,8,false⟩ (.n (.h .z .z) ⟨.fn,1,8,
 false⟩ .z)))) ⟨.int .u8,1,1,false⟩ (.n (.n (.n (.n (.n .z ⟨.fn,1,8,false⟩ .z) ⟨.fn,1,8,false⟩ .z) ⟨.struct [(0,3),(1,25)],2,32,false⟩ (.n (.n .z ⟨.fn,1,8,false⟩
 .z) ⟨.fn,1,8,false⟩ .z)) ⟨.int .u64,1,8,false⟩ (.n (.n (.n .z ⟨.ptr,1,8,false⟩ .z) ⟨.fn,1,8,false⟩ .z) ⟨.fn,1,8,false⟩ (.n (.n .z ⟨.struct [(0,17),(1,17),(2,
 17),(3,9)],4,40,false⟩ .z) ⟨.fn,1,8,false⟩ .z))) ⟨.struct [(0,9),(1,12)],2,24,false⟩ (.n (.n (.n (.n .z ⟨.fn,1,8,false⟩ .z) ⟨.fn,1,8,false⟩ .z) ⟨.fn,1,8,
 false⟩ (.n (.n .z ⟨.fn,1,8,false⟩ .z) ⟨.fn,1,8,false⟩ .z)) ⟨.struct [(0,24)],5,40,false⟩ (.n (.n (.n .z ⟨.fn,1,8,false⟩ .z) ⟨.fn,1,8,false⟩ .z) ⟨.fn,1,8,false⟩
 (.n (.n .z ⟨.fn,1,8,false⟩ .z) ⟨.fn,1,8,false⟩ .z)))))))
noncomputable def fi6:FI:=⟨codeOf Tryz.f6,[.tmp 12],.pure,[([0,1,0,1,1,1,1,1,1,1,1,1],[1,13,15,16,17,18,19])],[(13,.one 0 (.one 1 (.one 2 (.one 3 (.one 6 (.one 7 (.one 8 (.one 9 (.one 4 (.one 5 (.one 10 (.one 11 (.one 12 (.one 13 (.one 14 (.one 15 (.done)))))))))))))))))],[],false⟩
noncomputable def fi16:FI:=⟨codeOf Tryz.f16,[.cell 2 24],.pure,[],[],[],false⟩
noncomputable def fi17:FI:=⟨codeOf Tryz.f17,[.cell 2 30,.tmp 3],.pure,[],[],[],false⟩
noncomputable def fi18:FI:=⟨codeOf Tryz.f18,[.tmp 0],.pure,[],[(2,.one 1 (.one 0 (.two 2 (.two 3 (.one 4 (.one 5 (.one 6 (.one 7 (.one 8 (.one 9 (.one 10 (.one 11 (.done))))))))) 8 (.one 3 (.one 4 (.one 5 (.one 6 (.one 7 (.one 9 (.one 10 (.one 11 (.done)))))))))) 8 (.one 2 (.one 3 (.one 4 (.one 5 (.one 6 (.one 7 (.one 9 (.one 10 (.one 11 (.done)))))))))))))],[],false⟩
noncomputable def fi19:FI:=⟨codeOf Tryz.f19,[.tmp 2],.pure,[],[],[],false⟩
noncomputable def fi20:FI:=⟨codeOf Tryz.f20,[.cell 8 38],.pure,[([0,1,0,1,1,1],[3,4,8,9,10,11,12])],[(9,.one 0 (.one 3 (.one 9 (.one 11 (.one 13 (.one 19 (.one 1 (.one 2 (.one 4 (.one 5 (.one 6 (.one 7 (.one 8 (.one 10 (.one 12 (.one 14 (.one 15 (.one 16 (.one 17 (.one 18 (.one 20 (.one 21 (.one 22 (.one 23 (.one 24 (.one 25 (.done)))))))))))))))))))))))))))],[],false⟩
noncomputable def fi22:FI:=⟨codeOf Tryz.f22,[.tmp 6],.fresh,[([0,1,0,1,0,0,1,0,0,1,0,1,1],[1,2,3,7,8,9,10]),([0,1,0,1,1],[1,2,3,7,8])],[],[],false⟩
noncomputable def fi23:FI:=⟨codeOf Tryz.f23,[.cell 10 38,.tmp 11,.tmp 12],.pure,[],[(4,.one 1 (.one 2 (.one 5 (.one 7 (.one 0 (.one 3 (.one 4 (.one 6 (.one 8 (.one 9 (.one 10 (.one 11 (.done))))))))))))),(11,.one 0 (.one 3 (.one 4 (.one 5 (.one 8 (.one 9 (.one 10 (.one 1 (.one 2 (.one 6 (.one 7 (.one 11 (.one 12 (.one 13 (.one 14 (.one 15 (.one 16 (.done))))))))))))))))))],[],false⟩
noncomputable def fi29:FI:=⟨codeOf Tryz.f29,[.tmp 4],.pure,[],[],[],false⟩
noncomputable def fi30:FI:=⟨codeOf Tryz.f30,[.tmp 4],.pure,[],[],[],false⟩
noncomputable def fi31:FI:=⟨codeOf Tryz.f31,[.tmp 8],.pure,[([0,1,0,1,1],[9,16,17,18])],[],[([0,1,0,1,1],[9])],false⟩
noncomputable def fi45:FI:=⟨codeOf Tryz.f45,[.tmp 4],.pure,[],[],[],false⟩
noncomputable def fi52:FI:=⟨codeOf Tryz.f52,[.tmp 2],.pure,[],[],[],false⟩
noncomputable def fi53:FI:=⟨codeOf Tryz.f53,[.tmp 2],.pure,[],[],[],false⟩
noncomputable def fi54:FI:=⟨codeOf Tryz.f54,[.tmp 6],.pure,[],[],[],false⟩
noncomputable def fi55:FI:=⟨codeOf Tryz.f55,[.tmp 2,.tmp 3],.pure,[],[(3,.one 0 (.one 1 (.one 3 (.one 4 (.one 2 (.one 6 (.one 5 (.one 7 (.done)))))))))],[],false⟩
noncomputable def fi56:FI:=⟨codeOf Tryz.f56,[.tmp 4,.tmp 5],.pure,[],[(3,.one 0 (.one 1 (.one 5 (.one 6 (.one 2 (.one 3 (.one 4 (.one 10 (.one 7 (.one 8 (.one 9 (.one 11 (.done)))))))))))))],[],false⟩
noncomputable def fi57:FI:=⟨codeOf Tryz.f57,[.tmp 4],.pure,[],[],[],false⟩
noncomputable def fi58:FI:=⟨codeOf Tryz.f58,[.tmp 4],.pure,[([0,0,1,1,1],[0,3,5])],[(4,.one 0 (.one 1 (.one 2 (.one 3 (.one 4 (.one 5 (.one 6 (.one 7 (.one 8 (.one 10 (.one 9 (.one 11 (.one 12 (.one 13 (.done))))))))))))))),(6,.one 0 (.one 1 (.one 2 (.one 7 (.one 8 (.one 9 (.one 4 (.two 3 (.one 5 (.one 6 (.one 10 (.one 11 (.done))))) 5 (.one 3 (.one 6 (.one 10 (.one 11 (.done)))))))))))))],[],false⟩
noncomputable def fi59:FI:=⟨codeOf Tryz.f59,[.cell 2 61],.pure,[],[],[],false⟩
noncomputable def fi60:FI:=⟨codeOf Tryz.f60,[.tmp 10],.pure,[],[],[],false⟩
noncomputable def fi61:FI:=⟨codeOf Tryz.f61,[.tmp 8],.fresh,[([0,1,0,1,1],[9,15,16,17])],[],[([0,1,0,1,1],[9])],true⟩
noncomputable def fi62:FI:=⟨codeOf Tryz.f62,[],.inout,[([0,1],[0,1,12,13,14])],[(7,.one 0 (.one 1 (.one 2 (.one 3 (.one 7 (.alt 4 (.alt 5 (.two 6 (.one 8 (.one 9 (.one 10 (.one 11 (.one 12 (.one 13 (.one 14 (.done)))))))) 8 (.one 6 (.one 9 (.one 10 (.one 11 (.one 12 (.one 13 (.one 14 (.done))))))))) (.alt 6 (.two 5 (.one 8 (.one 9 (.one 10 (.one 11 (.one 12 (.one 13 (.one 14 (.done)))))))) 8 (.one 5 (.one 9 (.one 10 (.one 11 (.one 12 (.one 13 (.one 14 (.done))))))))) (.one 8 (.one 5 (.one 6 (.one 9 (.one 10 (.one 11 (.one 12 (.one 13 (.one 14 (.done)))))))))))) (.alt 5 (.alt 4 (.two 6 (.one 8 (.one 9 (.one 10 (.one 11 (.one 12 (.one 13 (.one 14 (.done)))))))) 8 (.one 6 (.one 9 (.one 10 (.one 11 (.one 12 (.one 13 (.one 14 (.done))))))))) (.alt 6 (.two 4 (.one 8 (.one 9 (.one 10 (.one 11 (.one 12 (.one 13 (.one 14 (.done)))))))) 8 (.one 4 (.one 9 (.one 10 (.one 11 (.one 12 (.one 13 (.one 14 (.done))))))))) (.one 8 (.one 4 (.one 6 (.one 9 (.one 10 (.one 11 (.one 12 (.one 13 (.one 14 (.done)))))))))))) (.alt 6 (.alt 4 (.two 5 (.one 8 (.one 9 (.one 10 (.one 11 (.one 12 (.one 13 (.one 14 (.done)))))))) 8 (.one 5 (.one 9 (.one 10 (.one 11 (.one 12 (.one 13 (.one 14 (.done))))))))) (.alt 5 (.two 4 (.one 8 (.one 9 (.one 10 (.one 11 (.one 12 (.one 13 (.one 14 (.done)))))))) 8 (.one 4 (.one 9 (.one 10 (.one 11 (.one 12 (.one 13 (.one 14 (.done))))))))) (.one 8 (.one 4 (.one 5 (.one 9 (.one 10 (.one 11 (.one 12 (.one 13 (.one 14 (.done)))))))))))) (.one 8 (.one 4 (.one 5 (.one 6 (.one 9 (.one 10 (.one 11 (.one 12 (.one 13 (.one 14 (.done))))))))))))))))))),(10,.one 0 (.one 1 (.one 2 (.one 4 (.one 5 (.one 6 (.one 8 (.one 3 (.one 7 (.one 9 (.one 11 (.one 10 (.one 12 (.one 13 (.done)))))))))))))))],[],false⟩
noncomputable def fi63:FI:=⟨codeOf Tryz.f63,[],.inout,[([0,1,0,1],[0,2,10,11,12])],[(4,.one 0 (.one 1 (.one 2 (.one 3 (.one 4 (.two 5 (.one 6 (.one 7 (.one 8 (.one 9 (.one 10 (.one 11 (.done))))))) 9 (.one 5 (.one 6 (.one 7 (.one 8 (.one 10 (.one 11 (.done)))))))))))))],[([0,1,0,1],[2])],false⟩
noncomputable def fi64:FI:=⟨codeOf Tryz.f64,[.tmp 4],.fresh,[([0,1,0,1,1],[5,12,13,14]),([0,1,1,0,0,1,1,0,0,1,0,1,1],[5,7,12,13,14,19,20])],[(9,.one 0 (.one 1 (.one 2 (.one 3 (.one 4 (.one 5 (.one 6 (.one 7 (.one 8 (.one 9 (.one 10 (.one 11 (.one 12 (.one 14 (.one 16 (.one 13 (.one 15 (.one 17 (.one 18 (.one 19 (.done)))))))))))))))))))))],[],true⟩
noncomputable def fi65:FI:=⟨codeOf Tryz.f65,[.tmp 2],.fresh,[],[],[],true⟩
noncomputable def fi66:FI:=⟨codeOf Tryz.f66,[.tmp 2],.fresh,[],[],[],true⟩
noncomputable def fi67:FI:=⟨codeOf Tryz.f67,[],.inout,[([0,1],[0,11,12,13]),([0,1,0,1,1,0,0,1,1,0,0,1],[0,3,4,11,12,13,36,37,38])],[(3,.one 0 (.one 1 (.one 2 (.one 4 (.one 5 (.one 6 (.one 8 (.one 3 (.one 7 (.one 9 (.one 10 (.one 11 (.done))))))))))))),(4,.one 0 (.one 1 (.one 2 (.one 4 (.one 5 (.one 6 (.one 10 (.one 3 (.one 7 (.one 8 (.one 9 (.done)))))))))))),(7,.one 0 (.one 1 (.one 2 (.one 3 (.one 4 (.one 6 (.one 7 (.one 8 (.one 5 (.one 9 (.one 10 (.one 11 (.done)))))))))))))],[],false⟩
noncomputable def fi68:FI:=⟨codeOf Tryz.f68,[],.inout,[([0,1,0,1],[0,2,10,11,12])],[(7,.one 0 (.one 1 (.one 2 (.one 3 (.one 4 (.one 6 (.one 7 (.one 8 (.one 10 (.one 11 (.one 12 (.one 5 (.one 9 (.one 13 (.one 14 (.one 15 (.one 16 (.one 17 (.one 18 (.one 19 (.one 20 (.one 21 (.one 22 (.one 23 (.one 24 (.one 25 (.done))))))))))))))))))))))))))),(9,.one 0 (.one 1 (.one 2 (.one 3 (.one 5 (.one 7 (.one 8 (.two 4 (.one 6 (.one 9 (.one 10 (.one 11 (.one 12 (.one 13 (.one 14 (.done)))))))) 6 (.one 9 (.one 4 (.one 10 (.one 11 (.one 12 (.one 13 (.one 14 (.done))))))))))))))))],[],false⟩
noncomputable def fi69:FI:=⟨codeOf Tryz.f69,[],.inout,[([0,1,0,1],[0,2,9,10,11])],[(4,.one 0 (.one 1 (.one 2 (.one 4 (.one 6 (.one 3 (.one 5 (.one 7 (.one 8 (.one 9 (.done)))))))))))],[([0,1,0,1],[2])],false⟩
noncomputable def fi70:FI:=⟨codeOf Tryz.f70,[.tmp 2],.fresh,[],[],[],true⟩
noncomputable def fi71:FI:=⟨codeOf Tryz.f71,[.tmp 4],.pure,[],[],[],false⟩
noncomputable def fi75:FI:=⟨codeOf Tryz.f75,[.tmp 6],.pure,[],[],[],false⟩
noncomputable def fi76:FI:=⟨codeOf Tryz.f76,[.tmp 6],.pure,[],[],[],false⟩
noncomputable def fi77:FI:=⟨codeOf Tryz.f77,[.tmp 2],.pure,[],[],[],false⟩
noncomputable def fi78:FI:=⟨codeOf Tryz.f78,[.tmp 6],.pure,[([0,1,0,1,1],[0,1,2,6,7])],[(6,.one 0 (.one 1 (.one 2 (.one 3 (.one 5 (.one 6 (.one 7 (.one 4 (.one 8 (.one 9 (.one 10 (.done))))))))))))],[],false⟩
noncomputable def fi79:FI:=⟨codeOf Tryz.f79,[.tmp 4],.pure,[],[],[],false⟩
noncomputable def fi81:FI:=⟨codeOf Tryz.f81,[.tmp 4,.tmp 5],.pure,[],[(3,.one 0 (.one 1 (.one 2 (.one 6 (.one 7 (.one 8 (.one 3 (.one 4 (.one 5 (.one 12 (.one 9 (.one 10 (.one 11 (.one 13 (.done)))))))))))))))],[],false⟩
noncomputable def fi82:FI:=⟨codeOf Tryz.f82,[.tmp 4],.fresh,[([0,1,0,1,1],[5,11,12,13])],[],[([0,1,0,1,1],[5])],true⟩
noncomputable def fi83:FI:=⟨codeOf Tryz.f83,[.tmp 4],.pure,[([0,1,0,0,1,0,0,1,0,1,1,1],[1,2,5,6,7]),([0,1,0,1,1,1],[1,2,5,6])],[(5,.one 0 (.one 1 (.one 2 (.one 3 (.one 7 (.one 8 (.one 4 (.one 5 (.one 6 (.one 9 (.one 10 (.one 11 (.one 12 (.done)))))))))))))),(8,.one 0 (.one 1 (.one 2 (.one 3 (.one 7 (.one 8 (.one 4 (.one 5 (.one 6 (.one 9 (.one 10 (.one 11 (.one 12 (.done))))))))))))))],[([0,1,0,0,1,0,0,1,0,1,1,1],[5]),([0,1,0,1,1,1],[5])],false⟩
noncomputable def fi85:FI:=⟨codeOf Tryz.f85,[.tmp 6],.pure,[([0,1,0,1,1],[0,1,2,6,7])],[(6,.one 0 (.one 1 (.one 2 (.one 3 (.one 5 (.one 6 (.one 7 (.one 4 (.one 8 (.one 9 (.one 10 (.done))))))))))))],[],false⟩
noncomputable def fi86:FI:=⟨codeOf Tryz.f86,[.tmp 4],.pure,[],[],[],false⟩
noncomputable def fi89:FI:=⟨codeOf Tryz.f89,[.tmp 4],.pure,[],[],[],false⟩
noncomputable def fi91:FI:=⟨codeOf Tryz.f91,[.tmp 6],.pure,[],[],[],false⟩
noncomputable def fi92:FI:=⟨codeOf Tryz.f92,[.tmp 4],.pure,[],[],[],false⟩
noncomputable def fi93:FI:=⟨codeOf Tryz.f93,[.tmp 2],.pure,[([0,1,0,1],[0,2,5,6])],[(4,.one 0 (.one 1 (.one 2 (.one 3 (.one 4 (.one 5 (.one 6 (.one 8 (.one 9 (.one 10 (.one 11 (.one 12 (.one 7 (.one 13 (.one 14 (.one 15 (.done)))))))))))))))))],[],false⟩
noncomputable def fi94:FI:=⟨codeOf Tryz.f94,[.tmp 2],.pure,[([0,1,0,1,1],[3,6,7,8])],[],[],false⟩
noncomputable def fi95:FI:=⟨codeOf Tryz.f95,[.tmp 4],.pure,[],[],[],false⟩
noncomputable def fi96:FI:=⟨codeOf Tryz.f96,[.tmp 4],.pure,[],[(1,.one 0 (.one 1 (.one 2 (.one 3 (.one 4 (.one 6 (.one 8 (.one 5 (.one 7 (.one 9 (.one 11 (.one 10 (.one 12 (.one 13 (.one 14 (.done))))))))))))))))],[],false⟩
noncomputable def fi97:FI:=⟨codeOf Tryz.f97,[.tmp 4],.pure,[],[],[],false⟩
noncomputable def fi98:FI:=⟨codeOf Tryz.f98,[.tmp 6],.pure,[],[(4,.one 0 (.one 5 (.one 1 (.one 6 (.one 2 (.one 3 (.one 4 (.one 7 (.one 8 (.one 9 (.one 10 (.one 11 (.done)))))))))))))],[],false⟩
noncomputable def fi99:FI:=⟨codeOf Tryz.f99,[.tmp 2],.pure,[],[],[],false⟩
noncomputable def fi100:FI:=⟨codeOf Tryz.f100,[.tmp 4],.pure,[([0,1,0,1],[0,1,4,5])],[],[],false⟩
noncomputable def fi101:FI:=⟨codeOf Tryz.f101,[.tmp 2],.pure,[],[],[],false⟩
noncomputable def fi102:FI:=⟨codeOf Tryz.f102,[.tmp 4],.pure,[],[],[],false⟩
noncomputable def fi103:FI:=⟨codeOf Tryz.f103,[.tmp 2],.pure,[],[],[],false⟩
noncomputable def fi104:FI:=⟨codeOf Tryz.f104,[.tmp 2],.pure,[],[],[],false⟩
noncomputable def fi105:FI:=⟨codeOf Tryz.f105,[.tmp 4],.pure,[],[],[],false⟩
noncomputable def fi106:FI:=⟨codeOf Tryz.f106,[.tmp 5],.pure,[],[],[],false⟩
noncomputable def fi107:FI:=⟨codeOf Tryz.f107,[.tmp 4],.pure,[],[(1,.one 1 (.one 4 (.one 0 (.one 2 (.one 5 (.one 3 (.one 6 (.one 7 (.one 8 (.one 9 (.one 10 (.one 11 (.one 12 (.one 13 (.one 14 (.one 15 (.one 16 (.one 17 (.done))))))))))))))))))),(5,.one 1 (.one 0 (.one 2 (.one 3 (.one 4 (.one 6 (.one 7 (.one 9 (.one 10 (.one 13 (.one 5 (.one 8 (.one 11 (.one 14 (.one 12 (.one 15 (.one 16 (.one 17 (.one 18 (.one 19 (.one 20 (.one 21 (.one 22 (.one 23 (.one 24 (.one 25 (.one 26 (.one 27 (.one 28 (.one 30 (.one 29 (.one 31 (.one 32 (.one 33 (.one 34 (.done))))))))))))))))))))))))))))))))))))],[],false⟩
noncomputable def fi108:FI:=⟨codeOf Tryz.f108,[.tmp 2],.fresh,[],[],[],true⟩
noncomputable def fi109:FI:=⟨codeOf Tryz.f109,[.cell 4 48,.tmp 5],.pure,[],[(3,.one 0 (.one 3 (.one 1 (.one 2 (.one 6 (.two 4 (.one 5 (.one 7 (.one 8 (.one 9 (.done))))) 7 (.one 4 (.one 5 (.one 8 (.one 9 (.done)))))))))))],[],false⟩
noncomputable def fi110:FI:=⟨codeOf Tryz.f110,[.tmp 2],.pure,[],[],[],false⟩
noncomputable def fi111:FI:=⟨codeOf Tryz.f111,[.cell 6 48],.pure,[],[(1,.one 0 (.one 1 (.one 3 (.one 5 (.one 8 (.one 11 (.one 2 (.one 4 (.one 6 (.one 9 (.one 12 (.two 7 (.two 10 (.one 13 (.one 14 (.one 15 (.done)))) 14 (.one 10 (.one 13 (.one 15 (.done))))) 14 (.one 7 (.one 10 (.one 13 (.one 15 (.done)))))))))))))))))],[],false⟩
noncomputable def fi112:FI:=⟨codeOf Tryz.f112,[.tmp 2],.inout,[],[(2,.one 0 (.one 1 (.one 2 (.one 4 (.one 5 (.one 6 (.one 10 (.one 11 (.one 12 (.one 17 (.one 18 (.one 19 (.one 3 (.one 7 (.one 13 (.one 20 (.one 8 (.one 9 (.one 14 (.one 15 (.one 16 (.one 21 (.one 22 (.one 23 (.done)))))))))))))))))))))))))],[],false⟩
noncomputable def fi113:FI:=⟨codeOf Tryz.f113,[.tmp 4],.pure,[],[],[],false⟩
noncomputable def fi114:FI:=⟨codeOf Tryz.f114,[.cell 4 48,.tmp 5],.pure,[],[(3,.one 0 (.one 2 (.one 6 (.one 8 (.one 1 (.one 3 (.one 7 (.one 9 (.two 4 (.two 5 (.one 10 (.one 11 (.one 12 (.one 13 (.done))))) 10 (.one 5 (.one 11 (.one 12 (.one 13 (.done)))))) 10 (.one 4 (.one 5 (.one 11 (.one 12 (.one 13 (.done))))))))))))))),(8,.one 0 (.one 5 (.one 1 (.one 6 (.one 2 (.one 3 (.one 4 (.one 10 (.one 7 (.one 8 (.one 9 (.one 11 (.one 12 (.one 13 (.done)))))))))))))))],[],false⟩
noncomputable def fi115:FI:=⟨codeOf Tryz.f115,[.tmp 8],.pure,[],[],[],false⟩
noncomputable def fi116:FI:=⟨codeOf Tryz.f116,[.tmp 4],.pure,[],[],[],false⟩
noncomputable def fi117:FI:=⟨codeOf Tryz.f117,[.tmp 10],.fresh,[([0,1,0,1,1,1],[1,4,7,8,11,12,24,25,26]),([0,1,0,1,1,1,1,1],[12,16,55,56,57])],[],[([0,1,0,1,1,1,1,1],[16])],true⟩
noncomputable def fi118:FI:=⟨codeOf Tryz.f118,[.tmp 4],.pure,[],[],[],false⟩
noncomputable def fi119:FI:=⟨codeOf Tryz.f119,[.tmp 2],.pure,[],[],[],false⟩
noncomputable def fi120:FI:=⟨codeOf Tryz.f120,[.tmp 2],.pure,[([0,1,0,1,1],[3,6,7,8])],[],[],false⟩
noncomputable def fi121:FI:=⟨codeOf Tryz.f121,[.tmp 4],.pure,[],[],[],false⟩
noncomputable def fi122:FI:=⟨codeOf Tryz.f122,[.tmp 2],.pure,[],[],[],false⟩
noncomputable def fi123:FI:=⟨codeOf Tryz.f123,[.tmp 2],.inout,[([0,1,0,1,1],[3,6,7,8])],[],[([0,1,0,1,1],[3])],false⟩
noncomputable def fi124:FI:=⟨codeOf Tryz.f124,[],.inout,[],[(1,.one 0 (.one 1 (.one 2 (.one 4 (.one 5 (.one 6 (.one 3 (.one 8 (.two 7 (.one 9 (.one 10 (.one 11 (.done)))) 9 (.one 7 (.one 10 (.one 11 (.done))))))))))))),(2,.one 0 (.one 1 (.one 2 (.one 3 (.one 4 (.one 5 (.one 6 (.one 7 (.one 8 (.one 9 (.one 10 (.done))))))))))))],[],false⟩
noncomputable def fi125:FI:=⟨codeOf Tryz.f125,[.tmp 8,.tmp 9],.pure,[],[(1,.one 0 (.one 1 (.one 2 (.one 4 (.one 5 (.one 6 (.one 3 (.one 7 (.one 8 (.one 9 (.one 10 (.one 11 (.one 12 (.one 13 (.done))))))))))))))),(2,.one 0 (.one 1 (.one 2 (.one 3 (.one 4 (.one 5 (.one 7 (.one 8 (.one 9 (.one 10 (.one 12 (.one 16 (.one 17 (.one 18 (.one 19 (.one 20 (.one 21 (.one 23 (.one 24 (.one 25 (.one 26 (.one 28 (.one 6 (.one 11 (.one 22 (.one 27 (.two 13 (.two 14 (.one 15 (.one 29 (.one 30 (.one 31 (.one 32 (.one 33 (.done))))))) 29 (.one 14 (.one 15 (.one 30 (.one 31 (.one 32 (.one 33 (.done)))))))) 29 (.one 13 (.one 14 (.one 15 (.one 30 (.one 31 (.one 32 (.one 33 (.done)))))))))))))))))))))))))))))))))))],[],false⟩
noncomputable def fi126:FI:=⟨codeOf Tryz.f126,[.tmp 6],.pure,[],[],[],false⟩
noncomputable def fi127:FI:=⟨codeOf Tryz.f127,[.tmp 2],.fresh,[([0,1,0,1,1],[0,3,9,10,11]),([0,1,0,1,1,1,1],[6,25,26,27])],[],[([0,1,0,1,1,1,1],[6])],true⟩
noncomputable def fi128:FI:=⟨codeOf Tryz.f128,[],.inout,[],[],[],false⟩
noncomputable def fi129:FI:=⟨codeOf Tryz.f129,[.tmp 4],.pure,[],[(1,.one 0 (.one 2 (.one 5 (.one 7 (.one 1 (.one 3 (.one 6 (.one 8 (.one 4 (.one 9 (.one 10 (.one 11 (.one 12 (.done)))))))))))))),(6,.one 0 (.one 2 (.one 5 (.one 7 (.one 1 (.one 3 (.one 6 (.one 8 (.one 4 (.one 9 (.one 10 (.one 11 (.one 12 (.done))))))))))))))],[],false⟩
noncomputable def fi146:FI:=⟨codeOf Tryz.f146,[.tmp 4],.pure,[],[],[],false⟩
noncomputable def fi147:FI:=⟨codeOf Tryz.f147,[.tmp 4],.pure,[([0,1,0,1],[0,1,4,7,8])],[],[],false⟩
noncomputable def fi148:FI:=⟨codeOf Tryz.f148,[.tmp 3],.pure,[],[],[],false⟩
noncomputable def fi149:FI:=⟨codeOf Tryz.f149,[.tmp 6],.inout,[],[(11,.one 0 (.one 1 (.one 2 (.one 3 (.one 4 (.one 5 (.one 6 (.one 7 (.one 8 (.done)))))))))),(15,.one 0 (.one 1 (.one 2 (.one 3 (.one 4 (.one 5 (.one 6 (.one 7 (.one 8 (.done))))))))))],[],true⟩
noncomputable def fi154:FI:=⟨codeOf Tryz.f154,[.tmp 2],.pure,[],[],[],false⟩
noncomputable def fi155:FI:=⟨codeOf Tryz.f155,[.tmp 6],.pure,[],[],[],false⟩
noncomputable def fi156:FI:=⟨codeOf Tryz.f156,[.tmp 6],.pure,[],[],[],false⟩
noncomputable def fi157:FI:=⟨codeOf Tryz.f157,[.tmp 2],.pure,[],[],[],false⟩
noncomputable def fi158:FI:=⟨codeOf Tryz.f158,[.tmp 6],.pure,[],[],[],false⟩
noncomputable def fi159:FI:=⟨codeOf Tryz.f159,[.tmp 2],.pure,[],[],[],false⟩
noncomputable def fi160:FI:=⟨codeOf Tryz.f160,[.tmp 2],.pure,[],[],[],false⟩
noncomputable def fi161:FI:=⟨codeOf Tryz.f161,[.tmp 4],.pure,[([0,1,0,1],[0,1,4,7,8])],[],[],false⟩
noncomputable def fi162:FI:=⟨codeOf Tryz.f162,[.tmp 4],.pure,[([0,1,0,1],[0,1,4,7,8])],[],[],false⟩
noncomputable def fi163:FI:=⟨codeOf Tryz.f163,[.tmp 4],.pure,[],[],[],false⟩
noncomputable def fi164:FI:=⟨codeOf Tryz.f164,[.tmp 2],.pure,[],[],[],false⟩
noncomputable def fi165:FI:=⟨codeOf Tryz.f165,[.tmp 3],.pure,[],[],[],false⟩
noncomputable def fi166:FI:=⟨codeOf Tryz.f166,[.tmp 2],.pure,[],[],[],false⟩
noncomputable def fi167:FI:=⟨codeOf Tryz.f167,[.tmp 8],.pure,[],[],[],false⟩
noncomputable def fi168:FI:=⟨codeOf Tryz.f168,[.tmp 2],.pure,[],[],[],false⟩
noncomputable def fi169:FI:=⟨codeOf Tryz.f169,[.tmp 5],.pure,[],[],[],false⟩
noncomputable def fi170:FI:=⟨codeOf Tryz.f170,[.tmp 4],.pure,[([0,1,0,1,1],[5,10,11,12])],[],[],false⟩
noncomputable def fi171:FI:=⟨codeOf Tryz.f171,[.tmp 4],.inout,[],[],[],true⟩
noncomputable def fi172:FI:=⟨codeOf Tryz.f172,[],.inout,[([0,0,1,0,1,0,0,1,1,1,1],[0,1,2,6,7,8]),([0,0,1,1],[0,1,2,6,7,8]),([0,1,1,1,1],[0,1,2,6])],[],[],false⟩
noncomputable def fi173:FI:=⟨codeOf Tryz.f173,[.tmp 2],.pure,[([0,1,0,1,1],[2,3,6,7,8])],[],[],false⟩
noncomputable def fi180:FI:=⟨codeOf Tryz.f180,[],.inout,[],[],[],false⟩
noncomputable def fi183:FI:=⟨codeOf Tryz.f183,[.tmp 4],.pure,[([0,1,0,1],[0,1,4,7,8])],[],[],false⟩
noncomputable def fi184:FI:=⟨codeOf Tryz.f184,[.tmp 2],.pure,[],[],[],false⟩
noncomputable def fi185:FI:=⟨codeOf Tryz.f185,[.tmp 2],.pure,[],[],[],false⟩
noncomputable def fi186:FI:=⟨codeOf Tryz.f186,[],.inout,[([0,1],[0,1,2,3,8]),([0,1,0,0,1,0,0,1],[0,1,2,3,8,9])],[(4,.one 0 (.one 1 (.one 2 (.one 3 (.one 4 (.one 5 (.one 6 (.one 7 (.one 9 (.one 10 (.one 11 (.one 12 (.one 8 (.one 13 (.one 14 (.one 15 (.one 16 (.done)))))))))))))))))),(6,.one 0 (.one 1 (.one 2 (.one 3 (.one 4 (.one 5 (.one 6 (.one 7 (.one 8 (.one 10 (.one 11 (.one 12 (.one 9 (.one 13 (.one 14 (.one 15 (.one 16 (.one 17 (.done)))))))))))))))))))],[],false⟩
noncomputable def fi187:FI:=⟨codeOf Tryz.f187,[],.inout,[([0,0,1,1,0,1,0],[0,1,4,10,11]),([0,0,1,1,0,1,0,1],[0,2,4,14,15]),([0,0,1,1,1,1,1,1,1],[0,1,2,3,4,18,19,20,21,22]),([0,1,0,1,1,1,0,1,0],[0,10,13]),([0,1,0,1,1,1,0,1,0,1],[0,14,17])],[(5,.one 0 (.one 1 (.one 2 (.one 3 (.one 5 (.one 6 (.one 7 (.one 4 (.one 8 (.one 9 (.one 10 (.done)))))))))))),(11,.one 0 (.one 1 (.one 2 (.one 3 (.one 4 (.one 5 (.one 6 (.one 7 (.one 8 (.one 10 (.one 11 (.one 12 (.one 9 (.one 13 (.one 14 (.one 15 (.one 16 (.one 17 (.done))))))))))))))))))),(17,.one 0 (.one 1 (.one 2 (.one 3 (.one 5 (.one 6 (.one 7 (.one 4 (.one 8 (.one 9 (.one 10 (.one 11 (.done))))))))))))),(23,.one 0 (.one 1 (.one 2 (.one 3 (.one 4 (.one 5 (.one 6 (.one 7 (.one 8 (.one 10 (.one 11 (.one 12 (.one 9 (.one 13 (.one 14 (.one 15 (.one 16 (.one 17 (.done))))))))))))))))))),(35,.one 0 (.one 1 (.one 2 (.one 3 (.one 4 (.one 5 (.one 7 (.one 8 (.one 9 (.one 6 (.one 10 (.one 11 (.one 12 (.one 13 (.done)))))))))))))))],[],false⟩
noncomputable def fi192:FI:=⟨codeOf Tryz.f192,[],.inout,[],[],[],false⟩
noncomputable def fi194:FI:=⟨codeOf Tryz.f194,[],.inout,[([0,0,1,1],[0,2,4,10,11])],[],[],false⟩
noncomputable def fi195:FI:=⟨codeOf Tryz.f195,[],.inout,[([0,1],[0,2,3])],[(3,.one 0 (.one 1 (.one 2 (.one 3 (.one 4 (.one 5 (.one 6 (.one 8 (.one 9 (.one 10 (.one 7 (.one 11 (.one 12 (.one 13 (.one 14 (.one 15 (.done)))))))))))))))))],[],false⟩
noncomputable def fi197:FI:=⟨codeOf Tryz.f197,[],.inout,[([0,1],[0,1,2,3,10])],[(3,.one 0 (.one 1 (.one 2 (.one 3 (.one 4 (.one 5 (.one 6 (.one 7 (.one 8 (.one 9 (.one 10 (.one 11 (.one 12 (.one 14 (.one 15 (.one 16 (.one 17 (.one 18 (.one 13 (.one 19 (.one 20 (.one 21 (.one 22 (.one 23 (.done)))))))))))))))))))))))))],[],false⟩
noncomputable def fns:Tr (Option FI):=
 (.n (.n (.n (.n (.n (.n (.n (.n .z (some fi127) .z) (some fi63) (.n .z none .z)) (some fi31) (.n (.n .z (some fi159) .z) (some fi95) .z)) none (.n (.n (.n .z none .z) (some fi79) (.n .z none .z)) none (.n (.n .z none .z) (some fi111) .z))) none (.n (.n (.n (.n .z none .z) (some fi71) (.n .z none .z)) none (.n (.n .z (some fi167) .z) (some fi103) .z)) (some fi23) (.n (.n (.n .z none .z) none .z) (some fi55) (.n (.n .z (some fi183) .z) (some fi119) .z)))) none (.n (.n (.n (.n (.n .z none .z) (some fi67) (.n .z (some fi195) .z)) none (.n (.n .z (some fi163) .z) (some fi99) .z)) (some fi19) (.n (.n (.n .z (some fi147)
 .z) (some fi83) (.n .z none .z)) none (.n (.n .z none .z) (some fi115) .z))) none (.n (.n (.n (.n .z none .z) (some fi75) (.n .z none .z)) none (.n (.n
 .z (some fi171) .z) (some fi107) .z)) none (.n (.n (.n .z (some fi155) .z) (some fi91) .z) (some fi59) (.n (.n .z (some fi187) .z) (some fi123) .z))))) none (.n (.n (.n (.n
 (.n (.n .z (some fi129) .z) (some fi65) (.n .z none .z)) none (.n (.n .z (some fi161) .z) (some fi97) .z)) (some fi17) (.n (.n (.n .z none .z) (some fi81)
 (.n .z none .z)) none (.n (.n .z none .z) (some fi113) .z))) none (.n (.n (.n (.n .z none .z) none (.n .z none .z)) none (.n (.n .z (some
 fi169) .z) (some fi105) .z)) none (.n (.n (.n .z none .z) (some fi89) .z) (some fi57) (.n (.n .z (some fi185) .z) (some fi121) .z)))) none (.n (.n (.n (.n (.n
 .z none .z) (some fi69) (.n .z (some fi197) .z)) none (.n (.n .z (some fi165) .z) (some fi101) .z)) none (.n (.n (.n .z (some fi149) .z) (some fi85) (.n .z
 none .z)) (some fi53) (.n (.n .z none .z) (some fi117) .z))) none (.n (.n (.n (.n .z none .z) (some fi77) (.n .z none .z)) (some fi45) (.n (.n .z (some
 fi173) .z) (some fi109) .z)) (some fi29) (.n (.n (.n .z (some fi157) .z) (some fi93) .z) (some fi61) (.n (.n .z none .z) (some fi125) .z)))))) none (.n (.n (.n (.n (.n (.n
 (.n .z (some fi128) .z) (some fi64) (.n .z (some fi192) .z)) none (.n (.n .z (some fi160) .z) (some fi96) .z)) (some fi16) (.n (.n (.n .z none .z) none (.n .z
 none .z)) none (.n (.n .z none .z) (some fi112) .z))) none (.n (.n (.n (.n .z none .z) none (.n .z none .z)) none (.n (.n .z (some fi168)
 .z) (some fi104) .z)) none (.n (.n (.n .z none .z) none .z) (some fi56) (.n (.n .z (some fi184) .z) (some fi120) .z)))) none (.n (.n (.n (.n (.n .z
 none .z) (some fi68) (.n .z none .z)) none (.n (.n .z (some fi164) .z) (some fi100) .z)) (some fi20) (.n (.n (.n .z (some fi148) .z) none (.n .z none
 .z)) (some fi52) (.n (.n .z (some fi180) .z) (some fi116) .z))) none (.n (.n (.n (.n .z none .z) (some fi76) (.n .z none .z)) none (.n (.n .z (some fi172) .z)
 (some fi108) .z)) none (.n (.n (.n .z (some fi156) .z) (some fi92) .z) (some fi60) (.n (.n .z none .z) (some fi124) .z))))) none (.n (.n (.n (.n (.n (.n .z none .z) (some fi66) (.n .z (some fi194) .z)) none (.n (.n .z (some fi162) .z) (some fi98) .z)) (some fi18) (.n (.n (.n .z (some fi146) .z) (some fi82) (.n .z none .z))
 none (.n (.n .z none .z) (some fi114) .z))) none (.n (.n (.n (.n .z none .z) none (.n .z none .z)) none (.n (.n .z (some fi170) .z)
 (some fi106) .z)) none (.n (.n (.n .z (some fi154) .z) none .z) (some fi58) (.n (.n .z (some fi186) .z) (some fi122) .z)))) (some fi6) (.n (.n (.n (.n (.n .z none .z) (some fi70) (.n .z none .z)) none (.n (.n .z (some fi166) .z) (some fi102) .z)) (some fi22) (.n (.n (.n .z none .z) (some fi86) .z) (some fi54) (.n (.n .z
 none .z) (some fi118) .z))) none (.n (.n (.n (.n .z none .z) (some fi78) (.n .z none .z)) none (.n (.n .z none .z) (some fi110) .z)) (some
 fi30) (.n (.n (.n .z (some fi158) .z) (some fi94) .z) (some fi62) (.n (.n .z none .z) (some fi126) .z)))))))
noncomputable def cx:Cx:=⟨tis,fns,[(179,.overlaps 25)],[(41,53)]⟩
end Go.Eva.S5
namespace Go.Eva
structure Entity where
 id:Int
 kind:Int
 x:Int
 y:Int
 vx:Int
 vy:Int
 health:Int
 age:Int
 owner:Int
deriving DecidableEq,Inhabited
def Entity.enc (e:Entity):T:= .agg [ti e.id,ti e.kind,ti e.x,ti e.y,ti e.vx,ti e.vy,ti e.health,ti e.age,ti e.owner]
structure Config where
 cols:Int
 rows:Int
 players:Int
 window:Int
 seed:Int
deriving DecidableEq,Inhabited
def Config.enc (c:Config):T:= .agg [ti c.cols,ti c.rows,ti c.players,ti c.window,.int .u64 c.seed]
structure Input where
 dx:Int
 dy:Int
 fire:Bool
deriving DecidableEq,Inhabited
def Input.enc (i:Input):T:= .agg [ti i.dx,ti i.dy,.bool i.fire]
structure Cross where
 kind:Int
 frm:Int
 to:Int
 frame:Int
 ent:Entity
 x:Int
 y:Int
deriving DecidableEq,Inhabited
def Cross.enc (c:Cross):T:= .agg [ti c.kind,ti c.frm,ti c.to,ti c.frame,ti c.ent.id,ti c.ent.kind,ti c.ent.x,ti c.ent.y,ti c.ent.vx,ti c.ent.vy,ti c.ent.health,ti c.ent.age,ti c.ent.owner,ti c.x,ti c.y]
structure Region where
 frame:Int
 ents:List Entity
deriving DecidableEq,Inhabited
def Region.enc (s:Region):T:= .agg [ti s.frame,.sl 9 (s.ents.map Entity.enc)]
theorem Entity.enc_inj {a b:Entity}:a.enc=b.enc↔a=b:=by
 constructor
 ·intro h;cases a;cases b;simp only [enc,T.agg.injEq,List.cons.injEq,T.int.injEq,true_and,and_true] at h;simpa using h
 ·intro h;rw [h]
theorem Input.enc_inj {a b:Input}:a.enc=b.enc↔a=b:=by
 constructor
 ·intro h;cases a;cases b;simp only [enc,T.agg.injEq,List.cons.injEq,T.int.injEq,T.bool.injEq,true_and,and_true] at h;simpa using h
 ·intro h;rw [h]
theorem Cross.enc_inj {a b:Cross}:a.enc=b.enc↔a=b:=by
 constructor
 ·intro h;obtain ⟨_,_,_,_,⟨_,_,_,_,_,_,_,_,_⟩,_,_⟩:=a;obtain ⟨_,_,_,_,⟨_,_,_,_,_,_,_,_,_⟩,_,_⟩:=b
  simp only [enc,T.agg.injEq,List.cons.injEq,T.int.injEq,true_and,and_true] at h
  simp only [Cross.mk.injEq,Entity.mk.injEq];simp_all
 ·intro h;rw [h]
theorem Config.enc_inj {a b:Config}:a.enc=b.enc↔a=b:=by
 constructor
 ·intro h;cases a;cases b;simp only [enc,T.agg.injEq,List.cons.injEq,T.int.injEq,true_and,and_true] at h;simpa using h
 ·intro h;rw [h]
theorem teqIff {x y:T}:teq x y=true↔x=y:=by unfold teq;simp
end Go.Eva
namespace Go.Eva
def within (v lo hi:Int):Bool:=decide (lo≤v)&&decide (v≤hi)
def Config.right (c:Config):Bool:=within c.cols 1 4&&within c.rows 1 4&&within c.players 1 6&&within c.window 1 16
def Config.zero:Config:=⟨0,0,0,0,0⟩
def Config.grid (c:Config):Config:=if c.right=true then c else Config.zero
def Config.err (c:Config):Int:=if c.right=true then 0 else 10
def Config.regions (c:Config):Int:=if c.right=true then c.cols*c.rows else 0
def Config.width (c:Config):Int:=if c.right=true then c.cols*1024 else 0
def Config.height (c:Config):Int:=if c.right=true then c.rows*1024 else 0
def Config.inside (c:Config) (x y:Int):Bool:=within x 0 (c.width-1)&&within y 0 (c.height-1)
def clamp (v lo hi:Int):Int:=if v<lo then lo else if v>hi then hi else v
def Config.of (c:Config) (x y:Int):Int:=if c.right=true then (clamp y 0 (c.height-1)).tdiv 1024*c.cols+(clamp x 0 (c.width-1)).tdiv 1024 else 0
def Config.is (c:Config) (r:Int):Bool:=within r 0 (c.regions-1)
def Config.cornerX (c:Config) (r:Int):Int:=if c.is r=true then r.tmod c.cols*1024 else 0
def Config.cornerY (c:Config) (r:Int):Int:=if c.is r=true then r.tdiv c.cols*1024 else 0
def i64 (n:Int):Prop:= -9223372036854775808≤n∧n≤9223372036854775807
def Config.ok (c:Config):Prop:=i64 c.cols∧i64 c.rows∧i64 c.players∧i64 c.window∧0≤c.seed∧c.seed≤18446744073709551615
theorem Aad {v lo hi:Int}:within v lo hi=true↔lo≤v∧v≤hi:=by simp [within]
theorem Config.right_iff {c:Config}:c.right=true↔(1≤c.cols∧c.cols≤4)∧(1≤c.rows∧c.rows≤4)∧(1≤c.players∧c.players≤6)∧1≤c.window∧c.window≤16:=by
 simp [Config.right,Aad,and_assoc]
theorem Config.regions_le {c:Config}:0≤c.regions∧c.regions≤16:=by
 unfold Config.regions
 split
 ·rename_i h
  obtain ⟨h1,h2,_⟩:=Config.right_iff.1 h
  have h3:c.cols=1∨c.cols=2∨c.cols=3∨c.cols=4:=by omega
  rcases h3 with h3|h3|h3|h3<;>rw [h3]<;>omega
 ·omega
theorem Config.width_le {c:Config}:0≤c.width∧c.width≤4096:=by
 unfold Config.width
 split
 ·rename_i h
  have:=Config.right_iff.1 h
  omega
 ·omega
theorem Config.height_le {c:Config}:0≤c.height∧c.height≤4096:=by
 unfold Config.height
 split
 ·rename_i h
  have:=Config.right_iff.1 h
  omega
 ·omega
theorem Config.mul_le {c:Config} (h:c.right=true):1≤c.cols*c.rows∧c.cols*c.rows≤16:=by
 obtain ⟨h1,h2,_⟩:=Config.right_iff.1 h
 have h3:c.cols=1∨c.cols=2∨c.cols=3∨c.cols=4:=by omega
 rcases h3 with h3|h3|h3|h3<;>rw [h3]<;>omega
theorem Ac7 {v lo hi:Int} (h:lo≤hi):lo≤clamp v lo hi∧clamp v lo hi≤hi:=by unfold clamp;split<;>(try split)<;>omega
theorem Aby {v k m:Int} (hk:0<k) (h:0≤v) (h2:v<k*m):0≤v.tdiv k∧v.tdiv k<m:=by
 rw [Int.tdiv_eq_ediv_of_nonneg h]
 refine ⟨Int.ediv_nonneg h (by omega),?_⟩
 exact Int.ediv_lt_of_lt_mul hk (by rw [Int.mul_comm];exact h2)
theorem Aco {v k:Int} (hk:0<k) (h:0≤v):0≤v.tmod k∧v.tmod k<k:=by
 rw [Int.tmod_eq_emod_of_nonneg h]
 exact ⟨Int.emod_nonneg _ (by omega),Int.emod_lt_of_pos _ hk⟩
theorem mul4 {a b:Int} (ha:0≤a∧a≤4) (hb:0≤b∧b≤4):0≤a*b∧a*b≤16:=by
 obtain ⟨h1,h2⟩:=ha
 have h3:a=0∨a=1∨a=2∨a=3∨a=4:=by omega
 rcases h3 with h3|h3|h3|h3|h3<;>subst h3<;>omega
end Go.Eva
namespace Go.Eva.S5
theorem Aax (v lo hi:Int):Fn cx 91 [ti v,ti lo,ti hi] (.bool (within v lo hi)):=by
 refine Wp.ev ?_
 refine brp (p:=v≥lo) (by kernel_rfl) (fun h1=> ?_) (fun h1=> ?_)
 ·refine gg [.tt,.tt,.tt] trivial ?_
  refine rT (a:=qz qj [vb (decide (v≤hi))] []) ?_
  (simp_all [within];(try (rw [Bool.eq_iff_iff];simp only [decide_eq_true_eq,Bool.and_eq_true];omega));(try (intros;omega)))
 ·refine gg [.ff,.ff,.ff] trivial ?_
  refine rT (a:=qz qj [vb false] []) ?_
  (simp_all [within];(try (rw [Bool.eq_iff_iff];simp only [decide_eq_true_eq,Bool.and_eq_true];omega));(try (intros;omega)))
theorem Aae (v lo hi:Int):Fn cx 156 [ti v,ti lo,ti hi] (.bool (within v lo hi)):=by
 refine Wp.ev ?_
 refine brp (p:=v≥lo) (by kernel_rfl) (fun h1=> ?_) (fun h1=> ?_)
 ·refine gg [.tt,.tt,.tt] trivial ?_
  refine rT (a:=qz qj [vb (decide (v≤hi))] []) ?_
  (simp_all [within];(try (rw [Bool.eq_iff_iff];simp only [decide_eq_true_eq,Bool.and_eq_true];omega));(try (intros;omega)))
 ·refine gg [.ff,.ff,.ff] trivial ?_
  refine rT (a:=qz qj [vb false] []) ?_
  (simp_all [within];(try (rw [Bool.eq_iff_iff];simp only [decide_eq_true_eq,Bool.and_eq_true];omega));(try (intros;omega)))
theorem Aag (v lo hi:Int):Fn cx 75 [ti v,ti lo,ti hi] (.bool (within v lo hi)):=by
 refine Wp.ev ?_
 refine brp (p:=v≥lo) (by kernel_rfl) (fun h1=> ?_) (fun h1=> ?_)
 ·refine gg [.tt,.tt,.tt] trivial ?_
  refine rT (a:=qz qj [vb (decide (v≤hi))] []) ?_
  (simp_all [within];(try (rw [Bool.eq_iff_iff];simp only [decide_eq_true_eq,Bool.and_eq_true];omega));(try (intros;omega)))
 ·refine gg [.ff,.ff,.ff] trivial ?_
  refine rT (a:=qz qj [vb false] []) ?_
  (simp_all [within];(try (rw [Bool.eq_iff_iff];simp only [decide_eq_true_eq,Bool.and_eq_true];omega));(try (intros;omega)))
theorem Acq (c:Config):Fn cx 53 [c.enc] (.bool c.right):=by
 refine Wp.ev ?_
 refine gg [.a _ _] ⟨o_a (Aax c.cols 1 4),trivial⟩ ?_
 refine br (b:=within c.cols 1 4) (by kernel_rfl) (fun h1=> ?_) (fun h1=> ?_)
 ·refine gg [.tt,.tt,.a _ _,.tt] ⟨o_a (Aax c.rows 1 4),trivial⟩ ?_
  refine br (b:=within c.rows 1 4) (by kernel_rfl) (fun h2=> ?_) (fun h2=> ?_)
  ·refine gg [.tt,.tt,.a _ _,.tt] ⟨o_a (Aax c.players 1 6),trivial⟩ ?_
   refine br (b:=within c.players 1 6) (by kernel_rfl) (fun h3=> ?_) (fun h3=> ?_)
   ·refine gg [.tt,.tt,.a _ _,.tt] ⟨o_a (Aax c.window 1 16),trivial⟩ ?_
    refine rT (a:=qz qj [vb (within c.window 1 16)] []) ?_
    simp_all [Config.right]
   ·refine gg [.ff,.ff,.ff] trivial ?_
    refine rT (a:=qz qj [vb false] []) ?_
    simp_all [Config.right]
  ·refine gg [.ff,.ff,.ff,.ff,.ff,.ff,.ff] trivial ?_
   refine rT (a:=qz qj [vb false] []) ?_
   simp_all [Config.right]
 ·refine gg [.ff,.ff,.ff,.ff,.ff,.ff,.ff,.ff,.ff,.ff,.ff] trivial ?_
  refine rT (a:=qz qj [vb false] []) ?_
  simp_all [Config.right]
theorem Af2 (c:Config):Is cx (.call 17 [.t c.enc] []) ⟨.ret,[.t c.grid.enc,vi c.err],[]⟩:=by
 refine Wp.ev ?_
 refine gg [.a _ _] ⟨o_a (Acq c),trivial⟩ ?_
 refine brnot (b:=Config.right c) (by kernel_rfl) (fun h1=> ?_) (fun h1=> ?_)
 ·refine rT (a:=qz qj [V.t (T.agg [ti 0,ti 0,ti 0,ti 0,T.int zf 0]),vi 10] []) ?_
  simp_all [Config.grid,Config.err,Config.zero,Config.enc]
 ·refine rT (a:=qz qj [V.t (Config.enc c),vi 0] []) ?_
  simp_all [Config.grid,Config.err,Config.zero,Config.enc]
theorem Abb (c:Config) (h:c.right=true):Is cx (.call 55 [.t c.enc] []) ⟨.ret,[vi c.cols,vi c.rows],[]⟩:=by
 refine Wp.ev ?_
 refine gg [.a _ _,.b (!Config.right c) false] ⟨o_a (Acq c),Agd (by assumption),trivial⟩ ?_
 exact ge
theorem AaY (c:Config) (h:c.right=false):Is cx (.call 55 [.t c.enc] []) ⟨.ret,[vi 0,vi 0],[]⟩:=by
 refine Wp.ev ?_
 refine gg [.a _ _,.b (!Config.right c) true] ⟨o_a (Acq c),AfT (by assumption),trivial⟩ ?_
 exact ge
theorem Aar (v lo hi:Int):Fn cx 158 [ti v,ti lo,ti hi] (ti (clamp v lo hi)):=by
 refine Wp.ev ?_
 refine brp (p:=v<lo) (by kernel_rfl) (fun h1=> ?_) (fun h1=> ?_)
 ·refine rT (a:=qz qj [vi lo] []) ?_
  (simp_all [clamp];(try (rw [Bool.eq_iff_iff];simp only [decide_eq_true_eq,Bool.and_eq_true];omega));(try (intros;omega)))
 ·refine brp (p:=v>hi) (by kernel_rfl) (fun h2=> ?_) (fun h2=> ?_)
  ·refine rT (a:=qz qj [vi hi] []) ?_
   (simp_all [clamp];(try (rw [Bool.eq_iff_iff];simp only [decide_eq_true_eq,Bool.and_eq_true];omega));(try (intros;omega)))
  ·refine rT (a:=qz qj [vi v] []) ?_
   (simp_all [clamp];(try (rw [Bool.eq_iff_iff];simp only [decide_eq_true_eq,Bool.and_eq_true];omega));(try (intros;omega)))
theorem Aas (c:Config):Fn cx 52 [c.enc] (.bool c.right):=by
 refine Wp.ev ?_
 refine brp (p:=c.cols≥1) (by kernel_rfl) (fun h1=> ?_) (fun h1=> ?_)
 ·refine gg [.tt,.tt,.tt] trivial ?_
  refine brp (p:=c.cols≤4) (by kernel_rfl) (fun h2=> ?_) (fun h2=> ?_)
  ·refine gg [.tt,.tt,.tt] trivial ?_
   refine brp (p:=c.rows≥1) (by kernel_rfl) (fun h3=> ?_) (fun h3=> ?_)
   ·refine gg [.tt,.tt,.tt] trivial ?_
    refine brp (p:=c.rows≤4) (by kernel_rfl) (fun h4=> ?_) (fun h4=> ?_)
    ·refine gg [.tt,.tt,.tt] trivial ?_
     refine brp (p:=c.players≥1) (by kernel_rfl) (fun h5=> ?_) (fun h5=> ?_)
     ·refine gg [.tt,.tt,.tt] trivial ?_
      refine brp (p:=c.players≤6) (by kernel_rfl) (fun h6=> ?_) (fun h6=> ?_)
      ·refine gg [.tt,.tt,.tt] trivial ?_
       refine brp (p:=c.window≥1) (by kernel_rfl) (fun h7=> ?_) (fun h7=> ?_)
       ·refine gg [.tt,.tt,.tt] trivial ?_
        refine rT (a:=qz qj [vb (decide (c.window≤16))] []) ?_
        (simp_all [Config.right,within];(try (rw [Bool.eq_iff_iff];simp only [decide_eq_true_eq,Bool.and_eq_true];omega));(try (intros;omega)))
       ·refine gg [.ff,.ff,.ff] trivial ?_
        refine rT (a:=qz qj [vb false] []) ?_
        (simp_all [Config.right,within];(try (rw [Bool.eq_iff_iff];simp only [decide_eq_true_eq,Bool.and_eq_true];omega));(try (intros;omega)))
      ·refine gg [.ff,.ff,.ff,.ff,.ff,.ff,.ff] trivial ?_
       refine rT (a:=qz qj [vb false] []) ?_
       (simp_all [Config.right,within];(try (rw [Bool.eq_iff_iff];simp only [decide_eq_true_eq,Bool.and_eq_true];omega));(try (intros;omega)))
     ·refine gg [.ff,.ff,.ff,.ff,.ff,.ff,.ff,.ff,.ff,.ff,.ff] trivial ?_
      refine rT (a:=qz qj [vb false] []) ?_
      (simp_all [Config.right,within];(try (rw [Bool.eq_iff_iff];simp only [decide_eq_true_eq,Bool.and_eq_true];omega));(try (intros;omega)))
    ·refine gg [.ff,.ff,.ff,.ff,.ff,.ff,.ff,.ff,.ff,.ff,.ff,.ff,.ff,.ff,.ff] trivial ?_
     refine rT (a:=qz qj [vb false] []) ?_
     (simp_all [Config.right,within];(try (rw [Bool.eq_iff_iff];simp only [decide_eq_true_eq,Bool.and_eq_true];omega));(try (intros;omega)))
   ·refine gg [.ff,.ff,.ff,.ff,.ff,.ff,.ff,.ff,.ff,.ff,.ff,.ff,.ff,.ff,.ff,.ff] trivial ?_
    refine gg [.ff,.ff,.ff] trivial ?_
    refine rT (a:=qz qj [vb false] []) ?_
    (simp_all [Config.right,within];(try (rw [Bool.eq_iff_iff];simp only [decide_eq_true_eq,Bool.and_eq_true];omega));(try (intros;omega)))
  ·refine gg [.ff,.ff,.ff,.ff,.ff,.ff,.ff,.ff,.ff,.ff,.ff,.ff,.ff,.ff,.ff,.ff] trivial ?_
   refine gg [.ff,.ff,.ff,.ff,.ff,.ff,.ff] trivial ?_
   refine rT (a:=qz qj [vb false] []) ?_
   (simp_all [Config.right,within];(try (rw [Bool.eq_iff_iff];simp only [decide_eq_true_eq,Bool.and_eq_true];omega));(try (intros;omega)))
 ·refine gg [.ff,.ff,.ff,.ff,.ff,.ff,.ff,.ff,.ff,.ff,.ff,.ff,.ff,.ff,.ff,.ff] trivial ?_
  refine gg [.ff,.ff,.ff,.ff,.ff,.ff,.ff,.ff,.ff,.ff,.ff] trivial ?_
  refine rT (a:=qz qj [vb false] []) ?_
  (simp_all [Config.right,within];(try (rw [Bool.eq_iff_iff];simp only [decide_eq_true_eq,Bool.and_eq_true];omega));(try (intros;omega)))
theorem Aa4 (c:Config):Fn cx 19 [c.enc] (ti c.regions):=by
 cases h:c.right with
 |true=>
  have h2:=Config.mul_le h
  refine Wp.ev ?_
  refine gg [.a _ _,.i zd (c.cols*c.rows) (c.cols*c.rows)] ⟨o_a (Abb c (by assumption)),oI,trivial⟩ ?_
  refine rT (a:=qz qj [vi (c.cols*c.rows)] []) ?_
  simp [Config.regions,h]
 |false=>
  refine Wp.ev ?_
  refine gg [.a _ _,.i zd 0 0] ⟨o_a (AaY c (by assumption)),oK,trivial⟩ ?_
  refine rT (a:=qz qj [vi 0] []) ?_
  simp [Config.regions,h]
theorem AcI (c:Config):Fn cx 77 [c.enc] (ti c.regions):=by
 cases h:c.right with
 |true=>
  have h2:=Config.mul_le h
  refine Wp.ev ?_
  refine gg [.a _ _,.b (!Config.right c) false,.i zd (c.cols*c.rows) (c.cols*c.rows)] ⟨o_a (Aas c),Agd (by assumption),oI,trivial⟩ ?_
  refine rT (a:=qz qj [vi (c.cols*c.rows)] []) ?_
  simp [Config.regions,h]
 |false=>
  refine Wp.ev ?_
  refine gg [.a _ _,.b (!Config.right c) true] ⟨o_a (Aas c),AfT (by assumption),trivial⟩ ?_
  refine rT (a:=qz qj [vi 0] []) ?_
  simp [Config.regions,h]
theorem Abt (c:Config):Fn cx 159 [c.enc] (ti c.width):=by
 cases h:c.right with
 |true=>
  have h2:=Config.right_iff.1 h
  refine Wp.ev ?_
  refine gg [.a _ _,.i zd (c.cols*1024) (c.cols*1024)] ⟨o_a (Abb c (by assumption)),oI,trivial⟩ ?_
  refine rT (a:=qz qj [vi (c.cols*1024)] []) ?_
  simp [Config.width,h]
 |false=>
  refine Wp.ev ?_
  refine gg [.a _ _,.i zd 0 0] ⟨o_a (AaY c (by assumption)),oK,trivial⟩ ?_
  refine rT (a:=qz qj [vi 0] []) ?_
  simp [Config.width,h]
theorem Abd (c:Config):Fn cx 160 [c.enc] (ti c.height):=by
 cases h:c.right with
 |true=>
  have h2:=Config.right_iff.1 h
  refine Wp.ev ?_
  refine gg [.a _ _,.i zd (c.rows*1024) (c.rows*1024)] ⟨o_a (Abb c (by assumption)),oI,trivial⟩ ?_
  refine rT (a:=qz qj [vi (c.rows*1024)] []) ?_
  simp [Config.height,h]
 |false=>
  refine Wp.ev ?_
  refine gg [.a _ _,.i zd 0 0] ⟨o_a (AaY c (by assumption)),oK,trivial⟩ ?_
  refine rT (a:=qz qj [vi 0] []) ?_
  simp [Config.height,h]
theorem AbO (c:Config) (x y:Int):Fn cx 155 [c.enc,ti x,ti y] (.bool (c.inside x y)):=by
 have h1:= @Config.width_le c
 have h2:= @Config.height_le c
 refine Wp.ev ?_
 refine gg [.a _ _,.i zd (Config.width c-1) (Config.width c-1),.a _ _] ⟨o_a (Abt c),oI,o_a (Aax x 0 (Config.width c-1)),trivial⟩ ?_
 refine br (b:=within x 0 (Config.width c-1)) (by kernel_rfl) (fun h1=> ?_) (fun h1=> ?_)
 ·refine gg [.tt,.tt,.a _ _,.tt,.i zd (Config.height c-1) (Config.height c-1),.tt,.a _ _,.tt] ⟨o_a (Abd c),oI,o_a (Aax y 0 (Config.height c-1)),trivial⟩ ?_
  refine rT (a:=qz qj [vb (within y 0 (Config.height c-1))] []) ?_
  simp_all [Config.inside]
 ·refine gg [.ff,.ff,.ff,.ff,.ff] trivial ?_
  refine rT (a:=qz qj [vb false] []) ?_
  simp_all [Config.inside]
theorem Adi (c:Config) (x y:Int):Fn cx 76 [c.enc,ti x,ti y] (.bool (c.inside x y)):=by
 cases h:c.right with
 |true=>
  have h2:=Config.right_iff.1 h
  refine Wp.ev ?_
  refine gg [.a _ _,.b (Config.right c) true,.tt,.tt] ⟨o_a (Aas c),tB,trivial⟩ ?_
  refine brp (p:=x≥0) (by kernel_rfl) (fun h1=> ?_) (fun h1=> ?_)
  ·refine gg [.tt,.tt,.tt,.i zd (c.cols*1024) (c.cols*1024),.tt,.tt] ⟨oI,trivial⟩ ?_
   refine brp (p:=x<c.cols*1024) (by kernel_rfl) (fun h2=> ?_) (fun h2=> ?_)
   ·refine gg [.tt,.tt] trivial ?_
    refine brp (p:=y≥0) (by kernel_rfl) (fun h3=> ?_) (fun h3=> ?_)
    ·refine gg [.tt,.tt,.tt,.i zd (c.rows*1024) (c.rows*1024),.tt,.tt] ⟨oI,trivial⟩ ?_
     refine rT (a:=qz qj [vb (decide (y<c.rows*1024))] []) ?_
     (simp_all [Config.inside,Config.width,Config.height,within];(try (rw [Bool.eq_iff_iff];simp only [decide_eq_true_eq,Bool.and_eq_true];omega));(try (intros;omega)))
    ·refine gg [.ff,.ff,.ff,.ff,.ff] trivial ?_
     refine rT (a:=qz qj [vb false] []) ?_
     (simp_all [Config.inside,Config.width,Config.height,within];(try (rw [Bool.eq_iff_iff];simp only [decide_eq_true_eq,Bool.and_eq_true];omega));(try (intros;omega)))
   ·refine gg [.ff,.ff,.ff,.ff,.ff,.ff,.ff,.ff] trivial ?_
    refine rT (a:=qz qj [vb false] []) ?_
    (simp_all [Config.inside,Config.width,Config.height,within];(try (rw [Bool.eq_iff_iff];simp only [decide_eq_true_eq,Bool.and_eq_true];omega));(try (intros;omega)))
  ·refine gg [.ff,.ff,.ff,.ff,.ff,.ff,.ff,.ff,.ff,.ff,.ff,.ff,.ff,.ff] trivial ?_
   refine rT (a:=qz qj [vb false] []) ?_
   (simp_all [Config.inside,Config.width,Config.height,within];(try (rw [Bool.eq_iff_iff];simp only [decide_eq_true_eq,Bool.and_eq_true];omega));(try (intros;omega)))
 |false=>
  refine Wp.ev ?_
  refine gg [.a _ _,.b (Config.right c) false,.ff,.ff,.ff,.ff,.ff,.ff,.ff,.ff,.ff,.ff,.ff,.ff,.ff,.ff] ⟨o_a (Aas c),fB,trivial⟩ ?_
  refine gg [.ff,.ff,.ff] trivial ?_
  refine rT (a:=qz qj [vb false] []) ?_
  (simp_all [Config.inside,Config.width,Config.height,within];(try (rw [Bool.eq_iff_iff];simp only [decide_eq_true_eq,Bool.and_eq_true];omega));(try (intros;omega)))
theorem AeF (c:Config) (r:Int):Fn cx 146 [c.enc,ti r] (.bool (c.is r)):=by
 have h1:= @Config.regions_le c
 refine Wp.ev ?_
 refine gg [.a _ _,.i zd (Config.regions c-1) (Config.regions c-1),.a _ _] ⟨o_a (Aa4 c),oI,o_a (Aax r 0 (Config.regions c-1)),trivial⟩ ?_
 refine rT (a:=qz qj [vb (within r 0 (Config.regions c-1))] []) ?_
 simp_all [Config.is]
theorem AeW (c:Config) (r:Int):Fn cx 71 [c.enc,ti r] (.bool (c.is r)):=by
 have h1:= @Config.regions_le c
 refine Wp.ev ?_
 refine brp (p:=r≥0) (by kernel_rfl) (fun h1=> ?_) (fun h1=> ?_)
 ·refine gg [.tt,.tt,.a _ _,.tt,.tt] ⟨o_a (AcI c),trivial⟩ ?_
  refine rT (a:=qz qj [vb (decide (r<Config.regions c))] []) ?_
  (simp_all [Config.is,within];(try (rw [Bool.eq_iff_iff];simp only [decide_eq_true_eq,Bool.and_eq_true];omega));(try (intros;omega)))
 ·refine gg [.ff,.ff,.ff,.ff] trivial ?_
  refine rT (a:=qz qj [vb false] []) ?_
  (simp_all [Config.is,within];(try (rw [Bool.eq_iff_iff];simp only [decide_eq_true_eq,Bool.and_eq_true];omega));(try (intros;omega)))
theorem AbJ (c:Config) (x y:Int):Fn cx 98 [c.enc,ti x,ti y] (ti (c.of x y)):=by
 cases h:c.right with
 |true=>
  have h2:=Config.right_iff.1 h
  have h3:= @Config.width_le c
  have h4:= @Config.height_le c
  have hw:c.width=c.cols*1024:=by simp [Config.width,h]
  have hh:c.height=c.rows*1024:=by simp [Config.height,h]
  have h5:= @Ac7 x 0 (c.width-1) (by omega)
  have h6:= @Ac7 y 0 (c.height-1) (by omega)
  have h7:=Aby (v:=clamp x 0 (c.width-1)) (k:=1024) (m:=4) (by omega) (by omega) (by omega)
  have h8:=Aby (v:=clamp y 0 (c.height-1)) (k:=1024) (m:=4) (by omega) (by omega) (by omega)
  have h9:=mul4 (a:=(clamp y 0 (c.height-1)).tdiv 1024) (b:=c.cols) (by omega) (by omega)
  refine Wp.ev ?_
  refine gg [.a _ _,.b (c.cols==0) false,.a _ _,.i zd (Config.width c-1) (Config.width c-1),.a _ _,.a _ _,.i zd (Config.height c-1) (Config.height c-1),.a _ _,.w ((1024:Int)≠(0:Int)),.i zd (Int.tdiv (clamp y 0 (Config.height c-1)) 1024) (Int.tdiv (clamp y 0 (Config.height c-1)) 1024),.i zd (Int.tdiv (clamp y 0 (Config.height c-1)) 1024*c.cols) (Int.tdiv (clamp y 0 (Config.height c-1)) 1024*c.cols),.w ((1024:Int)≠(0:Int)),.i zd (Int.tdiv (clamp x 0 (Config.width c-1)) 1024) (Int.tdiv (clamp x 0 (Config.width c-1)) 1024),.i zd (Int.tdiv (clamp y 0 (Config.height c-1)) 1024*c.cols+Int.tdiv (clamp x 0 (Config.width c-1)) 1024) (Int.tdiv (clamp y 0 (Config.height c-1)) 1024*c.cols+Int.tdiv (clamp x 0 (Config.width c-1)) 1024)] ⟨o_a (Abb c (by assumption)),fE,o_a (Abt c),oI,o_a (Aar x 0 (Config.width c-1)),o_a (Abd c),oI,o_a (Aar y 0 (Config.height c-1)),o_w (by intro h;cases h),oI,oI,o_w (by intro h;cases h),oI,oI,trivial⟩ ?_
  refine rT (a:=qz qj [vi (Int.tdiv (clamp y 0 (Config.height c-1)) 1024*c.cols+Int.tdiv (clamp x 0 (Config.width c-1)) 1024)] []) ?_
  simp [Config.of,h]
 |false=>
  refine Wp.ev ?_
  refine gg [.a _ _,.b (0==0) true] ⟨o_a (AaY c (by assumption)),bK,trivial⟩ ?_
  refine rT (a:=qz qj [vi 0] []) ?_
  simp [Config.of,h]
end Go.Eva.S5
namespace Go.Eva
def pos {α:Type} (p:α→Bool) (l:List α):Int:=match l.findIdx? p with
 |some j=>j
 |none=> -1
def small {α:Type} (l:List α):Prop:=l.length≤1000000
theorem Aah {α:Type} [Inhabited α] {l:List α} {i:Nat} (h:i<l.length):l.drop i=gt l i::l.drop (i+1):=by
 rw [List.drop_eq_getElem_cons h];simp [gt,h]
theorem Abu {α:Type} [Inhabited α] {l:List α} {i:Nat} (h:i<l.length):gt l i∈l:=by simp [gt,h]
theorem Aaf {α:Type} {l:List α} {i:Nat} (h:l.length≤i):l.drop i= []:=List.drop_eq_nil_of_le h
theorem Aiv {α:Type} (m r:List α) (x:α) (i n:Nat) (hn:n=m.length) (h:i<n):
  zw (n+1) (zw i (zw (i+1) (m++r)++zw (n-i) (zw (n+1-i) (zk i (m++r)))++zk (i+(n-i)+1) (m++r))++zw 1 [x]++
   zk (i+1) (zw (i+1) (m++r)++zw (n-i) (zw (n+1-i) (zk i (m++r)))++zk (i+(n-i)+1) (m++r)))=zw i m++x::zk i m:=by
 subst hn
 have e1:zw (i+1) (m++r)=zw (i+1) m:=by rw [List.take_append_of_le_length (by omega)]
 have e2:zw (m.length-i) (zw (m.length+1-i) (zk i (m++r)))=zk i m:=by
  rw [List.take_take,Nat.min_eq_left (by omega),List.drop_append_of_le_length (by omega),List.take_append_of_le_length (by simp),List.take_of_length_le (by simp)]
 rw [e1,e2]
 generalize zk (i+(m.length-i)+1) (m++r)=z
 have hl:(zw (i+1) m).length=i+1:=by simp;omega
 have e3:zw i (zw (i+1) m++zk i m++z)=zw i m:=by
  rw [List.append_assoc,List.take_append_of_le_length (by omega),List.take_take,Nat.min_eq_left (by omega)]
 have e4:zk (i+1) (zw (i+1) m++zk i m++z)=zk i m++z:=by
  rw [List.append_assoc,List.drop_append,List.drop_of_length_le (by omega)]
  simp [hl]
 rw [e3,e4]
 have e5:zw i m++zw 1 [x]++(zk i m++z)=(zw i m++x::zk i m)++z:=by simp
 rw [e5,List.take_append_of_le_length (by simp;omega),List.take_of_length_le (by simp;omega)]
theorem insert_any' {α:Type} (m r:List α) (x:α) (i n:Nat) (hn:n=m.length) (h:i<n):
  zw (n+1) (zw i (zw (i+1) (m++r)++zw (n+1-(i+1)) (zw (n+1-i) (zk i (m++r)))++zk (i+1+(n+1-(i+1))) (m++r))++zw 1 [x]++
   zk (i+1) (zw (i+1) (m++r)++zw (n+1-(i+1)) (zw (n+1-i) (zk i (m++r)))++zk (i+1+(n+1-(i+1))) (m++r)))=zw i m++x::zk i m:=by
 have e1:n+1-(i+1)=n-i:=by omega
 have e2:i+1+(n-i)=i+(n-i)+1:=by omega
 rw [e1,e2]
 exact Aiv m r x i n hn h
theorem AgU {v:List V} {s:Nat} {xs ys:List T} {x:Ex} {o:Ob} (h:xs=ys):qz x v [o,.arr s xs none false]=qz x v [o,.arr s ys none false]:=by rw [h]
theorem gt_eq {α:Type} [Inhabited α] {l:List α} {i:Nat} (h:i<l.length):gt l i=l[i]:=by simp [gt,h]
end Go.Eva
namespace Go.Eva.S5
theorem Aaq (l:List Entity) (hl:small l):Is cx (.call 108 [.t (.sl 9 (l.map Entity.enc))] []) ⟨.ret,[.all 0 none],[.arr 9 (l.map Entity.enc) none false]⟩:=by
 unfold small at hl
 refine Wp.ev ?_
 refine cp (lo:=0) (by kernel_rfl) (fun c1 hc1=> ?_)
 refine brp (p:=c1=0∧zq (zz Entity.enc l)=0) (by kernel_rfl) (fun h2=> ?_) (fun h2=> ?_)
 ·refine rT (a:=qz qj [qy 0 none] [qv 9 [] none false]) ?_
  (first|rfl|(have:l= []:=List.length_eq_zero_iff.1 (by simp_all;done);subst this;rfl))
 ·refine gg [.w ((0:Nat)<(72:Nat)),.s (qk 0 (zz Entity.enc l)),.s (qk 0 (zz Entity.enc l)),.w (room (zq (zz Entity.enc l)) (72:Nat))] ⟨oW,o_w (by (simp [room,appendMax];omega)),trivial⟩ ?_
  refine rT (a:=qz qj [qy 0 none] [qv 9 (zz Entity.enc l) none false]) ?_
  (first|rfl|(have:l= []:=List.length_eq_zero_iff.1 (by simp_all;done);subst this;rfl))
theorem AaO (l:List Entity) (g:Nat) (cs:List T) (p:Entity→Bool) (hb:isFnB cx g=true) (hn:small l)
  (hg: ∀e∈l,Fn cx g (e.enc::cs) (.bool (p e))): ∀(d i:Nat),i+d=l.length→
  Is cx (.loop 147 [0,1,0,1] 0 [.t (.sl 9 (l.map Entity.enc)),.t (.clo g cs),vi 0,vi l.length,vi i] [])
   (match (l.drop i).findIdx? p with
    |some j=>⟨.ret,[.t (.sl 9 (l.map Entity.enc)),.t (.clo g cs),vi (i+j:Nat),vi l.length,vi (i+j:Nat)],[]⟩
    |none=>⟨.exit 0,[.t (.sl 9 (l.map Entity.enc)),.t (.clo g cs),vi 0,vi l.length,vi l.length],[]⟩):=by
 unfold small at hn
 intro d
 induction d with
 |zero=>
  intro i hi
  refine Wp.ev ?_
  refine gg [.b (decide ((i:Int)<(↑(zq l):Int))) false] ⟨fP,trivial⟩ ?_
  refine rT (a:=qz (qx 0) [V.t (qk 9 (zz Entity.enc l)),V.t (T.clo g cs),vi 0,vi (↑(zq l):Int),vi (i:Int)] []) ?_
  ((have:i=l.length:=by omega);subst this;rw [Aaf (Nat.le_refl _)];rfl)
 |succ d ih=>
  intro i hi
  have hlt:i<l.length:=by omega
  have hy:=hg _ (Abu hlt)
  have ih1:=ih (i+1) (by omega)
  clear ih hg
  rw [Aah hlt,List.findIdx?_cons]
  cases hp:p (gt l i) with
  |true=>
   rw [hp] at hy
   refine Wp.ev ?_
   refine gg [.b (decide ((i:Int)<(↑(zq l):Int))) true,.w (0≤(i:Int)),.n (zy (i:Int)) i,.g (zz Entity.enc l) i (Entity.enc (gt l i)),.w (isFnB cx g=true),.a _ _,.tt] ⟨tP,oW,nK,o_gt rfl (by assumption) (by intro h;cases h),oA,o_a hy,trivial⟩ ?_
   exact ge
  |false=>
   rw [hp] at hy
   simp only [Bool.false_eq_true,if_false]
   cases hq:(l.drop (i+1)).findIdx? p with
   |none=>
    rw [hq] at ih1
    refine Wp.ev ?_
    refine gg [.b (decide ((i:Int)<(↑(zq l):Int))) true,.w (0≤(i:Int)),.n (zy (i:Int)) i,.g (zz Entity.enc l) i (Entity.enc (gt l i)),.w (isFnB cx g=true),.a _ _,.ff,.i zd ((i:Int)+1) ((↑(i+1):Int)),.a _ _] ⟨tP,oW,nK,o_gt rfl (by assumption) (by intro h;cases h),oA,o_a hy,oI,o_a ih1,trivial⟩ ?_
    exact ge
   |some j=>
    rw [hq] at ih1
    refine Wp.ev ?_
    refine gg [.b (decide ((i:Int)<(↑(zq l):Int))) true,.w (0≤(i:Int)),.n (zy (i:Int)) i,.g (zz Entity.enc l) i (Entity.enc (gt l i)),.w (isFnB cx g=true),.a _ _,.ff,.i zd ((i:Int)+1) ((↑(i+1):Int)),.a _ _] ⟨tP,oW,nK,o_gt rfl (by assumption) (by intro h;cases h),oA,o_a hy,oI,o_a ih1,trivial⟩ ?_
    refine rT (a:=qz qj [V.t (qk 9 (zz Entity.enc l)),V.t (T.clo g cs),vi (↑(i+1+j):Int),vi (↑(zq l):Int),vi (↑(i+1+j):Int)] []) ?_
    simp [Nat.add_assoc,Nat.add_comm 1 j]
theorem Aam (l:List Entity) (g:Nat) (cs:List T) (p:Entity→Bool) (hb:isFnB cx g=true) (hn:small l)
  (hg: ∀e∈l,Fn cx g (e.enc::cs) (.bool (p e))):Fn cx 147 [.sl 9 (l.map Entity.enc),.clo g cs] (ti (pos p l)):=by
 have h:=AaO l g cs p hb hn hg l.length 0 (by omega)
 clear hg
 rw [List.drop_zero] at h
 unfold pos
 cases hq:l.findIdx? p with
 |none=>
  rw [hq] at h
  refine Wp.ev ?_
  refine gg [.n (zq (zz Entity.enc l)) (zq l),.a _ _] ⟨o_n (by simp),o_a h,trivial⟩ ?_
  exact ge
 |some j=>
  rw [hq] at h
  refine Wp.ev ?_
  refine gg [.n (zq (zz Entity.enc l)) (zq l),.a _ _] ⟨o_n (by simp),o_a h,trivial⟩ ?_
  refine rT (a:=qz qj [vi (↑(0+j):Int)] []) ?_
  simp
theorem AaE (l:List Entity) (e:Entity) (i:Nat) (hl:small l) (hi:i≤l.length):Is cx (.call 149 [.all 0 none,vi i,.fit 9 ([e].map Entity.enc)] [.arr 9 (l.map Entity.enc) none false]) ⟨.ret,[.all 1 none],[.dead,.arr 9 ((l.take i++e::l.drop i).map Entity.enc) none false]⟩:=by
 unfold small at hl
 refine Wp.ev ?_
 refine gg [.w (0≤(i:Int)),.n (zy (i:Int)) i,.w (i≤zq (zz Entity.enc l)∧zq (zz Entity.enc l)≤zq (zz Entity.enc l)),.n (0+i) i,.n (zq (zz Entity.enc l)-i) (zq l-i),.n (zq (zz Entity.enc [e])) 1,.b (1==0) false,.n (zq (zz Entity.enc l)) (zq l)] ⟨oW,nK,o_w ⟨(by (simp [room,appendMax];omega)),(by omega)⟩,oN,o_n (by simp),nK,bK,o_n (by simp),trivial⟩ ?_
 refine bre (x:=(i:Int)) (y:=(↑(zq l):Int)) (by kernel_rfl) (fun h1=> ?_) (fun h1=> ?_)
 ·refine gg [.w ((0:Nat)<(72:Nat)),.t (qk 0 [Entity.enc e]) (qk 0 (zz Entity.enc [e])),.t (qk 0 (zz Entity.enc l++zz Entity.enc [e])) (qk 0 (zz Entity.enc (l++ [e]))),.w (room (zq (zz Entity.enc (l++ [e]))) (72:Nat))] ⟨oW,o_l (Aa8 rfl AaV),o_l (Aa1 rfl rfl),o_w (by (simp [room,appendMax];omega)),trivial⟩ ?_
  refine rT (a:=qz qj [qy 1 none] [Ob.dead,qv 9 (zz Entity.enc (l++ [e])) none false]) ?_
  (refine AgU ?_;first|(simp only [List.map_cons,List.map_nil];rw [insert_any' _ _ _ _ _ (by simp) (by omega)];simp;done)|(have hq:i=l.length:=by omega;subst hq;simp;done)|(apply List.ext_getElem?;grind))
 ·refine gg [.i zd ((↑(zq l):Int)+1) ((↑(zq l+1):Int))] ⟨o_i (w64 (by (simp [room,appendMax];omega))),trivial⟩ ?_
  refine cp (lo:=zq (zz Entity.enc l)) (by kernel_rfl) (fun c2 hc2=> ?_)
  refine gg [.n (c2-0) c2] ⟨nK,trivial⟩ ?_
  refine brp (p:=(↑(zq l+1):Int)>(c2:Int)) (by kernel_rfl) (fun h3=> ?_) (fun h3=> ?_)
  ·refine gg [.w (0≤(i:Int)),.n (zy (i:Int)) i,.b (decide (c2-zq (zz Entity.enc l)=0)) true,.w ((0:Nat)≤i∧(0:Nat)+i≤zq (zz Entity.enc l)),.l 0,.n (i-0) i,.i zd ((↑(zq l):Int)+1) ((↑(zq l+1):Int)),.i zd ((↑(zq l+1):Int)-(i:Int)) ((↑(zq l+1):Int)-(i:Int)),.w (0≤(↑(zq l+(1:Nat)):Int)-(i:Int)∧room (zy ((↑(zq l+(1:Nat)):Int)-(i:Int))) (72:Nat)),.n (zy ((↑(zq l+1):Int)-(i:Int))) (zq l+1-i),.b (decide (c2-zq (zz Entity.enc l)=0)) true,.b (decide (0+i+zq (zj (zq l+1-i) (T.agg [ti 0,ti 0,ti 0,ti 0,ti 0,ti 0,ti 0,ti 0,ti 0]))≤zq (zz Entity.enc l))) false,.t (qk 0 (zw i (zk 0 (zz Entity.enc l))++zj (zq l+1-i) (T.agg [ti 0,ti 0,ti 0,ti 0,ti 0,ti 0,ti 0,ti 0,ti 0]))) (qk 0 (zz Entity.enc (zw i l++zj (zq l+1-i) (Entity.mk 0 0 0 0 0 0 0 0 0)))),.w (room (zq (zz Entity.enc (zw i l++zj (zq l+(1:Nat)-i) (Entity.mk (0:Int) (0:Int) (0:Int) (0:Int) (0:Int) (0:Int) (0:Int) (0:Int) (0:Int))))) (72:Nat)),.w (0≤(i:Int)),.n (zy (i:Int)) i] ⟨oW,nK,t_brp (by (simp;omega)),o_w ⟨(by omega),(by (simp [room,appendMax];omega))⟩,nK,o_i (w64 (by (simp [room,appendMax];omega))),o_i (w64 (by (simp [room,appendMax];omega))),o_w ⟨(by (simp [room,appendMax];omega)),(by (simp [room,appendMax];omega))⟩,oN,t_brp (by (simp;omega)),f_brp (by (simp;omega)),o_l (nm_eq (Aa1 (Ab5 (Acu rfl)) (Ali (e:=Entity.mk 0 0 0 0 0 0 0 0 0) rfl)) (by kernel_rfl)),o_w (by (simp [room,appendMax];omega)),oW,nK,trivial⟩ ?_
   refine gg [.w (i≤zq (zz Entity.enc (zw i l++zj (zq l+(1:Nat)-i) (Entity.mk (0:Int) (0:Int) (0:Int) (0:Int) (0:Int) (0:Int) (0:Int) (0:Int) (0:Int))))∧zq (zz Entity.enc (zw i l++zj (zq l+(1:Nat)-i) (Entity.mk (0:Int) (0:Int) (0:Int) (0:Int) (0:Int) (0:Int) (0:Int) (0:Int) (0:Int))))≤zq (zz Entity.enc (zw i l++zj (zq l+(1:Nat)-i) (Entity.mk (0:Int) (0:Int) (0:Int) (0:Int) (0:Int) (0:Int) (0:Int) (0:Int) (0:Int))))),.n (0+i) i,.n (zq (zz Entity.enc (zw i l++zj (zq l+1-i) (Entity.mk 0 0 0 0 0 0 0 0 0)))-i) (zq l+1-i),.n (min (zq (zz Entity.enc [e])) (zq l+1-i)) 1,.t (qk 0 (zw i (zz Entity.enc (zw i l++zj (zq l+1-i) (Entity.mk 0 0 0 0 0 0 0 0 0)))++zw 1 (zz Entity.enc [e])++zk (i+1) (zz Entity.enc (zw i l++zj (zq l+1-i) (Entity.mk 0 0 0 0 0 0 0 0 0))))) (qk 0 (zz Entity.enc (zw i (zw i l++zj (zq l+1-i) (Entity.mk 0 0 0 0 0 0 0 0 0))++ [e]++zk (i+1) (zw i l++zj (zq l+1-i) (Entity.mk 0 0 0 0 0 0 0 0 0))))),.i zd ((i:Int)+1) ((↑(i+1):Int)),.w (0≤(↑(i+(1:Nat)):Int)),.n (zy (↑(i+1):Int)) (i+1),.w (i+(1:Nat)≤zq (zz Entity.enc (zw i (zw i l++zj (zq l+(1:Nat)-i) (Entity.mk (0:Int) (0:Int) (0:Int) (0:Int) (0:Int) (0:Int) (0:Int) (0:Int) (0:Int)))++ [e]++zk (i+(1:Nat)) (zw i l++zj (zq l+(1:Nat)-i) (Entity.mk (0:Int) (0:Int) (0:Int) (0:Int) (0:Int) (0:Int) (0:Int) (0:Int) (0:Int)))))∧zq (zz Entity.enc (zw i (zw i l++zj (zq l+(1:Nat)-i) (Entity.mk (0:Int) (0:Int) (0:Int) (0:Int) (0:Int) (0:Int) (0:Int) (0:Int) (0:Int)))++ [e]++zk (i+(1:Nat)) (zw i l++zj (zq l+(1:Nat)-i) (Entity.mk (0:Int) (0:Int) (0:Int) (0:Int) (0:Int) (0:Int) (0:Int) (0:Int) (0:Int)))))≤zq (zz Entity.enc (zw i (zw i l++zj (zq l+(1:Nat)-i) (Entity.mk (0:Int) (0:Int) (0:Int) (0:Int) (0:Int) (0:Int) (0:Int) (0:Int) (0:Int)))++ [e]++zk (i+(1:Nat)) (zw i l++zj (zq l+(1:Nat)-i) (Entity.mk (0:Int) (0:Int) (0:Int) (0:Int) (0:Int) (0:Int) (0:Int) (0:Int) (0:Int)))))),.n (0+(i+1)) (i+1),.n (zq (zz Entity.enc (zw i (zw i l++zj (zq l+1-i) (Entity.mk 0 0 0 0 0 0 0 0 0))++ [e]++zk (i+1) (zw i l++zj (zq l+1-i) (Entity.mk 0 0 0 0 0 0 0 0 0))))-(i+1)) (i+(zq l+1-i)-(i+1))] ⟨o_w ⟨(by (simp [room,appendMax];omega)),(by omega)⟩,oN,o_n (by (simp;omega)),o_n (by (simp;omega)),o_l (nm_eq (Aa1 (Aa1 (Ab5 rfl) (Ab5 rfl)) (Acu rfl)) (by kernel_rfl)),o_i (w64 (by (simp [room,appendMax];omega))),o_w (by (simp [room,appendMax];omega)),nK,o_w ⟨(by (simp [room,appendMax];omega)),(by omega)⟩,oN,o_n (by (simp;omega)),trivial⟩ ?_
   refine gg [.w (0≤(i:Int)),.n (zy (i:Int)) i,.b (decide (c2-zq (zz Entity.enc l)=0)) true,.w (i≤zq (zz Entity.enc l)∧(0:Nat)+zq (zz Entity.enc l)≤zq (zz Entity.enc l)),.n (0+i) i,.n (zq (zz Entity.enc l)-i) (zq l-i),.n (min (zq (zw (zq l-i) (zk i (zz Entity.enc l)))) (i+(zq l+1-i)-(i+1))) (zq l-i),.t (qk 0 (zw (i+1) (zz Entity.enc (zw i (zw i l++zj (zq l+1-i) (Entity.mk 0 0 0 0 0 0 0 0 0))++ [e]++zk (i+1) (zw i l++zj (zq l+1-i) (Entity.mk 0 0 0 0 0 0 0 0 0))))++zw (zq l-i) (zw (zq l-i) (zk i (zz Entity.enc l)))++zk (i+1+(zq l-i)) (zz Entity.enc (zw i (zw i l++zj (zq l+1-i) (Entity.mk 0 0 0 0 0 0 0 0 0))++ [e]++zk (i+1) (zw i l++zj (zq l+1-i) (Entity.mk 0 0 0 0 0 0 0 0 0)))))) (qk 0 (zz Entity.enc (zw (i+1) (zw i (zw i l++zj (zq l+1-i) (Entity.mk 0 0 0 0 0 0 0 0 0))++ [e]++zk (i+1) (zw i l++zj (zq l+1-i) (Entity.mk 0 0 0 0 0 0 0 0 0)))++zw (zq l-i) (zw (zq l-i) (zk i l))++zk (i+1+(zq l-i)) (zw i (zw i l++zj (zq l+1-i) (Entity.mk 0 0 0 0 0 0 0 0 0))++ [e]++zk (i+1) (zw i l++zj (zq l+1-i) (Entity.mk 0 0 0 0 0 0 0 0 0))))))] ⟨oW,nK,t_brp (by (simp;omega)),o_w ⟨(by (simp [room,appendMax];omega)),(by omega)⟩,oN,o_n (by simp),o_n (by (simp;omega)),o_l (Aa1 (Aa1 (Ab5 rfl) (Ab5 (Ab5 (Acu rfl)))) (Acu rfl)),trivial⟩ ?_
   refine rT (a:=qz qj [qy 1 none] [Ob.dead,qv 9 (zz Entity.enc (zw (i+1) (zw i (zw i l++zj (zq l+1-i) (Entity.mk 0 0 0 0 0 0 0 0 0))++ [e]++zk (i+1) (zw i l++zj (zq l+1-i) (Entity.mk 0 0 0 0 0 0 0 0 0)))++zw (zq l-i) (zw (zq l-i) (zk i l))++zk (i+1+(zq l-i)) (zw i (zw i l++zj (zq l+1-i) (Entity.mk 0 0 0 0 0 0 0 0 0))++ [e]++zk (i+1) (zw i l++zj (zq l+1-i) (Entity.mk 0 0 0 0 0 0 0 0 0))))) none false]) ?_
   (refine AgU ?_;first|(simp only [List.map_cons,List.map_nil];rw [insert_any' _ _ _ _ _ (by simp) (by omega)];simp;done)|(have hq:i=l.length:=by omega;subst hq;simp;done)|(apply List.ext_getElem?;grind))
  ·refine gg [.i zd ((↑(zq l):Int)+1) ((↑(zq l+1):Int)),.w (0≤(↑(zq l+(1:Nat)):Int)),.n (zy (↑(zq l+1):Int)) (zq l+1),.b (decide (c2-zq (zz Entity.enc l)=0)) false,.w ((0:Nat)≤zq l+(1:Nat)∧(0:Nat)+(zq l+(1:Nat))≤zq (zz Entity.enc l)+(c2-zq (zz Entity.enc l))),.b (decide (0+(zq l+1)≤zq (zz Entity.enc l))) false,.l 0,.n (zq l+1-0) (zq l+1),.i zd ((i:Int)+1) ((↑(i+1):Int)),.w (0≤(↑(i+(1:Nat)):Int)),.n (zy (↑(i+1):Int)) (i+1),.b (decide (0=0)) true,.w (i+(1:Nat)≤zq l+(1:Nat)∧(0:Nat)+(zq l+(1:Nat))≤zq (zz Entity.enc l++zj (c2-zq (zz Entity.enc l)) T.any)),.n (0+(i+1)) (i+1),.l (zq l+1-(i+1)),.b (!false) true] ⟨o_i (w64 (by (simp [room,appendMax];omega))),o_w (by (simp [room,appendMax];omega)),nK,f_brp (by (simp;omega)),o_w ⟨(by omega),(by (simp [room,appendMax];omega))⟩,f_brp (by simp),nK,o_i (w64 (by (simp [room,appendMax];omega))),o_w (by (simp [room,appendMax];omega)),nK,bK,o_w ⟨(by (simp [room,appendMax];omega)),(by (simp [room,appendMax];omega))⟩,oN,bK,trivial⟩ ?_
   refine gg [.i zd ((i:Int)+1) ((↑(i+1):Int)),.w (0≤(↑(i+(1:Nat)):Int)),.n (zy (↑(i+1):Int)) (i+1),.b (decide (0=0)) true,.w (i+(1:Nat)≤zq l+(1:Nat)∧(0:Nat)+(zq l+(1:Nat))≤zq (zz Entity.enc l++zj (c2-zq (zz Entity.enc l)) T.any)),.n (0+(i+1)) (i+1),.l (zq l+1-(i+1)),.w (0≤(i:Int)),.n (zy (i:Int)) i,.b (decide (0=0)) true,.w (i≤zq l+(1:Nat)∧(0:Nat)+(zq l+(1:Nat))≤zq (zz Entity.enc l++zj (c2-zq (zz Entity.enc l)) T.any)),.n (0+i) i,.l (zq l+1-i),.n (min (zq (zw (zq l+1-i) (zk i (zz Entity.enc l++zj (c2-zq (zz Entity.enc l)) T.any)))) (zq l+1-(i+1))) (zq l+1-(i+1)),.s (qk 0 (zw (i+1) (zz Entity.enc l++zj (c2-zq (zz Entity.enc l)) T.any)++zw (zq l+1-(i+1)) (zw (zq l+1-i) (zk i (zz Entity.enc l++zj (c2-zq (zz Entity.enc l)) T.any)))++zk (i+1+(zq l+1-(i+1))) (zz Entity.enc l++zj (c2-zq (zz Entity.enc l)) T.any))),.w (0≤(i:Int))] ⟨o_i (w64 (by (simp [room,appendMax];omega))),o_w (by (simp [room,appendMax];omega)),nK,bK,o_w ⟨(by (simp [room,appendMax];omega)),(by (simp [room,appendMax];omega))⟩,oN,oW,nK,bK,o_w ⟨(by omega),(by (simp [room,appendMax];omega))⟩,oN,o_n (by (simp;omega)),oW,trivial⟩ ?_
   refine gg [.n (zy (i:Int)) i,.b (decide (0=0)) true,.w (i≤zq l+(1:Nat)∧(0:Nat)+(zq l+(1:Nat))≤zq (zw (i+(1:Nat)) (zz Entity.enc l++zj (c2-zq (zz Entity.enc l)) T.any)++zw (zq l+(1:Nat)-(i+(1:Nat))) (zw (zq l+(1:Nat)-i) (zk i (zz Entity.enc l++zj (c2-zq (zz Entity.enc l)) T.any)))++zk (i+(1:Nat)+(zq l+(1:Nat)-(i+(1:Nat)))) (zz Entity.enc l++zj (c2-zq (zz Entity.enc l)) T.any))),.n (0+i) i,.l (zq l+1-i),.n (min (zq (zz Entity.enc [e])) (zq l+1-i)) 1,.s (qk 0 (zw i (zw (i+1) (zz Entity.enc l++zj (c2-zq (zz Entity.enc l)) T.any)++zw (zq l+1-(i+1)) (zw (zq l+1-i) (zk i (zz Entity.enc l++zj (c2-zq (zz Entity.enc l)) T.any)))++zk (i+1+(zq l+1-(i+1))) (zz Entity.enc l++zj (c2-zq (zz Entity.enc l)) T.any))++zw 1 (zz Entity.enc [e])++zk (i+1) (zw (i+1) (zz Entity.enc l++zj (c2-zq (zz Entity.enc l)) T.any)++zw (zq l+1-(i+1)) (zw (zq l+1-i) (zk i (zz Entity.enc l++zj (c2-zq (zz Entity.enc l)) T.any)))++zk (i+1+(zq l+1-(i+1))) (zz Entity.enc l++zj (c2-zq (zz Entity.enc l)) T.any)))),.s (qk 0 (zw (zq l+1) (zw i (zw (i+1) (zz Entity.enc l++zj (c2-zq (zz Entity.enc l)) T.any)++zw (zq l+1-(i+1)) (zw (zq l+1-i) (zk i (zz Entity.enc l++zj (c2-zq (zz Entity.enc l)) T.any)))++zk (i+1+(zq l+1-(i+1))) (zz Entity.enc l++zj (c2-zq (zz Entity.enc l)) T.any))++zw 1 (zz Entity.enc [e])++zk (i+1) (zw (i+1) (zz Entity.enc l++zj (c2-zq (zz Entity.enc l)) T.any)++zw (zq l+1-(i+1)) (zw (zq l+1-i) (zk i (zz Entity.enc l++zj (c2-zq (zz Entity.enc l)) T.any)))++zk (i+1+(zq l+1-(i+1))) (zz Entity.enc l++zj (c2-zq (zz Entity.enc l)) T.any)))))] ⟨nK,bK,o_w ⟨(by omega),(by (simp [room,appendMax];omega))⟩,oN,o_n (by (simp;omega)),trivial⟩ ?_
   refine rT (a:=qz qj [qy 1 none] [Ob.dead,qv 9 (zw (zq l+1) (zw i (zw (i+1) (zz Entity.enc l++zj (c2-zq (zz Entity.enc l)) T.any)++zw (zq l+1-(i+1)) (zw (zq l+1-i) (zk i (zz Entity.enc l++zj (c2-zq (zz Entity.enc l)) T.any)))++zk (i+1+(zq l+1-(i+1))) (zz Entity.enc l++zj (c2-zq (zz Entity.enc l)) T.any))++zw 1 (zz Entity.enc [e])++zk (i+1) (zw (i+1) (zz Entity.enc l++zj (c2-zq (zz Entity.enc l)) T.any)++zw (zq l+1-(i+1)) (zw (zq l+1-i) (zk i (zz Entity.enc l++zj (c2-zq (zz Entity.enc l)) T.any)))++zk (i+1+(zq l+1-(i+1))) (zz Entity.enc l++zj (c2-zq (zz Entity.enc l)) T.any)))) none false]) ?_
   (refine AgU ?_;first|(simp only [List.map_cons,List.map_nil];rw [insert_any' _ _ _ _ _ (by simp) (by omega)];simp;done)|(have hq:i=l.length:=by omega;subst hq;simp;done)|(apply List.ext_getElem?;grind))
theorem AaU (l:List Cross) (g:Nat) (cs:List T) (p:Cross→Bool) (hb:isFnB cx g=true) (hn:small l)
  (hg: ∀e∈l,Fn cx g (e.enc::cs) (.bool (p e))): ∀(d i:Nat),i+d=l.length→
  Is cx (.loop 162 [0,1,0,1] 0 [.t (.sl 15 (l.map Cross.enc)),.t (.clo g cs),vi 0,vi l.length,vi i] [])
   (match (l.drop i).findIdx? p with
    |some j=>⟨.ret,[.t (.sl 15 (l.map Cross.enc)),.t (.clo g cs),vi (i+j:Nat),vi l.length,vi (i+j:Nat)],[]⟩
    |none=>⟨.exit 0,[.t (.sl 15 (l.map Cross.enc)),.t (.clo g cs),vi 0,vi l.length,vi l.length],[]⟩):=by
 unfold small at hn
 intro d
 induction d with
 |zero=>
  intro i hi
  refine Wp.ev ?_
  refine gg [.b (decide ((i:Int)<(↑(zq l):Int))) false] ⟨fP,trivial⟩ ?_
  refine rT (a:=qz (qx 0) [V.t (qk 15 (zz Cross.enc l)),V.t (T.clo g cs),vi 0,vi (↑(zq l):Int),vi (i:Int)] []) ?_
  ((have:i=l.length:=by omega);subst this;rw [Aaf (Nat.le_refl _)];rfl)
 |succ d ih=>
  intro i hi
  have hlt:i<l.length:=by omega
  have hy:=hg _ (Abu hlt)
  have ih1:=ih (i+1) (by omega)
  clear ih hg
  rw [Aah hlt,List.findIdx?_cons]
  cases hp:p (gt l i) with
  |true=>
   rw [hp] at hy
   refine Wp.ev ?_
   refine gg [.b (decide ((i:Int)<(↑(zq l):Int))) true,.w (0≤(i:Int)),.n (zy (i:Int)) i,.g (zz Cross.enc l) i (Cross.enc (gt l i)),.w (isFnB cx g=true),.a _ _,.tt] ⟨tP,oW,nK,o_gt rfl (by assumption) (by intro h;cases h),oA,o_a hy,trivial⟩ ?_
   exact ge
  |false=>
   rw [hp] at hy
   simp only [Bool.false_eq_true,if_false]
   cases hq:(l.drop (i+1)).findIdx? p with
   |none=>
    rw [hq] at ih1
    refine Wp.ev ?_
    refine gg [.b (decide ((i:Int)<(↑(zq l):Int))) true,.w (0≤(i:Int)),.n (zy (i:Int)) i,.g (zz Cross.enc l) i (Cross.enc (gt l i)),.w (isFnB cx g=true),.a _ _,.ff,.i zd ((i:Int)+1) ((↑(i+1):Int)),.a _ _] ⟨tP,oW,nK,o_gt rfl (by assumption) (by intro h;cases h),oA,o_a hy,oI,o_a ih1,trivial⟩ ?_
    exact ge
   |some j=>
    rw [hq] at ih1
    refine Wp.ev ?_
    refine gg [.b (decide ((i:Int)<(↑(zq l):Int))) true,.w (0≤(i:Int)),.n (zy (i:Int)) i,.g (zz Cross.enc l) i (Cross.enc (gt l i)),.w (isFnB cx g=true),.a _ _,.ff,.i zd ((i:Int)+1) ((↑(i+1):Int)),.a _ _] ⟨tP,oW,nK,o_gt rfl (by assumption) (by intro h;cases h),oA,o_a hy,oI,o_a ih1,trivial⟩ ?_
    refine rT (a:=qz qj [V.t (qk 15 (zz Cross.enc l)),V.t (T.clo g cs),vi (↑(i+1+j):Int),vi (↑(zq l):Int),vi (↑(i+1+j):Int)] []) ?_
    simp [Nat.add_assoc,Nat.add_comm 1 j]
theorem Ab7 (l:List Cross) (g:Nat) (cs:List T) (p:Cross→Bool) (hb:isFnB cx g=true) (hn:small l)
  (hg: ∀e∈l,Fn cx g (e.enc::cs) (.bool (p e))):Fn cx 162 [.sl 15 (l.map Cross.enc),.clo g cs] (ti (pos p l)):=by
 have h:=AaU l g cs p hb hn hg l.length 0 (by omega)
 clear hg
 rw [List.drop_zero] at h
 unfold pos
 cases hq:l.findIdx? p with
 |none=>
  rw [hq] at h
  refine Wp.ev ?_
  refine gg [.n (zq (zz Cross.enc l)) (zq l),.a _ _] ⟨o_n (by simp),o_a h,trivial⟩ ?_
  exact ge
 |some j=>
  rw [hq] at h
  refine Wp.ev ?_
  refine gg [.n (zq (zz Cross.enc l)) (zq l),.a _ _] ⟨o_n (by simp),o_a h,trivial⟩ ?_
  refine rT (a:=qz qj [vi (↑(0+j):Int)] []) ?_
  simp
theorem AaT (l:List Input) (g:Nat) (cs:List T) (p:Input→Bool) (hb:isFnB cx g=true) (hn:small l)
  (hg: ∀e∈l,Fn cx g (e.enc::cs) (.bool (p e))): ∀(d i:Nat),i+d=l.length→
  Is cx (.loop 161 [0,1,0,1] 0 [.t (.sl 3 (l.map Input.enc)),.t (.clo g cs),vi 0,vi l.length,vi i] [])
   (match (l.drop i).findIdx? p with
    |some j=>⟨.ret,[.t (.sl 3 (l.map Input.enc)),.t (.clo g cs),vi (i+j:Nat),vi l.length,vi (i+j:Nat)],[]⟩
    |none=>⟨.exit 0,[.t (.sl 3 (l.map Input.enc)),.t (.clo g cs),vi 0,vi l.length,vi l.length],[]⟩):=by
 unfold small at hn
 intro d
 induction d with
 |zero=>
  intro i hi
  refine Wp.ev ?_
  refine gg [.b (decide ((i:Int)<(↑(zq l):Int))) false] ⟨fP,trivial⟩ ?_
  refine rT (a:=qz (qx 0) [V.t (qk 3 (zz Input.enc l)),V.t (T.clo g cs),vi 0,vi (↑(zq l):Int),vi (i:Int)] []) ?_
  ((have:i=l.length:=by omega);subst this;rw [Aaf (Nat.le_refl _)];rfl)
 |succ d ih=>
  intro i hi
  have hlt:i<l.length:=by omega
  have hy:=hg _ (Abu hlt)
  have ih1:=ih (i+1) (by omega)
  clear ih hg
  rw [Aah hlt,List.findIdx?_cons]
  cases hp:p (gt l i) with
  |true=>
   rw [hp] at hy
   refine Wp.ev ?_
   refine gg [.b (decide ((i:Int)<(↑(zq l):Int))) true,.w (0≤(i:Int)),.n (zy (i:Int)) i,.g (zz Input.enc l) i (Input.enc (gt l i)),.w (isFnB cx g=true),.a _ _,.tt] ⟨tP,oW,nK,o_gt rfl (by assumption) (by intro h;cases h),oA,o_a hy,trivial⟩ ?_
   exact ge
  |false=>
   rw [hp] at hy
   simp only [Bool.false_eq_true,if_false]
   cases hq:(l.drop (i+1)).findIdx? p with
   |none=>
    rw [hq] at ih1
    refine Wp.ev ?_
    refine gg [.b (decide ((i:Int)<(↑(zq l):Int))) true,.w (0≤(i:Int)),.n (zy (i:Int)) i,.g (zz Input.enc l) i (Input.enc (gt l i)),.w (isFnB cx g=true),.a _ _,.ff,.i zd ((i:Int)+1) ((↑(i+1):Int)),.a _ _] ⟨tP,oW,nK,o_gt rfl (by assumption) (by intro h;cases h),oA,o_a hy,oI,o_a ih1,trivial⟩ ?_
    exact ge
   |some j=>
    rw [hq] at ih1
    refine Wp.ev ?_
    refine gg [.b (decide ((i:Int)<(↑(zq l):Int))) true,.w (0≤(i:Int)),.n (zy (i:Int)) i,.g (zz Input.enc l) i (Input.enc (gt l i)),.w (isFnB cx g=true),.a _ _,.ff,.i zd ((i:Int)+1) ((↑(i+1):Int)),.a _ _] ⟨tP,oW,nK,o_gt rfl (by assumption) (by intro h;cases h),oA,o_a hy,oI,o_a ih1,trivial⟩ ?_
    refine rT (a:=qz qj [V.t (qk 3 (zz Input.enc l)),V.t (T.clo g cs),vi (↑(i+1+j):Int),vi (↑(zq l):Int),vi (↑(i+1+j):Int)] []) ?_
    simp [Nat.add_assoc,Nat.add_comm 1 j]
theorem Ab8 (l:List Input) (g:Nat) (cs:List T) (p:Input→Bool) (hb:isFnB cx g=true) (hn:small l)
  (hg: ∀e∈l,Fn cx g (e.enc::cs) (.bool (p e))):Fn cx 161 [.sl 3 (l.map Input.enc),.clo g cs] (ti (pos p l)):=by
 have h:=AaT l g cs p hb hn hg l.length 0 (by omega)
 clear hg
 rw [List.drop_zero] at h
 unfold pos
 cases hq:l.findIdx? p with
 |none=>
  rw [hq] at h
  refine Wp.ev ?_
  refine gg [.n (zq (zz Input.enc l)) (zq l),.a _ _] ⟨o_n (by simp),o_a h,trivial⟩ ?_
  exact ge
 |some j=>
  rw [hq] at h
  refine Wp.ev ?_
  refine gg [.n (zq (zz Input.enc l)) (zq l),.a _ _] ⟨o_n (by simp),o_a h,trivial⟩ ?_
  refine rT (a:=qz qj [vi (↑(0+j):Int)] []) ?_
  simp
end Go.Eva.S5
namespace Go.Eva.S5
end Go.Eva.S5
namespace Go.Eva
def find (l:List Entity) (id:Int):Int:=pos (fun e=>e.id==id) l
def ins (l:List Entity) (e:Entity):List Entity:=match l.findIdx? fun x=>decide (x.id≥e.id) with
 |some k=>l.take k++e::l.drop k
 |none=>l++ [e]
def put1 (l:List Entity) (e:Entity):List Entity:=match l.findIdx? fun x=>x.id==e.id with
 |some _=>l
 |none=>ins l e
def puts (l m:List Entity):List Entity:=m.foldl put1 l
def has (ids:List Int) (id:Int):Bool:=ids.any fun x=>x==id
def drops (l:List Entity) (ids:List Int):List Entity:=l.filter fun e=> !has ids e.id
def things (l:List Entity):Int:=(l.countP fun e=>e.kind !=1:Nat)
def sortedL:List Entity→Bool
 |a::b::r=>decide (a.id<b.id)&&sortedL (b::r)
 |_=>true
def sameL {α:Type} (p:α→α→Bool):List α→List α→Bool
 |a::r,b::s=>p a b&&sameL p r s
 |_,_=>true
theorem Abr {α:Type} {p:α→Bool} {l:List α} (h:l.findIdx? p=none):pos p l= -1:=by simp [pos,h]
theorem AaX {α:Type} {p:α→Bool} {l:List α} {k:Nat} (h:l.findIdx? p=some k):pos p l=(k:Int):=by simp [pos,h]
theorem AkE {l:List Entity} {e:Entity}:(ins l e).length=l.length+1:=by
 unfold ins
 split
 ·rename_i k h
  have:=(List.findIdx?_eq_some_iff_getElem.1 h).1
  simp;omega
 ·simp
theorem Aa6 {l:List Entity} {e:Entity}:l.length≤(put1 l e).length∧(put1 l e).length≤l.length+1:=by
 unfold put1
 split
 ·omega
 ·rw [AkE];omega
theorem Akm {m l:List Entity}:l.length≤(puts l m).length∧(puts l m).length≤l.length+m.length:=by
 induction m generalizing l with
 |nil=>simp [puts]
 |cons e m ih=>
  have h1:= @Aa6 l e
  have h2:= @ih (put1 l e)
  have h3:puts l (e::m)=puts (put1 l e) m:=rfl
  rw [h3]
  simp only [List.length_cons]
  omega
theorem Ajg {l:List Entity} {i:Nat} (h:i+1<l.length):sortedL (l.drop i)=(decide ((gt l i).id<(gt l (i+1)).id)&&sortedL (l.drop (i+1))):=by
 rw [Aah (by omega),Aah h,sortedL]
theorem AiA {l:List Entity} {i:Nat} (h:l.length≤i+1):sortedL (l.drop i)=true:=by
 rcases Nat.lt_or_ge i l.length with h1|h1
 ·rw [Aah h1,Aaf (by omega)];rfl
 ·rw [Aaf h1];rfl
theorem Afc {l:List Entity} {i:Nat} (p:Entity→Bool) (h:i<l.length):(l.drop i).countP p=(if p (gt l i)=true then 1 else 0)+(l.drop (i+1)).countP p:=by
 rw [Aah h,List.countP_cons];omega
theorem AgL {α:Type} [Inhabited α] {l:List α} {i:Nat} (p:α→Bool) (h:i<l.length):(l.drop i).filter p=(if p (gt l i)=true then [gt l i] else [])++(l.drop (i+1)).filter p:=by
 rw [Aah h,List.filter_cons];split<;>simp
theorem AkI {l:List Int} {x:Int}:(decide (pos (fun y=>x==y) l≥0))=has l x:=by
 unfold has
 cases h:l.findIdx? fun y=>x==y with
 |none=>
  rw [Abr h]
  have:=List.findIdx?_eq_none_iff.1 h
  symm
  rw [show (l.any fun y=>y==x)=false from ?_]
  ·rfl
  ·rw [List.any_eq_false]
   intro y hy
   have:=this y hy
   simp at this⊢
   exact fun e=>this e.symm
 |some k=>
  rw [AaX h]
  obtain ⟨hk,h1,_⟩:=List.findIdx?_eq_some_iff_getElem.1 h
  symm
  simp only [ge_iff_le,Int.natCast_nonneg,decide_true]
  rw [List.any_eq_true]
  exact ⟨l[k],List.getElem_mem _,by simp at h1⊢;exact h1.symm⟩
theorem AiB {α:Type} [Inhabited α] {p:α→α→Bool} {a b:List α} {i:Nat} (h:i<a.length) (h':i<b.length):sameL p (a.drop i) (b.drop i)=(p (gt a i) (gt b i)&&sameL p (a.drop (i+1)) (b.drop (i+1))):=by
 rw [Aah h,Aah h',sameL]
theorem AgV {α:Type} [DecidableEq α]: ∀ {a b:List α},a.length=b.length→sameL (fun x y=>decide (x=y)) a b=decide (a=b)
 | [],[],_=>rfl
 | [],_::_,h=>by simp at h
 |_::_,[],h=>by simp at h
 |x::a,y::b,h=>by
  rw [sameL,AgV (by simpa using h)]
  by_cases h1:x=y<;>simp [h1]
def plain {α:Type} [DecidableEq α] (a b:List α):Bool:=decide (a=b)
abbrev CrossL:=List Cross
def encL (l:List Cross):T:= .sl 15 (l.map Cross.enc)
end Go.Eva