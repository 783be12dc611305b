/- A reading of the program, proved sound against the model, and what its functions answer by it: part 5. -/
import Derived.Test.YtdlmgaiiheeigaaGreatEva4
set_option linter.unusedSimpArgs false
set_option linter.unusedVariables false
open List renaming length → zq, map → zz, replicate → zj, set → zx, take → zw, drop → zk
open Int renaming toNat → zy, tmod → zg, fdiv → zh
open Go.IntKind renaming i64 → zd, u64 → zf, wrap → zp
open BitVec renaming ofInt → zb
open Go.Eva.Entity renaming enc → zm, less → z8, right → z9, mk → qw
open Go.Eva.Cross renaming enc → zn, less → z7
open Go.Eva.Input renaming enc → zr
open Go.Eva.Region renaming enc → zt
open Go.Eva.Config renaming regions → z0, near → z6
open Go.Eva.Wp renaming ev → qq
open Go.Eva.Res renaming mk → qz
open Go.Eva.Ex renaming ret → qj, exit → qx
open Go.Eva.Ob renaming arr → qv, one → qg
open Go.Eva.T renaming sl → qk
open Go.Eva.V renaming all → qy
namespace Go.Eva
def colI (rows:List InputL) (p:Nat):InputL:=rows.map fun r=>gt r p
def colsI (rows:List InputL) (n:Nat):List InputL:=(List.range n).map (colI rows)
theorem Aoo {rows:List InputL} {p:Nat}:(colI rows p).length=rows.length:=by simp [colI]
theorem AoF {rows:List InputL} {p f:Nat} (h:f<rows.length):gt (colI rows p) f=gt (gt rows f) p:=by simp [colI,gt,h]
theorem AnT {rows:List InputL} {n p:Nat} (h:p<n):gt (colsI rows n) p=colI rows p:=by simp [colsI,gt,h]
theorem Aon {a:List InputL} {n k:Nat} {g:Nat→Nat→Input} (hk:k≤a.length) (hn: ∀r∈a,r.length=n) (h: ∀f p,f<k→p<n→g f p=gt (gt a f) p):((List.range k).map fun f=>(List.range n).map (g f))=a.take k:=by
 apply List.ext_getElem?
 intro f
 by_cases hf:f<k
 ·rw [List.getElem?_map,List.getElem?_range hf,Option.map_some,List.getElem?_take,if_pos hf]
  have hfa:f<a.length:=by omega
  rw [List.getElem?_eq_getElem hfa]
  congr 1
  have hl:=hn _ (List.getElem_mem hfa)
  apply List.ext_getElem?
  intro p
  by_cases hp:p<n
  ·rw [List.getElem?_map,List.getElem?_range hp,Option.map_some,h f p hf hp,gt_eq hfa,List.getElem?_eq_getElem (by omega),gt_eq (by omega)]
  ·rw [List.getElem?_eq_none (by simp;omega),List.getElem?_eq_none (by omega)]
 ·rw [List.getElem?_eq_none (by simp;omega),List.getElem?_eq_none (by simp;omega)]
theorem AlS {rows:List InputL} {n:Nat} (hn: ∀r∈rows,r.length=n∧ ∀i∈r,i.right=true): ∀x∈colsI rows n,∀i∈x,i.right=true:=by
 intro x hx i hi
 obtain ⟨p,hp,rfl⟩:=List.mem_map.1 hx
 obtain ⟨r,hr,rfl⟩:=List.mem_map.1 hi
 have hp:=List.mem_range.1 hp
 obtain ⟨h1,h2⟩:=hn r hr
 exact h2 _ (Aau (by omega))
end Go.Eva
namespace Go.Eva
end Go.Eva
namespace Go.Eva
def downK (l:List Entity) (x:Entity):Nat→Nat
 |0=>0
 |m+1=>if (gt l m).id>x.id then downK l x m else m+1
theorem Ai7 {l:List Entity} {x:Entity}: ∀ {m:Nat},downK l x m≤m
 |0=>Nat.le_refl _
 |m+1=>by
  rw [downK]
  split
  ·exact Nat.le_succ_of_le Ai7
  ·exact Nat.le_refl _
theorem Aio {l:List Entity} {x:Entity}: ∀ {m j:Nat},downK l x m≤j→j<m→x.id<(gt l j).id
 |0,j,_,h=>by omega
 |m+1,j,h1,h2=>by
  rw [downK] at h1
  split at h1
  ·rename_i h
   by_cases e:j=m
   ·subst e;omega
   ·exact Aio h1 (by omega)
  ·omega
theorem Ajk {l:List Entity} {x:Entity}: ∀ {m:Nat},0<downK l x m→(gt l (downK l x m-1)).id≤x.id
 |0,h=>by simp [downK] at h
 |m+1,h=>by
  rw [downK] at h⊢
  split
  ·rename_i hq
   rw [if_pos hq] at h
   exact Ajk h
  ·simpa using by omega
theorem Aiq {x:Entity}: ∀ {a b:List Entity},(∀y∈a,z8 x y=false)→(∀y∈b.head?,z8 x y=true)→insS z8 (a++b) x=a++x::b
 | [],[],_,_=>rfl
 | [],y::b,_,h=>by
  have:=h y (by simp)
  simp only [List.nil_append,insS,this]
 |z::a,b,h1,h2=>by
  have hz:=h1 z (List.mem_cons_self ..)
  simp only [List.cons_append,insS,hz]
  rw [Aiq (fun y hy=>h1 y (List.mem_cons_of_mem _ hy)) h2]
theorem Akn {a b:Entity}:z8 a b=decide (a.id<b.id):=by
 unfold z8 Entity.cmp cmpI
 rw [Bool.eq_iff_iff]
 simp only [decide_eq_true_eq]
 split<;>(try split)<;>omega
theorem Apu {l:List Entity} (h:Sd z8 l) {i j:Nat} (hij:i≤j) (hj:j<l.length):(gt l i).id≤(gt l j).id:=by
 by_cases e:i=j
 ·subst e;omega
 ·have:=List.pairwise_iff_getElem.1 h i j (by omega) hj (by omega)
  rw [Akn] at this
  rw [gt_eq (by omega),gt_eq hj]
  simp at this
  omega
theorem Ajr {l:List Entity} {x:Entity} (h:Sd z8 l):insS z8 l x=l.take (downK l x l.length)++x::l.drop (downK l x l.length):=by
 have hk:= @Ai7 l x l.length
 conv=>lhs;rw [←List.take_append_drop (downK l x l.length) l]
 refine Aiq (fun y hy=> ?_) (fun y hy=> ?_)
 ·obtain ⟨j,hj,rfl⟩:=List.mem_iff_getElem.1 hy
  rw [List.length_take] at hj
  have hpos:0<downK l x l.length:=by omega
  have h1:=Ajk hpos
  have h2:=Apu h (i:=j) (j:=downK l x l.length-1) (by omega) (by omega)
  rw [gt_eq (show j<l.length by omega)] at h2
  rw [Akn,List.getElem_take]
  simp
  omega
 ·rw [List.head?_drop] at hy
  have hlt:downK l x l.length<l.length:=by
   rcases Nat.lt_or_ge (downK l x l.length) l.length with h|h
   ·exact h
   ·rw [List.getElem?_eq_none h] at hy;simp at hy
  have h1:=Aio (Nat.le_refl _) hlt
  rw [List.getElem?_eq_getElem hlt] at hy
  simp at hy
  subst hy
  rw [gt_eq hlt] at h1
  rw [Akn]
  simpa using h1
end Go.Eva
namespace Go.Eva.S4
theorem Ac5 (w:World) (hn:w.regions.length≤1000) (hs:(entsAll w.regions).length≤100000): ∀(d i:Nat) (A:List Entity),i+d=w.regions.length→A.length+(entsAll (w.regions.drop i)).length=(entsAll w.regions).length→
  Is cx (.loop 47 [0,1,0,1,1] 0 [.ptr 0 0 0,.all 1 none,vi i] [.one 2 (.t w.enc) false,.arr 9 ((A).map zm) none false])
   ⟨.exit 0,[.ptr 0 0 0,.all 1 none,vi w.regions.length],[.one 2 (.t w.enc) false,.arr 9 ((A++entsAll (w.regions.drop i)).map zm) none false]⟩:=by
 obtain ⟨R,O⟩:=w
 simp only at*
 intro d
 induction d with
 |zero=>
  intro i A hi hA
  rw [Aac (by omega)]
  refine qq ?_
  refine gg [.n (zq (zz zt R)) (zq R),.b (decide ((i:Int)<(↑(zq R):Int))) false] ⟨o_n (by simp),fP,trivial⟩ ?_
  refine rT (a:=qz (qx 0) [V.ptr 0 0 0,qy 1 none,vi (i:Int)] [qg 2 (V.t (World.enc (World.mk R O))) false,qv 9 (zz zm A) none false]) ?_
  ((have hq:i=R.length:=by omega);subst hq;simp [entsAll])
 |succ d ih=>
  intro i A hi hA
  have hlt:i<R.length:=by omega
  rw [AoL hlt] at hA⊢
  rw [List.length_append] at hA
  have ih1:=ih (i+1) (A++(gt R i).ents) (by omega) (by rw [List.length_append];omega)
  clear ih
  rw [←List.append_assoc]
  refine qq ?_
  refine gg [.n (zq (zz zt R)) (zq R),.b (decide ((i:Int)<(↑(zq R):Int))) true,.w (0≤(i:Int)),.n (zy (i:Int)) i,.g (zz zt R) i (zt (gt R i)),.w ((0:Nat)<(72:Nat)),.s (qk 0 (zz zm (gt R i).ents)),.t (qk 0 (zz zm A++zz zm (gt R i).ents)) (qk 0 (zz zm (A++(gt R i).ents))),.w (room (zq (zz zm (A++(gt R i).ents))) (72:Nat)),.i zd ((i:Int)+1) ((↑(i+1):Int)),.a _ _] ⟨o_n (by simp),tP,oW,nK,o_gt rfl (by assumption) (by intro h;cases h),oW,o_l (Aaj rfl rfl),o_w (by (simp [room,appendMax];omega)),oI,o_a ih1,trivial⟩ ?_
  exact ge
theorem AdW (w:World) (i:Nat) (hi:i<w.outs.length) (hl:(gt w.outs i).length≤1000): ∀(d j:Nat) (A:List Entity),j+d=(gt w.outs i).length→A.length≤500000+j→
  Is cx (.loop 47 [0,1,0,0,1,0,0,1,0,1,1,1] 0 [.ptr 0 0 0,.all 1 none,vi i,vi j] [.one 2 (.t w.enc) false,.arr 9 ((A).map zm) none false])
   ⟨.exit 4,[.ptr 0 0 0,.all 1 none,vi i,vi (gt w.outs i).length],[.one 2 (.t w.enc) false,.arr 9 ((A++handed ((gt w.outs i).drop j)).map zm) none false]⟩:=by
 obtain ⟨R,O⟩:=w
 simp only at*
 intro d
 induction d with
 |zero=>
  intro j A hj hA
  rw [Aac (by omega)]
  refine qq ?_
  refine gg [.w (0≤(i:Int)),.n (zy (i:Int)) i,.g (zz encL O) i (encL (gt O i)),.n (zq (zz zn (gt O i))) (zq (gt O i)),.b (decide ((j:Int)<(↑(zq (gt O i)):Int))) false] ⟨oW,nK,o_gt rfl (by assumption) (by intro h;cases h),o_n (by simp),fP,trivial⟩ ?_
  refine rT (a:=qz (qx 4) [V.ptr 0 0 0,qy 1 none,vi (i:Int),vi (j:Int)] [qg 2 (V.t (World.enc (World.mk R O))) false,qv 9 (zz zm A) none false]) ?_
  ((have hq:j=(gt O i).length:=by omega);subst hq;simp [handed])
 |succ d ih=>
  intro j A hj hA
  have hlt:j<(gt O i).length:=by omega
  rw [Anr hlt]
  by_cases hk:(gt (gt O i) j).kind=1
  ·have ih1:=ih (j+1) (A++ [(gt (gt O i) j).ent]) (by omega) (by simp;omega)
   rw [if_pos hk,←List.append_assoc]
   clear ih
   refine qq ?_
   refine gg [.w (0≤(i:Int)),.n (zy (i:Int)) i,.g (zz encL O) i (encL (gt O i)),.n (zq (zz zn (gt O i))) (zq (gt O i)),.b (decide ((j:Int)<(↑(zq (gt O i)):Int))) true,.w (0≤(i:Int)),.n (zy (i:Int)) i,.g (zz encL O) i (encL (gt O i)),.w (0≤(j:Int)),.n (zy (j:Int)) j,.g (zz zn (gt O i)) j (zn (gt (gt O i) j)),.b ((gt (gt O i) j).kind==1) true,.w (0≤(i:Int)),.n (zy (i:Int)) i,.g (zz encL O) i (encL (gt O i)),.w (0≤(j:Int))] ⟨oW,nK,o_gt rfl (by assumption) (by intro h;cases h),o_n (by simp),tP,oW,nK,o_gt rfl (by assumption) (by intro h;cases h),oW,nK,o_gt rfl (by assumption) (by intro h;cases h),t_bre (by assumption),oW,nK,o_gt rfl (by assumption) (by intro h;cases h),oW,trivial⟩ ?_
   refine gg [.n (zy (j:Int)) j,.g (zz zn (gt O i)) j (zn (gt (gt O i) j)),.w ((0:Nat)<(72:Nat)),.t (qk 0 [zm (gt (gt O i) j).ent]) (qk 0 (zz zm [(gt (gt O i) j).ent])),.t (qk 0 (zz zm A++zz zm [(gt (gt O i) j).ent])) (qk 0 (zz zm (A++ [(gt (gt O i) j).ent]))),.w (room (zq (zz zm (A++ [(gt (gt O i) j).ent]))) (72:Nat)),.i zd ((j:Int)+1) ((↑(j+1):Int)),.a _ _] ⟨nK,o_gt rfl (by assumption) (by intro h;cases h),oW,o_l (Aaf rfl Aal),o_l (Aaj rfl rfl),o_w (by (simp [room,appendMax];omega)),oI,o_a ih1,trivial⟩ ?_
   exact ge
  ·have ih1:=ih (j+1) A (by omega) (by omega)
   rw [if_neg hk,List.nil_append]
   clear ih
   refine qq ?_
   refine gg [.w (0≤(i:Int)),.n (zy (i:Int)) i,.g (zz encL O) i (encL (gt O i)),.n (zq (zz zn (gt O i))) (zq (gt O i)),.b (decide ((j:Int)<(↑(zq (gt O i)):Int))) true,.w (0≤(i:Int)),.n (zy (i:Int)) i,.g (zz encL O) i (encL (gt O i)),.w (0≤(j:Int)),.n (zy (j:Int)) j,.g (zz zn (gt O i)) j (zn (gt (gt O i) j)),.b ((gt (gt O i) j).kind==1) false,.i zd ((j:Int)+1) ((↑(j+1):Int)),.a _ _] ⟨oW,nK,o_gt rfl (by assumption) (by intro h;cases h),o_n (by simp),tP,oW,nK,o_gt rfl (by assumption) (by intro h;cases h),oW,nK,o_gt rfl (by assumption) (by intro h;cases h),f_bre (by assumption),oI,o_a ih1,trivial⟩ ?_
   exact ge
theorem Aee (w:World) (hn:w.outs.length≤100) (hs: ∀l∈w.outs,l.length≤1000): ∀(d i:Nat) (A:List Entity),i+d=w.outs.length→A.length≤100000+1000*i→
  Is cx (.loop 47 [0,1,0,1,1,1] 0 [.ptr 0 0 0,.all 1 none,vi i] [.one 2 (.t w.enc) false,.arr 9 ((A).map zm) none false])
   ⟨.exit 2,[.ptr 0 0 0,.all 1 none,vi w.outs.length],[.one 2 (.t w.enc) false,.arr 9 ((A++handedAll (w.outs.drop i)).map zm) none false]⟩:=by
 intro d
 induction d with
 |zero=>
  intro i A hi hA
  rw [Aac (by omega)]
  obtain ⟨R,O⟩:=w
  simp only at*
  refine qq ?_
  refine gg [.n (zq (zz encL O)) (zq O),.b (decide ((i:Int)<(↑(zq O):Int))) false] ⟨o_n (by simp),fP,trivial⟩ ?_
  refine rT (a:=qz (qx 2) [V.ptr 0 0 0,qy 1 none,vi (i:Int)] [qg 2 (V.t (World.enc (World.mk R O))) false,qv 9 (zz zm A) none false]) ?_
  ((have hq:i=O.length:=by omega);subst hq;simp [handedAll])
 |succ d ih=>
  intro i A hi hA
  have hlt:i<w.outs.length:=by omega
  rw [AjB hlt]
  have hl:=hs _ (Aau hlt)
  have hh:(handed (gt w.outs i)).length≤(gt w.outs i).length:=by unfold handed;rw [List.length_map];exact List.length_filter_le ..
  have ih1:=ih (i+1) (A++handed (gt w.outs i)) (by omega) (by rw [List.length_append];omega)
  have h2:=AdW w i hlt hl (gt w.outs i).length 0 A (by omega) (by omega)
  rw [List.drop_zero] at h2
  clear ih hs hh
  rw [←List.append_assoc]
  generalize handed (gt w.outs i)=hd at*
  obtain ⟨R,O⟩:=w
  simp only at*
  refine qq ?_
  refine gg [.n (zq (zz encL O)) (zq O),.b (decide ((i:Int)<(↑(zq O):Int))) true,.a _ _,.i zd ((i:Int)+1) ((↑(i+1):Int)),.a _ _] ⟨o_n (by simp),tP,o_a h2,oI,o_a ih1,trivial⟩ ?_
  exact ge
theorem Aeb (l out:List Entity) (i:Nat) (hi:i<l.length) (hl:l.length≤1000000) (ho:out.length≤1000000): ∀(m:Nat),m≤out.length→
  Is cx (.loop 47 [0,0,1,0,0,1,0,0,1,0,1,1,1,1,1] 0 [.all 0 none,.all 1 none,vi i,vi m] [.arr 9 ((l).map zm) none false,.arr 9 ((out).map zm) none false])
   ⟨.exit 8,[.all 0 none,.all 1 none,vi i,vi (downK out (gt l i) m:Nat)],[.arr 9 ((l).map zm) none false,.arr 9 ((out).map zm) none false]⟩:=by
 intro m
 induction m with
 |zero=>
  intro hm
  rw [downK]
  refine qq ?_
  refine gg [.b (decide (0>0)) false,.ff,.ff,.ff,.ff,.ff,.ff,.ff,.ff,.ff,.ff,.ff,.ff,.ff] ⟨bK,trivial⟩ ?_
  exact ge
 |succ m ih=>
  intro hm
  have ih1:=ih (by omega)
  have hlt:m<out.length:=by omega
  have e:((m+1:Nat):Int)-1=(m:Nat):=by omega
  rw [downK]
  by_cases h:(gt out m).id>(gt l i).id
  ·rw [if_pos h]
   generalize downK out (gt l i) m=z at*
   refine qq ?_
   refine gg [.b (decide ((↑(m+1):Int)>0)) true,.tt,.tt,.i zd ((↑(m+1):Int)-1) (m:Int),.tt,.w (0≤(m:Int)),.n (zy (m:Int)) m,.w (m<zq (zz zm out)),.tt,.tt,.tt,.tt,.w (0≤(i:Int)),.n (zy (i:Int)) i,.w (i<zq (zz zm l)),.tt] ⟨tP,oI,oW,nK,o_w (by (simp;omega)),oW,nK,o_w (by (simp;omega)),trivial⟩ ?_
   refine gg [.tt,.g (zz zm out) m (zm (gt out m)),.tt,.g (zz zm l) i (zm (gt l i)),.tt,.tt,.b (decide ((gt out m).id>(gt l i).id)) true,.i zd ((↑(m+1):Int)-1) (m:Int),.a _ _] ⟨o_gt rfl (by assumption) (by intro h;cases h),o_gt rfl (by assumption) (by intro h;cases h),t_brp (by assumption),oI,o_a (ih (by omega)),trivial⟩ ?_
   exact ge
  ·rw [if_neg h]
   clear ih1
   refine qq ?_
   refine gg [.b (decide ((↑(m+1):Int)>0)) true,.tt,.tt,.i zd ((↑(m+1):Int)-1) (m:Int),.tt,.w (0≤(m:Int)),.n (zy (m:Int)) m,.w (m<zq (zz zm out)),.tt,.tt,.tt,.tt,.w (0≤(i:Int)),.n (zy (i:Int)) i,.w (i<zq (zz zm l)),.tt] ⟨tP,oI,oW,nK,o_w (by (simp;omega)),oW,nK,o_w (by (simp;omega)),trivial⟩ ?_
   refine gg [.tt,.g (zz zm out) m (zm (gt out m)),.tt,.g (zz zm l) i (zm (gt l i)),.tt,.tt,.b (decide ((gt out m).id>(gt l i).id)) false] ⟨o_gt rfl (by assumption) (by intro h;cases h),o_gt rfl (by assumption) (by intro h;cases h),f_brp (by assumption),trivial⟩ ?_
   exact ge
theorem AdY (l:List Entity) (hl:l.length≤500000): ∀(d i:Nat) (out:List Entity),i+d=l.length→out.length≤i→Sd z8 out→
  Is cx (.loop 47 [0,1,0,1,1,1,1,1] 0 [.all 0 none,.all 1 none,vi i] [.arr 9 ((l).map zm) none false,.arr 9 ((out).map zm) none false])
   ⟨.exit 6,[.all 0 none,.all 1 none,vi l.length],[.arr 9 ((l).map zm) none false,.arr 9 (((l.drop i).foldl (insS z8) out).map zm) none false]⟩:=by
 intro d
 induction d with
 |zero=>
  intro i out hi ho hs
  rw [Aac (by omega),List.foldl_nil]
  refine qq ?_
  refine gg [.n (zq (zz zm l)) (zq l),.b (decide ((i:Int)<(↑(zq l):Int))) false] ⟨o_n (by simp),fP,trivial⟩ ?_
  refine rT (a:=qz (qx 6) [qy 0 none,qy 1 none,vi (i:Int)] [qv 9 (zz zm l) none false,qv 9 (zz zm out) none false]) ?_
  ((have hq:i=l.length:=by omega);subst hq;rfl)
 |succ d ih=>
  intro i out hi ho hs
  have hlt:i<l.length:=by omega
  have hD:=Aeb l out i hlt (by omega) (by omega) out.length (Nat.le_refl _)
  have hk:= @Ai7 out (gt l i) out.length
  have hln:(insS z8 out (gt l i)).length=out.length+1:=by rw [Ajr hs];simp;omega
  have ih1:=ih (i+1) (insS z8 out (gt l i)) (by omega) (by omega) (Ahi Ail hs)
  rw [Aae hlt,List.foldl_cons]
  rw [Ajr hs,List.append_cons] at ih1⊢
  clear ih hs hln
  generalize (l.drop (i+1)).foldl (insS z8) _=X at*
  generalize downK out (gt l i) out.length=k at*
  have hT:zk k out=zw (out.length-k) (zk k out):=by rw [List.take_of_length_le (by simp)]
  rw [hT] at ih1
  clear hT
  refine qq ?_
  refine gg [.n (zq (zz zm l)) (zq l),.b (decide ((i:Int)<(↑(zq l):Int))) true,.n (zq (zz zm out)) (zq out),.a _ _,.w (0≤(k:Int)),.n (zy (k:Int)) k,.w ((0:Nat)≤k∧k≤zq (zz zm out)),.l 0,.n (k-0) k,.w (0≤(i:Int)),.n (zy (i:Int)) i,.w (i<zq (zz zm l)),.w (0≤(k:Int)),.n (zy (k:Int)) k,.w (k≤zq (zz zm out)∧zq (zz zm out)≤zq (zz zm out)),.n (0+k) k] ⟨o_n (by simp),tP,o_n (by simp),o_a hD,oW,nK,o_w ⟨(by omega),(by (simp;omega))⟩,nK,oW,nK,o_w (by (simp;omega)),oW,nK,o_w ⟨(by (simp;omega)),(by omega)⟩,oN,trivial⟩ ?_
  refine gg [.n (zq (zz zm out)-k) (zq out-k),.g (zz zm l) i (zm (gt l i))] ⟨o_n (by simp),o_gt rfl (by assumption) (by intro h;cases h),trivial⟩ ?_
  refine bO ?_ ?_
  all_goals
   refine gg [.w ((0:Nat)<(72:Nat)),.t (qk 0 (zw k (zk 0 (zz zm out)))) (qk 0 (zz zm (zw k out))),.s (qk 0 (zz zm (zw k out))),.w (room (zq (zz zm (zw k out))) (72:Nat)),.w ((0:Nat)<(72:Nat)),.t (qk 0 [zm (gt l i)]) (qk 0 (zz zm [gt l i])),.t (qk 0 (zz zm (zw k out)++zz zm [gt l i])) (qk 0 (zz zm (zw k out++ [gt l i]))),.w (room (zq (zz zm (zw k out++ [gt l i]))) (72:Nat)),.w ((0:Nat)<(72:Nat)),.t (qk 0 (zw (zq out-k) (zk k (zz zm out)))) (qk 0 (zz zm (zw (zq out-k) (zk k out)))),.t (qk 0 (zz zm (zw k out++ [gt l i])++zz zm (zw (zq out-k) (zk k out)))) (qk 0 (zz zm (zw k out++ [gt l i]++zw (zq out-k) (zk k out)))),.w (room (zq (zz zm (zw k out++ [gt l i]++zw (zq out-k) (zk k out)))) (72:Nat)),.i zd ((i:Int)+1) ((↑(i+1):Int)),.a _ _] ⟨oW,o_l (nm_eq (AaG (Abg rfl)) (by kernel_rfl)),o_w (by (simp [room,appendMax];omega)),oW,o_l (Aaf rfl Aal),o_l (Aaj rfl rfl),o_w (by (simp [room,appendMax];omega)),oW,o_l (AaG (Abg rfl)),o_l (Aaj rfl rfl),o_w (by (simp [room,appendMax];omega)),oI,o_a ih1,trivial⟩ ?_
   refine rT (a:=qz (qx 6) [qy 0 none,qy 1 none,vi (↑(zq l):Int)] [qv 9 (zz zm l) none false,qv 9 (zz zm X) none false]) ?_
   (first|rfl|(simp;done))
theorem AgD (w:World) (hn:w.regions.length≤1000) (hs:(entsAll w.regions).length≤100000) (ho:w.outs.length≤100) (hl: ∀l∈w.outs,l.length≤1000):Fn cx 47 [w.enc] (.sl 9 ((allL w).map zm)):=by
 have h1:=Ac5 w hn hs w.regions.length 0 [] (by omega) (by simp)
 rw [List.drop_zero,List.nil_append] at h1
 have h2:=Aee w ho hl w.outs.length 0 (entsAll w.regions) (by omega) (by omega)
 rw [List.drop_zero] at h2
 have hlen:=AiK hl
 have h3:=AdY (entsAll w.regions++handedAll w.outs) (by simp;omega) (entsAll w.regions++handedAll w.outs).length 0 [] (by omega) (by simp) (by simp [Sd])
 rw [List.drop_zero] at h3
 unfold allL sortS
 generalize (entsAll w.regions++handedAll w.outs).foldl (insS z8) []=Y at*
 generalize entsAll w.regions=E at*
 generalize E++handedAll w.outs=X at*
 obtain ⟨R,O⟩:=w
 simp only at*
 clear hl hlen
 refine qq ?_
 refine gg [.a _ _,.a _ _,.a _ _] ⟨o_a h1,o_a h2,o_a h3,trivial⟩ ?_
 exact ge
end Go.Eva.S4
namespace Go.Eva.S4
theorem AaX (a:List Region) (g:Nat) (hb:isFnB cx g=true) (hn:small a) (hg: ∀x∈a,Fn cx g [zt x,zt x] (.bool true)): ∀(d i:Nat),i+d=a.length→
  Is cx (.loop 39 [0,1,0,1,1] 0 [.t (.sl 2 (a.map zt)),.t (.sl 2 (a.map zt)),.t (.clo g []),vb false,vi i] [])
   ⟨.exit 0,[.t (.sl 2 (a.map zt)),.t (.sl 2 (a.map zt)),.t (.clo g []),vb false,vi a.length],[]⟩:=by
 unfold small at hn
 intro d
 induction d with
 |zero=>
  intro i hi
  refine qq ?_
  refine gg [.n (zq (zz zt a)) (zq a),.b (decide ((i:Int)<(↑(zq a):Int))) false] ⟨o_n (by simp),fP,trivial⟩ ?_
  refine rT (a:=qz (qx 0) [V.t (qk 2 (zz zt a)),V.t (qk 2 (zz zt a)),V.t (T.clo g []),vb false,vi (i:Int)] []) ?_
  ((have hq:i=a.length:=by omega);subst hq;rfl)
 |succ d ih=>
  intro i hi
  have hlt:i<a.length:=by omega
  have ih1:=ih (i+1) (by omega)
  have hy:=hg (gt a i) (Aau hlt)
  clear ih hg
  refine qq ?_
  refine gg [.n (zq (zz zt a)) (zq a),.b (decide ((i:Int)<(↑(zq a):Int))) true,.w (0≤(i:Int)),.n (zy (i:Int)) i,.g (zz zt a) i (zt (gt a i)),.w (0≤(i:Int)),.n (zy (i:Int)) i,.g (zz zt a) i (zt (gt a i)),.w (isFnB cx g=true),.a _ _,.b (!true) false,.i zd ((i:Int)+1) ((↑(i+1):Int)),.a _ _] ⟨o_n (by simp),tP,oW,nK,o_gt rfl (by assumption) (by intro h;cases h),oW,nK,o_gt rfl (by assumption) (by intro h;cases h),oA,o_a hy,bK,oI,o_a ih1,trivial⟩ ?_
  exact ge
theorem Ab2 (a:List Region) (g:Nat) (hb:isFnB cx g=true) (hn:small a) (hg: ∀x∈a,Fn cx g [zt x,zt x] (.bool true)):Fn cx 39 [.sl 2 (a.map zt),.sl 2 (a.map zt),.clo g []] (.bool true):=by
 have h:=AaX a g hb hn hg a.length 0 (by omega)
 clear hg
 refine qq ?_
 refine gg [.n (zq (zz zt a)) (zq a),.n (zq (zz zt a)) (zq a),.b ((↑(zq a):Int) !=(↑(zq a):Int)) false,.a _ _] ⟨o_n (by simp),o_n (by simp),f_brn rfl,o_a h,trivial⟩ ?_
 exact ge
theorem AaR (a:List CrossL) (g:Nat) (hb:isFnB cx g=true) (hn:small a) (hg: ∀x∈a,Fn cx g [encL x,encL x] (.bool true)): ∀(d i:Nat),i+d=a.length→
  Is cx (.loop 40 [0,1,0,1,1] 0 [.t (.sl 1 (a.map encL)),.t (.sl 1 (a.map encL)),.t (.clo g []),vb false,vi i] [])
   ⟨.exit 0,[.t (.sl 1 (a.map encL)),.t (.sl 1 (a.map encL)),.t (.clo g []),vb false,vi a.length],[]⟩:=by
 unfold small at hn
 intro d
 induction d with
 |zero=>
  intro i hi
  refine qq ?_
  refine gg [.n (zq (zz encL a)) (zq a),.b (decide ((i:Int)<(↑(zq a):Int))) false] ⟨o_n (by simp),fP,trivial⟩ ?_
  refine rT (a:=qz (qx 0) [V.t (qk 1 (zz encL a)),V.t (qk 1 (zz encL a)),V.t (T.clo g []),vb false,vi (i:Int)] []) ?_
  ((have hq:i=a.length:=by omega);subst hq;rfl)
 |succ d ih=>
  intro i hi
  have hlt:i<a.length:=by omega
  have ih1:=ih (i+1) (by omega)
  have hy:=hg (gt a i) (Aau hlt)
  clear ih hg
  refine qq ?_
  refine gg [.n (zq (zz encL a)) (zq a),.b (decide ((i:Int)<(↑(zq a):Int))) true,.w (0≤(i:Int)),.n (zy (i:Int)) i,.g (zz encL a) i (encL (gt a i)),.w (0≤(i:Int)),.n (zy (i:Int)) i,.g (zz encL a) i (encL (gt a i)),.w (isFnB cx g=true),.a _ _,.b (!true) false,.i zd ((i:Int)+1) ((↑(i+1):Int)),.a _ _] ⟨o_n (by simp),tP,oW,nK,o_gt rfl (by assumption) (by intro h;cases h),oW,nK,o_gt rfl (by assumption) (by intro h;cases h),oA,o_a hy,bK,oI,o_a ih1,trivial⟩ ?_
  exact ge
theorem Aby (a:List CrossL) (g:Nat) (hb:isFnB cx g=true) (hn:small a) (hg: ∀x∈a,Fn cx g [encL x,encL x] (.bool true)):Fn cx 40 [.sl 1 (a.map encL),.sl 1 (a.map encL),.clo g []] (.bool true):=by
 have h:=AaR a g hb hn hg a.length 0 (by omega)
 clear hg
 refine qq ?_
 refine gg [.n (zq (zz encL a)) (zq a),.n (zq (zz encL a)) (zq a),.b ((↑(zq a):Int) !=(↑(zq a):Int)) false,.a _ _] ⟨o_n (by simp),o_n (by simp),f_brn rfl,o_a h,trivial⟩ ?_
 exact ge
theorem AfB (a:Region) (hn:small a.ents):Fn cx 29 [a.enc,a.enc] (.bool true):=by
 have hP:=AcD a.ents a.ents hn
 rw [show plain a.ents a.ents=true by simp [plain]] at hP
 obtain ⟨f,l⟩:=a
 simp only at hP
 refine qq ?_
 refine gg [.b (f==f) true,.tt,.tt,.tt,.tt,.a _ _,.tt] ⟨t_bre rfl,o_a hP,trivial⟩ ?_
 refine rT (a:=qz qj [vb true] []) ?_
 (simp;done)
theorem AeO (a:CrossL) (hn:small a):Fn cx 41 [encL a,encL a] (.bool true):=by
 have hP:=Ada a a hn
 rw [show plain a a=true by simp [plain]] at hP
 refine qq ?_
 refine gg [.a _ _] ⟨o_a hP,trivial⟩ ?_
 exact ge
theorem AfX (w:World) (h1:small w.regions) (h2:small w.outs) (h3: ∀s∈w.regions,small s.ents) (h4: ∀l∈w.outs,small l):Fn cx 36 [w.enc,w.enc] (.bool true):=by
 have e1:=Ab2 w.regions 29 (by kernel_rfl) h1 fun x hx=>AfB x (h3 x hx)
 have e2:=Aby w.outs 41 (by kernel_rfl) h2 fun x hx=>AeO x (h4 x hx)
 clear h3 h4
 obtain ⟨R,O⟩:=w
 simp only at e1 e2
 refine qq ?_
 refine gg [.a _ _,.tt,.tt,.tt,.tt,.tt,.a _ _,.tt] ⟨o_a e1,o_a e2,trivial⟩ ?_
 exact ge
end Go.Eva.S4
namespace Go.Eva.S4
theorem Ae6 (c:Config) (l F:List InputL) (gone en k:Int) (f n:Nat) (hn:l.length=n) (h6:n≤6) (hf:f≤100) (hF:F.length=f): ∀(d p:Nat),p+d=n→
  Is cx (.loop 49 [0,1,0,1,1,0,0,1,1,0,0,1,0,1,1,1,1] 0 [.t (.sl 1 (l.map encI)),vi gone,vi en,.ptr 0 0 0,.ptr 1 0 0,.ptr 2 0 0,.all 3 none,vi f,.all 4 none,vi k,vi f,vi n,vi p] [.one 5 (.t c.enc) false,.one 2 (.agg [.fit 2 [],.fit 1 []]) false,.one 5 (.t c.enc) false,.arr 1 (F.map encI) none false,.arr 3 ((ghostFill l gone en n f p).map zr) (some 0) false])
   ⟨.exit 3,[.t (.sl 1 (l.map encI)),vi gone,vi en,.ptr 0 0 0,.ptr 1 0 0,.ptr 2 0 0,.all 3 none,vi f,.all 4 none,vi k,vi f,vi n,vi n],[.one 5 (.t c.enc) false,.one 2 (.agg [.fit 2 [],.fit 1 []]) false,.one 5 (.t c.enc) false,.arr 1 (F.map encI) none false,.arr 3 ((ghostRow l gone en n f).map zr) (some 0) false]⟩:=by
 intro d
 induction d with
 |zero=>
  intro p hp
  obtain rfl:p=n:=by omega
  rw [AiA]
  refine qq ?_
  refine gg [.b (decide ((p:Int)<(p:Int))) false] ⟨fP,trivial⟩ ?_
  exact ge
 |succ d ih=>
  intro p hp
  have ih1:=ih (p+1) (by omega)
  have hlt:p<n:=by omega
  have hltl:p<l.length:=by omega
  have hlen:=AiC (l:=l) (gone:=gone) (en:=en) (n:=n) (f:=f) (p:=p) (by omega)
  have hs:=AiW (l:=l) (gone:=gone) (en:=en) (f:=f) hlt
  clear ih
  by_cases h1:f<(gt l p).length
  ·by_cases h2:(p:Int)=gone
   ·by_cases h3:(f:Int)<en
    ·rw [←hs,show ghostAt l gone en f p=gt (gt l p) f by unfold ghostAt;rw [if_pos ⟨by omega,.inr h3⟩]] at ih1
     generalize ghostFill l gone en n f p=R at*
     clear hs
     refine qq ?_
     refine gg [.b (decide ((p:Int)<(n:Int))) true,.w (0≤(p:Int)),.n (zy (p:Int)) p,.g (zz encI l) p (encI (gt l p)),.n (zq (zz zr (gt l p))) (zq (gt l p)),.b (decide ((f:Int)<(↑(zq (gt l p)):Int))) true,.tt,.tt,.tt,.b ((p:Int) !=gone) false,.ff,.ff,.tt,.ff,.tt,.b (decide ((f:Int)<en)) true] ⟨tP,oW,nK,o_gt rfl (by assumption) (by intro h;cases h),o_n (by simp),tP,f_brn (by assumption),t_brp (by assumption),trivial⟩ ?_
     refine gg [.w (0≤(p:Int)),.n (zy (p:Int)) p,.g (zz encI l) p (encI (gt l p)),.w (0≤(f:Int)),.n (zy (f:Int)) f,.g (zz zr (gt l p)) f (zr (gt (gt l p) f)),.w (0≤(p:Int)),.n (zy (p:Int)) p,.w (p<zq (zz zr R)),.w (p<zq (zz zr R)),.t (qk 0 (zx (zz zr R) p (zr (gt (gt l p) f)))) (qk 0 (zz zr (zx R p (gt (gt l p) f)))),.i zd ((p:Int)+1) ((↑(p+1):Int)),.a _ _] ⟨oW,nK,o_gt rfl (by assumption) (by intro h;cases h),oW,nK,o_gt rfl (by assumption) (by intro h;cases h),oW,nK,o_w (by (simp;omega)),o_w (by (simp;omega)),o_l (Aan rfl rfl),oI,o_a ih1,trivial⟩ ?_
     exact ge
    ·rw [Ae5 hlt (by unfold ghostAt;rw [if_neg (by omega)])] at ih1
     generalize ghostFill l gone en n f p=R at*
     clear hs
     refine qq ?_
     refine gg [.b (decide ((p:Int)<(n:Int))) true,.w (0≤(p:Int)),.n (zy (p:Int)) p,.g (zz encI l) p (encI (gt l p)),.n (zq (zz zr (gt l p))) (zq (gt l p)),.b (decide ((f:Int)<(↑(zq (gt l p)):Int))) true,.tt,.tt,.tt,.b ((p:Int) !=gone) false,.ff,.ff,.tt,.ff,.tt,.b (decide ((f:Int)<en)) false] ⟨tP,oW,nK,o_gt rfl (by assumption) (by intro h;cases h),o_n (by simp),tP,f_brn (by assumption),f_brp (by assumption),trivial⟩ ?_
     refine gg [.i zd ((p:Int)+1) ((↑(p+1):Int)),.a _ _] ⟨oI,o_a ih1,trivial⟩ ?_
     exact ge
   ·rw [←hs,show ghostAt l gone en f p=gt (gt l p) f by unfold ghostAt;rw [if_pos ⟨by omega,.inl h2⟩]] at ih1
    generalize ghostFill l gone en n f p=R at*
    clear hs
    refine qq ?_
    refine gg [.b (decide ((p:Int)<(n:Int))) true,.w (0≤(p:Int)),.n (zy (p:Int)) p,.g (zz encI l) p (encI (gt l p)),.n (zq (zz zr (gt l p))) (zq (gt l p)),.b (decide ((f:Int)<(↑(zq (gt l p)):Int))) true,.tt,.tt,.tt,.b ((p:Int) !=gone) true,.tt,.tt,.tt,.tt,.tt,.tt] ⟨tP,oW,nK,o_gt rfl (by assumption) (by intro h;cases h),o_n (by simp),tP,t_brn (by assumption),trivial⟩ ?_
    refine gg [.w (0≤(p:Int)),.n (zy (p:Int)) p,.g (zz encI l) p (encI (gt l p)),.w (0≤(f:Int)),.n (zy (f:Int)) f,.g (zz zr (gt l p)) f (zr (gt (gt l p) f)),.w (0≤(p:Int)),.n (zy (p:Int)) p,.w (p<zq (zz zr R)),.w (p<zq (zz zr R)),.t (qk 0 (zx (zz zr R) p (zr (gt (gt l p) f)))) (qk 0 (zz zr (zx R p (gt (gt l p) f)))),.i zd ((p:Int)+1) ((↑(p+1):Int)),.a _ _] ⟨oW,nK,o_gt rfl (by assumption) (by intro h;cases h),oW,nK,o_gt rfl (by assumption) (by intro h;cases h),oW,nK,o_w (by (simp;omega)),o_w (by (simp;omega)),o_l (Aan rfl rfl),oI,o_a ih1,trivial⟩ ?_
    exact ge
  ·rw [Ae5 hlt (by unfold ghostAt;rw [if_neg (by omega)])] at ih1
   generalize ghostFill l gone en n f p=R at*
   clear hs
   refine qq ?_
   refine gg [.b (decide ((p:Int)<(n:Int))) true,.w (0≤(p:Int)),.n (zy (p:Int)) p,.g (zz encI l) p (encI (gt l p)),.n (zq (zz zr (gt l p))) (zq (gt l p)),.b (decide ((f:Int)<(↑(zq (gt l p)):Int))) false,.ff,.ff,.ff,.ff,.ff,.ff,.i zd ((p:Int)+1) ((↑(p+1):Int)),.a _ _] ⟨tP,oW,nK,o_gt rfl (by assumption) (by intro h;cases h),o_n (by simp),fP,oI,o_a ih1,trivial⟩ ?_
   exact ge
theorem AeM (c:Config) (l:List InputL) (gone en:Int) (k n:Nat) (hc:c.players=(n:Int)) (hn:l.length=n) (h6:n≤6) (hk:k≤100): ∀(d f:Nat),f+d=k→
  Is cx (.loop 49 [0,1,0,1,1,1,1] 0 [.t (.sl 1 (l.map encI)),vi gone,vi en,.ptr 0 0 0,.ptr 1 0 0,.ptr 2 0 0,.all 3 none,vi k,vi f] [.one 5 (.t c.enc) false,.one 2 (.agg [.fit 2 [],.fit 1 []]) false,.one 5 (.t c.enc) false,.arr 1 ((ghostRows l gone en n f).map encI) none false])
   ⟨.exit 1,[.t (.sl 1 (l.map encI)),vi gone,vi en,.ptr 0 0 0,.ptr 1 0 0,.ptr 2 0 0,.all 3 none,vi k,vi k],[.one 5 (.t c.enc) false,.one 2 (.agg [.fit 2 [],.fit 1 []]) false,.one 5 (.t c.enc) false,.arr 1 ((ghostRows l gone en n k).map encI) none false]⟩:=by
 obtain rfl:n=c.players.toNat:=by omega
 intro d
 induction d with
 |zero=>
  intro f hf
  obtain rfl:f=k:=by omega
  generalize ghostRows l gone en c.players.toNat f=R at*
  refine qq ?_
  refine gg [.b (decide ((f:Int)<(f:Int))) false] ⟨fP,trivial⟩ ?_
  exact ge
 |succ d ih=>
  intro f hf
  have ih1:=ih (f+1) (by omega)
  have e:ghostRows l gone en c.players.toNat (f+1)=ghostRows l gone en c.players.toNat f++ [ghostRow l gone en c.players.toNat f]:=by unfold ghostRows;rw [List.range_succ,List.map_append];rfl
  rw [e] at ih1
  have hlen:(ghostRows l gone en c.players.toNat f).length=f:=by simp [ghostRows]
  have hI:=Ae6 c l (ghostRows l gone en c.players.toNat f) gone en k f c.players.toNat hn h6 (by omega) hlen c.players.toNat 0 (by omega)
  rw [AhP,List.map_replicate] at hI
  change Is cx (.loop _ _ _ _ [_,_,_,_,.arr 3 (zj c.players.toNat (.agg [ti 0,ti 0,.bool false])) _ _]) _ at hI
  clear ih e
  generalize ghostRows l gone en c.players.toNat f=R at*
  generalize ghostRows l gone en c.players.toNat k=S at*
  generalize ghostRow l gone en c.players.toNat f=r at*
  refine qq ?_
  refine gg [.b (decide ((f:Int)<(k:Int))) true,.w (0≤c.players∧c.players≤c.players∧room (zy c.players) (24:Nat)),.l (zy c.players),.n (zq (zj (zy c.players) (T.agg [ti 0,ti 0,T.bool false]))) (zy c.players),.a _ _,.s (qk 3 (zz zr r)),.w ((0:Nat)<(24:Nat)),.s (qk 0 [qk 3 (zz zr r)]),.t (qk 0 (zz encI R++ [qk 3 (zz zr r)])) (qk 0 (zz encI (R++ [r]))),.w (room (zq (zz encI (R++ [r]))) (24:Nat)),.i zd ((f:Int)+1) ((↑(f+1):Int)),.a _ _] ⟨tP,o_w ⟨(by omega),⟨(by omega),(by (simp [room,appendMax];omega))⟩⟩,o_n (by simp),o_a hI,oW,o_l (Aaj rfl (Aaf (e:=r) rfl Aal)),o_w (by (simp [room,appendMax];omega)),oI,o_a ih1,trivial⟩ ?_
  exact ge
theorem AkS {l:List InputL} {gone en:Int} {c:Config} {k:Nat} (hc:1≤c.players) (hi: ∀x∈l,∀i∈x,i.right=true) (hl:(l.length:Int)=c.players): ∀i∈ghostRows l gone en c.players.toNat k,(i.length:Int)=c.players∧ ∀x∈i,x.right=true:=fun i h=>by
 obtain ⟨f,_,rfl⟩:=List.mem_map.1 h
 refine ⟨by simp [ghostRow];omega,fun x hx=> ?_⟩
 obtain ⟨p,hp,rfl⟩:=List.mem_map.1 hx
 have hp:=List.mem_range.1 hp
 unfold ghostAt
 split
 ·rename_i h
  exact hi _ (Aau (by omega)) _ (Aau (by omega))
 ·rfl
theorem AcA (c:Config) (l:List InputL) (gone en:Int) (k:Nat) (hr:c.right=true) (hl:(l.length:Int)=c.players) (hk:k≤100) (hi: ∀x∈l,∀i∈x,i.right=true):
  Is cx (.call 49 [.t c.enc,.t (.sl 1 (l.map encI)),vi gone,vi en,vi k] []) ⟨.ret,[.t (worldAt c (ghostRows l gone en c.players.toNat k)).enc,vi 0],[]⟩:=by
 have hcr:=Config.right_iff.1 hr
 have hN:=Agp c
 rw [Config.grid_of hr,Config.err_of hr] at hN
 have hL:=AeM c l gone en k c.players.toNat (by omega) (by omega) (by omega) hk k 0 (by omega)
 have hR:=Akr c (ghostRows l gone en c.players.toNat k) hr (AkS (by omega) hi hl) (by simp [ghostRows];omega)
 change Is cx (.loop _ _ _ _ [_,_,_,.arr 1 [] _ _]) _ at hL
 have hlen:(ghostRows l gone en c.players.toNat k).length=k:=by simp [ghostRows]
 clear hi
 generalize worldAt c (ghostRows l gone en c.players.toNat k)=W at*
 generalize ghostRows l gone en c.players.toNat k=R at*
 refine qq ?_
 refine gg [.a _ _,.b (0 !=0) false,.n (zq (zz encI l)) (zq l),.b ((↑(zq l):Int) !=c.players) false,.ff,.ff,.b (decide ((k:Int)<0)) false,.ff,.ff,.b (decide ((k:Int)>10000)) false,.a _ _,.a _ _,.b (flats [World.enc W,ti 0]) false] ⟨o_a hN,bK,o_n (by simp),f_brn (by assumption),bK,fP,o_a hL,o_a hR,bK,trivial⟩ ?_
 exact ge
end Go.Eva.S4
namespace Go.Eva.S4
end Go.Eva.S4
namespace Go.Eva.S4
theorem An2 {c:Config} {w:World} {f:Int} (h:WFine c w f):Fn cx 36 [w.enc,w.enc] (.bool true):=by
 have hgl:= @Config.regions_le c
 have h1:=h.regs
 have h2:=h.outs
 refine AfX w (by unfold small;omega) (by unfold small;omega) (fun s hs=> ?_) (fun l hl=> ?_)
 ·obtain ⟨k,hk,rfl⟩:=List.mem_iff_getElem.1 hs
  have:=(h.sane k hk).2.2
  rw [gt_eq hk] at this
  unfold small;omega
 ·have:=Akt h l hl
  unfold small;omega
end Go.Eva.S4
namespace Go.Eva.S4
theorem Afz:Fn cx 51 [] (.bool true):=by
 have hG:=AcA ⟨1,1,1,1,0⟩ [[]] (-1) 0 2 (by decide) (by decide) (by decide) (by simp)
 have hw:=AiG (c:=⟨1,1,1,1,0⟩) (rows:=ghostRows [[]] (-1) 0 1 2) (AbD (by decide)) (by omega) (by simp [ghostRows]) (AkS (c:=⟨1,1,1,1,0⟩) (by decide) (by simp) (by decide))
 change WFine _ (worldAt ⟨1,1,1,1,0⟩ (ghostRows [[]] (-1) 0 (1:Int).toNat 2)) 2 at hw
 obtain ⟨k,hk⟩: ∃k:Nat,k=2:=⟨_,rfl⟩
 have hreg:=hw.regs
 have hl:(worldAt ⟨1,1,1,1,0⟩ (ghostRows [[]] (-1) 0 (1:Int).toNat 2)).regions.length=1:=by
  have:z0 ⟨1,1,1,1,0⟩=1:=by decide
  omega
 have hf:=(hw.sane 0 (by omega)).2.1
 clear hw hreg hk
 simp only at hG hl hf
 generalize worldAt ⟨1,1,1,1,0⟩ (ghostRows [[]] (-1) 0 (1:Int).toNat 2)=W at*
 obtain ⟨R,O⟩:=W
 simp only at hl hf hG
 match R,hl with
 | [⟨f,E⟩],_=>
  change f=2 at hf
  subst hf
  refine qq ?_
  refine gg [.a _ _,.b (0==0) true,.tt,.tt,.n (zq (zz zt [Region.mk 2 E])) 1,.tt,.tt,.b (1==1) true,.tt,.tt,.w (0≤(0:Int)),.l 0,.g [zt (Region.mk 2 E)] 0 (zt (Region.mk 2 E)),.tt,.tt,.tt] ⟨o_a hG,bK,nK,bK,oW,oG,trivial⟩ ?_
  refine gg [.tt] trivial ?_
  exact ge
end Go.Eva.S4
namespace Go.Eva
def longI (rows:List InputL) (n m:Nat):List InputL:=rows++zj m (zj n Input.zero)
theorem Ajm {rows:List InputL} {n m:Nat}:(longI rows n m).length=rows.length+m:=by simp [longI]
theorem Aot {rows:List InputL} {n m:Nat} (h: ∀i∈rows,i.length=n∧ ∀x∈i,x.right=true): ∀i∈longI rows n m,i.length=n∧ ∀x∈i,x.right=true:=by
 intro i hi
 rcases List.mem_append.1 hi with hi|hi
 ·exact h i hi
 ·rw [List.eq_of_mem_replicate hi]
  refine ⟨by simp,fun x hx=> ?_⟩
  rw [List.eq_of_mem_replicate hx]
  decide
theorem Al4 {rows:List InputL} {n k m:Nat} (hn: ∀r∈rows,r.length=n) (hk:k≤rows.length+m):ghostRows (colsI rows n) (-1) 0 n k=(longI rows n m).take k:=by
 refine Aon (by rw [Ajm];exact hk) (fun r hr=> ?_) fun f p hf hp=> ?_
 ·rcases List.mem_append.1 hr with hr|hr
  ·exact hn r hr
  ·rw [List.eq_of_mem_replicate hr];simp
 ·unfold ghostAt
  rw [AnT hp,Aoo]
  by_cases h:f<rows.length
  ·rw [if_pos ⟨by omega,.inl (by omega)⟩,AoF h]
   unfold longI
   congr 1
   unfold gt
   rw [List.getElem?_append_left h]
  ·rw [if_neg (fun q=>by omega)]
   have e:gt (longI rows n m) f=zj n Input.zero:=by
    unfold longI gt
    rw [List.getElem?_append_right (by omega),List.getElem?_replicate,if_pos (by omega)]
    rfl
   rw [e]
   simp [gt,hp]
theorem Akw {l:List Entity} {n:Nat} (hn:n≤l.length) (h: ∀i:Nat,i<l.length→((gt l i).kind=1↔i<n)):(l.countP fun e=>e.kind==1)=n:=by
 have e:l=l.take n++l.drop n:=(List.take_append_drop n l).symm
 rw [e,List.countP_append]
 have h1:(l.take n).countP (fun e=>e.kind==1)=n:=by
  rw [List.countP_eq_length.2]
  ·simp;omega
  ·intro x hx
   obtain ⟨j,hj,rfl⟩:=List.mem_iff_getElem.1 hx
   rw [List.length_take] at hj
   have:=(h j (by omega)).2 (by omega)
   rw [gt_eq (by omega)] at this
   rw [List.getElem_take]
   simpa using this
 have h2:(l.drop n).countP (fun e=>e.kind==1)=0:=by
  rw [List.countP_eq_zero]
  intro x hx
  obtain ⟨j,hj,rfl⟩:=List.mem_iff_getElem.1 hx
  rw [List.length_drop] at hj
  have:=h (n+j) (by omega)
  rw [gt_eq (by omega)] at this
  rw [List.getElem_drop]
  simp
  intro q
  have:=this.1 q
  omega
 omega
end Go.Eva
namespace Go.Eva.S4
theorem Afu (c:Config) (l rows A:List InputL) (k:Int) (p:Nat) (hp:p≤100) (hn:rows.length≤100) (hr: ∀r∈rows,p<r.length): ∀(d f:Nat) (x:InputL),f+d=rows.length→x.length≤f→
  Is cx (.loop 15 [0,1,0,1,0,0,1,0,0,1,0,1,1,1,1] 0 [.t (.sl 1 (l.map encI)),vi k,.ptr 0 0 0,.all 1 none,.all 2 none,vi p,.all 3 none,vi (f)] [.one 5 (.t c.enc) false,.arr 1 ((rows).map encI) none false,.arr 1 ((A).map encI) none false,.arr 3 ((x).map zr) none false])
   ⟨.exit 2,[.t (.sl 1 (l.map encI)),vi k,.ptr 0 0 0,.all 1 none,.all 2 none,vi p,.all 3 none,vi (rows.length)],[.one 5 (.t c.enc) false,.arr 1 ((rows).map encI) none false,.arr 1 ((A).map encI) none false,.arr 3 ((x++(rows.drop f).map fun r=>gt r p).map zr) none false]⟩:=by
 intro d
 induction d with
 |zero=>
  intro f x hf hx
  rw [Aac (by omega)]
  refine qq ?_
  refine gg [.n (zq (zz encI rows)) (zq rows),.b (decide ((f:Int)<(↑(zq rows):Int))) false] ⟨o_n (by simp),fP,trivial⟩ ?_
  refine rT (a:=qz (qx 2) [V.t (qk 1 (zz encI l)),vi k,V.ptr 0 0 0,qy 1 none,qy 2 none,vi (p:Int),qy 3 none,vi (f:Int)] [qg 5 (V.t (Config.enc c)) false,qv 1 (zz encI rows) none false,qv 1 (zz encI A) none false,qv 3 (zz zr x) none false]) ?_
  ((have:f=rows.length:=by omega);subst this;simp)
 |succ d ih=>
  intro f x hf hx
  have hlt:f<rows.length:=by omega
  have hpl:=hr _ (Aau hlt)
  have ih1:=ih (f+1) (x++ [gt (gt rows f) p]) (by omega) (by simp;omega)
  rw [Aae hlt,List.map_cons,List.append_cons]
  clear ih hr
  generalize (rows.drop (f+1)).map (fun r=>gt r p)=X at*
  refine qq ?_
  refine gg [.n (zq (zz encI rows)) (zq rows),.b (decide ((f:Int)<(↑(zq rows):Int))) true,.w (0≤(f:Int)),.n (zy (f:Int)) f,.w (f<zq (zz encI rows)),.g (zz encI rows) f (encI (gt rows f)),.w (0≤(p:Int)),.n (zy (p:Int)) p,.g (zz zr (gt rows f)) p (zr (gt (gt rows f) p)),.w ((0:Nat)<(24:Nat)),.t (qk 0 [zr (gt (gt rows f) p)]) (qk 0 (zz zr [gt (gt rows f) p])),.t (qk 0 (zz zr x++zz zr [gt (gt rows f) p])) (qk 0 (zz zr (x++ [gt (gt rows f) p]))),.w (room (zq (zz zr (x++ [gt (gt rows f) p]))) (24:Nat)),.i zd ((f:Int)+1) ((↑(f+1):Int)),.a _ _] ⟨o_n (by simp),tP,oW,nK,o_w (by (simp;omega)),o_gt rfl (by assumption) (by intro h;cases h),oW,nK,o_gt rfl (by assumption) (by intro h;cases h),oW,o_l (Aaf rfl Aal),o_l (Aaj rfl rfl),o_w (by (simp [room,appendMax];omega)),oI,o_a ih1,trivial⟩ ?_
  exact ge
theorem Af0 (c:Config) (l rows:List InputL) (k:Int) (n:Nat) (hc:c.players=(n:Int)) (h6:n≤6) (hn:rows.length≤100) (hr: ∀r∈rows,r.length=n): ∀(d p:Nat) (A:List InputL),p+d=n→A.length≤p→
  Is cx (.loop 15 [0,1,0,1,1,1,1] 0 [.t (.sl 1 (l.map encI)),vi k,.ptr 0 0 0,.all 1 none,.all 2 none,vi (p)] [.one 5 (.t c.enc) false,.arr 1 ((rows).map encI) none false,.arr 1 ((A).map encI) none false])
   ⟨.exit 0,[.t (.sl 1 (l.map encI)),vi k,.ptr 0 0 0,.all 1 none,.all 2 none,vi (n)],[.one 5 (.t c.enc) false,.arr 1 ((rows).map encI) none false,.arr 1 ((A++((List.range n).drop p).map (colI rows)).map encI) none false]⟩:=by
 intro d
 induction d with
 |zero=>
  intro p A hp hA
  rw [Aac (l:=List.range n) (by simp;omega)]
  refine qq ?_
  refine gg [.b (decide ((p:Int)<c.players)) false] ⟨fP,trivial⟩ ?_
  refine rT (a:=qz (qx 0) [V.t (qk 1 (zz encI l)),vi k,V.ptr 0 0 0,qy 1 none,qy 2 none,vi (p:Int)] [qg 5 (V.t (Config.enc c)) false,qv 1 (zz encI rows) none false,qv 1 (zz encI A) none false]) ?_
  ((have:p=n:=by omega);subst this;simp)
 |succ d ih=>
  intro p A hp hA
  have hlt:p<n:=by omega
  have hI:=Afu c l rows A k p (by omega) hn (fun r hr'=>by rw [hr r hr'];exact hlt) rows.length 0 [] (by omega) (by simp)
  rw [List.drop_zero,List.nil_append] at hI
  change Is cx _ ⟨_,_,[_,_,_,.arr 3 ((colI rows p).map zr) _ _]⟩ at hI
  have ih1:=ih (p+1) (A++ [colI rows p]) (by omega) (by simp;omega)
  have e2:(List.range n).drop p=p::(List.range n).drop (p+1):=by
   have:=Aae (l:=List.range n) (i:=p) (by simpa using hlt)
   rw [this]
   congr 1
   simp [gt,hlt]
  rw [e2,List.map_cons,List.append_cons]
  clear ih hr e2
  generalize ((List.range n).drop (p+1)).map (colI rows)=X1 at*
  generalize colI rows p=x1 at*
  refine qq ?_
  refine gg [.b (decide ((p:Int)<c.players)) true,.a _ _,.s (qk 3 (zz zr x1)),.w ((0:Nat)<(24:Nat)),.s (qk 0 [qk 3 (zz zr x1)]),.t (qk 0 (zz encI A++ [qk 3 (zz zr x1)])) (qk 0 (zz encI (A++ [x1]))),.w (room (zq (zz encI (A++ [x1]))) (24:Nat)),.i zd ((p:Int)+1) ((↑(p+1):Int)),.a _ _] ⟨tP,o_a hI,oW,o_l (Aaj rfl (Aaf (e:=x1) rfl Aal)),o_w (by (simp [room,appendMax];omega)),oI,o_a ih1,trivial⟩ ?_
  exact ge
theorem Agd (c:Config) (w:World) (fr n:Nat) (hc:c.players=(n:Int)) (h6:n≤6) (hf:fr≤100): ∀(d:Nat) (F:List InputL),(F.length+d=fr∨(d=0∧fr≤F.length∧F.length≤100))→
  Is cx (.loop 15 [0,0,1,1,1,1,1,1,1,1] 0 [vi fr,.ptr 0 0 0,.ptr 1 0 0,vi 0,.all 2 none] [.one 5 (.t c.enc) false,.one 2 (.t w.enc) false,.arr 1 ((F).map encI) none false])
   ⟨.exit 4,[vi fr,.ptr 0 0 0,.ptr 1 0 0,vi 0,.all 2 none],[.one 5 (.t c.enc) false,.one 2 (.t w.enc) false,.arr 1 ((longI F n d).map encI) none false]⟩:=by
 intro d
 induction d with
 |zero=>
  intro F hF
  have:longI F n 0=F:=by simp [longI]
  rw [this]
  have h1:fr≤F.length:=by omega
  have h2:F.length≤100:=by omega
  refine qq ?_
  refine gg [.n (zq (zz encI F)) (zq F),.b (decide ((↑(zq F):Int)<(fr:Int))) false] ⟨o_n (by simp),fP,trivial⟩ ?_
  exact ge
 |succ d ih=>
  intro F hF
  have h1:F.length<fr:=by omega
  have ih1:=ih (F++ [zj n Input.zero]) (by simp;omega)
  have e:longI (F++ [zj n Input.zero]) n d=longI F n (d+1):=by
   unfold longI
   rw [List.append_assoc,List.replicate_succ]
   rfl
  rw [e] at ih1
  generalize longI F n (d+1)=X at*
  have e2:encI (zj n Input.zero)= .sl 3 (zj c.players.toNat (zr Input.zero)):=by
   rw [hc,Int.toNat_natCast]
   unfold encI
   rw [List.map_replicate]
  rw [List.map_append,List.map_cons,List.map_nil,e2] at ih1
  clear ih e e2
  refine qq ?_
  refine gg [.n (zq (zz encI F)) (zq F),.b (decide ((↑(zq F):Int)<(fr:Int))) true,.w (0≤c.players∧c.players≤c.players∧room (zy c.players) (24:Nat)),.l (zy c.players),.s (qk 3 (zj (zy c.players) (T.agg [ti 0,ti 0,T.bool false]))),.w ((0:Nat)<(24:Nat)),.s (qk 0 [qk 3 (zj (zy c.players) (T.agg [ti 0,ti 0,T.bool false]))]),.s (qk 0 (zz encI F++ [qk 3 (zj (zy c.players) (T.agg [ti 0,ti 0,T.bool false]))])),.w (room (zq (zz encI F++ [qk (3:Nat) (zj (zy c.players) (T.agg [ti (0:Int),ti (0:Int),T.bool false]))])) (24:Nat)),.a _ _] ⟨o_n (by simp),tP,o_w ⟨(by omega),⟨(by omega),(by (simp [room,appendMax];omega))⟩⟩,oW,o_w (by (simp [room,appendMax];omega)),o_a ih1,trivial⟩ ?_
  exact ge
theorem AeU (c:Config) (w:World) (Y:List Entity) (hY:Y.length≤100000): ∀(d i n:Nat),i+d=Y.length→n≤i→
  Is cx (.loop 15 [0,1,0,1,1,1,1,1,1,1,1,1,1,1,1] 0 [.ptr 0 0 0,.ptr 1 0 0,vi 0,.ptr 2 0 0,vi 0,.t (.sl 9 (Y.map zm)),vi (n:Nat),vi (i)] [.one 5 (.t c.enc) false,.one 2 (.t w.enc) false,.one 2 (.t w.enc) false])
   ⟨.exit 6,[.ptr 0 0 0,.ptr 1 0 0,vi 0,.ptr 2 0 0,vi 0,.t (.sl 9 (Y.map zm)),vi (n+(Y.drop i).countP fun e=>e.kind==1:Nat),vi (Y.length)],[.one 5 (.t c.enc) false,.one 2 (.t w.enc) false,.one 2 (.t w.enc) false]⟩:=by
 intro d
 induction d with
 |zero=>
  intro i n hi hm
  rw [Aac (by omega)]
  refine qq ?_
  refine gg [.n (zq (zz zm Y)) (zq Y),.b (decide ((i:Int)<(↑(zq Y):Int))) false] ⟨o_n (by simp),fP,trivial⟩ ?_
  refine rT (a:=qz (qx 6) [V.ptr 0 0 0,V.ptr 1 0 0,vi 0,V.ptr 2 0 0,vi 0,V.t (qk 9 (zz zm Y)),vi (n:Int),vi (i:Int)] [qg 5 (V.t (Config.enc c)) false,qg 2 (V.t (World.enc w)) false,qg 2 (V.t (World.enc w)) false]) ?_
  ((have hq:i=Y.length:=by omega);subst hq;rfl)
 |succ d ih=>
  intro i n hi hm
  have hlt:i<Y.length:=by omega
  have ih1:=ih (i+1) n (by omega) (by omega)
  have ih2:=ih (i+1) (n+1) (by omega) (by omega)
  clear ih
  rw [Ac8 _ hlt]
  by_cases h:(gt Y i).kind=1
  ·simp only [h,beq_self_eq_true,if_true,←Nat.add_assoc]
   generalize (Y.drop (i+1)).countP (fun e=>e.kind==1)=z at*
   clear ih1
   refine qq ?_
   refine gg [.n (zq (zz zm Y)) (zq Y),.b (decide ((i:Int)<(↑(zq Y):Int))) true,.w (0≤(i:Int)),.n (zy (i:Int)) i,.g (zz zm Y) i (zm (gt Y i)),.b ((gt Y i).kind==1) true,.i zd ((n:Int)+1) ((↑(n+1):Int)),.i zd ((i:Int)+1) ((↑(i+1):Int)),.a _ _] ⟨o_n (by simp),tP,oW,nK,o_gt rfl (by assumption) (by intro h;cases h),t_bre (by assumption),oI,oI,o_a ih2,trivial⟩ ?_
   exact ge
  ·have h2:((gt Y i).kind==1)=false:=by simpa using h
   simp only [h2,Bool.false_eq_true,if_false,Nat.zero_add]
   generalize (Y.drop (i+1)).countP (fun e=>e.kind==1)=z at*
   clear ih2
   refine qq ?_
   refine gg [.n (zq (zz zm Y)) (zq Y),.b (decide ((i:Int)<(↑(zq Y):Int))) true,.w (0≤(i:Int)),.n (zy (i:Int)) i,.g (zz zm Y) i (zm (gt Y i)),.b ((gt Y i).kind==1) false,.i zd ((i:Int)+1) ((↑(i+1):Int)),.a _ _] ⟨o_n (by simp),tP,oW,nK,o_gt rfl (by assumption) (by intro h;cases h),f_bre (by assumption),oI,o_a ih1,trivial⟩ ?_
   exact ge
theorem AfI (c g:Config) (l rows cols full:List InputL) (k:Int) (fr n:Nat) (w:World) (Y:List Entity) (ha:Fn cx 51 [] (.bool true)) (hC:Fn cx 16 [c.enc] g.enc) (hc:g.players=(n:Int)) (h6:1≤n∧n≤6)
  (hF:Is cx (.call 22 [.t g.enc,.t (.sl 1 (l.map encI)),vi 15] []) ⟨.ret,[.all 0 none],[.arr 1 (rows.map encI) none false]⟩) (hn:rows.length≤15)
  (hk:(IntKind.u64.wrap k).tmod 20=(fr:Int)) (hfl:fr<20) (hfull:fr≤full.length) (hfull2:full.length≤100)
  (hL:Is cx (.loop 15 [0,1,0,1,1,1,1] 0 [.t (.sl 1 (l.map encI)),vi k,.ptr 0 0 0,.all 1 none,.all 2 none,vi ((0:Nat))] [.one 5 (.t g.enc) false,.arr 1 ((rows).map encI) none false,.arr 1 ((([]:List InputL)).map encI) none false])
   ⟨.exit 0,[.t (.sl 1 (l.map encI)),vi k,.ptr 0 0 0,.all 1 none,.all 2 none,vi (n)],[.one 5 (.t g.enc) false,.arr 1 ((rows).map encI) none false,.arr 1 ((cols).map encI) none false]⟩)
  (q1:Is cx (.call 49 [.t g.enc,.t (.sl 1 (cols.map encI)),vi (-1),vi 0,vi fr] []) ⟨.ret,[.t w.enc,vi 0],[]⟩)
  (hM:Is cx (.loop 15 [0,0,1,1,1,1,1,1,1,1] 0 [vi fr,.ptr 0 0 0,.ptr 1 0 0,vi 0,.all 2 none] [.one 5 (.t g.enc) false,.one 2 (.t w.enc) false,.arr 1 ((rows).map encI) none false])
   ⟨.exit 4,[vi fr,.ptr 0 0 0,.ptr 1 0 0,vi 0,.all 2 none],[.one 5 (.t g.enc) false,.one 2 (.t w.enc) false,.arr 1 ((full).map encI) none false]⟩)
  (q5:Is cx (.call 44 [.t g.enc,.t (.sl 1 ((full.take fr).map encI))] []) ⟨.ret,[.t w.enc,vi 0],[]⟩)
  (hA:Fn cx 47 [w.enc] (.sl 9 (Y.map zm)))
  (hN:Is cx (.loop 15 [0,1,0,1,1,1,1,1,1,1,1,1,1,1,1] 0 [.ptr 0 0 0,.ptr 1 0 0,vi 0,.ptr 2 0 0,vi 0,.t (.sl 9 (Y.map zm)),vi ((0:Nat)),vi ((0:Nat))] [.one 5 (.t g.enc) false,.one 2 (.t w.enc) false,.one 2 (.t w.enc) false])
   ⟨.exit 6,[.ptr 0 0 0,.ptr 1 0 0,vi 0,.ptr 2 0 0,vi 0,.t (.sl 9 (Y.map zm)),vi (n),vi (Y.length)],[.one 5 (.t g.enc) false,.one 2 (.t w.enc) false,.one 2 (.t w.enc) false]⟩)
  (s1:Fn cx 36 [w.enc,w.enc] (.bool true)):
  Fn cx 15 [c.enc,.sl 1 (l.map encI),ti k] (.bool true):=by
 have hm3:=Abb (n:=k) (k:=20) (by decide)
 refine qq ?_
 refine gg [.a _ _,.a _ _,.a _ _,.i zf k (zp zf k),.w ((20:Int)≠(0:Int)),.t (T.int zf (zg (zp zf k) 20)) (T.int zf (fr:Int)),.i zd (fr:Int) (fr:Int),.a _ _,.b (flats [World.enc w,ti 0]) false,.a _ _,.a _ _,.w (0≤(fr:Int)),.n (zy (fr:Int)) fr,.w ((0:Nat)≤fr∧fr≤zq (zz encI full)),.l 0,.n (fr-0) fr] ⟨o_a hC,o_a hF,o_a hL,o_i rfl,o_w (by intro h;cases h),o_t (by rw [hk]),oI,o_a q1,bK,o_a hF,o_a hM,oW,nK,o_w ⟨(by omega),(by (simp;omega))⟩,nK,trivial⟩ ?_
 refine bO ?_ ?_
 all_goals
  refine gg [.t (qk 1 (zw fr (zk 0 (zz encI full)))) (qk 1 (zz encI (zw fr full))),.a _ _,.b (flats [World.enc w,ti 0]) false,.a _ _,.a _ _,.a _ _,.tt,.tt,.tt,.b (0==0) true,.tt,.tt,.b (0==0) true,.tt,.tt,.a _ _] ⟨o_l (nm_eq (AaG (Abg rfl)) (by kernel_rfl)),o_a q5,bK,o_a hA,o_a hN,o_a ha,bK,bK,o_a s1,trivial⟩ ?_
  refine gg [.tt,.tt,.tt,.tt,.tt,.tt] trivial ?_
  refine rT (a:=qz qj [vb ((n:Int)==g.players)] []) ?_
  (first|rfl|simp [hc])
theorem AcV (c:Config) (l:List InputL) (k:Int) (hl:long l) (hr: ∀x∈l,long x):Fn cx 15 [c.enc,.sl 1 (l.map encI),ti k] (.bool true):=by
 have ha:=Afz
 obtain ⟨hrt,h1,h2,h3,h4⟩:= @Config.play_ok c
 have hC:=AeT c
 generalize c.play=g at*
 obtain ⟨n,hc⟩: ∃n:Nat,g.players=n:=⟨g.players.toNat,by omega⟩
 have hF:=Af2 g l 15 n hc (by omega) hl (by decide) hr
 have hro:= @AiV n l 15
 have hrl:= @AhS n l 15
 generalize playFrames n l 15=rows at*
 have hm3:=Abb (n:=k) (k:=20) (by decide)
 obtain ⟨fr,hk⟩: ∃t:Nat,(IntKind.u64.wrap k).tmod 20=t:=⟨((IntKind.u64.wrap k).tmod 20).toNat,by omega⟩
 have hnn:g.players.toNat=n:=by omega
 have hL:=Af0 g l rows k n hc (by omega) (by omega) (fun r hr=>(hro r hr).1) n 0 [] (by omega) (by simp)
 rw [List.drop_zero,List.nil_append] at hL
 have q1:=AcA g (colsI rows n) (-1) 0 fr hrt (by simp [colsI,hc]) (by omega) (AlS hro)
 rw [hnn,Al4 (m:=fr-rows.length) (fun r hr=>(hro r hr).1) (by omega)] at q1
 have hok: ∀i∈longI rows n (fr-rows.length),(i.length:Int)=g.players∧ ∀x∈i,x.right=true:=fun i hi=>by
  obtain ⟨a,b⟩:=Aot hro i hi
  exact ⟨by omega,b⟩
 have hlen:= @Ajm rows n (fr-rows.length)
 have q5:=Ag6 g ((longI rows n (fr-rows.length)).take fr) hrt (fun i hi=>hok i (List.mem_of_mem_take hi)) (by simp;omega)
 have hM:=Agd g (worldAt g ((longI rows n (fr-rows.length)).take fr)) fr n hc (by omega) (by omega) (fr-rows.length) rows (by omega)
 have hw:=AiG (rows:=(longI rows n (fr-rows.length)).take fr) (AbD hrt) (by omega) (by simp;omega) (fun i hi=>hok i (List.mem_of_mem_take hi))
 have ho:=Al2 (rows:=(longI rows n (fr-rows.length)).take fr) (AbD hrt) (AlP hrt (by omega) (by omega) (by omega)) (by omega) (by simp;omega) (fun i hi=>hok i (List.mem_of_mem_take hi))
 change WFine g (worldAt g ((longI rows n (fr-rows.length)).take fr)) _ at hw
 change Once g (worldAt g ((longI rows n (fr-rows.length)).take fr)) _ at ho
 obtain ⟨a1,a2,a3⟩:=Aof hw ho
 have hgl:= @Config.regions_le g
 have hreg:=hw.regs
 have hout:=hw.outs
 have hs1:=An2 hw
 generalize worldAt g ((longI rows n (fr-rows.length)).take fr)=w at*
 have hE:(entsAll w.regions).length≤16*31:=by
  unfold entsAll
  have:=AiS (g:=Region.ents) (n:=31) (l:=w.regions) fun s hs=>by
   obtain ⟨j,hj,rfl⟩:=List.mem_iff_getElem.1 hs
   have:=(hw.sane j hj).2.2
   rw [gt_eq hj] at this
   exact this
  have h2:w.regions.length*31≤16*31:=Nat.mul_le_mul_right _ (by omega)
  exact Nat.le_trans this h2
 have hOl:=Akt hw
 have hH:(handedAll w.outs).length≤16*400:=by
  unfold handedAll
  have:=AiS (g:=handed) (n:=400) (l:=w.outs) fun s hs=>by
   unfold handed
   rw [List.length_map]
   exact Nat.le_trans (List.length_filter_le ..) (hOl s hs)
  have h2:w.outs.length*400≤16*400:=Nat.mul_le_mul_right _ (by omega)
  exact Nat.le_trans this h2
 have hA:=AgD w (by omega) (by omega) (by omega) (fun s hs=>Nat.le_trans (hOl s hs) (by omega))
 have hYl:(allL w).length≤16*31+16*400:=by
  unfold allL
  rw [(AcO (lt:=z8)).length_eq,List.length_append]
  omega
 have hcnt:=Akw (l:=allL w) (n:=n) (by omega) fun i hi=>by
  have:=(a3 i hi).1
  omega
 have hN:=AeU g w (allL w) (by omega) (allL w).length 0 0 (by omega) (by omega)
 rw [List.drop_zero,hcnt,Nat.zero_add] at hN
 exact AfI c g l rows (colsI rows n) (longI rows n (fr-rows.length)) k fr n w (allL w) ha hC hc (by omega) hF (by omega) hk (by omega) (by omega) (by omega) hL q1 hM q5 hA hN hs1
end Go.Eva.S4
namespace Go.Eva.S4
open Go.Proofs
theorem cxTy:CxTy Tryz.prog cx:=AoN (by decide+kernel) (by decide+kernel) (⟨⟨Tryz.f179,by kernel_rfl,by decide+kernel,by kernel_rfl,by kernel_rfl,by kernel_rfl,by kernel_rfl,48,by kernel_rfl⟩,trivial⟩)
theorem ok15:FnOK Tryz.prog cx 15 fi15 Tryz.f15:=mkOk
theorem ok16:FnOK Tryz.prog cx 16 fi16 Tryz.f16:=mkOk
theorem ok17:FnOK Tryz.prog cx 17 fi17 Tryz.f17:=mkOk
theorem ok19:FnOK Tryz.prog cx 19 fi19 Tryz.f19:=mkOk
theorem ok22:FnOK Tryz.prog cx 22 fi22 Tryz.f22:=mkOk
theorem ok23:FnOK Tryz.prog cx 23 fi23 Tryz.f23:=mkOk
theorem ok24:FnOK Tryz.prog cx 24 fi24 Tryz.f24:=mkOk
theorem ok25:FnOK Tryz.prog cx 25 fi25 Tryz.f25:=mkOk
theorem ok26:FnOK Tryz.prog cx 26 fi26 Tryz.f26:=mkOk
theorem ok27:FnOK Tryz.prog cx 27 fi27 Tryz.f27:=mkOk
theorem ok28:FnOK Tryz.prog cx 28 fi28 Tryz.f28:=mkOk
theorem ok29:FnOK Tryz.prog cx 29 fi29 Tryz.f29:=mkOk
theorem ok30:FnOK Tryz.prog cx 30 fi30 Tryz.f30:=mkOk
theorem ok34:FnOK Tryz.prog cx 34 fi34 Tryz.f34:=mkOk
theorem ok35:FnOK Tryz.prog cx 35 fi35 Tryz.f35:=mkOk
theorem ok36:FnOK Tryz.prog cx 36 fi36 Tryz.f36:=mkOk
theorem ok37:FnOK Tryz.prog cx 37 fi37 Tryz.f37:=mkOk
theorem ok38:FnOK Tryz.prog cx 38 fi38 Tryz.f38:=mkOk
theorem ok39:FnOK Tryz.prog cx 39 fi39 Tryz.f39:=mkOk
theorem ok40:FnOK Tryz.prog cx 40 fi40 Tryz.f40:=mkOk
theorem ok41:FnOK Tryz.prog cx 41 fi41 Tryz.f41:=mkOk
theorem ok42:FnOK Tryz.prog cx 42 fi42 Tryz.f42:=mkOk
theorem ok43:FnOK Tryz.prog cx 43 fi43 Tryz.f43:=mkOk
theorem ok44:FnOK Tryz.prog cx 44 fi44 Tryz.f44:=mkOk
theorem ok45:FnOK Tryz.prog cx 45 fi45 Tryz.f45:=mkOk
theorem ok47:FnOK Tryz.prog cx 47 fi47 Tryz.f47:=mkOk
theorem ok48:FnOK Tryz.prog cx 48 fi48 Tryz.f48:=mkOk
theorem ok49:FnOK Tryz.prog cx 49 fi49 Tryz.f49:=mkOk
theorem ok51:FnOK Tryz.prog cx 51 fi51 Tryz.f51:=mkOk
theorem ok52:FnOK Tryz.prog cx 52 fi52 Tryz.f52:=mkOk
theorem ok53:FnOK Tryz.prog cx 53 fi53 Tryz.f53:=mkOk
theorem ok54:FnOK Tryz.prog cx 54 fi54 Tryz.f54:=mkOk
theorem ok55:FnOK Tryz.prog cx 55 fi55 Tryz.f55:=mkOk
theorem ok56:FnOK Tryz.prog cx 56 fi56 Tryz.f56:=mkOk
theorem ok57:FnOK Tryz.prog cx 57 fi57 Tryz.f57:=mkOk
theorem ok58:FnOK Tryz.prog cx 58 fi58 Tryz.f58:=mkOk
theorem ok59:FnOK Tryz.prog cx 59 fi59 Tryz.f59:=mkOk
theorem ok60:FnOK Tryz.prog cx 60 fi60 Tryz.f60:=mkOk
theorem ok61:FnOK Tryz.prog cx 61 fi61 Tryz.f61:=mkOk
theorem ok62:FnOK Tryz.prog cx 62 fi62 Tryz.f62:=mkOk
theorem ok63:FnOK Tryz.prog cx 63 fi63 Tryz.f63:=mkOk
theorem ok64:FnOK Tryz.prog cx 64 fi64 Tryz.f64:=mkOk
theorem ok65:FnOK Tryz.prog cx 65 fi65 Tryz.f65:=mkOk
theorem ok66:FnOK Tryz.prog cx 66 fi66 Tryz.f66:=mkOk
theorem ok67:FnOK Tryz.prog cx 67 fi67 Tryz.f67:=mkOk
theorem ok68:FnOK Tryz.prog cx 68 fi68 Tryz.f68:=mkOk
theorem ok69:FnOK Tryz.prog cx 69 fi69 Tryz.f69:=mkOk
theorem ok70:FnOK Tryz.prog cx 70 fi70 Tryz.f70:=mkOk
theorem ok71:FnOK Tryz.prog cx 71 fi71 Tryz.f71:=mkOk
theorem ok72:FnOK Tryz.prog cx 72 fi72 Tryz.f72:=mkOk
theorem ok73:FnOK Tryz.prog cx 73 fi73 Tryz.f73:=mkOk
theorem ok74:FnOK Tryz.prog cx 74 fi74 Tryz.f74:=mkOk
theorem ok75:FnOK Tryz.prog cx 75 fi75 Tryz.f75:=mkOk
theorem ok76:FnOK Tryz.prog cx 76 fi76 Tryz.f76:=mkOk
theorem ok77:FnOK Tryz.prog cx 77 fi77 Tryz.f77:=mkOk
theorem ok78:FnOK Tryz.prog cx 78 fi78 Tryz.f78:=mkOk
theorem ok79:FnOK Tryz.prog cx 79 fi79 Tryz.f79:=mkOk
theorem ok80:FnOK Tryz.prog cx 80 fi80 Tryz.f80:=mkOk
theorem ok81:FnOK Tryz.prog cx 81 fi81 Tryz.f81:=mkOk
theorem ok82:FnOK Tryz.prog cx 82 fi82 Tryz.f82:=mkOk
theorem ok83:FnOK Tryz.prog cx 83 fi83 Tryz.f83:=mkOk
theorem ok84:FnOK Tryz.prog cx 84 fi84 Tryz.f84:=mkOk
theorem ok85:FnOK Tryz.prog cx 85 fi85 Tryz.f85:=mkOk
theorem ok86:FnOK Tryz.prog cx 86 fi86 Tryz.f86:=mkOk
theorem ok89:FnOK Tryz.prog cx 89 fi89 Tryz.f89:=mkOk
theorem ok90:FnOK Tryz.prog cx 90 fi90 Tryz.f90:=mkOk
theorem ok91:FnOK Tryz.prog cx 91 fi91 Tryz.f91:=mkOk
theorem ok92:FnOK Tryz.prog cx 92 fi92 Tryz.f92:=mkOk
theorem ok93:FnOK Tryz.prog cx 93 fi93 Tryz.f93:=mkOk
theorem ok94:FnOK Tryz.prog cx 94 fi94 Tryz.f94:=mkOk
theorem ok95:FnOK Tryz.prog cx 95 fi95 Tryz.f95:=mkOk
theorem ok96:FnOK Tryz.prog cx 96 fi96 Tryz.f96:=mkOk
theorem ok97:FnOK Tryz.prog cx 97 fi97 Tryz.f97:=mkOk
theorem ok98:FnOK Tryz.prog cx 98 fi98 Tryz.f98:=mkOk
theorem ok99:FnOK Tryz.prog cx 99 fi99 Tryz.f99:=mkOk
theorem ok100:FnOK Tryz.prog cx 100 fi100 Tryz.f100:=mkOk
theorem ok101:FnOK Tryz.prog cx 101 fi101 Tryz.f101:=mkOk
theorem ok102:FnOK Tryz.prog cx 102 fi102 Tryz.f102:=mkOk
theorem ok103:FnOK Tryz.prog cx 103 fi103 Tryz.f103:=mkOk
theorem ok104:FnOK Tryz.prog cx 104 fi104 Tryz.f104:=mkOk
theorem ok105:FnOK Tryz.prog cx 105 fi105 Tryz.f105:=mkOk
theorem ok106:FnOK Tryz.prog cx 106 fi106 Tryz.f106:=mkOk
theorem ok107:FnOK Tryz.prog cx 107 fi107 Tryz.f107:=mkOk
theorem ok108:FnOK Tryz.prog cx 108 fi108 Tryz.f108:=mkOk
theorem ok109:FnOK Tryz.prog cx 109 fi109 Tryz.f109:=mkOk
theorem ok110:FnOK Tryz.prog cx 110 fi110 Tryz.f110:=mkOk
theorem ok111:FnOK Tryz.prog cx 111 fi111 Tryz.f111:=mkOk
theorem ok112:FnOK Tryz.prog cx 112 fi112 Tryz.f112:=mkOk
theorem ok113:FnOK Tryz.prog cx 113 fi113 Tryz.f113:=mkOk
theorem ok114:FnOK Tryz.prog cx 114 fi114 Tryz.f114:=mkOk
theorem ok115:FnOK Tryz.prog cx 115 fi115 Tryz.f115:=mkOk
theorem ok116:FnOK Tryz.prog cx 116 fi116 Tryz.f116:=mkOk
theorem ok117:FnOK Tryz.prog cx 117 fi117 Tryz.f117:=mkOk
theorem ok118:FnOK Tryz.prog cx 118 fi118 Tryz.f118:=mkOk
theorem ok119:FnOK Tryz.prog cx 119 fi119 Tryz.f119:=mkOk
theorem ok120:FnOK Tryz.prog cx 120 fi120 Tryz.f120:=mkOk
theorem ok121:FnOK Tryz.prog cx 121 fi121 Tryz.f121:=mkOk
theorem ok122:FnOK Tryz.prog cx 122 fi122 Tryz.f122:=mkOk
theorem ok123:FnOK Tryz.prog cx 123 fi123 Tryz.f123:=mkOk
theorem ok124:FnOK Tryz.prog cx 124 fi124 Tryz.f124:=mkOk
theorem ok125:FnOK Tryz.prog cx 125 fi125 Tryz.f125:=mkOk
theorem ok126:FnOK Tryz.prog cx 126 fi126 Tryz.f126:=mkOk
theorem ok127:FnOK Tryz.prog cx 127 fi127 Tryz.f127:=mkOk
theorem ok128:FnOK Tryz.prog cx 128 fi128 Tryz.f128:=mkOk
theorem ok129:FnOK Tryz.prog cx 129 fi129 Tryz.f129:=mkOk
theorem ok130:FnOK Tryz.prog cx 130 fi130 Tryz.f130:=mkOk
theorem ok131:FnOK Tryz.prog cx 131 fi131 Tryz.f131:=mkOk
theorem ok132:FnOK Tryz.prog cx 132 fi132 Tryz.f132:=mkOk
theorem ok133:FnOK Tryz.prog cx 133 fi133 Tryz.f133:=mkOk
theorem ok134:FnOK Tryz.prog cx 134 fi134 Tryz.f134:=mkOk
theorem ok135:FnOK Tryz.prog cx 135 fi135 Tryz.f135:=mkOk
theorem ok136:FnOK Tryz.prog cx 136 fi136 Tryz.f136:=mkOk
theorem ok137:FnOK Tryz.prog cx 137 fi137 Tryz.f137:=mkOk
theorem ok138:FnOK Tryz.prog cx 138 fi138 Tryz.f138:=mkOk
theorem ok139:FnOK Tryz.prog cx 139 fi139 Tryz.f139:=mkOk
theorem ok140:FnOK Tryz.prog cx 140 fi140 Tryz.f140:=mkOk
theorem ok141:FnOK Tryz.prog cx 141 fi141 Tryz.f141:=mkOk
theorem ok142:FnOK Tryz.prog cx 142 fi142 Tryz.f142:=mkOk
theorem ok143:FnOK Tryz.prog cx 143 fi143 Tryz.f143:=mkOk
theorem ok144:FnOK Tryz.prog cx 144 fi144 Tryz.f144:=mkOk
theorem ok145:FnOK Tryz.prog cx 145 fi145 Tryz.f145:=mkOk
theorem ok146:FnOK Tryz.prog cx 146 fi146 Tryz.f146:=mkOk
theorem ok147:FnOK Tryz.prog cx 147 fi147 Tryz.f147:=mkOk
theorem ok148:FnOK Tryz.prog cx 148 fi148 Tryz.f148:=mkOk
theorem ok149:FnOK Tryz.prog cx 149 fi149 Tryz.f149:=mkOk
theorem ok150:FnOK Tryz.prog cx 150 fi150 Tryz.f150:=mkOk
theorem ok151:FnOK Tryz.prog cx 151 fi151 Tryz.f151:=mkOk
theorem ok152:FnOK Tryz.prog cx 152 fi152 Tryz.f152:=mkOk
theorem ok154:FnOK Tryz.prog cx 154 fi154 Tryz.f154:=mkOk
theorem ok155:FnOK Tryz.prog cx 155 fi155 Tryz.f155:=mkOk
theorem ok156:FnOK Tryz.prog cx 156 fi156 Tryz.f156:=mkOk
theorem ok157:FnOK Tryz.prog cx 157 fi157 Tryz.f157:=mkOk
theorem ok158:FnOK Tryz.prog cx 158 fi158 Tryz.f158:=mkOk
theorem ok159:FnOK Tryz.prog cx 159 fi159 Tryz.f159:=mkOk
theorem ok160:FnOK Tryz.prog cx 160 fi160 Tryz.f160:=mkOk
theorem ok161:FnOK Tryz.prog cx 161 fi161 Tryz.f161:=mkOk
theorem ok162:FnOK Tryz.prog cx 162 fi162 Tryz.f162:=mkOk
theorem ok163:FnOK Tryz.prog cx 163 fi163 Tryz.f163:=mkOk
theorem ok164:FnOK Tryz.prog cx 164 fi164 Tryz.f164:=mkOk
theorem ok165:FnOK Tryz.prog cx 165 fi165 Tryz.f165:=mkOk
theorem ok166:FnOK Tryz.prog cx 166 fi166 Tryz.f166:=mkOk
theorem ok167:FnOK Tryz.prog cx 167 fi167 Tryz.f167:=mkOk
theorem ok168:FnOK Tryz.prog cx 168 fi168 Tryz.f168:=mkOk
theorem ok169:FnOK Tryz.prog cx 169 fi169 Tryz.f169:=mkOk
theorem ok170:FnOK Tryz.prog cx 170 fi170 Tryz.f170:=mkOk
theorem ok171:FnOK Tryz.prog cx 171 fi171 Tryz.f171:=mkOk
theorem ok172:FnOK Tryz.prog cx 172 fi172 Tryz.f172:=mkOk
theorem ok173:FnOK Tryz.prog cx 173 fi173 Tryz.f173:=mkOk
theorem ok174:FnOK Tryz.prog cx 174 fi174 Tryz.f174:=mkOk
theorem ok175:FnOK Tryz.prog cx 175 fi175 Tryz.f175:=mkOk
theorem ok176:FnOK Tryz.prog cx 176 fi176 Tryz.f176:=mkOk
theorem ok177:FnOK Tryz.prog cx 177 fi177 Tryz.f177:=mkOk
theorem ok178:FnOK Tryz.prog cx 178 fi178 Tryz.f178:=mkOk
theorem ok180:FnOK Tryz.prog cx 180 fi180 Tryz.f180:=mkOk
theorem ok183:FnOK Tryz.prog cx 183 fi183 Tryz.f183:=mkOk
theorem ok184:FnOK Tryz.prog cx 184 fi184 Tryz.f184:=mkOk
theorem ok185:FnOK Tryz.prog cx 185 fi185 Tryz.f185:=mkOk
theorem ok186:FnOK Tryz.prog cx 186 fi186 Tryz.f186:=mkOk
theorem ok187:FnOK Tryz.prog cx 187 fi187 Tryz.f187:=mkOk
theorem ok188:FnOK Tryz.prog cx 188 fi188 Tryz.f188:=mkOk
theorem ok189:FnOK Tryz.prog cx 189 fi189 Tryz.f189:=mkOk
theorem ok190:FnOK Tryz.prog cx 190 fi190 Tryz.f190:=mkOk
theorem ok191:FnOK Tryz.prog cx 191 fi191 Tryz.f191:=mkOk
theorem ok192:FnOK Tryz.prog cx 192 fi192 Tryz.f192:=mkOk
theorem ok194:FnOK Tryz.prog cx 194 fi194 Tryz.f194:=mkOk
theorem ok195:FnOK Tryz.prog cx 195 fi195 Tryz.f195:=mkOk
theorem ok197:FnOK Tryz.prog cx 197 fi197 Tryz.f197:=mkOk
theorem fnsOK:FnsOK Tryz.prog cx:=AnC (⟨Aag _,⟨Aag _,⟨Aag _,⟨Aag _,⟨Aab ok15,⟨Aag _,⟨Aab ok63,⟨Aab ok127,trivial,trivial⟩,⟨Aab ok191,trivial,trivial⟩⟩,⟨Aab ok95,⟨Aab ok159,trivial,trivial⟩,trivial⟩⟩,⟨Aab ok47,⟨Aab ok79,⟨Aab ok143,trivial,trivial⟩,⟨Aag _,trivial,trivial⟩⟩,⟨Aab ok111,⟨Aab ok175,trivial,trivial⟩,trivial⟩⟩⟩,⟨Aab ok23,⟨Aab ok39,⟨Aab ok71,⟨Aab ok135,trivial,trivial⟩,⟨Aag _,trivial,trivial⟩⟩,⟨Aab ok103,⟨Aab ok167,trivial,trivial⟩,trivial⟩⟩,⟨Aab ok55,⟨Aag _,⟨Aab ok151,trivial,trivial⟩,trivial⟩,⟨Aab ok119,⟨Aab ok183,trivial,trivial⟩,trivial⟩⟩⟩⟩,⟨Aag _,⟨Aab ok19,⟨Aab ok35,⟨Aab ok67,⟨Aab ok131,trivial,trivial⟩,⟨Aab ok195,trivial,trivial⟩⟩,⟨Aab ok99,⟨Aab ok163,trivial,trivial⟩,trivial⟩⟩,⟨Aab ok51,⟨Aab ok83,⟨Aab ok147,trivial,trivial⟩,⟨Aag _,trivial,trivial⟩⟩,⟨Aab ok115,⟨Aag _,trivial,trivial⟩,trivial⟩⟩⟩,⟨Aab ok27,⟨Aab ok43,⟨Aab ok75,⟨Aab ok139,trivial,trivial⟩,⟨Aag _,trivial,trivial⟩⟩,⟨Aab ok107,⟨Aab ok171,trivial,trivial⟩,trivial⟩⟩,⟨Aab ok59,⟨Aab ok91,⟨Aab ok155,trivial,trivial⟩,trivial⟩,⟨Aab ok123,⟨Aab ok187,trivial,trivial⟩,trivial⟩⟩⟩⟩⟩,⟨Aag _,⟨Aag _,⟨Aab ok17,⟨Aag _,⟨Aab ok65,⟨Aab ok129,trivial,trivial⟩,⟨Aag _,trivial,trivial⟩⟩,⟨Aab ok97,⟨Aab ok161,trivial,trivial⟩,trivial⟩⟩,⟨Aab ok49,⟨Aab ok81,⟨Aab ok145,trivial,trivial⟩,⟨Aag _,trivial,trivial⟩⟩,⟨Aab ok113,⟨Aab ok177,trivial,trivial⟩,trivial⟩⟩⟩,⟨Aab ok25,⟨Aab ok41,⟨Aab ok73,⟨Aab ok137,trivial,trivial⟩,⟨Aag _,trivial,trivial⟩⟩,⟨Aab ok105,⟨Aab ok169,trivial,trivial⟩,trivial⟩⟩,⟨Aab ok57,⟨Aab ok89,⟨Aag _,trivial,trivial⟩,trivial⟩,⟨Aab ok121,⟨Aab ok185,trivial,trivial⟩,trivial⟩⟩⟩⟩,⟨Aag _,⟨Aag _,⟨Aab ok37,⟨Aab ok69,⟨Aab ok133,trivial,trivial⟩,⟨Aab ok197,trivial,trivial⟩⟩,⟨Aab ok101,⟨Aab ok165,trivial,trivial⟩,trivial⟩⟩,⟨Aab ok53,⟨Aab ok85,⟨Aab ok149,trivial,trivial⟩,⟨Aag _,trivial,trivial⟩⟩,⟨Aab ok117,⟨Aag _,trivial,trivial⟩,trivial⟩⟩⟩,⟨Aab ok29,⟨Aab ok45,⟨Aab ok77,⟨Aab ok141,trivial,trivial⟩,⟨Aag _,trivial,trivial⟩⟩,⟨Aab ok109,⟨Aab ok173,trivial,trivial⟩,trivial⟩⟩,⟨Aab ok61,⟨Aab ok93,⟨Aab ok157,trivial,trivial⟩,trivial⟩,⟨Aab ok125,⟨Aab ok189,trivial,trivial⟩,trivial⟩⟩⟩⟩⟩⟩,⟨Aag _,⟨Aag _,⟨Aag _,⟨Aab ok16,⟨Aag _,⟨Aab ok64,⟨Aab ok128,trivial,trivial⟩,⟨Aab ok192,trivial,trivial⟩⟩,⟨Aab ok96,⟨Aab ok160,trivial,trivial⟩,trivial⟩⟩,⟨Aab ok48,⟨Aab ok80,⟨Aab ok144,trivial,trivial⟩,⟨Aag _,trivial,trivial⟩⟩,⟨Aab ok112,⟨Aab ok176,trivial,trivial⟩,trivial⟩⟩⟩,⟨Aab ok24,⟨Aab ok40,⟨Aab ok72,⟨Aab ok136,trivial,trivial⟩,⟨Aag _,trivial,trivial⟩⟩,⟨Aab ok104,⟨Aab ok168,trivial,trivial⟩,trivial⟩⟩,⟨Aab ok56,⟨Aag _,⟨Aab ok152,trivial,trivial⟩,trivial⟩,⟨Aab ok120,⟨Aab ok184,trivial,trivial⟩,trivial⟩⟩⟩⟩,⟨Aag _,⟨Aag _,⟨Aab ok36,⟨Aab ok68,⟨Aab ok132,trivial,trivial⟩,⟨Aag _,trivial,trivial⟩⟩,⟨Aab ok100,⟨Aab ok164,trivial,trivial⟩,trivial⟩⟩,⟨Aab ok52,⟨Aab ok84,⟨Aab ok148,trivial,trivial⟩,⟨Aag _,trivial,trivial⟩⟩,⟨Aab ok116,⟨Aab ok180,trivial,trivial⟩,trivial⟩⟩⟩,⟨Aab ok28,⟨Aab ok44,⟨Aab ok76,⟨Aab ok140,trivial,trivial⟩,⟨Aag _,trivial,trivial⟩⟩,⟨Aab ok108,⟨Aab ok172,trivial,trivial⟩,trivial⟩⟩,⟨Aab ok60,⟨Aab ok92,⟨Aab ok156,trivial,trivial⟩,trivial⟩,⟨Aab ok124,⟨Aab ok188,trivial,trivial⟩,trivial⟩⟩⟩⟩⟩,⟨Aag _,⟨Aag _,⟨Aag _,⟨Aab ok34,⟨Aab ok66,⟨Aab ok130,trivial,trivial⟩,⟨Aab ok194,trivial,trivial⟩⟩,⟨Aab ok98,⟨Aab ok162,trivial,trivial⟩,trivial⟩⟩,⟨Aag _,⟨Aab ok82,⟨Aab ok146,trivial,trivial⟩,⟨Aag _,trivial,trivial⟩⟩,⟨Aab ok114,⟨Aab ok178,trivial,trivial⟩,trivial⟩⟩⟩,⟨Aab ok26,⟨Aab ok42,⟨Aab ok74,⟨Aab ok138,trivial,trivial⟩,⟨Aag _,trivial,trivial⟩⟩,⟨Aab ok106,⟨Aab ok170,trivial,trivial⟩,trivial⟩⟩,⟨Aab ok58,⟨Aab ok90,⟨Aab ok154,trivial,trivial⟩,trivial⟩,⟨Aab ok122,⟨Aab ok186,trivial,trivial⟩,trivial⟩⟩⟩⟩,⟨Aag _,⟨Aab ok22,⟨Aab ok38,⟨Aab ok70,⟨Aab ok134,trivial,trivial⟩,⟨Aag _,trivial,trivial⟩⟩,⟨Aab ok102,⟨Aab ok166,trivial,trivial⟩,trivial⟩⟩,⟨Aab ok54,⟨Aab ok86,⟨Aab ok150,trivial,trivial⟩,trivial⟩,⟨Aab ok118,⟨Aag _,trivial,trivial⟩,trivial⟩⟩⟩,⟨Aab ok30,⟨Aag _,⟨Aab ok78,⟨Aab ok142,trivial,trivial⟩,⟨Aag _,trivial,trivial⟩⟩,⟨Aab ok110,⟨Aab ok174,trivial,trivial⟩,trivial⟩⟩,⟨Aab ok62,⟨Aab ok94,⟨Aab ok158,trivial,trivial⟩,trivial⟩,⟨Aab ok126,⟨Aab ok190,trivial,trivial⟩,trivial⟩⟩⟩⟩⟩⟩⟩)
end Go.Eva.S4
namespace Go.Eva
section
variable {cx:Cx} {t m:Nat} {ts:List T} {i:TI}
theorem Ala (hti:cx.ti.get t=some i) (hk:i.ty= .int .i64) (h:Conf cx m t ts): ∃n,ts= [ti n]∧i64 n:=by
 cases m with
 |zero=>exact h.elim
 |succ m=>
  simp only [Conf,hti,hk] at h
  obtain ⟨n,rfl,hw⟩:=h
  refine ⟨n,rfl,?_⟩
  simp [Lit.wf,IntKind.min,IntKind.max,IntKind.signed,IntKind.bits] at hw
  exact ⟨by omega,by omega⟩
theorem Aox (hti:cx.ti.get t=some i) (hk:i.ty= .int .u64) (h:Conf cx m t ts): ∃n,ts= [.int .u64 n]∧0≤n∧n≤18446744073709551615:=by
 cases m with
 |zero=>exact h.elim
 |succ m=>
  simp only [Conf,hti,hk] at h
  obtain ⟨n,rfl,hw⟩:=h
  refine ⟨n,rfl,?_⟩
  simp [Lit.wf,IntKind.min,IntKind.max,IntKind.signed,IntKind.bits] at hw
  exact ⟨by omega,by omega⟩
theorem Anb (hti:cx.ti.get t=some i) (hk:i.ty= .bool) (h:Conf cx m t ts): ∃b,ts= [.bool b]:=by
 cases m with
 |zero=>exact h.elim
 |succ m=>simpa only [Conf,hti,hk] using h
theorem Ahd {fs:List (Nat×Nat)} (hti:cx.ti.get t=some i) (hk:i.ty= .struct fs) (h:Conf cx (m+1) t ts):ts.length=i.size∧ ∀p∈fs,Conf cx m p.2 ((ts.drop p.1).take (sizeOf cx p.2)):=by
 simpa only [Conf,hti,hk] using h
theorem AlU {e:Nat} (hti:cx.ti.get t=some i) (hk:i.ty= .slice e) (h:Conf cx (m+1) t ts):
  ∃xs,ts= [.sl (sizeOf cx e) xs]∧xs.length≤maxLen∧xs.length*bytesOf cx e≤reachBytes∧ ∀x∈xs,x≠ .any∧(isStruct cx e=true→ ∃l,x= .agg l)∧(isStruct cx e=false→x.cells= [x])∧Conf cx m e x.cells:=by
 simpa only [Conf,hti,hk] using h
theorem AfT {j k:Nat} {fs:List (Nat×Nat)} (hi:cx.ti.get k=some i) (hk:i.ty= .int .i64) (hs:sizeOf cx k=1) (h: ∀p∈fs,Conf cx m p.2 ((ts.drop p.1).take (sizeOf cx p.2))) (hp:(j,k)∈fs): ∃n,ts[j]?=some (ti n)∧i64 n:=by
 have:=h _ hp
 simp only [hs] at this
 obtain ⟨n,h1,h2⟩:=Ala hi hk this
 refine ⟨n,?_,h2⟩
 have h3:=congrArg (fun l=>l[0]?) h1
 simpa [List.getElem?_take,List.getElem?_drop] using h3
theorem Anz {α:Type} {f:α→T} {P:α→Prop}: ∀ {xs:List T},(∀x∈xs,∃e,x=f e∧P e)→ ∃l:List α,xs=l.map f∧ ∀e∈l,P e
 | [],_=>⟨[],rfl,by simp⟩
 |x::xs,h=>by
  obtain ⟨e,rfl,he⟩:=h x (List.mem_cons_self ..)
  obtain ⟨l,rfl,hl⟩:=Anz fun y hy=>h y (List.mem_cons_of_mem _ hy)
  exact ⟨e::l,rfl,fun y hy=>by
   rcases List.mem_cons.1 hy with rfl|hy
   ·exact he
   ·exact hl y hy⟩
def Entity.ok (e:Entity):Prop:=i64 e.id∧i64 e.kind∧i64 e.x∧i64 e.y∧i64 e.vx∧i64 e.vy∧i64 e.health∧i64 e.age∧i64 e.owner
def Input.ok (e:Input):Prop:=i64 e.dx∧i64 e.dy
def Cross.ok (c:Cross):Prop:=i64 c.kind∧i64 c.frm∧i64 c.to∧i64 c.frame∧c.ent.ok∧i64 c.x∧i64 c.y
theorem Akk {k u:Nat} {j v:TI} (hk:cx.ti.get k=some j) (hkt:j.ty= .int .i64) (hs:sizeOf cx k=1) (hu:cx.ti.get u=some v) (hut:v.ty= .int .u64) (hus:sizeOf cx u=1) (hti:cx.ti.get t=some i)
  (hty:i.ty= .struct [(0,k),(1,k),(2,k),(3,k),(4,u)]) (hsz:i.size=5) (h:Conf cx (m+1) t ts): ∃c:Config,ts=c.enc.cells∧c.ok:=by
 obtain ⟨h1,h2⟩:=Ahd hti hty h
 rw [hsz] at h1
 obtain ⟨n0,a0,b0⟩:=AfT (j:=0) hk hkt hs h2 (by simp)
 obtain ⟨n1,a1,b1⟩:=AfT (j:=1) hk hkt hs h2 (by simp)
 obtain ⟨n2,a2,b2⟩:=AfT (j:=2) hk hkt hs h2 (by simp)
 obtain ⟨n3,a3,b3⟩:=AfT (j:=3) hk hkt hs h2 (by simp)
 have h4:=h2 (4,u) (by simp)
 simp only [hus] at h4
 obtain ⟨n4,a4,b4⟩:=Aox hu hut h4
 refine ⟨⟨n0,n1,n2,n3,n4⟩,?_,b0,b1,b2,b3,b4⟩
 match ts,h1 with
 | [_,_,_,_,_],_=>simp_all [Config.enc,T.cells]
theorem AlK {k u:Nat} {j v:TI} (hk:cx.ti.get k=some j) (hkt:j.ty= .int .i64) (hs:sizeOf cx k=1) (hu:cx.ti.get u=some v) (hut:v.ty= .bool) (hus:sizeOf cx u=1) (hti:cx.ti.get t=some i)
  (hty:i.ty= .struct [(0,k),(1,k),(2,u)]) (hsz:i.size=3) (h:Conf cx (m+1) t ts): ∃c:Input,ts=c.enc.cells∧c.ok:=by
 obtain ⟨h1,h2⟩:=Ahd hti hty h
 rw [hsz] at h1
 obtain ⟨n0,a0,b0⟩:=AfT (j:=0) hk hkt hs h2 (by simp)
 obtain ⟨n1,a1,b1⟩:=AfT (j:=1) hk hkt hs h2 (by simp)
 have h4:=h2 (2,u) (by simp)
 simp only [hus] at h4
 obtain ⟨n2,a2⟩:=Anb hu hut h4
 refine ⟨⟨n0,n1,n2⟩,?_,b0,b1⟩
 match ts,h1 with
 | [_,_,_],_=>simp_all [zr,T.cells]
theorem Aiw (hti:cx.ti.get t=some i) (h: ∀fs,i.ty≠ .struct fs):isStruct cx t=false:=by
 unfold isStruct
 rw [hti]
 cases i with
 |mk ty s b q=>cases ty<;>simp_all
theorem AmJ {fs:List (Nat×Nat)} (hti:cx.ti.get t=some i) (h:i.ty= .struct fs):isStruct cx t=true:=by
 unfold isStruct
 rw [hti]
 cases i with
 |mk ty s b q=>simp only at h;subst h;rfl
theorem Apb (hti:cx.ti.get t=some i) (hk:i.ty= .int .i64) {x:T} (h:Arg cx m t x): ∃n,x=ti n∧i64 n:=by
 obtain ⟨h1,h2,h3,h4⟩:=h
 obtain ⟨n,h5,h6⟩:=Ala hti hk h4
 rw [h3 (Aiw hti (by rw [hk];simp))] at h5
 exact ⟨n,by simpa using h5,h6⟩
theorem AoC {α:Type} {f:α→T} {P:α→Prop} {fs:List (Nat×Nat)} (hti:cx.ti.get t=some i) (hk:i.ty= .struct fs) (hf: ∀e,∃l,f e= .agg l) (hc: ∀ {ts},Conf cx m t ts→ ∃e,ts=(f e).cells∧P e) {x:T} (h:Arg cx m t x): ∃e,x=f e∧P e:=by
 obtain ⟨h1,h2,h3,h4⟩:=h
 obtain ⟨l,rfl⟩:=h2 (AmJ hti hk)
 obtain ⟨e,h5,h6⟩:=hc h4
 obtain ⟨l',hl⟩:=hf e
 rw [hl] at h5
 simp only [T.cells] at h5
 exact ⟨e,by rw [hl,h5],h6⟩
theorem Aj1 {α:Type} {f:α→T} {P:α→Prop} {e s:Nat} (hti:cx.ti.get t=some i) (hk:i.ty= .slice e) (hs:sizeOf cx e=s) (hc: ∀ {x},Arg cx m e x→ ∃a,x=f a∧P a) {x:T} (h:Arg cx (m+1) t x):
  ∃l:List α,x= .sl s (l.map f)∧(∀a∈l,P a)∧l.length≤maxLen∧l.length*bytesOf cx e≤reachBytes:=by
 obtain ⟨h1,h2,h3,h4⟩:=h
 obtain ⟨xs,h5,h6,h7,h8⟩:=AlU hti hk h4
 rw [h3 (Aiw hti (by rw [hk];simp))] at h5
 obtain ⟨l,rfl,hl⟩:=Anz (f:=f) (P:=P) fun x hx=>hc (h8 x hx)
 refine ⟨l,?_,hl,by simpa using h6,by simpa using h7⟩
 rw [←hs]
 simpa using h5
end
end Go.Eva