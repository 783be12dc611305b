/- A reading of the program, proved sound against the model, and what its functions answer by it: part 4. -/
import Derived.Test.YtdlmgaiiheeigaaGreatEva3
set_option linter.unusedSimpArgs false
set_option linter.unusedVariables false
open List renaming length → zq, map → zz, replicate → zj, set → zx, take → zw, drop → zk
open Int renaming toNat → zy, tmod → zg, fdiv → zh
open Go.IntKind renaming i64 → zd, u64 → zf, wrap → zp
open BitVec renaming ofInt → zb
open Go.Eva.Entity renaming enc → zm, less → z8, right → z9, mk → qw
open Go.Eva.Cross renaming enc → zn, less → z7
open Go.Eva.Input renaming enc → zr
open Go.Eva.Region renaming enc → zt
open Go.Eva.Config renaming regions → z0, near → z6
open Go.Eva.Wp renaming ev → qq
open Go.Eva.Res renaming mk → qz
open Go.Eva.Ex renaming ret → qj, exit → qx
open Go.Eva.Ob renaming arr → qv, one → qg
open Go.Eva.T renaming sl → qk
open Go.Eva.V renaming all → qy
namespace Go.Eva.S4
theorem Acp (inbox:List Cross) (hb:inbox.length≤100000): ∀(d i:Nat) (A:List Entity),i+d=inbox.length→A.length≤100000+i→
  Is cx (.loop 132 [0,1,0,1,1] 0 [.t (.sl 15 (inbox.map zn)),.all 0 none,vi i] [.arr 9 (A.map zm) none false])
   ⟨.exit 0,[.t (.sl 15 (inbox.map zn)),.all 0 none,vi inbox.length],[.arr 9 ((arriveL A (inbox.drop i)).map zm) none false]⟩:=by
 intro d
 induction d with
 |zero=>
  intro i A hi hA
  rw [Aac (by omega)]
  refine qq ?_
  refine gg [.n (zq (zz zn inbox)) (zq inbox),.b (decide ((i:Int)<(↑(zq inbox):Int))) false] ⟨o_n (by simp),fP,trivial⟩ ?_
  refine rT (a:=qz (qx 0) [V.t (qk 15 (zz zn inbox)),qy 0 none,vi (i:Int)] [qv 9 (zz zm A) none false]) ?_
  ((have:i=inbox.length:=by omega);subst this;rfl)
 |succ d ih=>
  intro i A hi hA
  have hlt:i<inbox.length:=by omega
  have hT:=AaM A (by unfold small;omega)
  have hpl:=(@Abb A (gt inbox i).ent).2
  have ih0:=ih (i+1) A (by omega) (by omega)
  have ih1:=ih (i+1) (put1 A (gt inbox i).ent) (by omega) (by omega)
  have e:arriveL A (inbox.drop i)=arriveL (arrive1 A (gt inbox i)) (inbox.drop (i+1)):=by rw [Aaf hlt];rfl
  rw [e]
  clear ih e
  by_cases h1:(gt inbox i).kind=1
  ·by_cases h2:(gt inbox i).ent.kind=1
   ·rw [show arrive1 A (gt inbox i)=put1 A (gt inbox i).ent by unfold arrive1;rw [if_pos ⟨h1,.inl h2⟩]]
    generalize arriveL (put1 A (gt inbox i).ent) (inbox.drop (i+1))=Z at*
    clear ih0
    have hP:=Aa8 A (gt inbox i).ent (by unfold small;omega)
    generalize put1 A (gt inbox i).ent=B at*
    refine qq ?_
    refine gg [.n (zq (zz zn inbox)) (zq inbox),.b (decide ((i:Int)<(↑(zq inbox):Int))) true,.w (0≤(i:Int)),.n (zy (i:Int)) i,.g (zz zn inbox) i (zn (gt inbox i)),.w (0≤(i:Int)),.n (zy (i:Int)) i,.g (zz zn inbox) i (zn (gt inbox i)),.b ((gt inbox i).kind !=1) false,.ff,.ff,.ff,.b ((gt inbox i).ent.kind !=1) false,.ff,.ff,.ff] ⟨o_n (by simp),tP,oW,nK,o_gt rfl (by assumption) (by intro h;cases h),oW,nK,o_gt rfl (by assumption) (by intro h;cases h),f_brn (by assumption),f_brn (by assumption),trivial⟩ ?_
    refine gg [.ff,.ff,.ff,.a _ _,.i zd ((i:Int)+1) ((↑(i+1):Int)),.a _ _] ⟨o_a hP,oI,o_a ih1,trivial⟩ ?_
    exact ge
   ·by_cases h3:things A<24
    ·rw [show arrive1 A (gt inbox i)=put1 A (gt inbox i).ent by unfold arrive1;rw [if_pos ⟨h1,.inr h3⟩]]
     generalize arriveL (put1 A (gt inbox i).ent) (inbox.drop (i+1))=Z at*
     clear ih0
     have hP:=Aa8 A (gt inbox i).ent (by unfold small;omega)
     generalize put1 A (gt inbox i).ent=B at*
     refine qq ?_
     refine gg [.n (zq (zz zn inbox)) (zq inbox),.b (decide ((i:Int)<(↑(zq inbox):Int))) true,.w (0≤(i:Int)),.n (zy (i:Int)) i,.g (zz zn inbox) i (zn (gt inbox i)),.w (0≤(i:Int)),.n (zy (i:Int)) i,.g (zz zn inbox) i (zn (gt inbox i)),.b ((gt inbox i).kind !=1) false,.ff,.ff,.ff,.b ((gt inbox i).ent.kind !=1) true,.tt,.a _ _,.b (flats [ti (things A)]) true] ⟨o_n (by simp),tP,oW,nK,o_gt rfl (by assumption) (by intro h;cases h),oW,nK,o_gt rfl (by assumption) (by intro h;cases h),f_brn (by assumption),t_brn (by assumption),o_a hT,bK,trivial⟩ ?_
     refine gg [.tt,.ff,.tt,.ff,.b (decide (things A≥24)) false,.a _ _,.i zd ((i:Int)+1) ((↑(i+1):Int)),.a _ _] ⟨fP,o_a hP,oI,o_a ih1,trivial⟩ ?_
     exact ge
    ·rw [show arrive1 A (gt inbox i)=A by unfold arrive1;rw [if_neg (fun q=>q.2.elim h2 h3)]]
     clear ih1
     refine qq ?_
     refine gg [.n (zq (zz zn inbox)) (zq inbox),.b (decide ((i:Int)<(↑(zq inbox):Int))) true,.w (0≤(i:Int)),.n (zy (i:Int)) i,.g (zz zn inbox) i (zn (gt inbox i)),.w (0≤(i:Int)),.n (zy (i:Int)) i,.g (zz zn inbox) i (zn (gt inbox i)),.b ((gt inbox i).kind !=1) false,.ff,.ff,.ff,.b ((gt inbox i).ent.kind !=1) true,.tt,.a _ _,.b (flats [ti (things A)]) true] ⟨o_n (by simp),tP,oW,nK,o_gt rfl (by assumption) (by intro h;cases h),oW,nK,o_gt rfl (by assumption) (by intro h;cases h),f_brn (by assumption),t_brn (by assumption),o_a hT,bK,trivial⟩ ?_
     refine gg [.tt,.ff,.tt,.ff,.b (decide (things A≥24)) true,.i zd ((i:Int)+1) ((↑(i+1):Int)),.a _ _] ⟨tP,oI,o_a ih0,trivial⟩ ?_
     exact ge
  ·rw [show arrive1 A (gt inbox i)=A by unfold arrive1;rw [if_neg (fun q=>h1 q.1)]]
   clear ih1
   refine qq ?_
   refine gg [.n (zq (zz zn inbox)) (zq inbox),.b (decide ((i:Int)<(↑(zq inbox):Int))) true,.w (0≤(i:Int)),.n (zy (i:Int)) i,.g (zz zn inbox) i (zn (gt inbox i)),.w (0≤(i:Int)),.n (zy (i:Int)) i,.g (zz zn inbox) i (zn (gt inbox i)),.b ((gt inbox i).kind !=1) true,.tt,.tt,.tt,.tt,.tt,.tt,.i zd ((i:Int)+1) ((↑(i+1):Int))] ⟨o_n (by simp),tP,oW,nK,o_gt rfl (by assumption) (by intro h;cases h),oW,nK,o_gt rfl (by assumption) (by intro h;cases h),t_brn (by assumption),oI,trivial⟩ ?_
   refine gg [.a _ _] ⟨o_a ih0,trivial⟩ ?_
   exact ge
theorem AbP (s:Region) (inbox:List Cross) (hn:s.ents.length≤100000) (hb:inbox.length≤100000):
  Is cx (.call 132 [.t s.enc,.t (.sl 15 (inbox.map zn))] []) ⟨.ret,[.all 0 none],[.arr 9 ((arriveL s.ents inbox).map zm) none false]⟩:=by
 have h:=Acp inbox hb inbox.length 0 s.ents (by omega) (by omega)
 rw [List.drop_zero] at h
 generalize arriveL s.ents inbox=Z at*
 obtain ⟨f,l⟩:=s
 simp only at hn h⊢
 refine qq ?_
 refine gg [.w ((0:Nat)<(72:Nat)),.s (qk 0 (zz zm l)),.s (qk 0 (zz zm l)),.w (room (zq (zz zm l)) (72:Nat)),.a _ _] ⟨oW,o_w (by (simp [room,appendMax];omega)),o_a h,trivial⟩ ?_
 exact ge
end Go.Eva.S4
namespace Go.Eva.S4
theorem Ace (l:List Entity) (hn:small l): ∀(d i:Nat) (A:List Int),i+d=l.length→A.length≤i→
  Is cx (.loop 133 [0,1,0,1,1,1] 0 [.all 0 none,.all 1 none,vi i] [.arr 9 (l.map zm) none false,.arr 1 (A.map ti) none false])
   ⟨.exit 0,[.all 0 none,.all 1 none,vi l.length],[.arr 9 (l.map zm) none false,.arr 1 ((A++plI (l.drop i)).map ti) none false]⟩:=by
 unfold small at hn
 intro d
 induction d with
 |zero=>
  intro i A hi hA
  rw [Aac (by omega)]
  refine qq ?_
  refine gg [.n (zq (zz zm l)) (zq l),.b (decide ((i:Int)<(↑(zq l):Int))) false] ⟨o_n (by simp),fP,trivial⟩ ?_
  refine rT (a:=qz (qx 0) [qy 0 none,qy 1 none,vi (i:Int)] [qv 9 (zz zm l) none false,qv 1 (zz ti A) none false]) ?_
  ((have hq:i=l.length:=by omega);subst hq;simp [plI])
 |succ d ih=>
  intro i A hi hA
  have hlt:i<l.length:=by omega
  have ih0:=ih (i+1) A (by omega) (by omega)
  have ih1:=ih (i+1) (A++ [(gt l i).id]) (by omega) (by simp;omega)
  rw [Aaf hlt]
  have e:plI (gt l i::l.drop (i+1))=if (gt l i).kind=1 then (gt l i).id::plI (l.drop (i+1)) else plI (l.drop (i+1)):=by
   unfold plI
   rw [List.filter_cons]
   by_cases h:(gt l i).kind=1<;>simp [h]
  rw [e]
  clear ih e
  by_cases h:(gt l i).kind=1
  ·rw [if_pos h]
   rw [List.append_assoc,List.singleton_append] at ih1
   generalize plI (l.drop (i+1))=X at*
   refine qq ?_
   refine gg [.n (zq (zz zm l)) (zq l),.b (decide ((i:Int)<(↑(zq l):Int))) true,.w (0≤(i:Int)),.n (zy (i:Int)) i,.w (i<zq (zz zm l)),.g (zz zm l) i (zm (gt l i)),.b ((gt l i).kind==1) true,.w (0≤(i:Int)),.n (zy (i:Int)) i,.w (i<zq (zz zm l)),.g (zz zm l) i (zm (gt l i)),.w ((0:Nat)<(8:Nat)),.t (qk 0 [ti (gt l i).id]) (qk 0 (zz (T.int zd) [(gt l i).id])),.t (qk 0 (zz ti A++zz (T.int zd) [(gt l i).id])) (qk 0 (zz ti (A++ [(gt l i).id]))),.w (room (zq (zz ti (A++ [(gt l i).id]))) (8:Nat)),.i zd ((i:Int)+1) ((↑(i+1):Int))] ⟨o_n (by simp),tP,oW,nK,o_w (by (simp;omega)),o_gt rfl (by assumption) (by intro h;cases h),t_bre (by assumption),oW,nK,o_w (by (simp;omega)),o_gt rfl (by assumption) (by intro h;cases h),oW,o_l (Aae rfl Aah),o_l (Aag rfl rfl),o_w (by (simp [room,appendMax];omega)),oI,trivial⟩ ?_
   refine gg [.a _ _] ⟨o_a ih1,trivial⟩ ?_
   exact ge
  ·rw [if_neg h]
   generalize plI (l.drop (i+1))=X at*
   refine qq ?_
   refine gg [.n (zq (zz zm l)) (zq l),.b (decide ((i:Int)<(↑(zq l):Int))) true,.w (0≤(i:Int)),.n (zy (i:Int)) i,.w (i<zq (zz zm l)),.g (zz zm l) i (zm (gt l i)),.b ((gt l i).kind==1) false,.i zd ((i:Int)+1) ((↑(i+1):Int)),.a _ _] ⟨o_n (by simp),tP,oW,nK,o_w (by (simp;omega)),o_gt rfl (by assumption) (by intro h;cases h),f_bre (by assumption),oI,o_a ih0,trivial⟩ ?_
   exact ge
theorem AdW (s:Region) (inbox:List Cross) (hn:s.ents.length≤100000) (hb:inbox.length≤100000) (hl:(arriveL s.ents inbox).length≤300000):
  Fn cx 133 [s.enc,.sl 15 (inbox.map zn)] (.sl 1 ((presentL s.ents inbox).map ti)):=by
 have hA:=AbP s inbox hn hb
 have h:=Ace (arriveL s.ents inbox) (by unfold small;omega) (arriveL s.ents inbox).length 0 [] (by omega) (by simp)
 rw [List.drop_zero,List.nil_append] at h
 change Is cx _ ⟨_,_,[_,.arr 1 ((presentL s.ents inbox).map ti) _ _]⟩ at h
 generalize presentL s.ents inbox=P at*
 generalize arriveL s.ents inbox=Z at*
 obtain ⟨f,l⟩:=s
 simp only at hn hA⊢
 refine qq ?_
 refine gg [.a _ _,.a _ _] ⟨o_a hA,o_a h,trivial⟩ ?_
 exact ge
end Go.Eva.S4
namespace Go.Eva.S4
theorem Acz (l:List Entity) (hn:small l): ∀(d i:Nat) (A:List Int),i+d=l.length→A.length≤i→
  Is cx (.loop 142 [0,1,0,1,1] 1 [.all 0 none,.all 1 none,vi i] [.arr 9 (l.map zm) none false,.arr 1 (A.map ti) none false])
   ⟨.exit 0,[.all 0 none,.all 1 none,vi l.length],[.arr 9 (l.map zm) none false,.arr 1 ((A++fallenL (l.drop i)).map ti) none false]⟩:=by
 unfold small at hn
 intro d
 induction d with
 |zero=>
  intro i A hi hA
  rw [Aac (by omega)]
  refine qq ?_
  refine gg [.n (zq (zz zm l)) (zq l),.b (decide ((i:Int)<(↑(zq l):Int))) false] ⟨o_n (by simp),fP,trivial⟩ ?_
  refine rT (a:=qz (qx 0) [qy 0 none,qy 1 none,vi (i:Int)] [qv 9 (zz zm l) none false,qv 1 (zz ti A) none false]) ?_
  ((have hq:i=l.length:=by omega);subst hq;simp [fallenL])
 |succ d ih=>
  intro i A hi hA
  have hlt:i<l.length:=by omega
  have ih0:=ih (i+1) A (by omega) (by omega)
  have ih1:=ih (i+1) (A++ [(gt l i).id]) (by omega) (by simp;omega)
  rw [Aaf hlt]
  have e:fallenL (gt l i::l.drop (i+1))=if (gt l i).kind=1∧(gt l i).health≤0 then (gt l i).id::fallenL (l.drop (i+1)) else fallenL (l.drop (i+1)):=by
   unfold fallenL fallenP
   rw [List.filter_cons]
   by_cases h:(gt l i).kind=1<;>by_cases h2:(gt l i).health≤0<;>simp [h,h2]
  rw [e]
  clear ih e
  generalize fallenL (l.drop (i+1))=X at*
  rw [List.append_assoc,List.singleton_append] at ih1
  by_cases h:(gt l i).kind=1
  ·by_cases h2:(gt l i).health≤0
   ·rw [if_pos ⟨h,h2⟩]
    refine qq ?_
    refine gg [.n (zq (zz zm l)) (zq l),.b (decide ((i:Int)<(↑(zq l):Int))) true,.w (0≤(i:Int)),.n (zy (i:Int)) i,.w (i<zq (zz zm l)),.g (zz zm l) i (zm (gt l i)),.b ((gt l i).kind==1) true,.tt,.tt,.w (0≤(i:Int)),.n (zy (i:Int)) i,.w (i<zq (zz zm l)),.tt,.tt,.g (zz zm l) i (zm (gt l i)),.tt] ⟨o_n (by simp),tP,oW,nK,o_w (by (simp;omega)),o_gt rfl (by assumption) (by intro h;cases h),t_bre (by assumption),oW,nK,o_w (by (simp;omega)),o_gt rfl (by assumption) (by intro h;cases h),trivial⟩ ?_
    refine gg [.tt,.b (decide ((gt l i).health≤0)) true,.w (0≤(i:Int)),.n (zy (i:Int)) i,.w (i<zq (zz zm l)),.g (zz zm l) i (zm (gt l i)),.w ((0:Nat)<(8:Nat)),.t (qk 0 [ti (gt l i).id]) (qk 0 (zz (T.int zd) [(gt l i).id])),.t (qk 0 (zz ti A++zz (T.int zd) [(gt l i).id])) (qk 0 (zz ti (A++ [(gt l i).id]))),.w (room (zq (zz ti (A++ [(gt l i).id]))) (8:Nat)),.i zd ((i:Int)+1) ((↑(i+1):Int)),.a _ _] ⟨t_brp (by assumption),oW,nK,o_w (by (simp;omega)),o_gt rfl (by assumption) (by intro h;cases h),oW,o_l (Aae rfl Aah),o_l (Aag rfl rfl),o_w (by (simp [room,appendMax];omega)),oI,o_a ih1,trivial⟩ ?_
    exact ge
   ·rw [if_neg (fun q=>h2 q.2)]
    refine qq ?_
    refine gg [.n (zq (zz zm l)) (zq l),.b (decide ((i:Int)<(↑(zq l):Int))) true,.w (0≤(i:Int)),.n (zy (i:Int)) i,.w (i<zq (zz zm l)),.g (zz zm l) i (zm (gt l i)),.b ((gt l i).kind==1) true,.tt,.tt,.w (0≤(i:Int)),.n (zy (i:Int)) i,.w (i<zq (zz zm l)),.tt,.tt,.g (zz zm l) i (zm (gt l i)),.tt] ⟨o_n (by simp),tP,oW,nK,o_w (by (simp;omega)),o_gt rfl (by assumption) (by intro h;cases h),t_bre (by assumption),oW,nK,o_w (by (simp;omega)),o_gt rfl (by assumption) (by intro h;cases h),trivial⟩ ?_
    refine gg [.tt,.b (decide ((gt l i).health≤0)) false,.i zd ((i:Int)+1) ((↑(i+1):Int)),.a _ _] ⟨f_brp (by assumption),oI,o_a ih0,trivial⟩ ?_
    exact ge
  ·rw [if_neg (fun q=>h q.1)]
   refine qq ?_
   refine gg [.n (zq (zz zm l)) (zq l),.b (decide ((i:Int)<(↑(zq l):Int))) true,.w (0≤(i:Int)),.n (zy (i:Int)) i,.w (i<zq (zz zm l)),.g (zz zm l) i (zm (gt l i)),.b ((gt l i).kind==1) false,.ff,.ff,.ff,.ff,.ff,.ff,.ff,.i zd ((i:Int)+1) ((↑(i+1):Int)),.a _ _] ⟨o_n (by simp),tP,oW,nK,o_w (by (simp;omega)),o_gt rfl (by assumption) (by intro h;cases h),f_bre (by assumption),oI,o_a ih0,trivial⟩ ?_
   exact ge
theorem Aev (l:List Entity) (hn:small l):Is cx (.call 142 [.all 0 none] [.arr 9 (l.map zm) none false]) ⟨.ret,[.all 1 none],[.arr 9 (l.map zm) none false,.arr 1 ((fallenL l).map ti) none false]⟩:=by
 have h:=Acz l hn l.length 0 [] (by omega) (by simp)
 rw [List.drop_zero,List.nil_append] at h
 refine qq ?_
 refine gg [.a _ _] ⟨o_a h,trivial⟩ ?_
 exact ge
end Go.Eva.S4
namespace Go.Eva.S4
theorem Acf (bl:List Cross) (i:Nat) (hi:i<bl.length): ∀(d j:Nat) (A:List Entity),j+d=A.length→small A→
  Is cx (.loop 139 [0,1,0,0,1,0,0,1,0,1,1] 0 [.t (.sl 15 (bl.map zn)),.all 0 none,vi i,vi j] [.arr 9 (A.map zm) none false])
   ⟨.exit 2,[.t (.sl 15 (bl.map zn)),.all 0 none,vi i,vi A.length],[.arr 9 ((A.take j++(A.drop j).map (hurtE (gt bl i))).map zm) none false]⟩:=by
 intro d
 induction d with
 |zero=>
  intro j A hj hn
  unfold small at hn
  rw [Aac (by omega),List.take_of_length_le (by omega)]
  refine qq ?_
  refine gg [.n (zq (zz zm A)) (zq A),.b (decide ((j:Int)<(↑(zq A):Int))) false] ⟨o_n (by simp),fP,trivial⟩ ?_
  refine rT (a:=qz (qx 2) [V.t (qk 15 (zz zn bl)),qy 0 none,vi (i:Int),vi (j:Int)] [qv 9 (zz zm A) none false]) ?_
  ((have hq:j=A.length:=by omega);subst hq;simp)
 |succ d ih=>
  intro j A hj hn
  have hlt:j<A.length:=by omega
  have ih1:=ih (j+1) (A.set j (hurtE (gt bl i) (gt A j))) (by simp;omega) (by unfold small at*;simpa using hn)
  rw [Akf hlt,List.length_set] at ih1
  clear ih
  unfold small at hn
  have hN:=Ada (gt A j).x (gt A j).y (gt bl i).x (gt bl i).y
  have hS:=Aal (gt A j).health
  have hS2:=Aal (held (gt A j).health-10)
  have hh:= @AaX (gt A j).health
  have e0:subH (gt A j).health 10=held (held (gt A j).health-10):=by unfold subH;rw [AdI (v:=10) (by omega)]
  by_cases hk:(gt bl i).kind=2
  ·by_cases hp:(gt A j).kind=1
   ·by_cases hq:farI (gt A j).x (gt A j).y (gt bl i).x (gt bl i).y≤128
    ·have e:hurtE (gt bl i) (gt A j)= {gt A j with health:=held (held (gt A j).health-10)}:=by rw [←e0];simp [hurtE,hk,hp,nearE,hq]
     rw [e] at ih1
     refine qq ?_
     refine gg [.n (zq (zz zm A)) (zq A),.b (decide ((j:Int)<(↑(zq A):Int))) true,.w (0≤(i:Int)),.n (zy (i:Int)) i,.g (zz zn bl) i (zn (gt bl i)),.b ((gt bl i).kind==2) true,.tt,.tt,.w (0≤(j:Int)),.n (zy (j:Int)) j,.w (j<zq (zz zm A)),.tt,.tt,.g (zz zm A) j (zm (gt A j)),.tt,.tt] ⟨o_n (by simp),tP,oW,nK,o_gt rfl (by assumption) (by intro h;cases h),t_bre (by assumption),oW,nK,o_w (by (simp;omega)),o_gt rfl (by assumption) (by intro h;cases h),trivial⟩ ?_
     refine gg [.b ((gt A j).kind==1) true,.tt,.tt,.w (0≤(j:Int)),.n (zy (j:Int)) j,.w (j<zq (zz zm A)),.tt,.tt,.tt,.tt,.w (0≤(j:Int)),.n (zy (j:Int)) j,.w (j<zq (zz zm A)),.tt,.tt,.tt] ⟨t_bre (by assumption),oW,nK,o_w (by (simp;omega)),oW,nK,o_w (by (simp;omega)),trivial⟩ ?_
     refine gg [.tt,.w (0≤(i:Int)),.n (zy (i:Int)) i,.g (zz zn bl) i (zn (gt bl i)),.tt,.tt,.tt,.tt,.w (0≤(i:Int)),.n (zy (i:Int)) i,.g (zz zn bl) i (zn (gt bl i)),.tt,.tt,.g (zz zm A) j (zm (gt A j)),.tt,.g (zz zm A) j (zm (gt A j))] ⟨oW,nK,o_gt rfl (by assumption) (by intro h;cases h),oW,nK,o_gt rfl (by assumption) (by intro h;cases h),o_gt rfl (by assumption) (by intro h;cases h),o_gt rfl (by assumption) (by intro h;cases h),trivial⟩ ?_
     refine gg [.tt,.tt,.tt,.a _ _,.tt,.tt,.b (decide (farI (gt A j).x (gt A j).y (gt bl i).x (gt bl i).y≤128)) true,.w (0≤(j:Int)),.n (zy (j:Int)) j,.w (j<zq (zz zm A)),.g (zz zm A) j (zm (gt A j)),.a _ _,.i zd (held (gt A j).health-10) (held (gt A j).health-10),.a _ _,.w (0≤(j:Int)),.n (zy (j:Int)) j] ⟨o_a hN,t_brp (by assumption),oW,nK,o_w (by (simp;omega)),o_gt rfl (by assumption) (by intro h;cases h),o_a hS,oI,o_a hS2,oW,nK,trivial⟩ ?_
     refine gg [.w (j<zq (zz zm A)),.g (zz zm A) j (zm (gt A j)),.t (qk 0 (zx (zz zm A) j (T.agg [ti (gt A j).id,ti (gt A j).kind,ti (gt A j).x,ti (gt A j).y,ti (gt A j).vx,ti (gt A j).vy,ti (held (held (gt A j).health-10)),ti (gt A j).age,ti (gt A j).owner]))) (qk 0 (zz zm (zx A j (qw (gt A j).id (gt A j).kind (gt A j).x (gt A j).y (gt A j).vx (gt A j).vy (held (held (gt A j).health-10)) (gt A j).age (gt A j).owner)))),.i zd ((j:Int)+1) ((↑(j+1):Int)),.a _ _] ⟨o_w (by (simp;omega)),o_gt rfl (by assumption) (by intro h;cases h),o_l (Aam (e:=qw (gt A j).id (gt A j).kind (gt A j).x (gt A j).y (gt A j).vx (gt A j).vy (held (held (gt A j).health-10)) (gt A j).age (gt A j).owner) rfl rfl),oI,o_a ih1,trivial⟩ ?_
     exact ge
    ·have e:hurtE (gt bl i) (gt A j)=gt A j:=by simp [hurtE,nearE,hq]
     rw [e,AfA hlt] at ih1
     refine qq ?_
     refine gg [.n (zq (zz zm A)) (zq A),.b (decide ((j:Int)<(↑(zq A):Int))) true,.w (0≤(i:Int)),.n (zy (i:Int)) i,.g (zz zn bl) i (zn (gt bl i)),.b ((gt bl i).kind==2) true,.tt,.tt,.w (0≤(j:Int)),.n (zy (j:Int)) j,.w (j<zq (zz zm A)),.tt,.tt,.g (zz zm A) j (zm (gt A j)),.tt,.tt] ⟨o_n (by simp),tP,oW,nK,o_gt rfl (by assumption) (by intro h;cases h),t_bre (by assumption),oW,nK,o_w (by (simp;omega)),o_gt rfl (by assumption) (by intro h;cases h),trivial⟩ ?_
     refine gg [.b ((gt A j).kind==1) true,.tt,.tt,.w (0≤(j:Int)),.n (zy (j:Int)) j,.w (j<zq (zz zm A)),.tt,.tt,.tt,.tt,.w (0≤(j:Int)),.n (zy (j:Int)) j,.w (j<zq (zz zm A)),.tt,.tt,.tt] ⟨t_bre (by assumption),oW,nK,o_w (by (simp;omega)),oW,nK,o_w (by (simp;omega)),trivial⟩ ?_
     refine gg [.tt,.w (0≤(i:Int)),.n (zy (i:Int)) i,.g (zz zn bl) i (zn (gt bl i)),.tt,.tt,.tt,.tt,.w (0≤(i:Int)),.n (zy (i:Int)) i,.g (zz zn bl) i (zn (gt bl i)),.tt,.tt,.g (zz zm A) j (zm (gt A j)),.tt,.g (zz zm A) j (zm (gt A j))] ⟨oW,nK,o_gt rfl (by assumption) (by intro h;cases h),oW,nK,o_gt rfl (by assumption) (by intro h;cases h),o_gt rfl (by assumption) (by intro h;cases h),o_gt rfl (by assumption) (by intro h;cases h),trivial⟩ ?_
     refine gg [.tt,.tt,.tt,.a _ _,.tt,.tt,.b (decide (farI (gt A j).x (gt A j).y (gt bl i).x (gt bl i).y≤128)) false,.i zd ((j:Int)+1) ((↑(j+1):Int)),.a _ _] ⟨o_a hN,f_brp (by assumption),oI,o_a ih1,trivial⟩ ?_
     exact ge
   ·have e:hurtE (gt bl i) (gt A j)=gt A j:=by simp [hurtE,hp]
    rw [e,AfA hlt] at ih1
    refine qq ?_
    refine gg [.n (zq (zz zm A)) (zq A),.b (decide ((j:Int)<(↑(zq A):Int))) true,.w (0≤(i:Int)),.n (zy (i:Int)) i,.g (zz zn bl) i (zn (gt bl i)),.b ((gt bl i).kind==2) true,.tt,.tt,.w (0≤(j:Int)),.n (zy (j:Int)) j,.w (j<zq (zz zm A)),.tt,.tt,.g (zz zm A) j (zm (gt A j)),.tt,.tt] ⟨o_n (by simp),tP,oW,nK,o_gt rfl (by assumption) (by intro h;cases h),t_bre (by assumption),oW,nK,o_w (by (simp;omega)),o_gt rfl (by assumption) (by intro h;cases h),trivial⟩ ?_
    refine gg [.b ((gt A j).kind==1) false,.ff,.ff,.ff,.ff,.ff,.ff,.ff,.ff,.ff,.ff,.ff,.ff,.ff,.ff,.ff] ⟨f_bre (by assumption),trivial⟩ ?_
    refine gg [.ff,.ff,.ff,.ff,.ff,.ff,.ff,.ff,.i zd ((j:Int)+1) ((↑(j+1):Int)),.a _ _] ⟨oI,o_a ih1,trivial⟩ ?_
    exact ge
  ·have e:hurtE (gt bl i) (gt A j)=gt A j:=by simp [hurtE,hk]
   rw [e,AfA hlt] at ih1
   refine qq ?_
   refine gg [.n (zq (zz zm A)) (zq A),.b (decide ((j:Int)<(↑(zq A):Int))) true,.w (0≤(i:Int)),.n (zy (i:Int)) i,.g (zz zn bl) i (zn (gt bl i)),.b ((gt bl i).kind==2) false,.ff,.ff,.ff,.ff,.ff,.ff,.ff,.ff,.ff,.ff] ⟨o_n (by simp),tP,oW,nK,o_gt rfl (by assumption) (by intro h;cases h),f_bre (by assumption),trivial⟩ ?_
   refine gg [.ff,.ff,.ff,.ff,.ff,.ff,.ff,.ff,.ff,.ff,.ff,.ff,.ff,.ff,.ff,.ff] trivial ?_
   refine gg [.ff,.ff,.ff,.ff,.i zd ((j:Int)+1) ((↑(j+1):Int)),.a _ _] ⟨oI,o_a ih1,trivial⟩ ?_
   exact ge
theorem Acm (bl:List Cross) (hb:small bl): ∀(d i:Nat) (A:List Entity),i+d=bl.length→small A→
  Is cx (.loop 139 [0,1,0,1,1] 0 [.t (.sl 15 (bl.map zn)),.all 0 none,vi i] [.arr 9 (A.map zm) none false])
   ⟨.exit 0,[.t (.sl 15 (bl.map zn)),.all 0 none,vi bl.length],[.arr 9 ((blastsL A (bl.drop i)).map zm) none false]⟩:=by
 unfold small at hb
 intro d
 induction d with
 |zero=>
  intro i A hi hn
  rw [Aac (by omega)]
  refine qq ?_
  refine gg [.n (zq (zz zn bl)) (zq bl),.b (decide ((i:Int)<(↑(zq bl):Int))) false] ⟨o_n (by simp),fP,trivial⟩ ?_
  refine rT (a:=qz (qx 0) [V.t (qk 15 (zz zn bl)),qy 0 none,vi (i:Int)] [qv 9 (zz zm A) none false]) ?_
  ((have hq:i=bl.length:=by omega);subst hq;rfl)
 |succ d ih=>
  intro i A hi hn
  have hlt:i<bl.length:=by omega
  have ih1:=ih (i+1) (A.map (hurtE (gt bl i))) (by omega) (by unfold small at*;simpa using hn)
  have h1:=Acf bl i hlt A.length 0 A (by omega) hn
  rw [List.take_zero,List.drop_zero,List.nil_append] at h1
  clear ih
  unfold small at hn
  rw [Aaf hlt]
  change Is cx _ ⟨_,_,[.arr 9 ((blastsL (A.map (hurtE (gt bl i))) (bl.drop (i+1))).map zm) none false]⟩
  generalize A.map (hurtE (gt bl i))=B at*
  refine qq ?_
  refine gg [.n (zq (zz zn bl)) (zq bl),.b (decide ((i:Int)<(↑(zq bl):Int))) true,.a _ _,.i zd ((i:Int)+1) ((↑(i+1):Int)),.a _ _] ⟨o_n (by simp),tP,o_a h1,oI,o_a ih1,trivial⟩ ?_
  exact ge
theorem Aew (l:List Entity) (bl:List Cross) (hn:small l) (hb:small bl):Is cx (.call 139 [.t (.sl 9 (l.map zm)),.t (.sl 15 (bl.map zn))] []) ⟨.ret,[.all 0 none],[.arr 9 ((blastsL l bl).map zm) none false]⟩:=by
 have h:=Acm bl hb bl.length 0 l (by omega) hn
 rw [List.drop_zero] at h
 unfold small at hn
 refine qq ?_
 refine gg [.w ((0:Nat)<(72:Nat)),.s (qk 0 (zz zm l)),.s (qk 0 (zz zm l)),.w (room (zq (zz zm l)) (72:Nat)),.a _ _] ⟨oW,o_w (by (simp [room,appendMax];omega)),o_a h,trivial⟩ ?_
 exact ge
end Go.Eva.S4
namespace Go.Eva
def cat {α:Type}:Nat→(Nat→List α)→List α
 |0,_=> []
 |n+1,g=>cat n g++g n
section
variable {α β:Type}
end
end Go.Eva
namespace Go.Eva
structure Once (c:Config) (w:World) (f:Int):Prop where
 nodup:(cat w.regions.length fun r=>(gt w.regions r).ents.map Entity.id++(handed (gt w.outs r)).map Entity.id).Nodup
 pl:(cat w.regions.length fun r=>plI (gt w.regions r).ents++plI (handed (gt w.outs r))).Perm ((List.range c.players.toNat).map fun k:Nat=>(k:Int)+1)
 low: ∀r,r<w.regions.length→ ∀i∈(gt w.regions r).ents.map Entity.id++(handed (gt w.outs r)).map Entity.id,i<1000+f*c.regions*8
end Go.Eva
namespace Go.Eva
def hitP (e:Entity) (far but:Int) (p:Entity):Bool:=decide (p.kind=1)&&((!decide (e.kind=2)|| !decide (p.id=but))&&decide (farI p.x p.y e.x e.y≤far))
theorem AlD {e p:Entity} {far:Int} (h:e.kind=2):hitP e far e.owner p=meetP far (fun s p=>decide (p.id≠s.owner)) e p:=by
 simp [hitP,meetP,nearE,h]
theorem AmX {e p:Entity} {far but:Int} (h:e.kind=3):hitP e far but p=meetP far (fun _ _=>true) e p:=by
 simp [hitP,meetP,nearE,h]
def idxs:List Bool→Nat→List Int
 | [],_=> []
 |b::g,i=>(if b=true then [(i:Int)] else [])++idxs g (i+1)
theorem Ag7 {g:List Bool}: ∀ {i:Nat},(∀b∈g,b=false)→idxs g i= []:=by
 induction g with
 |nil=>intro i _;rfl
 |cons b g ih=>
  intro i h
  rw [idxs,h b (List.mem_cons_self ..),ih fun b hb=>h b (List.mem_cons_of_mem _ hb)]
  rfl
theorem Aoc {g:List Bool}: ∀ {i:Nat},∀x∈idxs g i,(i:Int)≤x:=by
 induction g with
 |nil=>intro i x h;simp [idxs] at h
 |cons b g ih=>
  intro i x h
  rw [idxs,List.mem_append] at h
  rcases h with h|h
  ·split at h
   ·simp at h;omega
   ·simp at h
  ·have:=ih x h;omega
theorem Ann {g:List Bool}: ∀ {i:Nat},(idxs g i).length≤g.length:=by
 induction g with
 |nil=>intro i;simp [idxs]
 |cons b g ih=>
  intro i
  have:= @ih (i+1)
  rw [idxs,List.length_append,List.length_cons]
  split<;>simp<;>omega
theorem AmR {g:List Bool}: ∀ {i k:Nat},k<g.length→(∀b∈g.drop k,b=false)→idxs (g.set k true) i=idxs g i++ [((i+k:Nat):Int)]:=by
 induction g with
 |nil=>intro i k h;simp at h
 |cons b g ih=>
  intro i k h hb
  cases k with
  |zero=>
   have h1:b=false:=hb b (by simp)
   have h2: ∀b∈g,b=false:=fun b h=>hb b (by simp [h])
   subst h1
   rw [List.set_cons_zero,idxs,idxs,Ag7 h2]
   simp
  |succ k=>
   rw [List.set_cons_succ,idxs,idxs,ih (by simpa using h) (by simpa using hb),List.append_assoc]
   congr 4
   omega
def tchN (kind far:Int) (other:Entity→Entity→Bool) (turn:Int→Int):Nat→Nat→List Entity→List Int→List Entity×List Int
 |0,_,out,G=>(out,G)
 |d+1,i,out,G=>if (gt out i).kind=kind then (match out.findIdx? (meetP far other (gt out i)) with
   |some k=>tchN kind far other turn d (i+1) (out.set k {gt out k with health:=turn (gt out k).health}) (G++ [(i:Int)])
   |none=>tchN kind far other turn d (i+1) out G)
  else tchN kind far other turn d (i+1) out G
theorem Akn {kind far:Int} {other:Entity→Entity→Bool} {turn:Int→Int}: ∀ {d i:Nat} {out:List Entity} {g:List Bool},i+d=g.length→(∀b∈g.drop i,b=false)→
  tchN kind far other turn d i out (idxs g 0)=((meetN kind far other turn d i out g).1,idxs (meetN kind far other turn d i out g).2 0):=by
 intro d
 induction d with
 |zero=>intro i out g _ _;rfl
 |succ d ih=>
  intro i out g hi hb
  have hlt:i<g.length:=by omega
  have hb1: ∀b∈g.drop (i+1),b=false:=fun b h=>hb b (by rw [Aaf hlt];exact List.mem_cons_of_mem _ h)
  rw [tchN,meetN]
  unfold meet1
  by_cases hk:(gt out i).kind=kind
  ·rw [if_pos hk,if_pos hk]
   cases hq:out.findIdx? (meetP far other (gt out i)) with
   |some k=>
    have e:= @AmR g 0 i hlt hb
    rw [Nat.zero_add] at e
    simp only
    rw [←e]
    refine ih (by rw [List.length_set];omega) ?_
    rw [List.drop_set,if_pos (by omega)]
    exact hb1
   |none=>exact ih (by omega) hb1
  ·rw [if_neg hk,if_neg hk]
   exact ih (by omega) hb1
theorem AhT {kind far:Int} {other:Entity→Entity→Bool} {turn:Int→Int}: ∀ {d i:Nat} {out:List Entity} {g:List Bool},(meetN kind far other turn d i out g).2.length=g.length∧(meetN kind far other turn d i out g).1.length=out.length:=by
 intro d
 induction d with
 |zero=>intro i out g;exact ⟨rfl,rfl⟩
 |succ d ih=>
  intro i out g
  rw [meetN,ih.1,ih.2,meet1]
  split
  ·split<;>simp
  ·exact ⟨rfl,rfl⟩
theorem Amr {g:List Bool} {i:Nat} (h:i<g.length):idxs (g.drop i) i=(if gt g i=true then [(i:Int)] else [])++idxs (g.drop (i+1)) (i+1):=by
 rw [Aaf h,idxs]
theorem Ali {l:List Entity} {g:List Bool} {i:Nat} (h:i<l.length) (hg:i<g.length):keepL (l.drop i) (g.drop i)=(if gt g i=true then [] else [gt l i])++keepL (l.drop (i+1)) (g.drop (i+1)):=by
 rw [Aaf h,Aaf hg,keepL]
theorem Amy {h k:Int} (hk: -2147483647≤k∧k≤2147483647):subH h k=held (held h-k):=by unfold subH;rw [AdI hk]
theorem AmJ {h k:Int} (hk: -2147483647≤k∧k≤2147483647):sumH [h,k]=held (held h+k):=by
 simp only [sumH,sumStep,List.foldl_cons,List.foldl_nil]
 rw [AdI hk,Int.zero_add,AdI (v:=held h) AaX]
abbrev otherS:Entity→Entity→Bool:=fun s p=>decide (p.id≠s.owner)
abbrev otherG:Entity→Entity→Bool:=fun _ _=>true
def turnS (h:Int):Int:=subH h 20
def turnG (h:Int):Int:=minI (sumH [h,25]) 100
def butS (e:Entity):Int:=e.owner
def butG (_:Entity):Int:=0
theorem hitPS {e:Entity} {far:Int} (h:e.kind=2):hitP e far (butS e)=meetP far otherS e:=funext fun _=>AlD h
theorem hitPG {e:Entity} {far:Int} (h:e.kind=3):hitP e far (butG e)=meetP far otherG e:=funext fun _=>AmX h
theorem And {h:Int}:turnS h=held (held h-20):=Amy (by decide)
theorem AmO {h:Int}:turnG h=minI 100 (held (held h+25)):=by
 unfold turnG
 rw [AmJ (by decide)]
 unfold minI
 split<;>split<;>omega
theorem AmS {l:List Entity}:shotsL l=meetL 2 24 otherS turnS l:=rfl
theorem AnS {l:List Entity}:gemsL l=meetL 3 32 otherG turnG l:=rfl
end Go.Eva
namespace Go.Eva.S4
theorem Ad5 (l:List Entity) (e:Entity) (far but:Int) (hn:small l): ∀(d i:Nat),i+d=l.length→
  Is cx (.loop 190 [0,1,0,1] 0 [.t (.sl 9 (l.map zm)),vi far,vi but,.ptr 0 0 0,vi 0,vi i] [.one 9 (.t e.enc) false])
   (match (l.drop i).findIdx? (hitP e far but) with
    |some j=>⟨.ret,[.t (.sl 9 (l.map zm)),vi far,vi but,.ptr 0 0 0,vi (i+j:Nat),vi (i+j:Nat)],[.one 9 (.t e.enc) false]⟩
    |none=>⟨.exit 0,[.t (.sl 9 (l.map zm)),vi far,vi but,.ptr 0 0 0,vi 0,vi l.length],[.one 9 (.t e.enc) false]⟩):=by
 unfold small at hn
 intro d
 induction d with
 |zero=>
  intro i hi
  refine qq ?_
  refine gg [.n (zq (zz zm l)) (zq l),.b (decide ((i:Int)<(↑(zq l):Int))) false] ⟨o_n (by simp),fP,trivial⟩ ?_
  refine rT (a:=qz (qx 0) [V.t (qk 9 (zz zm l)),vi far,vi but,V.ptr 0 0 0,vi 0,vi (i:Int)] [qg 9 (V.t (zm e)) false]) ?_
  ((have:i=l.length:=by omega);subst this;rw [Aac (Nat.le_refl _)];rfl)
 |succ d ih=>
  intro i hi
  have hlt:i<l.length:=by omega
  have ih1:=ih (i+1) (by omega)
  clear ih
  have hF:=Ada (gt l i).x (gt l i).y e.x e.y
  rw [Aaf hlt,List.findIdx?_cons]
  cases hp:hitP e far but (gt l i) with
  |true=>
   rw [if_pos rfl]
   simp only [hitP,Bool.and_eq_true,Bool.or_eq_true,Bool.not_eq_true',decide_eq_true_eq,decide_eq_false_iff_not] at hp
   obtain ⟨p1,p2,p3⟩:=hp
   clear ih1
   by_cases q:e.kind=2
   ·have p4: ¬(gt l i).id=but:=p2.elim (fun h=>absurd q h) id
    refine qq ?_
    refine gg [.n (zq (zz zm l)) (zq l),.b (decide ((i:Int)<(↑(zq l):Int))) true,.w (0≤(i:Int)),.n (zy (i:Int)) i,.g (zz zm l) i (zm (gt l i)),.b ((gt l i).kind==1) true,.tt,.tt,.tt,.b (e.kind !=2) false,.ff,.ff,.w (0≤(i:Int)),.n (zy (i:Int)) i,.g (zz zm l) i (zm (gt l i)),.ff] ⟨o_n (by simp),tP,oW,nK,o_gt rfl (by assumption) (by intro h;cases h),t_bre (by assumption),f_brn (by assumption),oW,nK,o_gt rfl (by assumption) (by intro h;cases h),trivial⟩ ?_
    refine gg [.ff,.ff,.ff,.tt,.ff,.tt,.b ((gt l i).id !=but) true,.tt,.tt,.w (0≤(i:Int)),.n (zy (i:Int)) i,.g (zz zm l) i (zm (gt l i)),.tt,.tt,.tt,.tt] ⟨t_brn (by assumption),oW,nK,o_gt rfl (by assumption) (by intro h;cases h),trivial⟩ ?_
    refine gg [.w (0≤(i:Int)),.n (zy (i:Int)) i,.g (zz zm l) i (zm (gt l i)),.tt,.tt,.tt,.tt,.tt,.tt,.tt,.tt,.tt,.a _ _,.tt,.tt,.b (decide (farI (gt l i).x (gt l i).y e.x e.y≤far)) true] ⟨oW,nK,o_gt rfl (by assumption) (by intro h;cases h),o_a hF,t_brp (by assumption),trivial⟩ ?_
    exact ge
   ·refine qq ?_
    refine gg [.n (zq (zz zm l)) (zq l),.b (decide ((i:Int)<(↑(zq l):Int))) true,.w (0≤(i:Int)),.n (zy (i:Int)) i,.g (zz zm l) i (zm (gt l i)),.b ((gt l i).kind==1) true,.tt,.tt,.tt,.b (e.kind !=2) true,.tt,.tt,.tt,.tt,.tt,.tt] ⟨o_n (by simp),tP,oW,nK,o_gt rfl (by assumption) (by intro h;cases h),t_bre (by assumption),t_brn (by assumption),trivial⟩ ?_
    refine gg [.tt,.tt,.tt,.tt,.tt,.tt,.w (0≤(i:Int)),.n (zy (i:Int)) i,.g (zz zm l) i (zm (gt l i)),.tt,.tt,.tt,.tt,.w (0≤(i:Int)),.n (zy (i:Int)) i,.g (zz zm l) i (zm (gt l i))] ⟨oW,nK,o_gt rfl (by assumption) (by intro h;cases h),oW,nK,o_gt rfl (by assumption) (by intro h;cases h),trivial⟩ ?_
    refine gg [.tt,.tt,.tt,.tt,.tt,.tt,.tt,.tt,.tt,.a _ _,.tt,.tt,.b (decide (farI (gt l i).x (gt l i).y e.x e.y≤far)) true] ⟨o_a hF,t_brp (by assumption),trivial⟩ ?_
    exact ge
  |false=>
   rw [if_neg (by simp)]
   have hp2: ¬((gt l i).kind=1∧(e.kind≠2∨(gt l i).id≠but)∧farI (gt l i).x (gt l i).y e.x e.y≤far):=fun h=>by
    have:hitP e far but (gt l i)=true:=by simp [hitP,h]
    rw [hp] at this;contradiction
   clear hp
   cases hq:(l.drop (i+1)).findIdx? (hitP e far but) with
   |none=>
    rw [hq] at ih1
    by_cases p1:(gt l i).kind=1
    ·by_cases q:e.kind=2
     ·by_cases p2:(gt l i).id=but
      ·refine qq ?_
       refine gg [.n (zq (zz zm l)) (zq l),.b (decide ((i:Int)<(↑(zq l):Int))) true,.w (0≤(i:Int)),.n (zy (i:Int)) i,.g (zz zm l) i (zm (gt l i)),.b ((gt l i).kind==1) true,.tt,.tt,.tt,.b (e.kind !=2) false,.ff,.ff,.w (0≤(i:Int)),.n (zy (i:Int)) i,.g (zz zm l) i (zm (gt l i)),.ff] ⟨o_n (by simp),tP,oW,nK,o_gt rfl (by assumption) (by intro h;cases h),t_bre (by assumption),f_brn (by assumption),oW,nK,o_gt rfl (by assumption) (by intro h;cases h),trivial⟩ ?_
       refine gg [.ff,.ff,.ff,.tt,.ff,.tt,.b ((gt l i).id !=but) false,.ff,.ff,.ff,.ff,.ff,.ff,.ff,.ff,.ff] ⟨f_brn (by assumption),trivial⟩ ?_
       refine gg [.ff,.ff,.ff,.ff,.ff,.ff,.ff,.ff,.ff,.i zd ((i:Int)+1) ((↑(i+1):Int)),.a _ _] ⟨oI,o_a ih1,trivial⟩ ?_
       exact ge
      ·have p3: ¬farI (gt l i).x (gt l i).y e.x e.y≤far:=fun h=>hp2 ⟨p1,.inr p2,h⟩
       refine qq ?_
       refine gg [.n (zq (zz zm l)) (zq l),.b (decide ((i:Int)<(↑(zq l):Int))) true,.w (0≤(i:Int)),.n (zy (i:Int)) i,.g (zz zm l) i (zm (gt l i)),.b ((gt l i).kind==1) true,.tt,.tt,.tt,.b (e.kind !=2) false,.ff,.ff,.w (0≤(i:Int)),.n (zy (i:Int)) i,.g (zz zm l) i (zm (gt l i)),.ff] ⟨o_n (by simp),tP,oW,nK,o_gt rfl (by assumption) (by intro h;cases h),t_bre (by assumption),f_brn (by assumption),oW,nK,o_gt rfl (by assumption) (by intro h;cases h),trivial⟩ ?_
       refine gg [.ff,.ff,.ff,.tt,.ff,.tt,.b ((gt l i).id !=but) true,.tt,.tt,.w (0≤(i:Int)),.n (zy (i:Int)) i,.g (zz zm l) i (zm (gt l i)),.tt,.tt,.tt,.tt] ⟨t_brn (by assumption),oW,nK,o_gt rfl (by assumption) (by intro h;cases h),trivial⟩ ?_
       refine gg [.w (0≤(i:Int)),.n (zy (i:Int)) i,.g (zz zm l) i (zm (gt l i)),.tt,.tt,.tt,.tt,.tt,.tt,.tt,.tt,.tt,.a _ _,.tt,.tt,.b (decide (farI (gt l i).x (gt l i).y e.x e.y≤far)) false] ⟨oW,nK,o_gt rfl (by assumption) (by intro h;cases h),o_a hF,f_brp (by assumption),trivial⟩ ?_
       refine gg [.i zd ((i:Int)+1) ((↑(i+1):Int)),.a _ _] ⟨oI,o_a ih1,trivial⟩ ?_
       exact ge
     ·have p3: ¬farI (gt l i).x (gt l i).y e.x e.y≤far:=fun h=>hp2 ⟨p1,.inl q,h⟩
      refine qq ?_
      refine gg [.n (zq (zz zm l)) (zq l),.b (decide ((i:Int)<(↑(zq l):Int))) true,.w (0≤(i:Int)),.n (zy (i:Int)) i,.g (zz zm l) i (zm (gt l i)),.b ((gt l i).kind==1) true,.tt,.tt,.tt,.b (e.kind !=2) true,.tt,.tt,.tt,.tt,.tt,.tt] ⟨o_n (by simp),tP,oW,nK,o_gt rfl (by assumption) (by intro h;cases h),t_bre (by assumption),t_brn (by assumption),trivial⟩ ?_
      refine gg [.tt,.tt,.tt,.tt,.tt,.tt,.w (0≤(i:Int)),.n (zy (i:Int)) i,.g (zz zm l) i (zm (gt l i)),.tt,.tt,.tt,.tt,.w (0≤(i:Int)),.n (zy (i:Int)) i,.g (zz zm l) i (zm (gt l i))] ⟨oW,nK,o_gt rfl (by assumption) (by intro h;cases h),oW,nK,o_gt rfl (by assumption) (by intro h;cases h),trivial⟩ ?_
      refine gg [.tt,.tt,.tt,.tt,.tt,.tt,.tt,.tt,.tt,.a _ _,.tt,.tt,.b (decide (farI (gt l i).x (gt l i).y e.x e.y≤far)) false,.i zd ((i:Int)+1) ((↑(i+1):Int)),.a _ _] ⟨o_a hF,f_brp (by assumption),oI,o_a ih1,trivial⟩ ?_
      exact ge
    ·refine qq ?_
     refine gg [.n (zq (zz zm l)) (zq l),.b (decide ((i:Int)<(↑(zq l):Int))) true,.w (0≤(i:Int)),.n (zy (i:Int)) i,.g (zz zm l) i (zm (gt l i)),.b ((gt l i).kind==1) false,.ff,.ff,.ff,.ff,.ff,.ff,.ff,.ff,.ff,.ff] ⟨o_n (by simp),tP,oW,nK,o_gt rfl (by assumption) (by intro h;cases h),f_bre (by assumption),trivial⟩ ?_
     refine gg [.ff,.ff,.ff,.ff,.ff,.ff,.ff,.ff,.ff,.ff,.ff,.ff,.ff,.ff,.i zd ((i:Int)+1) ((↑(i+1):Int)),.a _ _] ⟨oI,o_a ih1,trivial⟩ ?_
     exact ge
   |some j=>
    rw [hq] at ih1
    by_cases p1:(gt l i).kind=1
    ·by_cases q:e.kind=2
     ·by_cases p2:(gt l i).id=but
      ·refine qq ?_
       refine gg [.n (zq (zz zm l)) (zq l),.b (decide ((i:Int)<(↑(zq l):Int))) true,.w (0≤(i:Int)),.n (zy (i:Int)) i,.g (zz zm l) i (zm (gt l i)),.b ((gt l i).kind==1) true,.tt,.tt,.tt,.b (e.kind !=2) false,.ff,.ff,.w (0≤(i:Int)),.n (zy (i:Int)) i,.g (zz zm l) i (zm (gt l i)),.ff] ⟨o_n (by simp),tP,oW,nK,o_gt rfl (by assumption) (by intro h;cases h),t_bre (by assumption),f_brn (by assumption),oW,nK,o_gt rfl (by assumption) (by intro h;cases h),trivial⟩ ?_
       refine gg [.ff,.ff,.ff,.tt,.ff,.tt,.b ((gt l i).id !=but) false,.ff,.ff,.ff,.ff,.ff,.ff,.ff,.ff,.ff] ⟨f_brn (by assumption),trivial⟩ ?_
       refine gg [.ff,.ff,.ff,.ff,.ff,.ff,.ff,.ff,.ff,.i zd ((i:Int)+1) ((↑(i+1):Int)),.a _ _] ⟨oI,o_a ih1,trivial⟩ ?_
       refine rT (a:=qz qj [V.t (qk 9 (zz zm l)),vi far,vi but,V.ptr 0 0 0,vi (↑(i+1+j):Int),vi (↑(i+1+j):Int)] [qg 9 (V.t (zm e)) false]) ?_
       simp [Nat.add_assoc,Nat.add_comm 1 j]
      ·have p3: ¬farI (gt l i).x (gt l i).y e.x e.y≤far:=fun h=>hp2 ⟨p1,.inr p2,h⟩
       refine qq ?_
       refine gg [.n (zq (zz zm l)) (zq l),.b (decide ((i:Int)<(↑(zq l):Int))) true,.w (0≤(i:Int)),.n (zy (i:Int)) i,.g (zz zm l) i (zm (gt l i)),.b ((gt l i).kind==1) true,.tt,.tt,.tt,.b (e.kind !=2) false,.ff,.ff,.w (0≤(i:Int)),.n (zy (i:Int)) i,.g (zz zm l) i (zm (gt l i)),.ff] ⟨o_n (by simp),tP,oW,nK,o_gt rfl (by assumption) (by intro h;cases h),t_bre (by assumption),f_brn (by assumption),oW,nK,o_gt rfl (by assumption) (by intro h;cases h),trivial⟩ ?_
       refine gg [.ff,.ff,.ff,.tt,.ff,.tt,.b ((gt l i).id !=but) true,.tt,.tt,.w (0≤(i:Int)),.n (zy (i:Int)) i,.g (zz zm l) i (zm (gt l i)),.tt,.tt,.tt,.tt] ⟨t_brn (by assumption),oW,nK,o_gt rfl (by assumption) (by intro h;cases h),trivial⟩ ?_
       refine gg [.w (0≤(i:Int)),.n (zy (i:Int)) i,.g (zz zm l) i (zm (gt l i)),.tt,.tt,.tt,.tt,.tt,.tt,.tt,.tt,.tt,.a _ _,.tt,.tt,.b (decide (farI (gt l i).x (gt l i).y e.x e.y≤far)) false] ⟨oW,nK,o_gt rfl (by assumption) (by intro h;cases h),o_a hF,f_brp (by assumption),trivial⟩ ?_
       refine gg [.i zd ((i:Int)+1) ((↑(i+1):Int)),.a _ _] ⟨oI,o_a ih1,trivial⟩ ?_
       refine rT (a:=qz qj [V.t (qk 9 (zz zm l)),vi far,vi but,V.ptr 0 0 0,vi (↑(i+1+j):Int),vi (↑(i+1+j):Int)] [qg 9 (V.t (zm e)) false]) ?_
       simp [Nat.add_assoc,Nat.add_comm 1 j]
     ·have p3: ¬farI (gt l i).x (gt l i).y e.x e.y≤far:=fun h=>hp2 ⟨p1,.inl q,h⟩
      refine qq ?_
      refine gg [.n (zq (zz zm l)) (zq l),.b (decide ((i:Int)<(↑(zq l):Int))) true,.w (0≤(i:Int)),.n (zy (i:Int)) i,.g (zz zm l) i (zm (gt l i)),.b ((gt l i).kind==1) true,.tt,.tt,.tt,.b (e.kind !=2) true,.tt,.tt,.tt,.tt,.tt,.tt] ⟨o_n (by simp),tP,oW,nK,o_gt rfl (by assumption) (by intro h;cases h),t_bre (by assumption),t_brn (by assumption),trivial⟩ ?_
      refine gg [.tt,.tt,.tt,.tt,.tt,.tt,.w (0≤(i:Int)),.n (zy (i:Int)) i,.g (zz zm l) i (zm (gt l i)),.tt,.tt,.tt,.tt,.w (0≤(i:Int)),.n (zy (i:Int)) i,.g (zz zm l) i (zm (gt l i))] ⟨oW,nK,o_gt rfl (by assumption) (by intro h;cases h),oW,nK,o_gt rfl (by assumption) (by intro h;cases h),trivial⟩ ?_
      refine gg [.tt,.tt,.tt,.tt,.tt,.tt,.tt,.tt,.tt,.a _ _,.tt,.tt,.b (decide (farI (gt l i).x (gt l i).y e.x e.y≤far)) false,.i zd ((i:Int)+1) ((↑(i+1):Int)),.a _ _] ⟨o_a hF,f_brp (by assumption),oI,o_a ih1,trivial⟩ ?_
      refine rT (a:=qz qj [V.t (qk 9 (zz zm l)),vi far,vi but,V.ptr 0 0 0,vi (↑(i+1+j):Int),vi (↑(i+1+j):Int)] [qg 9 (V.t (zm e)) false]) ?_
      simp [Nat.add_assoc,Nat.add_comm 1 j]
    ·refine qq ?_
     refine gg [.n (zq (zz zm l)) (zq l),.b (decide ((i:Int)<(↑(zq l):Int))) true,.w (0≤(i:Int)),.n (zy (i:Int)) i,.g (zz zm l) i (zm (gt l i)),.b ((gt l i).kind==1) false,.ff,.ff,.ff,.ff,.ff,.ff,.ff,.ff,.ff,.ff] ⟨o_n (by simp),tP,oW,nK,o_gt rfl (by assumption) (by intro h;cases h),f_bre (by assumption),trivial⟩ ?_
     refine gg [.ff,.ff,.ff,.ff,.ff,.ff,.ff,.ff,.ff,.ff,.ff,.ff,.ff,.ff,.i zd ((i:Int)+1) ((↑(i+1):Int)),.a _ _] ⟨oI,o_a ih1,trivial⟩ ?_
     refine rT (a:=qz qj [V.t (qk 9 (zz zm l)),vi far,vi but,V.ptr 0 0 0,vi (↑(i+1+j):Int),vi (↑(i+1+j):Int)] [qg 9 (V.t (zm e)) false]) ?_
     simp [Nat.add_assoc,Nat.add_comm 1 j]
theorem Adh (l:List Entity) (e:Entity) (far but:Int) (hn:small l):Fn cx 190 [.sl 9 (l.map zm),e.enc,ti far,ti but] (ti (match l.findIdx? (hitP e far but) with|some j=>(j:Int)|none=> -1)):=by
 have h:=Ad5 l e far but hn l.length 0 (by omega)
 rw [List.drop_zero] at h
 cases hq:l.findIdx? (hitP e far but) with
 |none=>
  rw [hq] at h
  refine qq ?_
  refine gg [.a _ _] ⟨o_a h,trivial⟩ ?_
  exact ge
 |some j=>
  rw [hq] at h
  simp only [Nat.zero_add] at h
  refine qq ?_
  refine gg [.a _ _] ⟨o_a h,trivial⟩ ?_
  exact ge
end Go.Eva.S4
namespace Go.Eva.S4
theorem AbG: ∀(d i:Nat) (out:List Entity) (G:List Int),i+d=out.length→G.length≤i→small out→
  Is cx (.loop 177 [0,1,0,1,1,1] 0 [vi 2,vi 24,.all 0 none,.all 1 none,vi i] [.arr 9 (out.map zm) none false,.arr 1 (G.map ti) none false])
   ⟨.exit 0,[vi 2,vi 24,.all 0 none,.all 1 none,vi out.length],[.arr 9 ((tchN 2 24 otherS turnS d i out G).1.map zm) none false,.arr 1 ((tchN 2 24 otherS turnS d i out G).2.map ti) none false]⟩:=by
 intro d
 induction d with
 |zero=>
  intro i out G hi hG hn
  unfold small at hn
  rw [tchN]
  refine qq ?_
  refine gg [.n (zq (zz zm out)) (zq out),.b (decide ((i:Int)<(↑(zq out):Int))) false] ⟨o_n (by simp),fP,trivial⟩ ?_
  refine rT (a:=qz (qx 0) [vi 2,vi 24,qy 0 none,qy 1 none,vi (i:Int)] [qv 9 (zz zm out) none false,qv 1 (zz ti G) none false]) ?_
  ((have hq:i=out.length:=by omega);subst hq;rfl)
 |succ d ih=>
  intro i out G hi hG hn
  have hlt:i<out.length:=by omega
  rw [tchN]
  by_cases hk:(gt out i).kind=2
  ·rw [if_pos hk]
   have hH:=Adh out (gt out i) 24 (butS (gt out i)) hn
   rw [hitPS hk] at hH
   unfold butS at hH
   cases hq:out.findIdx? (meetP 24 otherS (gt out i)) with
   |none=>
    rw [hq] at hH
    simp only at hH⊢
    have ih1:=ih (i+1) out G (by omega) (by omega) hn
    clear ih
    unfold small at hn
    generalize tchN 2 24 otherS turnS d (i+1) out G=Z at*
    refine qq ?_
    refine gg [.n (zq (zz zm out)) (zq out),.b (decide ((i:Int)<(↑(zq out):Int))) true,.w (0≤(i:Int)),.n (zy (i:Int)) i,.w (i<zq (zz zm out)),.g (zz zm out) i (zm (gt out i)),.b ((gt out i).kind !=2) false,.b (2==2) true,.w (0≤(i:Int)),.n (zy (i:Int)) i,.w (i<zq (zz zm out)),.g (zz zm out) i (zm (gt out i)),.w (0≤(i:Int)),.n (zy (i:Int)) i,.w (i<zq (zz zm out)),.g (zz zm out) i (zm (gt out i))] ⟨o_n (by simp),tP,oW,nK,o_w (by (simp;omega)),o_gt rfl (by assumption) (by intro h;cases h),f_brn (by assumption),bK,oW,nK,o_w (by (simp;omega)),o_gt rfl (by assumption) (by intro h;cases h),oW,nK,o_w (by (simp;omega)),o_gt rfl (by assumption) (by intro h;cases h),trivial⟩ ?_
    refine gg [.a _ _,.b (flats [ti (-1)]) true,.b (decide (-1<0)) true,.i zd ((i:Int)+1) ((↑(i+1):Int)),.a _ _] ⟨o_a hH,bK,bK,oI,o_a ih1,trivial⟩ ?_
    exact ge
   |some k=>
    rw [hq] at hH
    obtain ⟨hk2,_,_⟩:=List.findIdx?_eq_some_iff_getElem.1 hq
    simp only at hH⊢
    have hS:=Aal (gt out k).health
    have hS2:=Aal (held (gt out k).health-20)
    have hS3:=Aal (held (gt out k).health+25)
    have hh:= @AaX (gt out k).health
    have ih1:=ih (i+1) (out.set k {gt out k with health:=turnS (gt out k).health}) (G++ [(i:Int)]) (by simp;omega) (by simp;omega) (by unfold small at*;simpa using hn)
    rw [List.length_set] at ih1
    clear ih hq
    unfold small at hn
    generalize tchN 2 24 otherS turnS d (i+1) (out.set k {gt out k with health:=turnS (gt out k).health}) (G++ [(i:Int)])=Z at*
    rw [And] at ih1
    refine qq ?_
    refine gg [.n (zq (zz zm out)) (zq out),.b (decide ((i:Int)<(↑(zq out):Int))) true,.w (0≤(i:Int)),.n (zy (i:Int)) i,.w (i<zq (zz zm out)),.g (zz zm out) i (zm (gt out i)),.b ((gt out i).kind !=2) false,.b (2==2) true,.w (0≤(i:Int)),.n (zy (i:Int)) i,.w (i<zq (zz zm out)),.g (zz zm out) i (zm (gt out i)),.w (0≤(i:Int)),.n (zy (i:Int)) i,.w (i<zq (zz zm out)),.g (zz zm out) i (zm (gt out i))] ⟨o_n (by simp),tP,oW,nK,o_w (by (simp;omega)),o_gt rfl (by assumption) (by intro h;cases h),f_brn (by assumption),bK,oW,nK,o_w (by (simp;omega)),o_gt rfl (by assumption) (by intro h;cases h),oW,nK,o_w (by (simp;omega)),o_gt rfl (by assumption) (by intro h;cases h),trivial⟩ ?_
    refine gg [.a _ _,.b (flats [ti (k:Int)]) true,.b (decide ((k:Int)<0)) false,.w ((0:Nat)<(8:Nat)),.t (qk 0 [ti (i:Int)]) (qk 0 (zz (T.int zd) [(i:Int)])),.t (qk 0 (zz ti G++zz (T.int zd) [(i:Int)])) (qk 0 (zz ti (G++ [(i:Int)]))),.w (room (zq (zz ti (G++ [(i:Int)]))) (8:Nat)),.b (2==2) true,.w (0≤(k:Int)),.n (zy (k:Int)) k,.w (k<zq (zz zm out)),.g (zz zm out) k (zm (gt out k)),.a _ _,.i zd (held (gt out k).health-20) (held (gt out k).health-20),.a _ _,.w (0≤(k:Int))] ⟨o_a hH,bK,bK,oW,o_l (Aae rfl Aah),o_l (Aag rfl rfl),o_w (by (simp [room,appendMax];omega)),bK,oW,nK,o_w (by (simp;omega)),o_gt rfl (by assumption) (by intro h;cases h),o_a hS,oI,o_a hS2,oW,trivial⟩ ?_
    refine gg [.n (zy (k:Int)) k,.w (k<zq (zz zm out)),.g (zz zm out) k (zm (gt out k)),.t (qk 0 (zx (zz zm out) k (T.agg [ti (gt out k).id,ti (gt out k).kind,ti (gt out k).x,ti (gt out k).y,ti (gt out k).vx,ti (gt out k).vy,ti (held (held (gt out k).health-20)),ti (gt out k).age,ti (gt out k).owner]))) (qk 0 (zz zm (zx out k (qw (gt out k).id (gt out k).kind (gt out k).x (gt out k).y (gt out k).vx (gt out k).vy (held (held (gt out k).health-20)) (gt out k).age (gt out k).owner)))),.i zd ((i:Int)+1) ((↑(i+1):Int)),.a _ _] ⟨nK,o_w (by (simp;omega)),o_gt rfl (by assumption) (by intro h;cases h),o_l (Aam (e:=qw (gt out k).id (gt out k).kind (gt out k).x (gt out k).y (gt out k).vx (gt out k).vy (held (held (gt out k).health-20)) (gt out k).age (gt out k).owner) rfl rfl),oI,o_a ih1,trivial⟩ ?_
    exact ge
  ·rw [if_neg hk]
   have ih1:=ih (i+1) out G (by omega) (by omega) hn
   clear ih
   unfold small at hn
   generalize tchN 2 24 otherS turnS d (i+1) out G=Z at*
   refine qq ?_
   refine gg [.n (zq (zz zm out)) (zq out),.b (decide ((i:Int)<(↑(zq out):Int))) true,.w (0≤(i:Int)),.n (zy (i:Int)) i,.w (i<zq (zz zm out)),.g (zz zm out) i (zm (gt out i)),.b ((gt out i).kind !=2) true,.i zd ((i:Int)+1) ((↑(i+1):Int)),.a _ _] ⟨o_n (by simp),tP,oW,nK,o_w (by (simp;omega)),o_gt rfl (by assumption) (by intro h;cases h),t_brn (by assumption),oI,o_a ih1,trivial⟩ ?_
   exact ge
theorem AbF: ∀(d i:Nat) (out:List Entity) (G:List Int),i+d=out.length→G.length≤i→small out→
  Is cx (.loop 177 [0,1,0,1,1,1] 0 [vi 3,vi 32,.all 0 none,.all 1 none,vi i] [.arr 9 (out.map zm) none false,.arr 1 (G.map ti) none false])
   ⟨.exit 0,[vi 3,vi 32,.all 0 none,.all 1 none,vi out.length],[.arr 9 ((tchN 3 32 otherG turnG d i out G).1.map zm) none false,.arr 1 ((tchN 3 32 otherG turnG d i out G).2.map ti) none false]⟩:=by
 intro d
 induction d with
 |zero=>
  intro i out G hi hG hn
  unfold small at hn
  rw [tchN]
  refine qq ?_
  refine gg [.n (zq (zz zm out)) (zq out),.b (decide ((i:Int)<(↑(zq out):Int))) false] ⟨o_n (by simp),fP,trivial⟩ ?_
  refine rT (a:=qz (qx 0) [vi 3,vi 32,qy 0 none,qy 1 none,vi (i:Int)] [qv 9 (zz zm out) none false,qv 1 (zz ti G) none false]) ?_
  ((have hq:i=out.length:=by omega);subst hq;rfl)
 |succ d ih=>
  intro i out G hi hG hn
  have hlt:i<out.length:=by omega
  rw [tchN]
  by_cases hk:(gt out i).kind=3
  ·rw [if_pos hk]
   have hH:=Adh out (gt out i) 32 (butG (gt out i)) hn
   rw [hitPG hk] at hH
   unfold butG at hH
   cases hq:out.findIdx? (meetP 32 otherG (gt out i)) with
   |none=>
    rw [hq] at hH
    simp only at hH⊢
    have ih1:=ih (i+1) out G (by omega) (by omega) hn
    clear ih
    unfold small at hn
    generalize tchN 3 32 otherG turnG d (i+1) out G=Z at*
    refine qq ?_
    refine gg [.n (zq (zz zm out)) (zq out),.b (decide ((i:Int)<(↑(zq out):Int))) true,.w (0≤(i:Int)),.n (zy (i:Int)) i,.w (i<zq (zz zm out)),.g (zz zm out) i (zm (gt out i)),.b ((gt out i).kind !=3) false,.b (3==2) false,.w (0≤(i:Int)),.n (zy (i:Int)) i,.w (i<zq (zz zm out)),.g (zz zm out) i (zm (gt out i)),.a _ _,.b (flats [ti (-1)]) true,.b (decide (-1<0)) true,.i zd ((i:Int)+1) ((↑(i+1):Int))] ⟨o_n (by simp),tP,oW,nK,o_w (by (simp;omega)),o_gt rfl (by assumption) (by intro h;cases h),f_brn (by assumption),bK,oW,nK,o_w (by (simp;omega)),o_gt rfl (by assumption) (by intro h;cases h),o_a hH,bK,bK,oI,trivial⟩ ?_
    refine gg [.a _ _] ⟨o_a ih1,trivial⟩ ?_
    exact ge
   |some k=>
    rw [hq] at hH
    obtain ⟨hk2,_,_⟩:=List.findIdx?_eq_some_iff_getElem.1 hq
    simp only at hH⊢
    have hS:=Aal (gt out k).health
    have hS2:=Aal (held (gt out k).health-20)
    have hS3:=Aal (held (gt out k).health+25)
    have hh:= @AaX (gt out k).health
    have ih1:=ih (i+1) (out.set k {gt out k with health:=turnG (gt out k).health}) (G++ [(i:Int)]) (by simp;omega) (by simp;omega) (by unfold small at*;simpa using hn)
    rw [List.length_set] at ih1
    clear ih hq
    unfold small at hn
    generalize tchN 3 32 otherG turnG d (i+1) (out.set k {gt out k with health:=turnG (gt out k).health}) (G++ [(i:Int)])=Z at*
    rw [AmO] at ih1
    refine qq ?_
    refine gg [.n (zq (zz zm out)) (zq out),.b (decide ((i:Int)<(↑(zq out):Int))) true,.w (0≤(i:Int)),.n (zy (i:Int)) i,.w (i<zq (zz zm out)),.g (zz zm out) i (zm (gt out i)),.b ((gt out i).kind !=3) false,.b (3==2) false,.w (0≤(i:Int)),.n (zy (i:Int)) i,.w (i<zq (zz zm out)),.g (zz zm out) i (zm (gt out i)),.a _ _,.b (flats [ti (k:Int)]) true,.b (decide ((k:Int)<0)) false,.w ((0:Nat)<(8:Nat))] ⟨o_n (by simp),tP,oW,nK,o_w (by (simp;omega)),o_gt rfl (by assumption) (by intro h;cases h),f_brn (by assumption),bK,oW,nK,o_w (by (simp;omega)),o_gt rfl (by assumption) (by intro h;cases h),o_a hH,bK,bK,oW,trivial⟩ ?_
    refine gg [.t (qk 0 [ti (i:Int)]) (qk 0 (zz (T.int zd) [(i:Int)])),.t (qk 0 (zz ti G++zz (T.int zd) [(i:Int)])) (qk 0 (zz ti (G++ [(i:Int)]))),.w (room (zq (zz ti (G++ [(i:Int)]))) (8:Nat)),.b (3==2) false,.w (0≤(k:Int)),.n (zy (k:Int)) k,.w (k<zq (zz zm out)),.g (zz zm out) k (zm (gt out k)),.a _ _,.i zd (held (gt out k).health+25) (held (gt out k).health+25),.a _ _,.s (ti (minI 100 (held (held (gt out k).health+25)))),.w (0≤(k:Int)),.n (zy (k:Int)) k,.w (k<zq (zz zm out)),.g (zz zm out) k (zm (gt out k))] ⟨o_l (Aae rfl Aah),o_l (Aag rfl rfl),o_w (by (simp [room,appendMax];omega)),bK,oW,nK,o_w (by (simp;omega)),o_gt rfl (by assumption) (by intro h;cases h),o_a hS,oI,o_a hS3,oW,nK,o_w (by (simp;omega)),o_gt rfl (by assumption) (by intro h;cases h),trivial⟩ ?_
    refine gg [.t (qk 0 (zx (zz zm out) k (T.agg [ti (gt out k).id,ti (gt out k).kind,ti (gt out k).x,ti (gt out k).y,ti (gt out k).vx,ti (gt out k).vy,ti (minI 100 (held (held (gt out k).health+25))),ti (gt out k).age,ti (gt out k).owner]))) (qk 0 (zz zm (zx out k (qw (gt out k).id (gt out k).kind (gt out k).x (gt out k).y (gt out k).vx (gt out k).vy (minI 100 (held (held (gt out k).health+25))) (gt out k).age (gt out k).owner)))),.i zd ((i:Int)+1) ((↑(i+1):Int)),.a _ _] ⟨o_l (Aam (e:=qw (gt out k).id (gt out k).kind (gt out k).x (gt out k).y (gt out k).vx (gt out k).vy (minI 100 (held (held (gt out k).health+25))) (gt out k).age (gt out k).owner) rfl rfl),oI,o_a ih1,trivial⟩ ?_
    exact ge
  ·rw [if_neg hk]
   have ih1:=ih (i+1) out G (by omega) (by omega) hn
   clear ih
   unfold small at hn
   generalize tchN 3 32 otherG turnG d (i+1) out G=Z at*
   refine qq ?_
   refine gg [.n (zq (zz zm out)) (zq out),.b (decide ((i:Int)<(↑(zq out):Int))) true,.w (0≤(i:Int)),.n (zy (i:Int)) i,.w (i<zq (zz zm out)),.g (zz zm out) i (zm (gt out i)),.b ((gt out i).kind !=3) true,.i zd ((i:Int)+1) ((↑(i+1):Int)),.a _ _] ⟨o_n (by simp),tP,oW,nK,o_w (by (simp;omega)),o_gt rfl (by assumption) (by intro h;cases h),t_brn (by assumption),oI,o_a ih1,trivial⟩ ?_
   exact ge
theorem AaK (l:List Entity) (g:List Bool) (G:List Int) (hl:l.length=g.length) (hn:small l): ∀(d i:Nat) (P:List Int) (R:List Entity),i+d=l.length→P.length≤i→R.length≤i→G=P++idxs (g.drop i) i→
  Is cx (.loop 177 [0,1,0,1,1,1,1,1,1] 0 [.all 0 none,.all 1 none,.all 2 none,vi P.length,vi i] [.arr 9 (l.map zm) none false,.arr 1 (G.map ti) none false,.arr 9 (R.map zm) none false])
   ⟨.exit 2,[.all 0 none,.all 1 none,.all 2 none,vi G.length,vi l.length],[.arr 9 (l.map zm) none false,.arr 1 (G.map ti) none false,.arr 9 ((R++keepL (l.drop i) (g.drop i)).map zm) none false]⟩:=by
 unfold small at hn
 intro d
 induction d with
 |zero=>
  intro i P R hi hP hR hG
  have hq:i=l.length:=by omega
  subst hq
  rw [Aac (l:=l) (by omega)]
  rw [Aac (l:=g) (by omega)] at hG⊢
  have e:G=P:=by simpa [idxs] using hG
  subst e
  refine qq ?_
  refine gg [.n (zq (zz zm l)) (zq l),.b (decide ((↑(zq l):Int)<(↑(zq l):Int))) false] ⟨o_n (by simp),fP,trivial⟩ ?_
  refine rT (a:=qz (qx 2) [qy 0 none,qy 1 none,qy 2 none,vi (↑(zq G):Int),vi (↑(zq l):Int)] [qv 9 (zz zm l) none false,qv 1 (zz ti G) none false,qv 9 (zz zm R) none false]) ?_
  (simp [keepL])
 |succ d ih=>
  intro i P R hi hP hR hG
  have hlt:i<l.length:=by omega
  rw [Ali hlt (by omega)]
  rw [Amr (by omega)] at hG
  have hx:= @Aoc (g.drop (i+1)) (i+1)
  have hGl:= @Ann (g.drop (i+1)) (i+1)
  rw [List.length_drop] at hGl
  cases hb:gt g i with
  |true=>
   rw [hb,if_pos rfl] at hG
   rw [if_pos rfl,List.nil_append]
   have ih1:=ih (i+1) (P++ [(i:Int)]) R (by omega) (by simp;omega) (by omega) (by rw [hG,List.append_assoc])
   rw [List.length_append,List.length_singleton] at ih1
   clear ih hx
   have h1:P.length<G.length:=by rw [hG];simp
   have h2:gt G P.length=(i:Int):=by rw [hG];simp [gt]
   have h3:G.length≤1000000:=by rw [hG];simp;omega
   clear hG hGl
   generalize keepL (l.drop (i+1)) (g.drop (i+1))=Z at*
   refine qq ?_
   refine gg [.n (zq (zz zm l)) (zq l),.b (decide ((i:Int)<(↑(zq l):Int))) true,.n (zq (zz ti G)) (zq G),.b (decide ((↑(zq P):Int)<(↑(zq G):Int))) true,.tt,.tt,.w (0≤(↑(zq P):Int)),.n (zy (↑(zq P):Int)) (zq P),.w (zq P<zq (zz ti G)),.tt,.g (zz ti G) (zq P) (ti (gt G (zq P))),.tt,.tt,.tt,.b (gt G (zq P)==(i:Int)) true,.i zd ((↑(zq P):Int)+1) ((↑(zq P+1):Int))] ⟨o_n (by simp),tP,o_n (by simp),tP,oW,nK,o_w (by (simp;omega)),o_gt rfl (by assumption) (by intro h;cases h),t_bre (by assumption),oI,trivial⟩ ?_
   refine gg [.i zd ((i:Int)+1) ((↑(i+1):Int)),.a _ _] ⟨oI,o_a ih1,trivial⟩ ?_
   exact ge
  |false=>
   rw [hb,if_neg (by simp),List.nil_append] at hG
   rw [if_neg (by simp)]
   have ih1:=ih (i+1) P (R++ [gt l i]) (by omega) (by omega) (by simp;omega) hG
   rw [List.append_assoc] at ih1
   clear ih
   generalize keepL (l.drop (i+1)) (g.drop (i+1))=Z at*
   cases hX:idxs (g.drop (i+1)) (i+1) with
   |nil=>
    have e:G=P:=by rw [hG,hX,List.append_nil]
    clear hG hX hGl hx
    subst e
    refine qq ?_
    refine gg [.n (zq (zz zm l)) (zq l),.b (decide ((i:Int)<(↑(zq l):Int))) true,.n (zq (zz ti G)) (zq G),.b (decide ((↑(zq G):Int)<(↑(zq G):Int))) false,.ff,.ff,.ff,.ff,.ff,.ff,.ff,.w (0≤(i:Int)),.n (zy (i:Int)) i,.w (i<zq (zz zm l)),.g (zz zm l) i (zm (gt l i)),.w ((0:Nat)<(72:Nat))] ⟨o_n (by simp),tP,o_n (by simp),fP,oW,nK,o_w (by (simp;omega)),o_gt rfl (by assumption) (by intro h;cases h),oW,trivial⟩ ?_
    refine gg [.t (qk 0 [zm (gt l i)]) (qk 0 (zz zm [gt l i])),.t (qk 0 (zz zm R++zz zm [gt l i])) (qk 0 (zz zm (R++ [gt l i]))),.w (room (zq (zz zm (R++ [gt l i]))) (72:Nat)),.i zd ((i:Int)+1) ((↑(i+1):Int)),.a _ _] ⟨o_l (Aae rfl Aah),o_l (Aag rfl rfl),o_w (by (simp [room,appendMax];omega)),oI,o_a ih1,trivial⟩ ?_
    exact ge
   |cons x X=>
    rw [hX] at hG hx hGl
    have hx1:=hx x (List.mem_cons_self ..)
    have h1:P.length<G.length:=by rw [hG];simp
    have h2:gt G P.length=x:=by rw [hG];simp [gt]
    have h3:G.length≤1000000:=by rw [hG];simp only [List.length_append];omega
    have h4: ¬gt G P.length=(i:Int):=by rw [h2];omega
    clear hG hx hX h2 hGl
    refine qq ?_
    refine gg [.n (zq (zz zm l)) (zq l),.b (decide ((i:Int)<(↑(zq l):Int))) true,.n (zq (zz ti G)) (zq G),.b (decide ((↑(zq P):Int)<(↑(zq G):Int))) true,.tt,.tt,.w (0≤(↑(zq P):Int)),.n (zy (↑(zq P):Int)) (zq P),.w (zq P<zq (zz ti G)),.tt,.g (zz ti G) (zq P) (ti (gt G (zq P))),.tt,.tt,.tt,.b (gt G (zq P)==(i:Int)) false,.w (0≤(i:Int))] ⟨o_n (by simp),tP,o_n (by simp),tP,oW,nK,o_w (by (simp;omega)),o_gt rfl (by assumption) (by intro h;cases h),f_bre (by assumption),oW,trivial⟩ ?_
    refine gg [.n (zy (i:Int)) i,.w (i<zq (zz zm l)),.g (zz zm l) i (zm (gt l i)),.w ((0:Nat)<(72:Nat)),.t (qk 0 [zm (gt l i)]) (qk 0 (zz zm [gt l i])),.t (qk 0 (zz zm R++zz zm [gt l i])) (qk 0 (zz zm (R++ [gt l i]))),.w (room (zq (zz zm (R++ [gt l i]))) (72:Nat)),.i zd ((i:Int)+1) ((↑(i+1):Int)),.a _ _] ⟨nK,o_w (by (simp;omega)),o_gt rfl (by assumption) (by intro h;cases h),oW,o_l (Aae rfl Aah),o_l (Aag rfl rfl),o_w (by (simp [room,appendMax];omega)),oI,o_a ih1,trivial⟩ ?_
    exact ge
theorem Adp (l:List Entity) (hn:small l):Is cx (.call 177 [.t (.sl 9 (l.map zm)),vi 2,vi 24] []) ⟨.ret,[.all 0 none],[.arr 9 ((meetL 2 24 otherS turnS l).map zm) none false]⟩:=by
 have h:=AbG l.length 0 l [] (by omega) (by simp) hn
 have e:= @Akn 2 24 otherS turnS l.length 0 l (zj l.length false) (by simp) (fun b hb=>by simp at hb;exact hb.2)
 rw [show idxs (zj l.length false) 0= [] from Ag7 fun b hb=>by simp at hb;exact hb.2] at e
 rw [e] at h
 simp only at h
 obtain ⟨k1,k2⟩:= @AhT 2 24 otherS turnS l.length 0 l (zj l.length false)
 rw [List.length_replicate] at k1
 unfold meetL
 clear e
 generalize meetN 2 24 otherS turnS l.length 0 l (zj l.length false)=M at*
 obtain ⟨A,g⟩:=M
 simp only at k1 k2 h⊢
 have hA:small A:=by unfold small at*;omega
 have h2:=AaK A g (idxs g 0) (by omega) hA A.length 0 [] [] (by omega) (by simp) (by simp) rfl
 rw [List.drop_zero,List.drop_zero,List.nil_append] at h2
 unfold small at hA
 refine qq ?_
 refine gg [.w ((0:Nat)<(72:Nat)),.s (qk 0 (zz zm l)),.s (qk 0 (zz zm l)),.w (room (zq (zz zm l)) (72:Nat)),.a _ _,.a _ _] ⟨oW,o_w (by (simp [room,appendMax];omega)),o_a h,o_a h2,trivial⟩ ?_
 exact ge
theorem Afy (l:List Entity) (hn:small l):Is cx (.call 141 [.t (.sl 9 (l.map zm))] []) ⟨.ret,[.all 0 none],[.arr 9 ((meetL 2 24 otherS turnS l).map zm) none false]⟩:=by
 have h:=Adp l hn
 refine qq ?_
 refine gg [.a _ _] ⟨o_a h,trivial⟩ ?_
 exact ge
theorem Ado (l:List Entity) (hn:small l):Is cx (.call 177 [.t (.sl 9 (l.map zm)),vi 3,vi 32] []) ⟨.ret,[.all 0 none],[.arr 9 ((meetL 3 32 otherG turnG l).map zm) none false]⟩:=by
 have h:=AbF l.length 0 l [] (by omega) (by simp) hn
 have e:= @Akn 3 32 otherG turnG l.length 0 l (zj l.length false) (by simp) (fun b hb=>by simp at hb;exact hb.2)
 rw [show idxs (zj l.length false) 0= [] from Ag7 fun b hb=>by simp at hb;exact hb.2] at e
 rw [e] at h
 simp only at h
 obtain ⟨k1,k2⟩:= @AhT 3 32 otherG turnG l.length 0 l (zj l.length false)
 rw [List.length_replicate] at k1
 unfold meetL
 clear e
 generalize meetN 3 32 otherG turnG l.length 0 l (zj l.length false)=M at*
 obtain ⟨A,g⟩:=M
 simp only at k1 k2 h⊢
 have hA:small A:=by unfold small at*;omega
 have h2:=AaK A g (idxs g 0) (by omega) hA A.length 0 [] [] (by omega) (by simp) (by simp) rfl
 rw [List.drop_zero,List.drop_zero,List.nil_append] at h2
 unfold small at hA
 refine qq ?_
 refine gg [.w ((0:Nat)<(72:Nat)),.s (qk 0 (zz zm l)),.s (qk 0 (zz zm l)),.w (room (zq (zz zm l)) (72:Nat)),.a _ _,.a _ _] ⟨oW,o_w (by (simp [room,appendMax];omega)),o_a h,o_a h2,trivial⟩ ?_
 exact ge
theorem AfR (l:List Entity) (hn:small l):Is cx (.call 140 [.t (.sl 9 (l.map zm))] []) ⟨.ret,[.all 0 none],[.arr 9 ((meetL 3 32 otherG turnG l).map zm) none false]⟩:=by
 have h:=Ado l hn
 refine qq ?_
 refine gg [.a _ _] ⟨o_a h,trivial⟩ ?_
 exact ge
end Go.Eva.S4
namespace Go.Eva
theorem Aml: ∀ {a b:List Entity},Srt a→Srt b→(∀x,x∈a↔x∈b)→a=b
 | [],[],_,_,_=>rfl
 | [],y::b,_,_,h=>absurd ((h y).2 (List.mem_cons_self ..)) (by simp)
 |x::a,[],_,_,h=>absurd ((h x).1 (List.mem_cons_self ..)) (by simp)
 |x::a,y::b,ha,hb,h=>by
  obtain ⟨a1,a2⟩:=List.pairwise_cons.1 ha
  obtain ⟨b1,b2⟩:=List.pairwise_cons.1 hb
  have hx:=(h x).1 (List.mem_cons_self ..)
  have hy:=(h y).2 (List.mem_cons_self ..)
  have e:x=y:=by
   rcases List.mem_cons.1 hx with hx|hx
   ·exact hx
   ·rcases List.mem_cons.1 hy with hy|hy
    ·exact hy.symm
    ·have:=b1 x hx;have:=a1 y hy;omega
  subst e
  congr 1
  refine Aml a2 b2 fun z=>⟨fun hz=> ?_,fun hz=> ?_⟩
  ·rcases List.mem_cons.1 ((h z).1 (List.mem_cons_of_mem _ hz)) with k|k
   ·have:=a1 z hz;rw [k] at this;omega
   ·exact k
  ·rcases List.mem_cons.1 ((h z).2 (List.mem_cons_of_mem _ hz)) with k|k
   ·have:=b1 z hz;rw [k] at this;omega
   ·exact k
theorem AkB {l m:List Entity} (h:l.map Entity.id=m.map Entity.id) {id:Int}:(l.findIdx? fun x=>x.id==id)=m.findIdx? fun x=>x.id==id:=by
 have e: ∀l:List Entity,(l.findIdx? fun x=>x.id==id)=(l.map Entity.id).findIdx? fun x=>x==id:=fun l=>by rw [List.findIdx?_map];rfl
 rw [e,e,h]
theorem AmG {l:List Entity} {e:Entity} (h:(l.findIdx? fun x=>x.id==e.id)=none):e∈put1 l e:=by
 unfold put1
 rw [h]
 exact Ahb.2 (.inl rfl)
theorem All {l:List Entity} {p e sh:Entity} (hs:Srt l) (hp:p∈l) (he:e.id=p.id) (hne:sh.id≠p.id):put1 (setId l p.id e) sh=setId (put1 l sh) p.id e:=by
 have hids:(setId l p.id e).map Entity.id=l.map Entity.id:=by rw [←he];exact AgK ⟨p,hp,he.symm⟩
 have hs1:=Ad8 hs hp he
 have hat:=AkK (e:=e) hs hp
 cases hq:l.findIdx? fun x=>x.id==sh.id with
 |some k=>
  unfold put1
  rw [AkB hids,hq]
 |none=>
  have hq1:((setId l p.id e).findIdx? fun x=>x.id==sh.id)=none:=by rw [AkB hids,hq]
  have hp2:=AbW (e:=sh) p hp
  have hs2:=Ad8 (Aa7 (e:=sh) hs) hp2 he
  have hat2:=AkK (e:=e) (Aa7 (e:=sh) hs) hp2
  refine Aml (Aa7 hs1) hs2 fun x=>⟨fun h=> ?_,fun h=> ?_⟩
  ·rcases AaR h with rfl|h
   ·exact Abi (Aa7 hs) hp2 (AmG hq) hne
   ·by_cases hx:x.id=p.id
    ·rw [Ag5 hs1 h hat (by omega)];exact hat2
    ·rcases AdQ h with rfl|h
     ·exact hat2
     ·exact Abi (Aa7 hs) hp2 (AbW x h) hx
  ·by_cases hx:x.id=p.id
   ·rw [Ag5 hs2 h hat2 (by omega)];exact AbW e hat
   ·rcases AdQ h with rfl|h
    ·exact absurd he hx
    ·rcases AaR h with rfl|h
     ·exact AmG hq1
     ·exact AbW x (Abi hs hp h hx)
theorem Ajn {c:Config} {x y:Int} (h:c.inside x y=true):(0≤x∧x≤c.width-1)∧(0≤y∧y≤c.height-1):=by
 simp only [Config.inside,Bool.and_eq_true,Aad] at h
 exact h
theorem AgE {c:Config} {e:Entity} (h:e.right c=true):c.right=true∧c.width=c.cols*1024∧c.height=c.rows*1024:=by
 have hi:c.inside e.x e.y=true:=by simp only [z9,Bool.and_eq_true] at h;exact h.1
 have hr:=Config.inside_right hi
 exact ⟨hr,by unfold Config.width;rw [if_pos hr],by unfold Config.height;rw [if_pos hr]⟩
theorem AhC {c:Config} {e:Entity} (h:e.right c=true):(0≤e.x∧e.x≤c.width-1)∧(0≤e.y∧e.y≤c.height-1)∧(-160≤e.vx∧e.vx≤160)∧(-160≤e.vy∧e.vy≤160):=by
 simp only [z9,Bool.and_eq_true] at h
 obtain ⟨h0,h⟩:=h
 obtain ⟨i1,i2⟩:=Ajn h0
 refine ⟨i1,i2,?_⟩
 split at h
 ·simp only [Bool.and_eq_true,Aad] at h
  omega
 ·split at h
  ·simp only [pace,Bool.and_eq_true,Bool.or_eq_true,decide_eq_true_eq,Aad] at h
   omega
  ·split at h
   ·simp only [Bool.and_eq_true,decide_eq_true_eq,Aad] at h
    omega
   ·simp at h
theorem AnU {c:Config} {e:Entity} (h:e.right c=true) (h1:e.kind≠1) (h2:e.kind≠2):goE c e=(e,true):=by
 obtain ⟨b1,b2,_,_⟩:=AhC h
 have k1:= @Config.width_le c
 have k2:= @Config.height_le c
 have hv:e.vx=0∧e.vy=0:=by
  simp only [z9,h1,h2,if_false,Bool.and_eq_true] at h
  obtain ⟨_,h⟩:=h
  split at h
  ·simp only [Bool.and_eq_true,decide_eq_true_eq] at h
   omega
  ·simp at h
 have ax:sumH [e.x,e.vx]=e.x:=by rw [Af7 (by omega) (by omega)];omega
 have ay:sumH [e.y,e.vy]=e.y:=by rw [Af7 (by omega) (by omega)];omega
 unfold goE
 rw [if_neg (by simp [h]),if_neg h2,ax,ay,AdT b1,AdT b2]
section
variable (c:Config) (r f:Int) (ins:List Input)
def refP (s:Stg) (p:Entity) (i:Input):Stg:=
 if (steerE p i).2=true then
  (if s.room=true then {s with l:=put1 (setId s.l p.id (steerE p i).1) (shootE (steerE p i).1 i (numI c r f s.made)),made:=s.made+1}
   else {s with l:=setId s.l p.id {(steerE p i).1 with age:=0}})
 else {s with l:=setId s.l p.id (steerE p i).1}
end
theorem Alm {c:Config} {r f:Int} {ins:List Input} {s:Stg} {p:Entity} (hs:Steer c r s) (hr:c.is r=true) (hf:0≤f∧f<10000) (hp:p∈s.l) (hk:p.kind=1):refP c r f s p (inAt ins p.id)=steer1 c r f ins s p:=by
 unfold refP steer1
 rw [if_neg (show¬p.kind≠1 from fun h=>h hk)]
 split
 ·split
  ·have hpr:=Entity.right_player (hs.sane.ents p hp).1 hk
   have hc:=Config.right_iff.1 (Config.is_right hr)
   have hn:=AlB (made:=s.made) (Config.is_le hr) hf hs.made
   rw [All hs.sane.srt hp AcF.1 (by show numI c r f s.made≠p.id;omega)]
  ·rfl
 ·rfl
def plE1 (l:List Entity):List Entity:=l.filter fun e=>decide (e.kind=1)
theorem AjN {c:Config} {r f:Int} {ins:List Input}: ∀ {R:List Entity} {s:Stg},R.foldl (steer1 c r f ins) s=(plE1 R).foldl (steer1 c r f ins) s:=by
 intro R
 induction R with
 |nil=>intro s;rfl
 |cons p R ih=>
  intro s
  unfold plE1 at*
  rw [List.foldl_cons,List.filter_cons]
  split
  ·rw [List.foldl_cons];exact ih
  ·rename_i h
   rw [show steer1 c r f ins s p=s by unfold steer1;rw [if_pos (by simpa using h)]]
   exact ih
end Go.Eva
namespace Go.Eva.S4
theorem AcC (v:Int):Fn cx 174 [ti v] (ti (clamp v (-1) 1)):=by
 by_cases h1:v<0
 ·have e:clamp v (-1) 1= -1:=by unfold clamp;split<;>(try split)<;>omega
  rw [e]
  refine qq ?_
  refine gg [.b (decide (v<0)) true] ⟨t_brp (by assumption),trivial⟩ ?_
  exact ge
 ·by_cases h2:v>0
  ·have e:clamp v (-1) 1=1:=by unfold clamp;split<;>(try split)<;>omega
   rw [e]
   refine qq ?_
   refine gg [.b (decide (v<0)) false,.b (decide (v>0)) true] ⟨f_brp (by assumption),t_brp (by assumption),trivial⟩ ?_
   exact ge
  ·have e:clamp v (-1) 1=0:=by unfold clamp;split<;>(try split)<;>omega
   rw [e]
   refine qq ?_
   refine gg [.b (decide (v<0)) false,.b (decide (v>0)) false] ⟨f_brp (by assumption),f_brp (by assumption),trivial⟩ ?_
   exact ge
theorem Aft (e:Entity) (i:Input) (id:Int):Fn cx 136 [e.enc,i.enc,ti id] ((shootE e i id).enc):=by
 have h1:=AcC i.dx
 have h2:=AcC i.dy
 have k1:=AeG i.dx
 have k2:=AeG i.dy
 unfold shootE paceD
 generalize clamp i.dx (-1) 1=a at*
 generalize clamp i.dy (-1) 1=b at*
 by_cases h:a*160=0∧b*160=0
 ·rw [if_pos h]
  obtain ⟨q1,q2⟩:=h
  refine qq ?_
  refine bO ?_ ?_
  ·refine gg [.a _ _,.i zd (a*160) 0] ⟨o_a h1,oI,trivial⟩ ?_
   refine bO ?_ ?_
   all_goals
    refine gg [.a _ _,.i zd (b*160) 0,.b (0==0) true,.tt,.tt,.tt,.b (0==0) true] ⟨o_a h2,oI,bK,bK,trivial⟩ ?_
    refine rT (a:=qz qj [V.t (T.agg [ti id,ti 2,ti e.x,ti e.y,ti 160,ti 0,ti 1,ti 0,ti e.id])] []) ?_
    (simp [zm,q1,q2])
  ·refine gg [.a _ _,.i zd (a*160) 0,.a _ _,.i zd (b*160) 0,.b (0==0) true,.tt,.tt,.tt,.b (0==0) true] ⟨o_a h1,oI,o_a h2,oI,bK,bK,trivial⟩ ?_
   refine rT (a:=qz qj [V.t (T.agg [ti id,ti 2,ti e.x,ti e.y,ti 160,ti 0,ti 1,ti 0,ti e.id])] []) ?_
   (simp [zm,q1,q2])
 ·rw [if_neg h]
  by_cases q1:a*160=0
  ·have q2: ¬b*160=0:=fun q=>h ⟨q1,q⟩
   clear h
   refine qq ?_
   refine bO ?_ ?_
   ·refine gg [.a _ _,.i zd (a*160) 0] ⟨o_a h1,oI,trivial⟩ ?_
    refine bO ?_ ?_
    all_goals
     refine gg [.a _ _,.i zd (b*160) (b*160),.b (0==0) true,.tt,.tt,.tt,.b (b*160==0) false] ⟨o_a h2,oI,bK,f_bre (by assumption),trivial⟩ ?_
     refine rT (a:=qz qj [V.t (T.agg [ti id,ti 2,ti e.x,ti e.y,ti 0,ti (b*160),ti 1,ti 0,ti e.id])] []) ?_
     (simp [zm,q1])
   ·refine gg [.a _ _,.i zd (a*160) 0,.a _ _,.i zd (b*160) (b*160),.b (0==0) true,.tt,.tt,.tt,.b (b*160==0) false] ⟨o_a h1,oI,o_a h2,oI,bK,f_bre (by assumption),trivial⟩ ?_
    refine rT (a:=qz qj [V.t (T.agg [ti id,ti 2,ti e.x,ti e.y,ti 0,ti (b*160),ti 1,ti 0,ti e.id])] []) ?_
    (simp [zm,q1])
  ·clear h
   refine qq ?_
   refine bO ?_ ?_
   ·refine gg [.a _ _,.i zd (a*160) (a*160)] ⟨o_a h1,oI,trivial⟩ ?_
    refine bO ?_ ?_
    all_goals
     refine gg [.a _ _,.i zd (b*160) (b*160),.b (a*160==0) false,.ff,.ff,.ff,.ff] ⟨o_a h2,oI,f_bre (by assumption),trivial⟩ ?_
     exact ge
   ·refine gg [.a _ _,.i zd (a*160) (a*160),.a _ _,.i zd (b*160) (b*160),.b (a*160==0) false,.ff,.ff,.ff,.ff] ⟨o_a h1,oI,o_a h2,oI,f_bre (by assumption),trivial⟩ ?_
    exact ge
theorem AgT (c:Config) (e:Entity) (he: -1000000≤e.age∧e.age≤1000000):Is cx (.call 138 [.t c.enc,.t e.enc] []) ⟨.ret,[.t (goE c e).1.enc,vb (goE c e).2],[]⟩:=by
 have hR:=AaZ c e
 cases hr:e.right c with
 |false=>
  rw [hr] at hR
  have e1:goE c e=(Entity.zero,false):=by simp [goE,hr]
  rw [e1]
  refine qq ?_
  refine gg [.a _ _,.b (!false) true] ⟨o_a hR,bK,trivial⟩ ?_
  exact ge
 |true=>
  rw [hr] at hR
  obtain ⟨b1,b2,b3,b4⟩:=AhC hr
  have h1:= @Config.width_le c
  have h2:= @Config.height_le c
  have ew:c.width=c.cols*1024:=(AgE hr).2.1
  have eh:c.height=c.rows*1024:=(AgE hr).2.2
  have ax:sumH [e.x,e.vx]=e.x+e.vx:=Af7 (by omega) (by omega)
  have ay:sumH [e.y,e.vy]=e.y+e.vy:=Af7 (by omega) (by omega)
  have hI:=AaO c (e.x+e.vx) (e.y+e.vy)
  have c1:=AaG (e.x+e.vx) 0 (c.width-1)
  have c2:=AaG (e.y+e.vy) 0 (c.height-1)
  by_cases hk:e.kind=2
  ·by_cases ha:e.age+1>12
   ·have e1:goE c e=(Entity.zero,false):=by simp [goE,hr,hk,ha]
    rw [e1]
    refine qq ?_
    refine gg [.a _ _,.b (!true) false,.b (e.kind==1) false,.b (e.kind==2) true,.i zd (e.x+e.vx) (e.x+e.vx),.i zd (e.y+e.vy) (e.y+e.vy),.i zd (e.age+1) (e.age+1),.b (decide (e.age+1>12)) true,.tt,.tt,.tt,.tt,.tt,.tt,.tt,.tt] ⟨o_a hR,bK,fE,t_bre (by assumption),oI,oI,oI,t_brp (by assumption),trivial⟩ ?_
    exact ge
   ·cases hi:c.inside (e.x+e.vx) (e.y+e.vy) with
    |true=>
     rw [hi] at hI
     have e1:goE c e=({e with x:=e.x+e.vx,y:=e.y+e.vy,age:=e.age+1},true):=by
      obtain ⟨i1,i2⟩:=Ajn hi
      simp [goE,hr,hk,ha,ax,ay,hi,AdT i1,AdT i2]
     rw [e1]
     refine qq ?_
     refine gg [.a _ _,.b (!true) false,.b (e.kind==1) false,.b (e.kind==2) true,.i zd (e.x+e.vx) (e.x+e.vx),.i zd (e.y+e.vy) (e.y+e.vy),.i zd (e.age+1) (e.age+1),.b (decide (e.age+1>12)) false,.ff,.ff,.ff,.ff,.ff,.a _ _,.ff,.ff] ⟨o_a hR,bK,fE,t_bre (by assumption),oI,oI,oI,f_brp (by assumption),o_a hI,trivial⟩ ?_
     refine gg [.b (!true) false] ⟨bK,trivial⟩ ?_
     exact ge
    |false=>
     rw [hi] at hI
     have e1:goE c e=(Entity.zero,false):=by simp [goE,hr,hk,ax,ay,hi]
     rw [e1]
     refine qq ?_
     refine gg [.a _ _,.b (!true) false,.b (e.kind==1) false,.b (e.kind==2) true,.i zd (e.x+e.vx) (e.x+e.vx),.i zd (e.y+e.vy) (e.y+e.vy),.i zd (e.age+1) (e.age+1),.b (decide (e.age+1>12)) false,.ff,.ff,.ff,.ff,.ff,.a _ _,.ff,.ff] ⟨o_a hR,bK,fE,t_bre (by assumption),oI,oI,oI,f_brp (by assumption),o_a hI,trivial⟩ ?_
     refine gg [.b (!false) true] ⟨bK,trivial⟩ ?_
     exact ge
  ·by_cases hp:e.kind=1
   ·have e1:goE c e=({e with x:=clamp (e.x+e.vx) 0 (c.width-1),y:=clamp (e.y+e.vy) 0 (c.height-1)},true):=by simp [goE,hr,hk,ax,ay]
    rw [e1]
    rw [ew] at c1⊢
    rw [eh] at c2⊢
    refine qq ?_
    refine gg [.a _ _,.b (!true) false,.b (e.kind==1) true,.i zd (e.x+e.vx) (e.x+e.vx),.i zd (c.cols*1024) (c.cols*1024),.i zd (c.cols*1024-1) (c.cols*1024-1),.i zd (e.y+e.vy) (e.y+e.vy),.i zd (c.rows*1024) (c.rows*1024),.i zd (c.rows*1024-1) (c.rows*1024-1),.a _ _,.a _ _] ⟨o_a hR,bK,t_bre (by assumption),oI,oI,oI,oI,oI,oI,o_a c1,o_a c2,trivial⟩ ?_
    exact ge
   ·have e1:goE c e=(e,true):=AnU hr hp hk
    rw [e1]
    refine qq ?_
    refine gg [.a _ _,.b (!true) false,.b (e.kind==1) false,.b (e.kind==2) false] ⟨o_a hR,bK,f_bre (by assumption),f_bre (by assumption),trivial⟩ ?_
    exact ge
end Go.Eva.S4
namespace Go.Eva.S4
abbrev mkT (c:Config) (r f:Int) (l:List Entity) (made:Int):T:= .agg [ti c.cols,ti c.rows,ti c.players,ti c.window,.int .u64 c.seed,ti r,ti f,.sl 9 (l.map zm),ti made]
abbrev mkV (c:Config) (r f made:Int) (lv:V):V:= .agg [vi c.cols,vi c.rows,vi c.players,vi c.window,.t (.int .u64 c.seed),vi r,vi f,lv,vi made]
theorem AcA (c:Config) (r f:Int) (s:Stg) (hn:small s.l):Fn cx 135 [.ip 9 (mkT c r f s.l s.made) 0] (.bool s.room):=by
 have h:=AaM s.l hn
 unfold Stg.room
 obtain ⟨l,made,out⟩:=s
 simp only at h⊢
 generalize things l=n at*
 by_cases h1:made<8
 ·refine qq ?_
  refine gg [.b (decide (made<8)) true,.tt,.tt,.tt,.tt,.a _ _,.tt,.tt] ⟨t_brp (by assumption),o_a h,trivial⟩ ?_
  refine rT (a:=qz qj [vb (decide (n<24))] []) ?_
  simp [h1]
 ·refine qq ?_
  refine gg [.b (decide (made<8)) false,.ff,.ff,.ff,.ff,.ff,.ff] ⟨f_brp (by assumption),trivial⟩ ?_
  refine rT (a:=qz qj [vb false] []) ?_
  simp [h1]
theorem Ac6 (c:Config) (r f made:Int) (l:List Entity) (hr:0≤r∧r≤16) (hf:0≤f∧f≤10000) (hm:0≤made∧made≤1000):
  Is cx (.call 137 [.ptr 0 0 0] [.one 9 (mkV c r f made (.all 1 none)) false,.arr 9 (l.map zm) none false])
   ⟨.ret,[vi (numI c r f made)],[.one 9 (mkV c r f (made+1) (.all 1 none)) false,.arr 9 (l.map zm) none false]⟩:=by
 have h:=Aan c
 have hl:= @Config.regions_le c
 have e:numI c r f made=1000+(f*c.regions+r)*8+made:=by unfold numI;omega
 rw [e]
 generalize c.regions=g at*
 have h1:0≤f*g∧f*g≤160000:=⟨Int.mul_nonneg hf.1 hl.1,Int.le_trans (Int.mul_le_mul hf.2 hl.2 hl.1 (by omega)) (by omega)⟩
 refine qq ?_
 refine gg [.a _ _,.i zd (f*g) (f*g),.i zd (f*g+r) (f*g+r),.i zd ((f*g+r)*8) ((f*g+r)*8),.i zd (1000+(f*g+r)*8) (1000+(f*g+r)*8),.i zd (1000+(f*g+r)*8+made) (1000+(f*g+r)*8+made),.i zd (made+1) (made+1)] ⟨o_a h,oI,oI,oI,oI,oI,oI,trivial⟩ ?_
 exact ge
theorem AbX (c:Config) (r f x y o made:Int) (l:List Entity):Is cx (.call 143 [.t (.ip 9 (mkT c r f l made) 0),vi x,vi y,vi o] []) ⟨.ret,[vi (placeX c r f x o),vi (placeY c r f y o)],[]⟩:=by
 have h0:=AbQ c r
 have h1:=Aba 1024 c.seed [x,f,o] (by decide) (by simp [small])
 have h2:=Aba 1024 c.seed [y,f,o] (by decide) (by simp [small])
 have b1:=AbT (n:=1024) (seed:=c.seed) (l:= [x,f,o]) (by decide)
 have b2:=AbT (n:=1024) (seed:=c.seed) (l:= [y,f,o]) (by decide)
 have b3:= @Aff c r
 unfold placeX placeY
 generalize below 1024 c.seed [x,f,o]=v1 at*
 generalize below 1024 c.seed [y,f,o]=v2 at*
 generalize c.cornerX r=v3 at*
 generalize c.cornerY r=v4 at*
 refine qq ?_
 refine gg [.a _ _] ⟨o_a h0,trivial⟩ ?_
 refine bO (bO ?_ ?_) ?_
 all_goals
  refine gg [.a _ _,.i zd (v3+v1) (v3+v1),.a _ _,.i zd (v4+v2) (v4+v2)] ⟨o_a h1,oI,o_a h2,oI,trivial⟩ ?_
  exact ge
end Go.Eva.S4
namespace Go.Eva.S4
theorem Ajb (c:Config) (r f made made2:Int) (ins:List Input) (box:T) (P:List Int) (i k j:Nat) (A A2:List Entity) (E:Entity) (hP:P.length≤1000) (hlt:i<P.length) (hins:ins.length≤1000) (hAl:A.length≤1000) (hk2:k<A.length) (hj1:(gt P i-1).toNat=j) (hj2:j<ins.length) (hpp:1≤gt P i∧gt P i≤1000) (hF:Fn cx 100 [.sl 9 (A.map zm),ti (gt P i)] (ti (k:Int))) (hS:Is cx (.call 134 [.t (gt A k).enc,.t (gt ins (gt P i-1).toNat).enc] []) ⟨.ret,[.t E.enc,vb false],[]⟩) (hrm:Fn cx 135 [.ip 9 (mkT c r f A made) 0] (.bool true))
  (ih1:Is cx (.loop 80 [0,1,0,1,1,1,1,1] 0 [vi r,.t (.sl 3 (ins.map zr)),.t box,.ptr 0 0 0,.ptr 1 0 0,.ptr 2 0 0,.t (.sl 1 (P.map ti)),vi ((i+1:Nat))] [.one 5 (.t c.enc) false,.one 2 (.agg [vi 0,.fit 9 []]) false,.one 9 (mkV c r f (made) (.all 3 none)) false,.arr 9 ((A.set k E).map zm) none false])
   ⟨.exit 0,[vi r,.t (.sl 3 (ins.map zr)),.t box,.ptr 0 0 0,.ptr 1 0 0,.ptr 2 0 0,.t (.sl 1 (P.map ti)),vi P.length],[.one 5 (.t c.enc) false,.one 2 (.agg [vi 0,.fit 9 []]) false,.one 9 (mkV c r f (made2) (.all 3 none)) false,.arr 9 ((A2).map zm) none false]⟩):Is cx (.loop 80 [0,1,0,1,1,1,1,1] 0 [vi r,.t (.sl 3 (ins.map zr)),.t box,.ptr 0 0 0,.ptr 1 0 0,.ptr 2 0 0,.t (.sl 1 (P.map ti)),vi (i)] [.one 5 (.t c.enc) false,.one 2 (.agg [vi 0,.fit 9 []]) false,.one 9 (mkV c r f (made) (.all 3 none)) false,.arr 9 ((A).map zm) none false])
   ⟨.exit 0,[vi r,.t (.sl 3 (ins.map zr)),.t box,.ptr 0 0 0,.ptr 1 0 0,.ptr 2 0 0,.t (.sl 1 (P.map ti)),vi P.length],[.one 5 (.t c.enc) false,.one 2 (.agg [vi 0,.fit 9 []]) false,.one 9 (mkV c r f (made2) (.all 3 none)) false,.arr 9 ((A2).map zm) none false]⟩:=by
 refine qq ?_
 refine gg [.n (zq (zz ti P)) (zq P),.b (decide ((i:Int)<(↑(zq P):Int))) true,.w (0≤(i:Int)),.n (zy (i:Int)) i,.g (zz ti P) i (ti (gt P i)),.a _ _,.b (flats [ti (k:Int)]) true,.w (0≤(i:Int)),.n (zy (i:Int)) i,.g (zz ti P) i (ti (gt P i)),.w (0≤(k:Int)),.n (zy (k:Int)) k,.w (k<zq (zz zm A)),.g (zz zm A) k (zm (gt A k)),.i zd (gt P i-1) (gt P i-1),.w (0≤gt P i-(1:Int))] ⟨o_n (by simp),tP,oW,nK,o_gt rfl (by assumption) (by intro h;cases h),o_a hF,bK,oW,nK,o_gt rfl (by assumption) (by intro h;cases h),oW,nK,o_w (by (simp;omega)),o_gt rfl (by assumption) (by intro h;cases h),oI,oW,trivial⟩ ?_
 refine gg [.l (zy (gt P i-1)),.g (zz zr ins) (zy (gt P i-1)) (zr (gt ins (zy (gt P i-1))))] ⟨oT,trivial⟩ ?_
 refine bO ?_ ?_
 all_goals
  refine gg [.a _ _,.a _ _,.b (flats [T.bool true]) true,.ff,.ff,.ff,.ff,.w (0≤(k:Int)),.n (zy (k:Int)) k,.w (k<zq (zz zm A)),.w (k<zq (zz zm A)),.t (qk 0 (zx (zz zm A) k (zm E))) (qk 0 (zz zm (zx A k E))),.ff,.ff,.ff,.i zd ((i:Int)+1) ((↑(i+1):Int))] ⟨o_a hS,o_a hrm,bK,oW,nK,o_w (by (simp;omega)),o_w (by (simp;omega)),o_l (Aam rfl rfl),oI,trivial⟩ ?_
  refine gg [.a _ _] ⟨o_a ih1,trivial⟩ ?_
  exact ge
theorem AiW (c:Config) (r f made made2:Int) (ins:List Input) (box:T) (P:List Int) (i k j:Nat) (A A2:List Entity) (E:Entity) (hP:P.length≤1000) (hlt:i<P.length) (hins:ins.length≤1000) (hAl:A.length≤1000) (hk2:k<A.length) (hj1:(gt P i-1).toNat=j) (hj2:j<ins.length) (hpp:1≤gt P i∧gt P i≤1000) (hF:Fn cx 100 [.sl 9 (A.map zm),ti (gt P i)] (ti (k:Int))) (hS:Is cx (.call 134 [.t (gt A k).enc,.t (gt ins (gt P i-1).toNat).enc] []) ⟨.ret,[.t E.enc,vb false],[]⟩) (hrm:Fn cx 135 [.ip 9 (mkT c r f A made) 0] (.bool false))
  (ih1:Is cx (.loop 80 [0,1,0,1,1,1,1,1] 0 [vi r,.t (.sl 3 (ins.map zr)),.t box,.ptr 0 0 0,.ptr 1 0 0,.ptr 2 0 0,.t (.sl 1 (P.map ti)),vi ((i+1:Nat))] [.one 5 (.t c.enc) false,.one 2 (.agg [vi 0,.fit 9 []]) false,.one 9 (mkV c r f (made) (.all 3 none)) false,.arr 9 ((A.set k E).map zm) none false])
   ⟨.exit 0,[vi r,.t (.sl 3 (ins.map zr)),.t box,.ptr 0 0 0,.ptr 1 0 0,.ptr 2 0 0,.t (.sl 1 (P.map ti)),vi P.length],[.one 5 (.t c.enc) false,.one 2 (.agg [vi 0,.fit 9 []]) false,.one 9 (mkV c r f (made2) (.all 3 none)) false,.arr 9 ((A2).map zm) none false]⟩):Is cx (.loop 80 [0,1,0,1,1,1,1,1] 0 [vi r,.t (.sl 3 (ins.map zr)),.t box,.ptr 0 0 0,.ptr 1 0 0,.ptr 2 0 0,.t (.sl 1 (P.map ti)),vi (i)] [.one 5 (.t c.enc) false,.one 2 (.agg [vi 0,.fit 9 []]) false,.one 9 (mkV c r f (made) (.all 3 none)) false,.arr 9 ((A).map zm) none false])
   ⟨.exit 0,[vi r,.t (.sl 3 (ins.map zr)),.t box,.ptr 0 0 0,.ptr 1 0 0,.ptr 2 0 0,.t (.sl 1 (P.map ti)),vi P.length],[.one 5 (.t c.enc) false,.one 2 (.agg [vi 0,.fit 9 []]) false,.one 9 (mkV c r f (made2) (.all 3 none)) false,.arr 9 ((A2).map zm) none false]⟩:=by
 refine qq ?_
 refine gg [.n (zq (zz ti P)) (zq P),.b (decide ((i:Int)<(↑(zq P):Int))) true,.w (0≤(i:Int)),.n (zy (i:Int)) i,.g (zz ti P) i (ti (gt P i)),.a _ _,.b (flats [ti (k:Int)]) true,.w (0≤(i:Int)),.n (zy (i:Int)) i,.g (zz ti P) i (ti (gt P i)),.w (0≤(k:Int)),.n (zy (k:Int)) k,.w (k<zq (zz zm A)),.g (zz zm A) k (zm (gt A k)),.i zd (gt P i-1) (gt P i-1),.w (0≤gt P i-(1:Int))] ⟨o_n (by simp),tP,oW,nK,o_gt rfl (by assumption) (by intro h;cases h),o_a hF,bK,oW,nK,o_gt rfl (by assumption) (by intro h;cases h),oW,nK,o_w (by (simp;omega)),o_gt rfl (by assumption) (by intro h;cases h),oI,oW,trivial⟩ ?_
 refine gg [.l (zy (gt P i-1)),.g (zz zr ins) (zy (gt P i-1)) (zr (gt ins (zy (gt P i-1))))] ⟨oT,trivial⟩ ?_
 refine bO ?_ ?_
 all_goals
  refine gg [.a _ _,.a _ _,.b (flats [T.bool false]) true,.ff,.ff,.ff,.ff,.w (0≤(k:Int)),.n (zy (k:Int)) k,.w (k<zq (zz zm A)),.w (k<zq (zz zm A)),.t (qk 0 (zx (zz zm A) k (zm E))) (qk 0 (zz zm (zx A k E))),.ff,.ff,.ff,.i zd ((i:Int)+1) ((↑(i+1):Int))] ⟨o_a hS,o_a hrm,bK,oW,nK,o_w (by (simp;omega)),o_w (by (simp;omega)),o_l (Aam rfl rfl),oI,trivial⟩ ?_
  refine gg [.a _ _] ⟨o_a ih1,trivial⟩ ?_
  exact ge
theorem AiQ (c:Config) (r f made made2:Int) (ins:List Input) (box:T) (P:List Int) (i k j:Nat) (A A2:List Entity) (E:Entity) (hP:P.length≤1000) (hlt:i<P.length) (hins:ins.length≤1000) (hAl:A.length≤1000) (hk2:k<A.length) (hj1:(gt P i-1).toNat=j) (hj2:j<ins.length) (hpp:1≤gt P i∧gt P i≤1000) (hF:Fn cx 100 [.sl 9 (A.map zm),ti (gt P i)] (ti (k:Int))) (hS:Is cx (.call 134 [.t (gt A k).enc,.t (gt ins (gt P i-1).toNat).enc] []) ⟨.ret,[.t E.enc,vb true],[]⟩) (hrm:Fn cx 135 [.ip 9 (mkT c r f A made) 0] (.bool false))
  (ih1:Is cx (.loop 80 [0,1,0,1,1,1,1,1] 0 [vi r,.t (.sl 3 (ins.map zr)),.t box,.ptr 0 0 0,.ptr 1 0 0,.ptr 2 0 0,.t (.sl 1 (P.map ti)),vi ((i+1:Nat))] [.one 5 (.t c.enc) false,.one 2 (.agg [vi 0,.fit 9 []]) false,.one 9 (mkV c r f (made) (.all 3 none)) false,.arr 9 ((A.set k {E with age:=0}).map zm) none false])
   ⟨.exit 0,[vi r,.t (.sl 3 (ins.map zr)),.t box,.ptr 0 0 0,.ptr 1 0 0,.ptr 2 0 0,.t (.sl 1 (P.map ti)),vi P.length],[.one 5 (.t c.enc) false,.one 2 (.agg [vi 0,.fit 9 []]) false,.one 9 (mkV c r f (made2) (.all 3 none)) false,.arr 9 ((A2).map zm) none false]⟩):Is cx (.loop 80 [0,1,0,1,1,1,1,1] 0 [vi r,.t (.sl 3 (ins.map zr)),.t box,.ptr 0 0 0,.ptr 1 0 0,.ptr 2 0 0,.t (.sl 1 (P.map ti)),vi (i)] [.one 5 (.t c.enc) false,.one 2 (.agg [vi 0,.fit 9 []]) false,.one 9 (mkV c r f (made) (.all 3 none)) false,.arr 9 ((A).map zm) none false])
   ⟨.exit 0,[vi r,.t (.sl 3 (ins.map zr)),.t box,.ptr 0 0 0,.ptr 1 0 0,.ptr 2 0 0,.t (.sl 1 (P.map ti)),vi P.length],[.one 5 (.t c.enc) false,.one 2 (.agg [vi 0,.fit 9 []]) false,.one 9 (mkV c r f (made2) (.all 3 none)) false,.arr 9 ((A2).map zm) none false]⟩:=by
 refine qq ?_
 refine gg [.n (zq (zz ti P)) (zq P),.b (decide ((i:Int)<(↑(zq P):Int))) true,.w (0≤(i:Int)),.n (zy (i:Int)) i,.g (zz ti P) i (ti (gt P i)),.a _ _,.b (flats [ti (k:Int)]) true,.w (0≤(i:Int)),.n (zy (i:Int)) i,.g (zz ti P) i (ti (gt P i)),.w (0≤(k:Int)),.n (zy (k:Int)) k,.w (k<zq (zz zm A)),.g (zz zm A) k (zm (gt A k)),.i zd (gt P i-1) (gt P i-1),.w (0≤gt P i-(1:Int))] ⟨o_n (by simp),tP,oW,nK,o_gt rfl (by assumption) (by intro h;cases h),o_a hF,bK,oW,nK,o_gt rfl (by assumption) (by intro h;cases h),oW,nK,o_w (by (simp;omega)),o_gt rfl (by assumption) (by intro h;cases h),oI,oW,trivial⟩ ?_
 refine gg [.l (zy (gt P i-1)),.g (zz zr ins) (zy (gt P i-1)) (zr (gt ins (zy (gt P i-1))))] ⟨oT,trivial⟩ ?_
 refine bO ?_ ?_
 all_goals
  refine gg [.a _ _,.a _ _,.b (flats [T.bool false]) true,.tt,.tt,.tt,.b (!false) true,.w (0≤(k:Int)),.n (zy (k:Int)) k,.w (k<zq (zz zm A)),.w (k<zq (zz zm A)),.t (qk 0 (zx (zz zm A) k (T.agg [ti E.id,ti E.kind,ti E.x,ti E.y,ti E.vx,ti E.vy,ti E.health,ti 0,ti E.owner]))) (qk 0 (zz zm (zx A k (qw E.id E.kind E.x E.y E.vx E.vy E.health 0 E.owner)))),.tt,.tt,.ff,.i zd ((i:Int)+1) ((↑(i+1):Int))] ⟨o_a hS,o_a hrm,bK,bK,oW,nK,o_w (by (simp;omega)),o_w (by (simp;omega)),o_l (Aam (e:=qw E.id E.kind E.x E.y E.vx E.vy E.health 0 E.owner) rfl rfl),oI,trivial⟩ ?_
  refine gg [.a _ _] ⟨o_a ih1,trivial⟩ ?_
  exact ge
theorem Ajy (c:Config) (r f made made2:Int) (ins:List Input) (box:T) (P:List Int) (i k j:Nat) (A A2:List Entity) (E:Entity) (hP:P.length≤1000) (hlt:i<P.length) (hins:ins.length≤1000) (hAl:A.length≤1000) (hk2:k<A.length) (hj1:(gt P i-1).toNat=j) (hj2:j<ins.length) (hpp:1≤gt P i∧gt P i≤1000) (hF:Fn cx 100 [.sl 9 (A.map zm),ti (gt P i)] (ti (k:Int))) (nn:Int) (sh:Entity) (hS:Is cx (.call 134 [.t (gt A k).enc,.t (gt ins (gt P i-1).toNat).enc] []) ⟨.ret,[.t E.enc,vb true],[]⟩) (hrm:Fn cx 135 [.ip 9 (mkT c r f A made) 0] (.bool true)) (hr:0≤r∧r≤16) (hf:0≤f∧f≤10000) (hm:0≤made∧made≤1000)
  (hnx:Is cx (.call 137 [.ptr 0 0 0] [.one 9 (mkV c r f made (.all 1 none)) false,.arr 9 ((A.set k E).map zm) none false]) ⟨.ret,[vi nn],[.one 9 (mkV c r f (made+1) (.all 1 none)) false,.arr 9 ((A.set k E).map zm) none false]⟩)
  (hsh:Fn cx 136 [E.enc,(gt ins (gt P i-1).toNat).enc,ti nn] sh.enc)
  (ih1:Is cx (.loop 80 [0,1,0,1,1,1,1,1] 0 [vi r,.t (.sl 3 (ins.map zr)),.t box,.ptr 0 0 0,.ptr 1 0 0,.ptr 2 0 0,.t (.sl 1 (P.map ti)),vi ((i+1:Nat))] [.one 5 (.t c.enc) false,.one 2 (.agg [vi 0,.fit 9 []]) false,.one 9 (mkV c r f (made+1) (.all 3 none)) false,.arr 9 ((put1 (A.set k E) sh).map zm) none false])
   ⟨.exit 0,[vi r,.t (.sl 3 (ins.map zr)),.t box,.ptr 0 0 0,.ptr 1 0 0,.ptr 2 0 0,.t (.sl 1 (P.map ti)),vi P.length],[.one 5 (.t c.enc) false,.one 2 (.agg [vi 0,.fit 9 []]) false,.one 9 (mkV c r f (made2) (.all 3 none)) false,.arr 9 ((A2).map zm) none false]⟩):Is cx (.loop 80 [0,1,0,1,1,1,1,1] 0 [vi r,.t (.sl 3 (ins.map zr)),.t box,.ptr 0 0 0,.ptr 1 0 0,.ptr 2 0 0,.t (.sl 1 (P.map ti)),vi (i)] [.one 5 (.t c.enc) false,.one 2 (.agg [vi 0,.fit 9 []]) false,.one 9 (mkV c r f (made) (.all 3 none)) false,.arr 9 ((A).map zm) none false])
   ⟨.exit 0,[vi r,.t (.sl 3 (ins.map zr)),.t box,.ptr 0 0 0,.ptr 1 0 0,.ptr 2 0 0,.t (.sl 1 (P.map ti)),vi P.length],[.one 5 (.t c.enc) false,.one 2 (.agg [vi 0,.fit 9 []]) false,.one 9 (mkV c r f (made2) (.all 3 none)) false,.arr 9 ((A2).map zm) none false]⟩:=by
 have hBl:(A.set k E).length=A.length:=by simp
 have hput:=Aa8 (A.set k E) sh (by unfold small;omega)
 generalize put1 (A.set k E) sh=B at*
 refine qq ?_
 refine gg [.n (zq (zz ti P)) (zq P),.b (decide ((i:Int)<(↑(zq P):Int))) true,.w (0≤(i:Int)),.n (zy (i:Int)) i,.g (zz ti P) i (ti (gt P i)),.a _ _,.b (flats [ti (k:Int)]) true,.w (0≤(i:Int)),.n (zy (i:Int)) i,.g (zz ti P) i (ti (gt P i)),.w (0≤(k:Int)),.n (zy (k:Int)) k,.w (k<zq (zz zm A)),.g (zz zm A) k (zm (gt A k)),.i zd (gt P i-1) (gt P i-1),.w (0≤gt P i-(1:Int))] ⟨o_n (by simp),tP,oW,nK,o_gt rfl (by assumption) (by intro h;cases h),o_a hF,bK,oW,nK,o_gt rfl (by assumption) (by intro h;cases h),oW,nK,o_w (by (simp;omega)),o_gt rfl (by assumption) (by intro h;cases h),oI,oW,trivial⟩ ?_
 refine gg [.l (zy (gt P i-1)),.g (zz zr ins) (zy (gt P i-1)) (zr (gt ins (zy (gt P i-1))))] ⟨oT,trivial⟩ ?_
 refine bO ?_ ?_
 all_goals
  refine gg [.a _ _,.a _ _,.b (flats [T.bool true]) true,.tt,.tt,.tt,.b (!true) false,.w (0≤(k:Int)),.n (zy (k:Int)) k,.w (k<zq (zz zm A)),.w (k<zq (zz zm A)),.t (qk 0 (zx (zz zm A) k (zm E))) (qk 0 (zz zm (zx A k E))),.tt,.tt,.tt,.w (0≤(i:Int))] ⟨o_a hS,o_a hrm,bK,bK,oW,nK,o_w (by (simp;omega)),o_w (by (simp;omega)),o_l (Aam rfl rfl),oW,trivial⟩ ?_
  refine gg [.n (zy (i:Int)) i,.g (zz ti P) i (ti (gt P i))] ⟨nK,o_gt rfl (by assumption) (by intro h;cases h),trivial⟩ ?_
  refine bO ?_ ?_
  ·refine bO ?_ ?_
   ·refine bO ?_ ?_
    ·refine gg [.i zd (gt P i-1) (gt P i-1),.w (0≤gt P i-(1:Int)),.l (zy (gt P i-1)),.g (zz zr ins) (zy (gt P i-1)) (zr (gt ins (zy (gt P i-1))))] ⟨oI,oW,oT,trivial⟩ ?_
     refine bO ?_ ?_
     all_goals
      refine gg [.a _ _,.a _ _,.a _ _,.i zd ((i:Int)+1) ((↑(i+1):Int)),.a _ _] ⟨o_a hnx,o_a hsh,o_a hput,oI,o_a ih1,trivial⟩ ?_
      exact ge
    ·refine gg [.a _ _,.i zd (gt P i-1) (gt P i-1),.w (0≤gt P i-(1:Int)),.l (zy (gt P i-1)),.g (zz zr ins) (zy (gt P i-1)) (zr (gt ins (zy (gt P i-1)))),.a _ _,.a _ _,.i zd ((i:Int)+1) ((↑(i+1):Int)),.a _ _] ⟨o_a hnx,oI,oW,oT,o_a hsh,o_a hput,oI,o_a ih1,trivial⟩ ?_
     exact ge
   ·refine bO ?_ ?_
    ·refine gg [.i zd (gt P i-1) (gt P i-1),.w (0≤gt P i-(1:Int)),.l (zy (gt P i-1)),.g (zz zr ins) (zy (gt P i-1)) (zr (gt ins (zy (gt P i-1))))] ⟨oI,oW,oT,trivial⟩ ?_
     refine bO (bO ?_ ?_) (bO (bO ?_ ?_) ?_)
     all_goals
      refine gg [.a _ _,.a _ _,.a _ _,.i zd ((i:Int)+1) ((↑(i+1):Int)),.a _ _] ⟨o_a hnx,o_a hsh,o_a hput,oI,o_a ih1,trivial⟩ ?_
      exact ge
    ·refine gg [.a _ _,.i zd (gt P i-1) (gt P i-1),.w (0≤gt P i-(1:Int)),.l (zy (gt P i-1)),.g (zz zr ins) (zy (gt P i-1)) (zr (gt ins (zy (gt P i-1)))),.a _ _,.a _ _,.i zd ((i:Int)+1) ((↑(i+1):Int)),.a _ _] ⟨o_a hnx,oI,oW,oT,o_a hsh,o_a hput,oI,o_a ih1,trivial⟩ ?_
     exact ge
  ·refine bO ?_ ?_
   ·refine bO ?_ ?_
    ·refine bO ?_ ?_
     ·refine gg [.i zd (gt P i-1) (gt P i-1),.w (0≤gt P i-(1:Int)),.l (zy (gt P i-1)),.g (zz zr ins) (zy (gt P i-1)) (zr (gt ins (zy (gt P i-1))))] ⟨oI,oW,oT,trivial⟩ ?_
      refine bO ?_ ?_
      all_goals
       refine gg [.a _ _,.a _ _,.a _ _,.i zd ((i:Int)+1) ((↑(i+1):Int)),.a _ _] ⟨o_a hnx,o_a hsh,o_a hput,oI,o_a ih1,trivial⟩ ?_
       exact ge
     ·refine gg [.a _ _,.i zd (gt P i-1) (gt P i-1),.w (0≤gt P i-(1:Int)),.l (zy (gt P i-1)),.g (zz zr ins) (zy (gt P i-1)) (zr (gt ins (zy (gt P i-1)))),.a _ _,.a _ _,.i zd ((i:Int)+1) ((↑(i+1):Int)),.a _ _] ⟨o_a hnx,oI,oW,oT,o_a hsh,o_a hput,oI,o_a ih1,trivial⟩ ?_
      exact ge
    ·refine bO ?_ ?_
     ·refine gg [.i zd (gt P i-1) (gt P i-1),.w (0≤gt P i-(1:Int)),.l (zy (gt P i-1)),.g (zz zr ins) (zy (gt P i-1)) (zr (gt ins (zy (gt P i-1))))] ⟨oI,oW,oT,trivial⟩ ?_
      refine bO (bO ?_ ?_) (bO (bO ?_ ?_) ?_)
      all_goals
       refine gg [.a _ _,.a _ _,.a _ _,.i zd ((i:Int)+1) ((↑(i+1):Int)),.a _ _] ⟨o_a hnx,o_a hsh,o_a hput,oI,o_a ih1,trivial⟩ ?_
       exact ge
     ·refine gg [.a _ _,.i zd (gt P i-1) (gt P i-1),.w (0≤gt P i-(1:Int)),.l (zy (gt P i-1)),.g (zz zr ins) (zy (gt P i-1)) (zr (gt ins (zy (gt P i-1)))),.a _ _,.a _ _,.i zd ((i:Int)+1) ((↑(i+1):Int)),.a _ _] ⟨o_a hnx,oI,oW,oT,o_a hsh,o_a hput,oI,o_a ih1,trivial⟩ ?_
      exact ge
   ·refine bO ?_ ?_
    ·refine gg [.i zd (gt P i-1) (gt P i-1),.w (0≤gt P i-(1:Int)),.l (zy (gt P i-1)),.g (zz zr ins) (zy (gt P i-1)) (zr (gt ins (zy (gt P i-1))))] ⟨oI,oW,oT,trivial⟩ ?_
     refine bO (bO (bO ?_ ?_) (bO (bO ?_ ?_) ?_)) (bO (bO (bO ?_ ?_) (bO (bO ?_ ?_) ?_)) (bO (bO (bO ?_ ?_) (bO (bO ?_ ?_) ?_)) ?_))
     all_goals
      refine gg [.a _ _,.a _ _,.a _ _,.i zd ((i:Int)+1) ((↑(i+1):Int)),.a _ _] ⟨o_a hnx,o_a hsh,o_a hput,oI,o_a ih1,trivial⟩ ?_
      exact ge
    ·refine gg [.a _ _,.i zd (gt P i-1) (gt P i-1),.w (0≤gt P i-(1:Int)),.l (zy (gt P i-1)),.g (zz zr ins) (zy (gt P i-1)) (zr (gt ins (zy (gt P i-1)))),.a _ _,.a _ _,.i zd ((i:Int)+1) ((↑(i+1):Int)),.a _ _] ⟨o_a hnx,oI,oW,oT,o_a hsh,o_a hput,oI,o_a ih1,trivial⟩ ?_
     exact ge
theorem AcO (c:Config) (r f:Int) (ins:List Input) (box:T) (hr:c.is r=true) (hf:0≤f∧f<10000) (hlen:(ins.length:Int)=c.players) (hok: ∀x∈ins,x.right=true) (P:List Int) (hP:P.length≤1000): ∀(d i:Nat) (A:List Entity) (made:Int) (R:List Entity),i+d=P.length→P.drop i=R.map Entity.id→(∀p∈R,p∈A∧p.kind=1)→Srt R→Steer c r ⟨A,made,[]⟩→
  Is cx (.loop 80 [0,1,0,1,1,1,1,1] 0 [vi r,.t (.sl 3 (ins.map zr)),.t box,.ptr 0 0 0,.ptr 1 0 0,.ptr 2 0 0,.t (.sl 1 (P.map ti)),vi (i)] [.one 5 (.t c.enc) false,.one 2 (.agg [vi 0,.fit 9 []]) false,.one 9 (mkV c r f (made) (.all 3 none)) false,.arr 9 ((A).map zm) none false])
   ⟨.exit 0,[vi r,.t (.sl 3 (ins.map zr)),.t box,.ptr 0 0 0,.ptr 1 0 0,.ptr 2 0 0,.t (.sl 1 (P.map ti)),vi P.length],[.one 5 (.t c.enc) false,.one 2 (.agg [vi 0,.fit 9 []]) false,.one 9 (mkV c r f ((R.foldl (steer1 c r f ins) ⟨A,made,[]⟩).made) (.all 3 none)) false,.arr 9 (((R.foldl (steer1 c r f ins) ⟨A,made,[]⟩).l).map zm) none false]⟩:=by
 have hrl:=Config.is_le hr
 have hgl:= @Config.regions_le c
 have hcr:=Config.is_right hr
 have hci:=Config.right_iff.1 hcr
 intro d
 induction d with
 |zero=>
  intro i A made R hi hR hm hs hst
  have hq:i=P.length:=by omega
  subst hq
  rw [Aac (Nat.le_refl _)] at hR
  have:R= []:=by simpa using hR.symm
  subst this
  rw [List.foldl_nil]
  refine qq ?_
  refine gg [.n (zq (zz ti P)) (zq P),.b (decide ((↑(zq P):Int)<(↑(zq P):Int))) false] ⟨o_n (by simp),fP,trivial⟩ ?_
  exact ge
 |succ d ih=>
  intro i A made R hi hR hm hs hst
  have hlt:i<P.length:=by omega
  rw [Aaf hlt] at hR
  cases R with
  |nil=>simp at hR
  |cons p R=>
  simp only [List.map_cons,List.cons.injEq] at hR
  obtain ⟨hpi,hR⟩:=hR
  obtain ⟨hpA,hpk⟩:=hm p (List.mem_cons_self ..)
  have hpr:=(hst.sane.ents p hpA).1
  have hpp:=Entity.right_player hpr hpk
  have hage:=Afj hpr
  obtain ⟨hs1,hs2⟩:=List.pairwise_cons.1 hs
  have hin:(inAt ins p.id).right=true:=hok _ (Aav (by omega))
  have hnext:=AgQ (f:=f) (ins:=ins) hst hr hf hpA fun _=>hin
  have hplain:=Alm (f:=f) (ins:=ins) hst hr hf hpA hpk
  rw [List.foldl_cons]
  have ih1:=ih (i+1) (steer1 c r f ins ⟨A,made,[]⟩ p).l (steer1 c r f ins ⟨A,made,[]⟩ p).made R (by omega) hR (fun q hq=>⟨hnext.2.1 q (hm q (List.mem_cons_of_mem _ hq)).1 (by have:=hs1 q hq;omega),(hm q (List.mem_cons_of_mem _ hq)).2⟩) hs2 (by
   have h1:=hnext.1
   have h2:=hnext.2.2
   generalize steer1 c r f ins ⟨A,made,[]⟩ p=S at*
   obtain ⟨a,b,o⟩:=S
   exact ⟨h1.sane,h1.made⟩)
  have hout:steer1 c r f ins ⟨A,made,[]⟩ p=⟨(steer1 c r f ins ⟨A,made,[]⟩ p).l,(steer1 c r f ins ⟨A,made,[]⟩ p).made,[]⟩:=by
   have h2:=hnext.2.2
   generalize steer1 c r f ins ⟨A,made,[]⟩ p=S at*
   obtain ⟨a,b,o⟩:=S
   simp only at h2
   rw [h2]
  rw [←hout] at ih1
  have hAl:=hst.sane.len hcr
  simp only at hAl
  have hmade:=hst.made
  simp only at hmade
  obtain ⟨k,hk1,hk2,hk3⟩:=Aeu hst.sane.srt hpA
  simp only at hk1 hk2 hk3
  have hF:=Abf A p.id (by unfold small;omega)
  rw [hk1] at hF
  have hS:=AeR p (inAt ins p.id) (by omega)
  have hSid:= @AcF p (inAt ins p.id)
  have hrm:=AcA c r f ⟨A,made,[]⟩ (by unfold small;simp only;omega)
  rw [←hplain] at ih1⊢
  unfold refP at ih1⊢
  clear ih hplain hout hnext hin hs hs1 hs2 hm hok hst
  have hj: ∃j:Nat,(p.id-1).toNat=j∧j<ins.length:=⟨_,rfl,by omega⟩
  unfold inAt at hS hSid ih1⊢
  rw [←hk3] at hS ih1⊢hpi hpp hj hF hk1 hSid
  rw [←hpi] at hS ih1⊢hpp hj hF hk1 hSid
  obtain ⟨j,hj1,hj2⟩:=hj
  cases hb:(steerE (gt A k) (gt ins (gt P i-1).toNat)).2 with
  |false=>
   rw [hb] at hS ih1
   simp only [Bool.false_eq_true,if_false] at ih1⊢
   unfold setId at ih1⊢
   rw [hk1,Int.toNat_natCast] at ih1⊢
   cases hroom:Stg.room ⟨A,made,[]⟩ with
   |true=>
    rw [hroom] at hrm
    exact Ajb c r f made _ ins box P i k j A _ _ hP hlt (by omega) (by omega) hk2 hj1 hj2 (by omega) hF hS hrm ih1
   |false=>
    rw [hroom] at hrm
    exact AiW c r f made _ ins box P i k j A _ _ hP hlt (by omega) (by omega) hk2 hj1 hj2 (by omega) hF hS hrm ih1
  |true=>
   rw [hb] at hS ih1
   simp only [if_true] at ih1⊢
   cases hroom:Stg.room ⟨A,made,[]⟩ with
   |false=>
    rw [hroom] at hrm ih1
    simp only [Bool.false_eq_true,if_false] at ih1⊢
    unfold setId at ih1⊢
    rw [hk1,Int.toNat_natCast] at ih1⊢
    exact AiQ c r f made _ ins box P i k j A _ _ hP hlt (by omega) (by omega) hk2 hj1 hj2 (by omega) hF hS hrm ih1
   |true=>
    rw [hroom] at hrm ih1
    simp only [if_true] at ih1⊢
    unfold setId at ih1⊢
    rw [hk1,Int.toNat_natCast] at ih1⊢
    have hnx:=Ac6 c r f made (A.set k (steerE (gt A k) (gt ins (gt P i-1).toNat)).1) (by omega) (by omega) (by omega)
    have hsh:=Aft (steerE (gt A k) (gt ins (gt P i-1).toNat)).1 (gt ins (gt P i-1).toNat) (numI c r f made)
    exact Ajy c r f made _ ins box P i k j A _ _ hP hlt (by omega) (by omega) hk2 hj1 hj2 (by omega) hF _ _ hS hrm (by omega) (by omega) (by omega) hnx hsh ih1
end Go.Eva.S4
namespace Go.Eva.S4
theorem Ant {c:Config} {l:List Entity} {i:Nat} (h:i<l.length):moveL c (l.drop i)=(if (goE c (gt l i)).2=true then [(goE c (gt l i)).1] else [])++moveL c (l.drop (i+1)):=by
 rw [Aaf h]
 unfold moveL
 rw [List.filter_cons]
 split<;>simp
theorem Adw (c:Config) (r f made:Int) (box:T) (l:List Entity) (hl:l.length≤1000) (ha: ∀e∈l,-1000000≤e.age∧e.age≤1000000): ∀(d i:Nat) (A:List Entity),i+d=l.length→A.length≤i→
  Is cx (.loop 80 [0,1,0,1,1,1,1,1,1,1] 0 [vi r,.t box,.ptr 0 0 0,.ptr 1 0 0,.ptr 2 0 0,.all 3 none,vi (i)] [.one 5 (.t c.enc) false,.one 2 (.agg [vi 0,.fit 9 []]) false,.one 9 (mkV c r f made (.all 4 none)) false,.arr 9 ((A).map zm) none false,.arr 9 ((l).map zm) none false])
   ⟨.exit 2,[vi r,.t box,.ptr 0 0 0,.ptr 1 0 0,.ptr 2 0 0,.all 3 none,vi l.length],[.one 5 (.t c.enc) false,.one 2 (.agg [vi 0,.fit 9 []]) false,.one 9 (mkV c r f made (.all 4 none)) false,.arr 9 ((A++moveL c (l.drop i)).map zm) none false,.arr 9 ((l).map zm) none false]⟩:=by
 intro d
 induction d with
 |zero=>
  intro i A hi hA
  rw [Aac (by omega)]
  refine qq ?_
  refine gg [.n (zq (zz zm l)) (zq l),.b (decide ((i:Int)<(↑(zq l):Int))) false] ⟨o_n (by simp),fP,trivial⟩ ?_
  refine rT (a:=qz (qx 2) [vi r,V.t box,V.ptr 0 0 0,V.ptr 1 0 0,V.ptr 2 0 0,qy 3 none,vi (i:Int)] [qg 5 (V.t (Config.enc c)) false,qg 2 (V.agg [vi 0,V.fit 9 []]) false,qg 9 (V.agg [vi c.cols,vi c.rows,vi c.players,vi c.window,V.t (T.int zf c.seed),vi r,vi f,qy 4 none,vi made]) false,qv 9 (zz zm A) none false,qv 9 (zz zm l) none false]) ?_
  ((have hq:i=l.length:=by omega);subst hq;simp [moveL])
 |succ d ih=>
  intro i A hi hA
  have hlt:i<l.length:=by omega
  have hG:=AgT c (gt l i) (ha _ (Aav hlt))
  rw [Ant hlt]
  cases hb:(goE c (gt l i)).2 with
  |true=>
   rw [hb] at hG
   have ih1:=ih (i+1) (A++ [(goE c (gt l i)).1]) (by omega) (by simp;omega)
   rw [List.append_assoc] at ih1
   clear ih
   generalize moveL c (l.drop (i+1))=X at*
   generalize (goE c (gt l i)).1=E at*
   simp only [if_true]
   refine qq ?_
   refine gg [.n (zq (zz zm l)) (zq l),.b (decide ((i:Int)<(↑(zq l):Int))) true,.w (0≤(i:Int)),.n (zy (i:Int)) i,.w (i<zq (zz zm l)),.g (zz zm l) i (zm (gt l i))] ⟨o_n (by simp),tP,oW,nK,o_w (by (simp;omega)),o_gt rfl (by assumption) (by intro h;cases h),trivial⟩ ?_
   refine bO ?_ ?_
   all_goals
    refine gg [.a _ _,.tt,.w ((0:Nat)<(72:Nat)),.t (qk 0 [zm E]) (qk 0 (zz zm [E])),.t (qk 0 (zz zm A++zz zm [E])) (qk 0 (zz zm (A++ [E]))),.w (room (zq (zz zm (A++ [E]))) (72:Nat)),.i zd ((i:Int)+1) ((↑(i+1):Int)),.a _ _] ⟨o_a hG,oW,o_l (Aae rfl Aah),o_l (Aag rfl rfl),o_w (by (simp [room,appendMax];omega)),oI,o_a ih1,trivial⟩ ?_
    exact ge
  |false=>
   rw [hb] at hG
   have ih1:=ih (i+1) A (by omega) (by omega)
   clear ih
   generalize moveL c (l.drop (i+1))=X at*
   generalize (goE c (gt l i)).1=E at*
   simp only [Bool.false_eq_true,if_false,List.nil_append]
   refine qq ?_
   refine gg [.n (zq (zz zm l)) (zq l),.b (decide ((i:Int)<(↑(zq l):Int))) true,.w (0≤(i:Int)),.n (zy (i:Int)) i,.w (i<zq (zz zm l)),.g (zz zm l) i (zm (gt l i))] ⟨o_n (by simp),tP,oW,nK,o_w (by (simp;omega)),o_gt rfl (by assumption) (by intro h;cases h),trivial⟩ ?_
   refine bO ?_ ?_
   all_goals
    refine gg [.a _ _,.ff,.i zd ((i:Int)+1) ((↑(i+1):Int)),.a _ _] ⟨o_a hG,oI,o_a ih1,trivial⟩ ?_
    exact ge
end Go.Eva.S4
namespace Go.Eva.S4
def blastB (r f q:Int) (e:Entity):Cross:=⟨2,r,q,f,Entity.zero,e.x,e.y⟩
theorem Abz (c:Config) (r f made:Int) (A:List Entity) (k:Nat) (ids near:List Int) (i:Nat) (hk:k<A.length) (hA:A.length≤1000) (hids:ids.length≤1000) (hn:near.length≤9): ∀(d j:Nat) (o:List Cross),j+d=near.length→o.length≤50000+j→
  Is cx (.loop 80 [0,1,0,1,0,0,1,0,0,1,0,1,1,1,1,1,1,1,1,1,1,1,1] 0 [vi r,.ptr 0 0 0,.ptr 1 0 0,.ptr 2 0 0,.all 3 none,.all 4 none,.t (.sl 1 (near.map ti)),vi i,vi k,vi (j)] [.one 5 (.t c.enc) false,.one 2 (.agg [vi 0,.fit 9 []]) false,.one 9 (mkV c r f made (.all 5 none)) false,.arr 15 ((o).map zn) none false,.arr 1 (ids.map ti) none false,.arr 9 ((A).map zm) none false])
   ⟨.exit 6,[vi r,.ptr 0 0 0,.ptr 1 0 0,.ptr 2 0 0,.all 3 none,.all 4 none,.t (.sl 1 (near.map ti)),vi i,vi k,vi near.length],[.one 5 (.t c.enc) false,.one 2 (.agg [vi 0,.fit 9 []]) false,.one 9 (mkV c r f made (.all 5 none)) false,.arr 15 ((o++(near.drop j).map fun q=>blastB r f q (gt A k)).map zn) none false,.arr 1 (ids.map ti) none false,.arr 9 ((A).map zm) none false]⟩:=by
 intro d
 induction d with
 |zero=>
  intro j o hj ho
  rw [Aac (by omega)]
  refine qq ?_
  refine gg [.n (zq (zz ti near)) (zq near),.b (decide ((j:Int)<(↑(zq near):Int))) false] ⟨o_n (by simp),fP,trivial⟩ ?_
  refine rT (a:=qz (qx 6) [vi r,V.ptr 0 0 0,V.ptr 1 0 0,V.ptr 2 0 0,qy 3 none,qy 4 none,V.t (qk 1 (zz ti near)),vi (i:Int),vi (k:Int),vi (j:Int)] [qg 5 (V.t (Config.enc c)) false,qg 2 (V.agg [vi 0,V.fit 9 []]) false,qg 9 (V.agg [vi c.cols,vi c.rows,vi c.players,vi c.window,V.t (T.int zf c.seed),vi r,vi f,qy 5 none,vi made]) false,qv 15 (zz zn o) none false,qv 1 (zz ti ids) none false,qv 9 (zz zm A) none false]) ?_
  ((have hq:j=near.length:=by omega);subst hq;simp)
 |succ d ih=>
  intro j o hj ho
  have hlt:j<near.length:=by omega
  have ih1:=ih (j+1) (o++ [blastB r f (gt near j) (gt A k)]) (by omega) (by simp;omega)
  clear ih
  rw [Aaf hlt,List.map_cons,List.append_cons]
  unfold blastB at ih1⊢
  unfold Entity.zero at*
  refine qq ?_
  refine gg [.n (zq (zz ti near)) (zq near),.b (decide ((j:Int)<(↑(zq near):Int))) true,.w (0≤(j:Int)),.n (zy (j:Int)) j,.g (zz ti near) j (ti (gt near j)),.w (0≤(k:Int)),.n (zy (k:Int)) k,.w (k<zq (zz zm A)),.g (zz zm A) k (zm (gt A k)),.w (0≤(k:Int)),.n (zy (k:Int)) k,.w (k<zq (zz zm A)),.g (zz zm A) k (zm (gt A k)),.w ((0:Nat)<(120:Nat)),.s (qk 0 [T.agg [ti 2,ti r,ti (gt near j),ti f,ti 0,ti 0,ti 0,ti 0,ti 0,ti 0,ti 0,ti 0,ti 0,ti (gt A k).x,ti (gt A k).y]]),.t (qk 0 (zz zn o++ [T.agg [ti 2,ti r,ti (gt near j),ti f,ti 0,ti 0,ti 0,ti 0,ti 0,ti 0,ti 0,ti 0,ti 0,ti (gt A k).x,ti (gt A k).y]])) (qk 0 (zz zn (o++ [Cross.mk 2 r (gt near j) f (qw 0 0 0 0 0 0 0 0 0) (gt A k).x (gt A k).y])))] ⟨o_n (by simp),tP,oW,nK,o_gt rfl (by assumption) (by intro h;cases h),oW,nK,o_w (by (simp;omega)),o_gt rfl (by assumption) (by intro h;cases h),oW,nK,o_w (by (simp;omega)),o_gt rfl (by assumption) (by intro h;cases h),oW,o_l (Aag rfl (Aae (e:=Cross.mk 2 r (gt near j) f (qw 0 0 0 0 0 0 0 0 0) (gt A k).x (gt A k).y) rfl Aah)),trivial⟩ ?_
  refine gg [.w (room (zq (zz zn (o++ [Cross.mk (2:Int) r (gt near j) f (qw (0:Int) (0:Int) (0:Int) (0:Int) (0:Int) (0:Int) (0:Int) (0:Int) (0:Int)) (gt A k).x (gt A k).y]))) (120:Nat)),.i zd ((j:Int)+1) ((↑(j+1):Int)),.a _ _] ⟨o_w (by (simp [room,appendMax];omega)),oI,o_a ih1,trivial⟩ ?_
  exact ge
theorem Aiw (c:Config) (r f made:Int) (ids near:List Int) (hids:ids.length≤1000) (hn:near.length≤9) (i k:Nat) (A A2:List Entity) (o o2 bl:List Cross) (x y:Int) (hlt:i<ids.length) (hA:A.length≤1000) (hk2:k<A.length) (ho:o.length≤20000)
  (hF:Fn cx 100 [.sl 9 (A.map zm),ti (gt ids i)] (ti (k:Int)))
  (hB:Is cx (.loop 80 [0,1,0,1,0,0,1,0,0,1,0,1,1,1,1,1,1,1,1,1,1,1,1] 0 [vi r,.ptr 0 0 0,.ptr 1 0 0,.ptr 2 0 0,.all 3 none,.all 4 none,.t (.sl 1 (near.map ti)),vi i,vi k,vi ((0:Nat))] [.one 5 (.t c.enc) false,.one 2 (.agg [vi 0,.fit 9 []]) false,.one 9 (mkV c r f made (.all 5 none)) false,.arr 15 ((o).map zn) none false,.arr 1 (ids.map ti) none false,.arr 9 ((A).map zm) none false])
   ⟨.exit 6,[vi r,.ptr 0 0 0,.ptr 1 0 0,.ptr 2 0 0,.all 3 none,.all 4 none,.t (.sl 1 (near.map ti)),vi i,vi k,vi near.length],[.one 5 (.t c.enc) false,.one 2 (.agg [vi 0,.fit 9 []]) false,.one 9 (mkV c r f made (.all 5 none)) false,.arr 15 ((o++bl).map zn) none false,.arr 1 (ids.map ti) none false,.arr 9 ((A).map zm) none false]⟩)
  (hpl:Is cx (.call 143 [.t (.ip 9 (mkT c r f (A.set k {gt A k with health:=100,vx:=0,vy:=0,age:=0}) made) 0),vi 1,vi 2,vi (gt ids i)] []) ⟨.ret,[vi x,vi y],[]⟩)
  (ih1:Is cx (.loop 80 [0,1,0,1,1,1,1,1,1,1,1,1,1,1,1] 0 [vi r,.ptr 0 0 0,.ptr 1 0 0,.ptr 2 0 0,.all 3 none,.all 4 none,.t (.sl 1 (near.map ti)),vi ((i+1:Nat))] [.one 5 (.t c.enc) false,.one 2 (.agg [vi 0,.fit 9 []]) false,.one 9 (mkV c r f made (.all 5 none)) false,.arr 15 ((o++bl).map zn) none false,.arr 1 (ids.map ti) none false,.arr 9 ((A.set k {gt A k with health:=100,vx:=0,vy:=0,age:=0,x:=x,y:=y}).map zm) none false])
   ⟨.exit 4,[vi r,.ptr 0 0 0,.ptr 1 0 0,.ptr 2 0 0,.all 3 none,.all 4 none,.t (.sl 1 (near.map ti)),vi ids.length],[.one 5 (.t c.enc) false,.one 2 (.agg [vi 0,.fit 9 []]) false,.one 9 (mkV c r f made (.all 5 none)) false,.arr 15 ((o2).map zn) none false,.arr 1 (ids.map ti) none false,.arr 9 ((A2).map zm) none false]⟩):Is cx (.loop 80 [0,1,0,1,1,1,1,1,1,1,1,1,1,1,1] 0 [vi r,.ptr 0 0 0,.ptr 1 0 0,.ptr 2 0 0,.all 3 none,.all 4 none,.t (.sl 1 (near.map ti)),vi (i)] [.one 5 (.t c.enc) false,.one 2 (.agg [vi 0,.fit 9 []]) false,.one 9 (mkV c r f made (.all 5 none)) false,.arr 15 ((o).map zn) none false,.arr 1 (ids.map ti) none false,.arr 9 ((A).map zm) none false])
   ⟨.exit 4,[vi r,.ptr 0 0 0,.ptr 1 0 0,.ptr 2 0 0,.all 3 none,.all 4 none,.t (.sl 1 (near.map ti)),vi ids.length],[.one 5 (.t c.enc) false,.one 2 (.agg [vi 0,.fit 9 []]) false,.one 9 (mkV c r f made (.all 5 none)) false,.arr 15 ((o2).map zn) none false,.arr 1 (ids.map ti) none false,.arr 9 ((A2).map zm) none false]⟩:=by
 refine qq ?_
 refine gg [.n (zq (zz ti ids)) (zq ids),.b (decide ((i:Int)<(↑(zq ids):Int))) true,.w (0≤(i:Int)),.n (zy (i:Int)) i,.w (i<zq (zz ti ids)),.g (zz ti ids) i (ti (gt ids i)),.a _ _,.b (flats [ti (k:Int)]) true,.a _ _,.w (0≤(k:Int)),.n (zy (k:Int)) k,.w (k<zq (zz zm A)),.g (zz zm A) k (zm (gt A k)),.t (qk 0 (zx (zz zm A) k (T.agg [ti (gt A k).id,ti (gt A k).kind,ti (gt A k).x,ti (gt A k).y,ti (gt A k).vx,ti (gt A k).vy,ti 100,ti (gt A k).age,ti (gt A k).owner]))) (qk 0 (zz zm (zx A k (qw (gt A k).id (gt A k).kind (gt A k).x (gt A k).y (gt A k).vx (gt A k).vy 100 (gt A k).age (gt A k).owner)))),.w (0≤(k:Int)),.n (zy (k:Int)) k] ⟨o_n (by simp),tP,oW,nK,o_w (by (simp;omega)),o_gt rfl (by assumption) (by intro h;cases h),o_a hF,bK,o_a hB,oW,nK,o_w (by (simp;omega)),o_gt rfl (by assumption) (by intro h;cases h),o_l (Aam (e:=qw (gt A k).id (gt A k).kind (gt A k).x (gt A k).y (gt A k).vx (gt A k).vy 100 (gt A k).age (gt A k).owner) rfl rfl),oW,nK,trivial⟩ ?_
 refine gg [.w (k<zq (zz zm (zx A k (qw (gt A k).id (gt A k).kind (gt A k).x (gt A k).y (gt A k).vx (gt A k).vy (100:Int) (gt A k).age (gt A k).owner)))),.g (zz zm (zx A k (qw (gt A k).id (gt A k).kind (gt A k).x (gt A k).y (gt A k).vx (gt A k).vy 100 (gt A k).age (gt A k).owner))) k (zm (qw (gt A k).id (gt A k).kind (gt A k).x (gt A k).y (gt A k).vx (gt A k).vy 100 (gt A k).age (gt A k).owner)),.t (qk 0 (zx (zz zm (zx A k (qw (gt A k).id (gt A k).kind (gt A k).x (gt A k).y (gt A k).vx (gt A k).vy 100 (gt A k).age (gt A k).owner))) k (T.agg [ti (gt A k).id,ti (gt A k).kind,ti (gt A k).x,ti (gt A k).y,ti 0,ti (gt A k).vy,ti 100,ti (gt A k).age,ti (gt A k).owner]))) (qk 0 (zz zm (zx A k (qw (gt A k).id (gt A k).kind (gt A k).x (gt A k).y 0 (gt A k).vy 100 (gt A k).age (gt A k).owner)))),.w (0≤(k:Int)),.n (zy (k:Int)) k,.w (k<zq (zz zm (zx A k (qw (gt A k).id (gt A k).kind (gt A k).x (gt A k).y (0:Int) (gt A k).vy (100:Int) (gt A k).age (gt A k).owner)))),.g (zz zm (zx A k (qw (gt A k).id (gt A k).kind (gt A k).x (gt A k).y 0 (gt A k).vy 100 (gt A k).age (gt A k).owner))) k (zm (qw (gt A k).id (gt A k).kind (gt A k).x (gt A k).y 0 (gt A k).vy 100 (gt A k).age (gt A k).owner)),.t (qk 0 (zx (zz zm (zx A k (qw (gt A k).id (gt A k).kind (gt A k).x (gt A k).y 0 (gt A k).vy 100 (gt A k).age (gt A k).owner))) k (T.agg [ti (gt A k).id,ti (gt A k).kind,ti (gt A k).x,ti (gt A k).y,ti 0,ti 0,ti 100,ti (gt A k).age,ti (gt A k).owner]))) (qk 0 (zz zm (zx A k (qw (gt A k).id (gt A k).kind (gt A k).x (gt A k).y 0 0 100 (gt A k).age (gt A k).owner)))),.w (0≤(k:Int)),.n (zy (k:Int)) k,.w (k<zq (zz zm (zx A k (qw (gt A k).id (gt A k).kind (gt A k).x (gt A k).y (0:Int) (0:Int) (100:Int) (gt A k).age (gt A k).owner)))),.g (zz zm (zx A k (qw (gt A k).id (gt A k).kind (gt A k).x (gt A k).y 0 0 100 (gt A k).age (gt A k).owner))) k (zm (qw (gt A k).id (gt A k).kind (gt A k).x (gt A k).y 0 0 100 (gt A k).age (gt A k).owner)),.t (qk 0 (zx (zz zm (zx A k (qw (gt A k).id (gt A k).kind (gt A k).x (gt A k).y 0 0 100 (gt A k).age (gt A k).owner))) k (T.agg [ti (gt A k).id,ti (gt A k).kind,ti (gt A k).x,ti (gt A k).y,ti 0,ti 0,ti 100,ti 0,ti (gt A k).owner]))) (qk 0 (zz zm (zx A k (qw (gt A k).id (gt A k).kind (gt A k).x (gt A k).y 0 0 100 0 (gt A k).owner)))),.w (0≤(i:Int)),.n (zy (i:Int)) i,.w (i<zq (zz ti ids))] ⟨o_w (by (simp;omega)),o_gm rfl (AaN (by omega)) (by intro h;cases h),o_l (nm_eq (Aam (e:=qw (gt A k).id (gt A k).kind (gt A k).x (gt A k).y 0 (gt A k).vy 100 (gt A k).age (gt A k).owner) rfl rfl) (by simp)),oW,nK,o_w (by (simp;omega)),o_gm rfl (AaN (by omega)) (by intro h;cases h),o_l (nm_eq (Aam (e:=qw (gt A k).id (gt A k).kind (gt A k).x (gt A k).y 0 0 100 (gt A k).age (gt A k).owner) rfl rfl) (by simp)),oW,nK,o_w (by (simp;omega)),o_gm rfl (AaN (by omega)) (by intro h;cases h),o_l (nm_eq (Aam (e:=qw (gt A k).id (gt A k).kind (gt A k).x (gt A k).y 0 0 100 0 (gt A k).owner) rfl rfl) (by simp)),oW,nK,o_w (by (simp;omega)),trivial⟩ ?_
 refine gg [.g (zz ti ids) i (ti (gt ids i)),.a _ _,.b (flats [ti x,ti y]) true,.w (0≤(k:Int)),.n (zy (k:Int)) k,.w (k<zq (zz zm (zx A k (qw (gt A k).id (gt A k).kind (gt A k).x (gt A k).y (0:Int) (0:Int) (100:Int) (0:Int) (gt A k).owner)))),.g (zz zm (zx A k (qw (gt A k).id (gt A k).kind (gt A k).x (gt A k).y 0 0 100 0 (gt A k).owner))) k (zm (qw (gt A k).id (gt A k).kind (gt A k).x (gt A k).y 0 0 100 0 (gt A k).owner)),.t (qk 0 (zx (zz zm (zx A k (qw (gt A k).id (gt A k).kind (gt A k).x (gt A k).y 0 0 100 0 (gt A k).owner))) k (T.agg [ti (gt A k).id,ti (gt A k).kind,ti x,ti (gt A k).y,ti 0,ti 0,ti 100,ti 0,ti (gt A k).owner]))) (qk 0 (zz zm (zx A k (qw (gt A k).id (gt A k).kind x (gt A k).y 0 0 100 0 (gt A k).owner)))),.w (0≤(k:Int)),.n (zy (k:Int)) k,.w (k<zq (zz zm (zx A k (qw (gt A k).id (gt A k).kind x (gt A k).y (0:Int) (0:Int) (100:Int) (0:Int) (gt A k).owner)))),.g (zz zm (zx A k (qw (gt A k).id (gt A k).kind x (gt A k).y 0 0 100 0 (gt A k).owner))) k (zm (qw (gt A k).id (gt A k).kind x (gt A k).y 0 0 100 0 (gt A k).owner)),.t (qk 0 (zx (zz zm (zx A k (qw (gt A k).id (gt A k).kind x (gt A k).y 0 0 100 0 (gt A k).owner))) k (T.agg [ti (gt A k).id,ti (gt A k).kind,ti x,ti y,ti 0,ti 0,ti 100,ti 0,ti (gt A k).owner]))) (qk 0 (zz zm (zx A k (qw (gt A k).id (gt A k).kind x y 0 0 100 0 (gt A k).owner)))),.i zd ((i:Int)+1) ((↑(i+1):Int)),.a _ _] ⟨o_gt rfl (by assumption) (by intro h;cases h),o_a hpl,bK,oW,nK,o_w (by (simp;omega)),o_gm rfl (AaN (by omega)) (by intro h;cases h),o_l (nm_eq (Aam (e:=qw (gt A k).id (gt A k).kind x (gt A k).y 0 0 100 0 (gt A k).owner) rfl rfl) (by simp)),oW,nK,o_w (by (simp;omega)),o_gm rfl (AaN (by omega)) (by intro h;cases h),o_l (nm_eq (Aam (e:=qw (gt A k).id (gt A k).kind x y 0 0 100 0 (gt A k).owner) rfl rfl) (by simp)),oI,o_a ih1,trivial⟩ ?_
 exact ge
theorem Adx (c:Config) (r f made:Int) (ids near:List Int) (hids:ids.length≤1000) (hnear:near=c.near r): ∀(d i:Nat) (A:List Entity) (o:List Cross),i+d=ids.length→A.length≤1000→o.length≤9*i→(∀id∈ids.drop i,∃x∈A,x.id=id)→
  Is cx (.loop 80 [0,1,0,1,1,1,1,1,1,1,1,1,1,1,1] 0 [vi r,.ptr 0 0 0,.ptr 1 0 0,.ptr 2 0 0,.all 3 none,.all 4 none,.t (.sl 1 (near.map ti)),vi (i)] [.one 5 (.t c.enc) false,.one 2 (.agg [vi 0,.fit 9 []]) false,.one 9 (mkV c r f made (.all 5 none)) false,.arr 15 ((o).map zn) none false,.arr 1 (ids.map ti) none false,.arr 9 ((A).map zm) none false])
   ⟨.exit 4,[vi r,.ptr 0 0 0,.ptr 1 0 0,.ptr 2 0 0,.all 3 none,.all 4 none,.t (.sl 1 (near.map ti)),vi ids.length],[.one 5 (.t c.enc) false,.one 2 (.agg [vi 0,.fit 9 []]) false,.one 9 (mkV c r f made (.all 5 none)) false,.arr 15 ((((ids.drop i).foldl (fall1 c r f) ⟨A,made,o⟩).out).map zn) none false,.arr 1 (ids.map ti) none false,.arr 9 ((((ids.drop i).foldl (fall1 c r f) ⟨A,made,o⟩).l).map zm) none false]⟩:=by
 have hns:= @Aaz c r
 rw [←hnear] at hns
 intro d
 induction d with
 |zero=>
  intro i A o hi hA ho hP
  rw [Aac (by omega),List.foldl_nil]
  refine qq ?_
  refine gg [.n (zq (zz ti ids)) (zq ids),.b (decide ((i:Int)<(↑(zq ids):Int))) false] ⟨o_n (by simp),fP,trivial⟩ ?_
  refine rT (a:=qz (qx 4) [vi r,V.ptr 0 0 0,V.ptr 1 0 0,V.ptr 2 0 0,qy 3 none,qy 4 none,V.t (qk 1 (zz ti near)),vi (i:Int)] [qg 5 (V.t (Config.enc c)) false,qg 2 (V.agg [vi 0,V.fit 9 []]) false,qg 9 (V.agg [vi c.cols,vi c.rows,vi c.players,vi c.window,V.t (T.int zf c.seed),vi r,vi f,qy 5 none,vi made]) false,qv 15 (zz zn o) none false,qv 1 (zz ti ids) none false,qv 9 (zz zm A) none false]) ?_
  ((have hq:i=ids.length:=by omega);subst hq;rfl)
 |succ d ih=>
  intro i A o hi hA ho hP
  have hlt:i<ids.length:=by omega
  have hd:=Aaf hlt
  have hx:=hP (gt ids i) (by rw [hd];exact List.mem_cons_self ..)
  obtain ⟨k,hk1,hk2,_⟩:=AbC hx
  have hlenb:(o++blastsAt c r f (gt A k)).length≤9*(i+1):=by simp [blastsAt,←hnear];omega
  have ih1:=ih (i+1) (A.set k (anewE c r f (gt ids i) (gt A k))) (o++blastsAt c r f (gt A k)) (by omega) (by simpa using hA) hlenb fun id hid=>by
   have:=hP id (by rw [hd];exact List.mem_cons_of_mem _ hid)
   exact Ai4 (Ac4 (e:=anewE c r f (gt ids i) (gt A k)) hk2 rfl).symm this
  rw [hd,List.foldl_cons]
  have e1:fall1 c r f ⟨A,made,o⟩ (gt ids i)=⟨A.set k (anewE c r f (gt ids i) (gt A k)),made,o++blastsAt c r f (gt A k)⟩:=by simp [fall1,hk1]
  rw [e1]
  have hF:=Abf A (gt ids i) (by unfold small;omega)
  rw [hk1] at hF
  have hB:=Abz c r f made A k ids near i hk2 hA hids hns near.length 0 o (by omega) (by omega)
  rw [List.drop_zero] at hB
  have e2:near.map (fun q=>blastB r f q (gt A k))=blastsAt c r f (gt A k):=by rw [hnear];rfl
  rw [e2] at hB
  have hpl:=AbX c r f 1 2 (gt ids i) made (A.set k {gt A k with health:=100,vx:=0,vy:=0,age:=0})
  exact Aiw c r f made ids near hids hns i k A _ o _ (blastsAt c r f (gt A k)) _ _ hlt hA hk2 (by omega) hF hB hpl ih1
end Go.Eva.S4
namespace Go.Eva.S4
theorem Adk (c:Config) (r f made:Int) (L:List Entity) (o:List Cross) (hL:L.length≤1000): ∀(d i n:Nat),i+d=L.length→n≤i→
  Is cx (.loop 80 [0,1,0,1,1,1,1,1,1,1,1,1,1,1,1,1,1] 0 [vi r,.ptr 0 0 0,.ptr 1 0 0,.ptr 2 0 0,.all 3 none,vi (n),vi (i)] [.one 5 (.t c.enc) false,.one 2 (.agg [vi 0,.fit 9 []]) false,.one 9 (mkV c r f made (.all 4 none)) false,.arr 15 ((o).map zn) none false,.arr 9 ((L).map zm) none false])
   ⟨.exit 8,[vi r,.ptr 0 0 0,.ptr 1 0 0,.ptr 2 0 0,.all 3 none,vi (n+(L.drop i).countP fun e=>e.kind==3:Nat),vi L.length],[.one 5 (.t c.enc) false,.one 2 (.agg [vi 0,.fit 9 []]) false,.one 9 (mkV c r f made (.all 4 none)) false,.arr 15 ((o).map zn) none false,.arr 9 ((L).map zm) none false]⟩:=by
 intro d
 induction d with
 |zero=>
  intro i n hi hm
  rw [Aac (by omega)]
  refine qq ?_
  refine gg [.n (zq (zz zm L)) (zq L),.b (decide ((i:Int)<(↑(zq L):Int))) false] ⟨o_n (by simp),fP,trivial⟩ ?_
  refine rT (a:=qz (qx 8) [vi r,V.ptr 0 0 0,V.ptr 1 0 0,V.ptr 2 0 0,qy 3 none,vi (n:Int),vi (i:Int)] [qg 5 (V.t (Config.enc c)) false,qg 2 (V.agg [vi 0,V.fit 9 []]) false,qg 9 (V.agg [vi c.cols,vi c.rows,vi c.players,vi c.window,V.t (T.int zf c.seed),vi r,vi f,qy 4 none,vi made]) false,qv 15 (zz zn o) none false,qv 9 (zz zm L) none false]) ?_
  ((have hq:i=L.length:=by omega);subst hq;rfl)
 |succ d ih=>
  intro i n hi hm
  have hlt:i<L.length:=by omega
  have ih1:=ih (i+1) n (by omega) (by omega)
  have ih2:=ih (i+1) (n+1) (by omega) (by omega)
  clear ih
  rw [AdG _ hlt]
  by_cases h:(gt L i).kind=3
  ·simp only [h,beq_self_eq_true,if_true,←Nat.add_assoc]
   generalize (L.drop (i+1)).countP (fun e=>e.kind==3)=z at*
   clear ih1
   refine qq ?_
   refine gg [.n (zq (zz zm L)) (zq L),.b (decide ((i:Int)<(↑(zq L):Int))) true,.w (0≤(i:Int)),.n (zy (i:Int)) i,.w (i<zq (zz zm L)),.g (zz zm L) i (zm (gt L i)),.b ((gt L i).kind==3) true,.i zd ((n:Int)+1) ((↑(n+1):Int)),.i zd ((i:Int)+1) ((↑(i+1):Int)),.a _ _] ⟨o_n (by simp),tP,oW,nK,o_w (by (simp;omega)),o_gt rfl (by assumption) (by intro h;cases h),t_bre (by assumption),oI,oI,o_a ih2,trivial⟩ ?_
   exact ge
  ·have h2:((gt L i).kind==3)=false:=by simpa using h
   simp only [h2,Bool.false_eq_true,if_false,Nat.zero_add]
   generalize (L.drop (i+1)).countP (fun e=>e.kind==3)=z at*
   clear ih2
   refine qq ?_
   refine gg [.n (zq (zz zm L)) (zq L),.b (decide ((i:Int)<(↑(zq L):Int))) true,.w (0≤(i:Int)),.n (zy (i:Int)) i,.w (i<zq (zz zm L)),.g (zz zm L) i (zm (gt L i)),.b ((gt L i).kind==3) false,.i zd ((i:Int)+1) ((↑(i+1):Int)),.a _ _] ⟨o_n (by simp),tP,oW,nK,o_w (by (simp;omega)),o_gt rfl (by assumption) (by intro h;cases h),f_bre (by assumption),oI,o_a ih1,trivial⟩ ?_
   exact ge
theorem Abd (c:Config) (r f made:Int) (L:List Entity) (hL:L.length≤1000): ∀(d i:Nat) (o:List Cross) (s:List Entity),i+d=L.length→o.length≤20000+i→s.length≤i→
  Is cx (.loop 80 [0,1,0,1,1,1,1,1,1,1,1,1,1,1,1,1,1,1,1,1] 0 [vi r,.ptr 0 0 0,.ptr 1 0 0,.ptr 2 0 0,.all 3 none,.all 4 none,vi (i)] [.one 5 (.t c.enc) false,.one 2 (.agg [vi 0,.fit 9 []]) false,.one 9 (mkV c r f made (.all 5 none)) false,.arr 15 ((o).map zn) none false,.arr 9 ((s).map zm) none false,.arr 9 ((L).map zm) none false])
   ⟨.exit 10,[vi r,.ptr 0 0 0,.ptr 1 0 0,.ptr 2 0 0,.all 3 none,.all 4 none,vi L.length],[.one 5 (.t c.enc) false,.one 2 (.agg [vi 0,.fit 9 []]) false,.one 9 (mkV c r f made (.all 5 none)) false,.arr 15 ((o++((L.drop i).filter fun e=> !decide (c.of e.x e.y=r)).map (handE c r f)).map zn) none false,.arr 9 ((s++(L.drop i).filter fun e=>decide (c.of e.x e.y=r)).map zm) none false,.arr 9 ((L).map zm) none false]⟩:=by
 intro d
 induction d with
 |zero=>
  intro i o s hi ho hs
  rw [Aac (by omega)]
  refine qq ?_
  refine gg [.n (zq (zz zm L)) (zq L),.b (decide ((i:Int)<(↑(zq L):Int))) false] ⟨o_n (by simp),fP,trivial⟩ ?_
  refine rT (a:=qz (qx 10) [vi r,V.ptr 0 0 0,V.ptr 1 0 0,V.ptr 2 0 0,qy 3 none,qy 4 none,vi (i:Int)] [qg 5 (V.t (Config.enc c)) false,qg 2 (V.agg [vi 0,V.fit 9 []]) false,qg 9 (V.agg [vi c.cols,vi c.rows,vi c.players,vi c.window,V.t (T.int zf c.seed),vi r,vi f,qy 5 none,vi made]) false,qv 15 (zz zn o) none false,qv 9 (zz zm s) none false,qv 9 (zz zm L) none false]) ?_
  ((have hq:i=L.length:=by omega);subst hq;simp)
 |succ d ih=>
  intro i o s hi ho hs
  have hlt:i<L.length:=by omega
  have ih1:=ih (i+1) o (s++ [gt L i]) (by omega) (by omega) (by simp;omega)
  have ih2:=ih (i+1) (o++ [handE c r f (gt L i)]) s (by omega) (by simp;omega) (by omega)
  clear ih
  rw [AeN _ hlt,AeN _ hlt]
  have hO:=AbE c (gt L i).x (gt L i).y
  by_cases h:c.of (gt L i).x (gt L i).y=r
  ·have d1:decide (c.of (gt L i).x (gt L i).y=r)=true:=by simpa using h
   simp only [d1,Bool.not_true,if_true,Bool.false_eq_true,if_false,List.nil_append]
   rw [List.append_assoc] at ih1
   clear ih2
   generalize (L.drop (i+1)).filter (fun e=>decide (c.of e.x e.y=r))=Y at*
   generalize ((L.drop (i+1)).filter (fun e=> !decide (c.of e.x e.y=r))).map (handE c r f)=X at*
   refine qq ?_
   refine gg [.n (zq (zz zm L)) (zq L),.b (decide ((i:Int)<(↑(zq L):Int))) true,.w (0≤(i:Int)),.n (zy (i:Int)) i,.w (i<zq (zz zm L)),.g (zz zm L) i (zm (gt L i)),.w (0≤(i:Int)),.n (zy (i:Int)) i,.w (i<zq (zz zm L)),.g (zz zm L) i (zm (gt L i)),.a _ _,.b (Config.of c (gt L i).x (gt L i).y==r) true,.w (0≤(i:Int)),.n (zy (i:Int)) i,.w (i<zq (zz zm L)),.g (zz zm L) i (zm (gt L i))] ⟨o_n (by simp),tP,oW,nK,o_w (by (simp;omega)),o_gt rfl (by assumption) (by intro h;cases h),oW,nK,o_w (by (simp;omega)),o_gt rfl (by assumption) (by intro h;cases h),o_a hO,t_bre (by assumption),oW,nK,o_w (by (simp;omega)),o_gt rfl (by assumption) (by intro h;cases h),trivial⟩ ?_
   refine gg [.w ((0:Nat)<(72:Nat)),.t (qk 0 [zm (gt L i)]) (qk 0 (zz zm [gt L i])),.t (qk 0 (zz zm s++zz zm [gt L i])) (qk 0 (zz zm (s++ [gt L i]))),.w (room (zq (zz zm (s++ [gt L i]))) (72:Nat)),.i zd ((i:Int)+1) ((↑(i+1):Int)),.a _ _] ⟨oW,o_l (Aae rfl Aah),o_l (Aag rfl rfl),o_w (by (simp [room,appendMax];omega)),oI,o_a ih1,trivial⟩ ?_
   exact ge
  ·have d1:decide (c.of (gt L i).x (gt L i).y=r)=false:=by simpa using h
   simp only [d1,Bool.not_false,if_true,Bool.false_eq_true,if_false,List.nil_append,List.map_append,List.map_cons,List.map_nil]
   rw [List.append_assoc] at ih2
   clear ih1
   generalize (L.drop (i+1)).filter (fun e=>decide (c.of e.x e.y=r))=Y at*
   generalize ((L.drop (i+1)).filter (fun e=> !decide (c.of e.x e.y=r))).map (handE c r f)=X at*
   unfold handE at ih2⊢
   generalize c.of (gt L i).x (gt L i).y=q at*
   refine qq ?_
   refine gg [.n (zq (zz zm L)) (zq L),.b (decide ((i:Int)<(↑(zq L):Int))) true,.w (0≤(i:Int)),.n (zy (i:Int)) i,.w (i<zq (zz zm L)),.g (zz zm L) i (zm (gt L i)),.w (0≤(i:Int)),.n (zy (i:Int)) i,.w (i<zq (zz zm L)),.g (zz zm L) i (zm (gt L i)),.a _ _,.b (q==r) false,.w (0≤(i:Int)),.n (zy (i:Int)) i,.w (i<zq (zz zm L)),.g (zz zm L) i (zm (gt L i))] ⟨o_n (by simp),tP,oW,nK,o_w (by (simp;omega)),o_gt rfl (by assumption) (by intro h;cases h),oW,nK,o_w (by (simp;omega)),o_gt rfl (by assumption) (by intro h;cases h),o_a hO,f_bre (by assumption),oW,nK,o_w (by (simp;omega)),o_gt rfl (by assumption) (by intro h;cases h),trivial⟩ ?_
   refine gg [.w ((0:Nat)<(120:Nat)),.s (qk 0 [T.agg [ti 1,ti r,ti q,ti f,ti (gt L i).id,ti (gt L i).kind,ti (gt L i).x,ti (gt L i).y,ti (gt L i).vx,ti (gt L i).vy,ti (gt L i).health,ti (gt L i).age,ti (gt L i).owner,ti 0,ti 0]]),.t (qk 0 (zz zn o++ [T.agg [ti 1,ti r,ti q,ti f,ti (gt L i).id,ti (gt L i).kind,ti (gt L i).x,ti (gt L i).y,ti (gt L i).vx,ti (gt L i).vy,ti (gt L i).health,ti (gt L i).age,ti (gt L i).owner,ti 0,ti 0]])) (qk 0 (zz zn (o++ [Cross.mk 1 r q f (gt L i) 0 0]))),.w (room (zq (zz zn (o++ [Cross.mk (1:Int) r q f (gt L i) (0:Int) (0:Int)]))) (120:Nat)),.i zd ((i:Int)+1) ((↑(i+1):Int)),.a _ _] ⟨oW,o_l (Aag rfl (Aae (e:=Cross.mk 1 r q f (gt L i) 0 0) rfl Aah)),o_w (by (simp [room,appendMax];omega)),oI,o_a ih2,trivial⟩ ?_
   refine rT (a:=qz (qx 10) [vi r,V.ptr 0 0 0,V.ptr 1 0 0,V.ptr 2 0 0,qy 3 none,qy 4 none,vi (↑(zq L):Int)] [qg 5 (V.t (Config.enc c)) false,qg 2 (V.agg [vi 0,V.fit 9 []]) false,qg 9 (V.agg [vi c.cols,vi c.rows,vi c.players,vi c.window,V.t (T.int zf c.seed),vi r,vi f,qy 5 none,vi made]) false,qv 15 (zz zn (o++([Cross.mk 1 r q f (gt L i) 0 0]++X))) none false,qv 9 (zz zm (s++Y)) none false,qv 9 (zz zm L) none false]) ?_
   (first|rfl|(simp;done))
end Go.Eva.S4
namespace Go.Eva.S4
theorem AcM (c:Config) (r:Int) (s:Region) (hl:small s.ents): ∀(d i:Nat),i+d=s.ents.length→
  ∃k:Nat,Is cx (.loop 24 [0,1,0,1,1] 0 [vi r,.ptr 0 0 0,.ptr 1 0 0,vb false,vi i] [.one 5 (.t c.enc) false,.one 2 (.t s.enc) false])
   (match (s.ents.drop i).all fun e=>e.right c&&decide (c.of e.x e.y=r) with
    |false=>⟨.ret,[vi r,.ptr 0 0 0,.ptr 1 0 0,vb false,vi k],[.one 5 (.t c.enc) false,.one 2 (.t s.enc) false]⟩
    |true=>⟨.exit 0,[vi r,.ptr 0 0 0,.ptr 1 0 0,vb false,vi s.ents.length],[.one 5 (.t c.enc) false,.one 2 (.t s.enc) false]⟩):=by
 unfold small at hl
 obtain ⟨f,l⟩:=s
 simp only at hl⊢
 intro d
 induction d with
 |zero=>
  intro i hi
  refine ⟨0,?_⟩
  rw [Aac (by omega)]
  refine qq ?_
  refine gg [.n (zq (zz zm l)) (zq l),.b (decide ((i:Int)<(↑(zq l):Int))) false] ⟨o_n (by simp),fP,trivial⟩ ?_
  refine rT (a:=qz (qx 0) [vi r,V.ptr 0 0 0,V.ptr 1 0 0,vb false,vi (i:Int)] [qg 5 (V.t (Config.enc c)) false,qg 2 (V.t (zt (Region.mk f l))) false]) ?_
  ((have:i=l.length:=by omega);subst this;rfl)
 |succ d ih=>
  intro i hi
  have hlt:i<l.length:=by omega
  obtain ⟨k,ih1⟩:=ih (i+1) (by omega)
  clear ih
  rw [Aaf hlt,List.all_cons]
  have hR:=AaZ c (gt l i)
  have hO:=AbE c (gt l i).x (gt l i).y
  cases h1:(gt l i).right c with
  |false=>
   rw [h1] at hR
   refine ⟨i,?_⟩
   refine qq ?_
   refine gg [.n (zq (zz zm l)) (zq l),.b (decide ((i:Int)<(↑(zq l):Int))) true,.w (0≤(i:Int)),.n (zy (i:Int)) i,.g (zz zm l) i (zm (gt l i)),.a _ _,.b (!false) true,.tt,.tt,.tt,.tt,.tt,.tt,.tt,.tt,.tt] ⟨o_n (by simp),tP,oW,nK,o_gt rfl (by assumption) (by intro h;cases h),o_a hR,bK,trivial⟩ ?_
   exact ge
  |true=>
   rw [h1] at hR
   by_cases h2:c.of (gt l i).x (gt l i).y=r
   ·rw [h2] at hO⊢
    refine ⟨k,?_⟩
    cases hq:(l.drop (i+1)).all fun e=>e.right c&&decide (c.of e.x e.y=r) with
    |true=>
     rw [hq] at ih1
     refine qq ?_
     refine gg [.n (zq (zz zm l)) (zq l),.b (decide ((i:Int)<(↑(zq l):Int))) true,.w (0≤(i:Int)),.n (zy (i:Int)) i,.g (zz zm l) i (zm (gt l i)),.a _ _,.b (!true) false,.ff,.ff,.ff,.ff,.ff,.a _ _,.ff,.ff,.ff] ⟨o_n (by simp),tP,oW,nK,o_gt rfl (by assumption) (by intro h;cases h),o_a hR,bK,o_a hO,trivial⟩ ?_
     refine gg [.b (r !=r) false,.i zd ((i:Int)+1) ((↑(i+1):Int)),.a _ _] ⟨f_brn rfl,oI,o_a ih1,trivial⟩ ?_
     refine rT (a:=qz (qx 0) [vi r,V.ptr 0 0 0,V.ptr 1 0 0,vb false,vi (↑(zq l):Int)] [qg 5 (V.t (Config.enc c)) false,qg 2 (V.t (zt (Region.mk f l))) false]) ?_
     (simp;done)
    |false=>
     rw [hq] at ih1
     refine qq ?_
     refine gg [.n (zq (zz zm l)) (zq l),.b (decide ((i:Int)<(↑(zq l):Int))) true,.w (0≤(i:Int)),.n (zy (i:Int)) i,.g (zz zm l) i (zm (gt l i)),.a _ _,.b (!true) false,.ff,.ff,.ff,.ff,.ff,.a _ _,.ff,.ff,.ff] ⟨o_n (by simp),tP,oW,nK,o_gt rfl (by assumption) (by intro h;cases h),o_a hR,bK,o_a hO,trivial⟩ ?_
     refine gg [.b (r !=r) false,.i zd ((i:Int)+1) ((↑(i+1):Int)),.a _ _] ⟨f_brn rfl,oI,o_a ih1,trivial⟩ ?_
     refine rT (a:=qz qj [vi r,V.ptr 0 0 0,V.ptr 1 0 0,vb false,vi (k:Int)] [qg 5 (V.t (Config.enc c)) false,qg 2 (V.t (zt (Region.mk f l))) false]) ?_
     (simp;done)
   ·refine ⟨i,?_⟩
    rw [show decide (c.of (gt l i).x (gt l i).y=r)=false by simpa using h2]
    refine qq ?_
    refine gg [.n (zq (zz zm l)) (zq l),.b (decide ((i:Int)<(↑(zq l):Int))) true,.w (0≤(i:Int)),.n (zy (i:Int)) i,.g (zz zm l) i (zm (gt l i)),.a _ _,.b (!true) false,.ff,.ff,.ff,.ff,.ff,.a _ _,.ff,.ff,.ff] ⟨o_n (by simp),tP,oW,nK,o_gt rfl (by assumption) (by intro h;cases h),o_a hR,bK,o_a hO,trivial⟩ ?_
    refine gg [.b (Config.of c (gt l i).x (gt l i).y !=r) true] ⟨t_brn (by assumption),trivial⟩ ?_
    exact ge
theorem Afd (c:Config) (r:Int) (s:Region) (hn:small s.ents):Fn cx 24 [c.enc,ti r,s.enc] (.bool (regionRight c r s)):=by
 have q1:=Aa0 c r
 have q2:=Ae3 s.ents hn
 have q3:=AaM s.ents hn
 obtain ⟨k,q4⟩:=AcM c r s hn s.ents.length 0 (by omega)
 rw [List.drop_zero] at q4
 unfold regionRight within
 generalize c.is r=b1 at*
 generalize sortedL s.ents=b2 at*
 generalize things s.ents=n3 at*
 cases hq:(s.ents.all fun e=>e.right c&&decide (c.of e.x e.y=r)) with
 |true=>
  rw [hq] at q4
  clear hq
  obtain ⟨f,l⟩:=s
  refine qq ?_
  refine gg [.a _ _] ⟨o_a q1,trivial⟩ ?_
  refine brnot (b:=b1) (by kernel_rfl) (fun h1=> ?_) (fun h1=> ?_)
  ·refine gg [.tt,.tt,.tt,.tt,.tt,.tt,.tt,.tt,.tt,.tt,.tt,.tt,.tt,.tt,.tt,.tt] trivial ?_
   refine gg [.tt,.tt] trivial ?_
   refine rT (a:=qz qj [vb false] []) ?_
   (simp_all;try omega)
  ·refine gg [.ff,.ff,.ff] trivial ?_
   refine brp (p:=f<0) (by kernel_rfl) (fun h2=> ?_) (fun h2=> ?_)
   ·refine gg [.tt,.tt,.tt,.tt,.tt,.tt,.tt,.tt,.tt,.tt,.tt,.tt,.tt,.tt] trivial ?_
    refine rT (a:=qz qj [vb false] []) ?_
    (simp_all;try omega)
   ·refine gg [.ff,.ff,.ff] trivial ?_
    refine brp (p:=f>10000) (by kernel_rfl) (fun h3=> ?_) (fun h3=> ?_)
    ·refine gg [.tt,.tt,.tt,.tt,.tt,.tt,.tt,.tt,.tt,.tt] trivial ?_
     refine rT (a:=qz qj [vb false] []) ?_
     (simp_all;try omega)
    ·refine gg [.ff,.ff,.a _ _,.ff,.ff] ⟨o_a q2,trivial⟩ ?_
     refine brnot (b:=b2) (by kernel_rfl) (fun h4=> ?_) (fun h4=> ?_)
     ·refine gg [.tt,.tt,.tt,.tt,.tt] trivial ?_
      refine rT (a:=qz qj [vb false] []) ?_
      (simp_all;try omega)
     ·refine gg [.ff,.ff,.a _ _,.ff,.ff] ⟨o_a q3,trivial⟩ ?_
      refine brp (p:=n3>24) (by kernel_rfl) (fun h5=> ?_) (fun h5=> ?_)
      ·refine rT (a:=qz qj [vb false] []) ?_
       (simp_all;try omega)
      ·refine gg [.a _ _] ⟨o_a q4,trivial⟩ ?_
       refine rT (a:=qz qj [vb true] []) ?_
       (simp_all;try omega)
 |false=>
  rw [hq] at q4
  clear hq
  obtain ⟨f,l⟩:=s
  refine qq ?_
  refine gg [.a _ _] ⟨o_a q1,trivial⟩ ?_
  refine brnot (b:=b1) (by kernel_rfl) (fun h1=> ?_) (fun h1=> ?_)
  ·refine gg [.tt,.tt,.tt,.tt,.tt,.tt,.tt,.tt,.tt,.tt,.tt,.tt,.tt,.tt,.tt,.tt] trivial ?_
   refine gg [.tt,.tt] trivial ?_
   refine rT (a:=qz qj [vb false] []) ?_
   (simp_all;try omega)
  ·refine gg [.ff,.ff,.ff] trivial ?_
   refine brp (p:=f<0) (by kernel_rfl) (fun h2=> ?_) (fun h2=> ?_)
   ·refine gg [.tt,.tt,.tt,.tt,.tt,.tt,.tt,.tt,.tt,.tt,.tt,.tt,.tt,.tt] trivial ?_
    refine rT (a:=qz qj [vb false] []) ?_
    (simp_all;try omega)
   ·refine gg [.ff,.ff,.ff] trivial ?_
    refine brp (p:=f>10000) (by kernel_rfl) (fun h3=> ?_) (fun h3=> ?_)
    ·refine gg [.tt,.tt,.tt,.tt,.tt,.tt,.tt,.tt,.tt,.tt] trivial ?_
     refine rT (a:=qz qj [vb false] []) ?_
     (simp_all;try omega)
    ·refine gg [.ff,.ff,.a _ _,.ff,.ff] ⟨o_a q2,trivial⟩ ?_
     refine brnot (b:=b2) (by kernel_rfl) (fun h4=> ?_) (fun h4=> ?_)
     ·refine gg [.tt,.tt,.tt,.tt,.tt] trivial ?_
      refine rT (a:=qz qj [vb false] []) ?_
      (simp_all;try omega)
     ·refine gg [.ff,.ff,.a _ _,.ff,.ff] ⟨o_a q3,trivial⟩ ?_
      refine brp (p:=n3>24) (by kernel_rfl) (fun h5=> ?_) (fun h5=> ?_)
      ·refine rT (a:=qz qj [vb false] []) ?_
       (simp_all;try omega)
      ·refine gg [.a _ _] ⟨o_a q4,trivial⟩ ?_
       refine rT (a:=qz qj [vb false] []) ?_
       (simp_all;try omega)
end Go.Eva.S4
namespace Go.Eva.S4
theorem Acj (c:Config) (r:Int) (s:Region) (ins:List Input) (inbox:List Cross) (hn:small ins): ∀(d i:Nat),i+d=ins.length→
  ∃k:Nat,Is cx (.loop 131 [0,1,0,1,1,1,1] 0 [vi r,.t (.sl 3 (ins.map zr)),.t (.sl 15 (inbox.map zn)),.ptr 0 0 0,.ptr 1 0 0,vi 0,vi i] [.one 5 (.t c.enc) false,.one 2 (.t s.enc) false])
   (match (ins.drop i).any fun i=> !i.right with
    |true=>⟨.ret,[vi r,.t (.sl 3 (ins.map zr)),.t (.sl 15 (inbox.map zn)),.ptr 0 0 0,.ptr 1 0 0,vi 11,vi k],[.one 5 (.t c.enc) false,.one 2 (.t s.enc) false]⟩
    |false=>⟨.exit 0,[vi r,.t (.sl 3 (ins.map zr)),.t (.sl 15 (inbox.map zn)),.ptr 0 0 0,.ptr 1 0 0,vi 0,vi ins.length],[.one 5 (.t c.enc) false,.one 2 (.t s.enc) false]⟩):=by
 unfold small at hn
 intro d
 induction d with
 |zero=>
  intro i hi
  refine ⟨0,?_⟩
  rw [Aac (by omega)]
  refine qq ?_
  refine gg [.n (zq (zz zr ins)) (zq ins),.b (decide ((i:Int)<(↑(zq ins):Int))) false] ⟨o_n (by simp),fP,trivial⟩ ?_
  refine rT (a:=qz (qx 0) [vi r,V.t (qk 3 (zz zr ins)),V.t (qk 15 (zz zn inbox)),V.ptr 0 0 0,V.ptr 1 0 0,vi 0,vi (i:Int)] [qg 5 (V.t (Config.enc c)) false,qg 2 (V.t (zt s)) false]) ?_
  ((have:i=ins.length:=by omega);subst this;rfl)
 |succ d ih=>
  intro i hi
  have hlt:i<ins.length:=by omega
  obtain ⟨k,ih1⟩:=ih (i+1) (by omega)
  clear ih
  have hI:=AaY (gt ins i)
  rw [Ama _ hlt]
  cases hp:(gt ins i).right with
  |false=>
   rw [hp] at hI
   rw [Bool.not_false,Bool.true_or]
   refine ⟨i,?_⟩
   refine qq ?_
   refine gg [.n (zq (zz zr ins)) (zq ins),.b (decide ((i:Int)<(↑(zq ins):Int))) true,.w (0≤(i:Int)),.n (zy (i:Int)) i,.g (zz zr ins) i (zr (gt ins i)),.a _ _,.b (!false) true] ⟨o_n (by simp),tP,oW,nK,o_gt rfl (by assumption) (by intro h;cases h),o_a hI,bK,trivial⟩ ?_
   exact ge
  |true=>
   rw [hp] at hI
   rw [Bool.not_true,Bool.false_or]
   refine ⟨k,?_⟩
   cases hq:(ins.drop (i+1)).any fun i=> !i.right with
   |true=>
    rw [hq] at ih1
    refine qq ?_
    refine gg [.n (zq (zz zr ins)) (zq ins),.b (decide ((i:Int)<(↑(zq ins):Int))) true,.w (0≤(i:Int)),.n (zy (i:Int)) i,.g (zz zr ins) i (zr (gt ins i)),.a _ _,.b (!true) false,.i zd ((i:Int)+1) ((↑(i+1):Int)),.a _ _] ⟨o_n (by simp),tP,oW,nK,o_gt rfl (by assumption) (by intro h;cases h),o_a hI,bK,oI,o_a ih1,trivial⟩ ?_
    exact ge
   |false=>
    rw [hq] at ih1
    refine qq ?_
    refine gg [.n (zq (zz zr ins)) (zq ins),.b (decide ((i:Int)<(↑(zq ins):Int))) true,.w (0≤(i:Int)),.n (zy (i:Int)) i,.g (zz zr ins) i (zr (gt ins i)),.a _ _,.b (!true) false,.i zd ((i:Int)+1) ((↑(i+1):Int)),.a _ _] ⟨o_n (by simp),tP,oW,nK,o_gt rfl (by assumption) (by intro h;cases h),o_a hI,bK,oI,o_a ih1,trivial⟩ ?_
    exact ge
theorem Ady (c:Config) (r:Int) (s:Region) (inbox:List Cross) (hn:small inbox) (hf:0≤s.frame∧s.frame≤10000): ∀(d i:Nat),i+d=inbox.length→
  ∃k:Nat,Is cx (.loop 131 [0,1,0,1,1,1,1,1] 0 [vi r,.t (.sl 15 (inbox.map zn)),.ptr 0 0 0,.ptr 1 0 0,vi 0,vi i] [.one 5 (.t c.enc) false,.one 2 (.t s.enc) false])
   (match (inbox.drop i).any fun m=> !(m.right c&&decide (m.to=r)&&decide (m.frame=s.frame-1)) with
    |true=>⟨.ret,[vi r,.t (.sl 15 (inbox.map zn)),.ptr 0 0 0,.ptr 1 0 0,vi 1,vi k],[.one 5 (.t c.enc) false,.one 2 (.t s.enc) false]⟩
    |false=>⟨.exit 2,[vi r,.t (.sl 15 (inbox.map zn)),.ptr 0 0 0,.ptr 1 0 0,vi 0,vi inbox.length],[.one 5 (.t c.enc) false,.one 2 (.t s.enc) false]⟩):=by
 unfold small at hn
 obtain ⟨f,l⟩:=s
 simp only at hf⊢
 intro d
 induction d with
 |zero=>
  intro i hi
  refine ⟨0,?_⟩
  rw [Aac (by omega)]
  refine qq ?_
  refine gg [.n (zq (zz zn inbox)) (zq inbox),.b (decide ((i:Int)<(↑(zq inbox):Int))) false] ⟨o_n (by simp),fP,trivial⟩ ?_
  refine rT (a:=qz (qx 2) [vi r,V.t (qk 15 (zz zn inbox)),V.ptr 0 0 0,V.ptr 1 0 0,vi 0,vi (i:Int)] [qg 5 (V.t (Config.enc c)) false,qg 2 (V.t (zt (Region.mk f l))) false]) ?_
  ((have:i=inbox.length:=by omega);subst this;rfl)
 |succ d ih=>
  intro i hi
  have hlt:i<inbox.length:=by omega
  obtain ⟨k,ih1⟩:=ih (i+1) (by omega)
  clear ih
  have hC:=AeT c (gt inbox i)
  rw [Ama _ hlt]
  cases hp:(gt inbox i).right c with
  |false=>
   rw [hp] at hC
   rw [Bool.false_and,Bool.false_and,Bool.not_false,Bool.true_or]
   refine ⟨i,?_⟩
   refine qq ?_
   refine gg [.n (zq (zz zn inbox)) (zq inbox),.b (decide ((i:Int)<(↑(zq inbox):Int))) true,.w (0≤(i:Int)),.n (zy (i:Int)) i,.g (zz zn inbox) i (zn (gt inbox i)),.a _ _,.b (!false) true,.tt,.tt,.tt,.tt,.tt,.tt,.tt,.tt,.tt] ⟨o_n (by simp),tP,oW,nK,o_gt rfl (by assumption) (by intro h;cases h),o_a hC,bK,trivial⟩ ?_
   refine gg [.tt,.tt,.tt,.tt,.tt,.tt,.tt,.tt,.tt] trivial ?_
   exact ge
  |true=>
   rw [hp] at hC
   by_cases h1:(gt inbox i).to=r
   ·by_cases h2:(gt inbox i).frame=f-1
    ·simp only [h1,h2,decide_true,Bool.and_self,Bool.not_true,Bool.false_or]
     refine ⟨k,?_⟩
     cases hq:(inbox.drop (i+1)).any fun m=> !(m.right c&&decide (m.to=r)&&decide (m.frame=f-1)) with
     |true=>
      rw [hq] at ih1
      refine qq ?_
      refine gg [.n (zq (zz zn inbox)) (zq inbox),.b (decide ((i:Int)<(↑(zq inbox):Int))) true,.w (0≤(i:Int)),.n (zy (i:Int)) i,.g (zz zn inbox) i (zn (gt inbox i)),.a _ _,.b (!true) false,.ff,.ff,.w (0≤(i:Int)),.n (zy (i:Int)) i,.g (zz zn inbox) i (zn (gt inbox i)),.ff,.ff,.ff,.ff] ⟨o_n (by simp),tP,oW,nK,o_gt rfl (by assumption) (by intro h;cases h),o_a hC,bK,oW,nK,o_gt rfl (by assumption) (by intro h;cases h),trivial⟩ ?_
      refine gg [.ff,.b ((gt inbox i).to !=r) false,.ff,.ff,.w (0≤(i:Int)),.n (zy (i:Int)) i,.g (zz zn inbox) i (zn (gt inbox i)),.ff,.ff,.ff,.ff,.ff,.i zd (f-1) (f-1),.ff,.ff,.b ((gt inbox i).frame !=f-1) false] ⟨f_brn (by assumption),oW,nK,o_gt rfl (by assumption) (by intro h;cases h),oI,f_brn (by assumption),trivial⟩ ?_
      refine gg [.i zd ((i:Int)+1) ((↑(i+1):Int)),.a _ _] ⟨oI,o_a ih1,trivial⟩ ?_
      exact ge
     |false=>
      rw [hq] at ih1
      refine qq ?_
      refine gg [.n (zq (zz zn inbox)) (zq inbox),.b (decide ((i:Int)<(↑(zq inbox):Int))) true,.w (0≤(i:Int)),.n (zy (i:Int)) i,.g (zz zn inbox) i (zn (gt inbox i)),.a _ _,.b (!true) false,.ff,.ff,.w (0≤(i:Int)),.n (zy (i:Int)) i,.g (zz zn inbox) i (zn (gt inbox i)),.ff,.ff,.ff,.ff] ⟨o_n (by simp),tP,oW,nK,o_gt rfl (by assumption) (by intro h;cases h),o_a hC,bK,oW,nK,o_gt rfl (by assumption) (by intro h;cases h),trivial⟩ ?_
      refine gg [.ff,.b ((gt inbox i).to !=r) false,.ff,.ff,.w (0≤(i:Int)),.n (zy (i:Int)) i,.g (zz zn inbox) i (zn (gt inbox i)),.ff,.ff,.ff,.ff,.ff,.i zd (f-1) (f-1),.ff,.ff,.b ((gt inbox i).frame !=f-1) false] ⟨f_brn (by assumption),oW,nK,o_gt rfl (by assumption) (by intro h;cases h),oI,f_brn (by assumption),trivial⟩ ?_
      refine gg [.i zd ((i:Int)+1) ((↑(i+1):Int)),.a _ _] ⟨oI,o_a ih1,trivial⟩ ?_
      exact ge
    ·simp only [h1,h2,decide_true,decide_false,Bool.and_false,Bool.not_false,Bool.true_or]
     refine ⟨i,?_⟩
     refine qq ?_
     refine gg [.n (zq (zz zn inbox)) (zq inbox),.b (decide ((i:Int)<(↑(zq inbox):Int))) true,.w (0≤(i:Int)),.n (zy (i:Int)) i,.g (zz zn inbox) i (zn (gt inbox i)),.a _ _,.b (!true) false,.ff,.ff,.w (0≤(i:Int)),.n (zy (i:Int)) i,.g (zz zn inbox) i (zn (gt inbox i)),.ff,.ff,.ff,.ff] ⟨o_n (by simp),tP,oW,nK,o_gt rfl (by assumption) (by intro h;cases h),o_a hC,bK,oW,nK,o_gt rfl (by assumption) (by intro h;cases h),trivial⟩ ?_
     refine gg [.ff,.b ((gt inbox i).to !=r) false,.ff,.ff,.w (0≤(i:Int)),.n (zy (i:Int)) i,.g (zz zn inbox) i (zn (gt inbox i)),.ff,.ff,.ff,.ff,.ff,.i zd (f-1) (f-1),.ff,.ff,.b ((gt inbox i).frame !=f-1) true] ⟨f_brn (by assumption),oW,nK,o_gt rfl (by assumption) (by intro h;cases h),oI,t_brn (by assumption),trivial⟩ ?_
     exact ge
   ·simp only [h1,decide_false,Bool.and_false,Bool.false_and,Bool.not_false,Bool.true_or]
    refine ⟨i,?_⟩
    refine qq ?_
    refine gg [.n (zq (zz zn inbox)) (zq inbox),.b (decide ((i:Int)<(↑(zq inbox):Int))) true,.w (0≤(i:Int)),.n (zy (i:Int)) i,.g (zz zn inbox) i (zn (gt inbox i)),.a _ _,.b (!true) false,.ff,.ff,.w (0≤(i:Int)),.n (zy (i:Int)) i,.g (zz zn inbox) i (zn (gt inbox i)),.ff,.ff,.ff,.ff] ⟨o_n (by simp),tP,oW,nK,o_gt rfl (by assumption) (by intro h;cases h),o_a hC,bK,oW,nK,o_gt rfl (by assumption) (by intro h;cases h),trivial⟩ ?_
    refine gg [.ff,.b ((gt inbox i).to !=r) true,.tt,.tt,.tt,.tt,.tt,.tt,.tt,.tt,.tt,.tt] ⟨t_brn (by assumption),trivial⟩ ?_
    exact ge
theorem Afa (c:Config) (r:Int) (s:Region) (ins:List Input) (inbox:List Cross) (hn:small s.ents) (hi:small ins) (hb:small inbox):
  Fn cx 131 [c.enc,ti r,s.enc,.sl 3 (ins.map zr),.sl 15 (inbox.map zn)] (ti (askedE c r s ins inbox)):=by
 have h1:=Aa0 c r
 have h2:=Afd c r s hn
 unfold askedE
 cases q1:c.is r with
 |false=>
  rw [q1] at h1
  rw [if_pos rfl]
  refine qq ?_
  refine gg [.a _ _,.b (!false) true] ⟨o_a h1,bK,trivial⟩ ?_
  exact ge
 |true=>
  rw [q1] at h1
  rw [if_neg (by simp)]
  cases q2:regionRight c r s with
  |false=>
   rw [q2] at h2
   rw [if_pos rfl]
   refine qq ?_
   refine gg [.a _ _,.b (!true) false,.a _ _,.b (!false) true] ⟨o_a h1,bK,o_a h2,bK,trivial⟩ ?_
   exact ge
  |true=>
   rw [q2] at h2
   rw [if_neg (by simp)]
   have hfr:=(Abc.1 q2).2.1
   by_cases q3:(ins.length:Int)=c.players
   ·obtain ⟨k3,h3⟩:=Acj c r s ins inbox hi ins.length 0 (Nat.zero_add _)
    rw [List.drop_zero] at h3
    cases q4:ins.any fun i=> !i.right with
    |true=>
     rw [q4] at h3
     rw [if_pos (.inr rfl)]
     refine qq ?_
     refine gg [.a _ _,.b (!true) false,.a _ _,.b (!true) false,.n (zq (zz zr ins)) (zq ins),.b ((↑(zq ins):Int) !=c.players) false,.a _ _] ⟨o_a h1,bK,o_a h2,bK,o_n (by simp),f_brn (by assumption),o_a h3,trivial⟩ ?_
     exact ge
    |false=>
     rw [q4] at h3
     rw [if_neg (fun q=>q.elim (fun q=>q q3) (by simp))]
     obtain ⟨k5,h5⟩:=Ady c r s inbox hb hfr inbox.length 0 (Nat.zero_add _)
     rw [List.drop_zero] at h5
     cases q5:inbox.any fun m=> !(m.right c&&decide (m.to=r)&&decide (m.frame=s.frame-1)) with
     |true=>
      rw [q5] at h5
      rw [if_pos rfl]
      refine qq ?_
      refine gg [.a _ _,.b (!true) false,.a _ _,.b (!true) false,.n (zq (zz zr ins)) (zq ins),.b ((↑(zq ins):Int) !=c.players) false,.a _ _,.a _ _] ⟨o_a h1,bK,o_a h2,bK,o_n (by simp),f_brn (by assumption),o_a h3,o_a h5,trivial⟩ ?_
      exact ge
     |false=>
      rw [q5] at h5
      rw [if_neg (by simp)]
      obtain ⟨f,l⟩:=s
      simp only at hfr h1 h2 h3 h5⊢
      by_cases q6:f=10000
      ·rw [if_pos q6]
       refine qq ?_
       refine gg [.a _ _,.b (!true) false,.a _ _,.b (!true) false,.n (zq (zz zr ins)) (zq ins),.b ((↑(zq ins):Int) !=c.players) false,.a _ _,.a _ _,.b (decide (f≥10000)) true] ⟨o_a h1,bK,o_a h2,bK,o_n (by simp),f_brn (by assumption),o_a h3,o_a h5,tP,trivial⟩ ?_
       exact ge
      ·rw [if_neg q6]
       refine qq ?_
       refine gg [.a _ _,.b (!true) false,.a _ _,.b (!true) false,.n (zq (zz zr ins)) (zq ins),.b ((↑(zq ins):Int) !=c.players) false,.a _ _,.a _ _,.b (decide (f≥10000)) false] ⟨o_a h1,bK,o_a h2,bK,o_n (by simp),f_brn (by assumption),o_a h3,o_a h5,fP,trivial⟩ ?_
       exact ge
   ·rw [if_pos (.inl q3)]
    refine qq ?_
    refine gg [.a _ _,.b (!true) false,.a _ _,.b (!true) false,.n (zq (zz zr ins)) (zq ins),.b ((↑(zq ins):Int) !=c.players) true] ⟨o_a h1,bK,o_a h2,bK,o_n (by simp),t_brn (by assumption),trivial⟩ ?_
    exact ge
end Go.Eva.S4
namespace Go.Eva.S4
theorem AlQ (c:Config) (r f made:Int) (l L A M M1 M2 H FL Z:List Entity) (P ids near:List Int) (ins:List Input) (inbox:List Cross) (o oo so:List Cross) (n:Nat) (b z:Int)
  (hf:0≤f∧f<10000) (hll:L.length≤1000) (hlA:A.length≤1000) (hlH:H.length≤1000) (hlF:FL.length≤1000) (hno:n≤1000)
  (ha:Fn cx 131 [c.enc,ti r,zt ⟨f,l⟩,.sl 3 (ins.map zr),(.sl 15 (inbox.map zn))] (ti 0))
  (hA:Is cx (.call 132 [.t (zt ⟨f,l⟩),.t (.sl 15 (inbox.map zn))] []) ⟨.ret,[.all 0 none],[.arr 9 (L.map zm) none false]⟩)
  (hPr:Fn cx 133 [zt ⟨f,l⟩,(.sl 15 (inbox.map zn))] (.sl 1 (P.map ti)))
  (hst:Is cx (.loop 80 [0,1,0,1,1,1,1,1] 0 [vi r,.t (.sl 3 (ins.map zr)),.t (.sl 15 (inbox.map zn)),.ptr 0 0 0,.ptr 1 0 0,.ptr 2 0 0,.t (.sl 1 (P.map ti)),vi ((0:Nat))] [.one 5 (.t c.enc) false,.one 2 (.agg [vi 0,.fit 9 []]) false,.one 9 (mkV c r f (0) (.all 3 none)) false,.arr 9 ((L).map zm) none false])
   ⟨.exit 0,[vi r,.t (.sl 3 (ins.map zr)),.t (.sl 15 (inbox.map zn)),.ptr 0 0 0,.ptr 1 0 0,.ptr 2 0 0,.t (.sl 1 (P.map ti)),vi P.length],[.one 5 (.t c.enc) false,.one 2 (.agg [vi 0,.fit 9 []]) false,.one 9 (mkV c r f (made) (.all 3 none)) false,.arr 9 ((A).map zm) none false]⟩)
  (hmv:Is cx (.loop 80 [0,1,0,1,1,1,1,1,1,1] 0 [vi r,.t (.sl 15 (inbox.map zn)),.ptr 0 0 0,.ptr 1 0 0,.ptr 2 0 0,.all 3 none,vi (0:Nat)] [.one 5 (.t c.enc) false,.one 2 (.agg [vi 0,.fit 9 []]) false,.one 9 (mkV c r f made (.all 4 none)) false,.arr 9 (([]:List Entity).map zm) none false,.arr 9 ((A).map zm) none false])
   ⟨.exit 2,[vi r,.t (.sl 15 (inbox.map zn)),.ptr 0 0 0,.ptr 1 0 0,.ptr 2 0 0,.all 3 none,vi A.length],[.one 5 (.t c.enc) false,.one 2 (.agg [vi 0,.fit 9 []]) false,.one 9 (mkV c r f made (.all 4 none)) false,.arr 9 ((M).map zm) none false,.arr 9 ((A).map zm) none false]⟩)
  (hsh:Is cx (.call 141 [.t (.sl 9 (M.map zm))] []) ⟨.ret,[.all 0 none],[.arr 9 ((M1).map zm) none false]⟩)
  (hge:Is cx (.call 140 [.t (.sl 9 (M1.map zm))] []) ⟨.ret,[.all 0 none],[.arr 9 ((M2).map zm) none false]⟩)
  (hbl:Is cx (.call 139 [.t (.sl 9 (M2.map zm)),.t (.sl 15 (inbox.map zn))] []) ⟨.ret,[.all 0 none],[.arr 9 ((H).map zm) none false]⟩)
  (hfa:Is cx (.call 142 [.all 0 none] [.arr 9 (H.map zm) none false]) ⟨.ret,[.all 1 none],[.arr 9 (H.map zm) none false,.arr 1 (ids.map ti) none false]⟩)
  (hnr:Fn cx 27 [c.enc,ti r] (.sl 1 (near.map ti)))
  (hfl:Is cx (.loop 80 [0,1,0,1,1,1,1,1,1,1,1,1,1,1,1] 0 [vi r,.ptr 0 0 0,.ptr 1 0 0,.ptr 2 0 0,.all 3 none,.all 4 none,.t (.sl 1 (near.map ti)),vi (0:Nat)] [.one 5 (.t c.enc) false,.one 2 (.agg [vi 0,.fit 9 []]) false,.one 9 (mkV c r f made (.all 5 none)) false,.arr 15 (([]:List Cross).map zn) none false,.arr 1 (ids.map ti) none false,.arr 9 ((H).map zm) none false])
   ⟨.exit 4,[vi r,.ptr 0 0 0,.ptr 1 0 0,.ptr 2 0 0,.all 3 none,.all 4 none,.t (.sl 1 (near.map ti)),vi ids.length],[.one 5 (.t c.enc) false,.one 2 (.agg [vi 0,.fit 9 []]) false,.one 9 (mkV c r f made (.all 5 none)) false,.arr 15 ((o).map zn) none false,.arr 1 (ids.map ti) none false,.arr 9 ((FL).map zm) none false]⟩)
  (hgm:Is cx (.loop 80 [0,1,0,1,1,1,1,1,1,1,1,1,1,1,1,1,1] 0 [vi r,.ptr 0 0 0,.ptr 1 0 0,.ptr 2 0 0,.all 3 none,vi (0:Nat),vi (0:Nat)] [.one 5 (.t c.enc) false,.one 2 (.agg [vi 0,.fit 9 []]) false,.one 9 (mkV c r f made (.all 4 none)) false,.arr 15 ((o).map zn) none false,.arr 9 ((FL).map zm) none false])
   ⟨.exit 8,[vi r,.ptr 0 0 0,.ptr 1 0 0,.ptr 2 0 0,.all 3 none,vi (n:Nat),vi FL.length],[.one 5 (.t c.enc) false,.one 2 (.agg [vi 0,.fit 9 []]) false,.one 9 (mkV c r f made (.all 4 none)) false,.arr 15 ((o).map zn) none false,.arr 9 ((FL).map zm) none false]⟩)
  (hbw:Fn cx 144 [ti 8,.int .u64 c.seed,.sl 1 ([3,f,r].map ti)] (ti b))
  (hrm:Fn cx 135 [.ip 9 (mkT c r f FL made) 0] (.bool (decide (z=1))))
  (hso:Fn cx 145 [.sl 15 (oo.map zn)] (.sl 15 (so.map zn)))
  (hlv:Is cx (.loop 80 [0,1,0,1,1,1,1,1,1,1,1,1,1,1,1,1,1,1,1,1] 0 [vi r,.ptr 0 0 0,.ptr 1 0 0,.ptr 2 0 0,.all 3 none,.all 4 none,vi (0:Nat)] [.one 5 (.t c.enc) false,.one 2 (.agg [vi 0,.fit 9 []]) false,.one 9 (mkV c r f (made) (.all 5 none)) false,.arr 15 ((o).map zn) none false,.arr 9 (([]:List Entity).map zm) none false,.arr 9 ((FL).map zm) none false])
   ⟨.exit 10,[vi r,.ptr 0 0 0,.ptr 1 0 0,.ptr 2 0 0,.all 3 none,.all 4 none,vi FL.length],[.one 5 (.t c.enc) false,.one 2 (.agg [vi 0,.fit 9 []]) false,.one 9 (mkV c r f (made) (.all 5 none)) false,.arr 15 ((oo).map zn) none false,.arr 9 ((Z).map zm) none false,.arr 9 ((FL).map zm) none false]⟩)
  (hg:b≠0∨3≤n∨z≠1):Is cx (.call 80 [.t c.enc,vi r,.t (zt ⟨f,l⟩),.t (.sl 3 (ins.map zr)),.t (.sl 15 (inbox.map zn))] []) ⟨.ret,[.t (zt ⟨f+1,Z⟩),.t (.sl 15 (so.map zn)),vi 0],[]⟩:=by
 refine qq ?_
 refine gg [.a _ _,.b (0 !=0) false,.a _ _,.a _ _,.a _ _,.a _ _,.a _ _,.a _ _,.a _ _,.a _ _] ⟨o_a ha,bK,o_a hA,o_a hPr,o_a hst,o_a hmv,o_a hsh,o_a hge,o_a hbl,o_a hfa,trivial⟩ ?_
 refine gg [.a _ _,.a _ _,.a _ _,.a _ _] ⟨o_a hnr,o_a hfl,o_a hgm,o_a hbw,trivial⟩ ?_
 refine bre (x:=b) (y:=0) (by kernel_rfl) (fun h1=> ?_) (fun h1=> ?_)
 ·refine gg [.tt,.tt] trivial ?_
  refine brp (p:=(n:Int)<3) (by kernel_rfl) (fun h2=> ?_) (fun h2=> ?_)
  ·refine gg [.tt,.a _ _,.b (flats [T.bool (decide (z=1))]) true,.tt,.b (decide (z=1)) false,.a _ _,.i zd (f+1) (f+1),.a _ _,.b (flats [qk 15 (zz zn so)]) false] ⟨o_a hrm,bK,fP,o_a hlv,oI,o_a hso,bK,trivial⟩ ?_
   exact ge
  ·refine gg [.ff,.ff,.ff,.a _ _,.i zd (f+1) (f+1),.a _ _,.b (flats [qk 15 (zz zn so)]) false] ⟨o_a hlv,oI,o_a hso,bK,trivial⟩ ?_
   exact ge
 ·refine gg [.ff,.ff,.ff,.ff,.ff,.ff,.a _ _,.i zd (f+1) (f+1),.a _ _,.b (flats [qk 15 (zz zn so)]) false] ⟨o_a hlv,oI,o_a hso,bK,trivial⟩ ?_
  exact ge
theorem AkY (c:Config) (r f made:Int) (l L A M M1 M2 H FL Z:List Entity) (P ids near:List Int) (ins:List Input) (inbox:List Cross) (o oo so:List Cross) (n:Nat) (b z:Int)
  (hf:0≤f∧f<10000) (hll:L.length≤1000) (hlA:A.length≤1000) (hlH:H.length≤1000) (hlF:FL.length≤1000) (hno:n≤1000)
  (ha:Fn cx 131 [c.enc,ti r,zt ⟨f,l⟩,.sl 3 (ins.map zr),(.sl 15 (inbox.map zn))] (ti 0))
  (hA:Is cx (.call 132 [.t (zt ⟨f,l⟩),.t (.sl 15 (inbox.map zn))] []) ⟨.ret,[.all 0 none],[.arr 9 (L.map zm) none false]⟩)
  (hPr:Fn cx 133 [zt ⟨f,l⟩,(.sl 15 (inbox.map zn))] (.sl 1 (P.map ti)))
  (hst:Is cx (.loop 80 [0,1,0,1,1,1,1,1] 0 [vi r,.t (.sl 3 (ins.map zr)),.t (.sl 15 (inbox.map zn)),.ptr 0 0 0,.ptr 1 0 0,.ptr 2 0 0,.t (.sl 1 (P.map ti)),vi ((0:Nat))] [.one 5 (.t c.enc) false,.one 2 (.agg [vi 0,.fit 9 []]) false,.one 9 (mkV c r f (0) (.all 3 none)) false,.arr 9 ((L).map zm) none false])
   ⟨.exit 0,[vi r,.t (.sl 3 (ins.map zr)),.t (.sl 15 (inbox.map zn)),.ptr 0 0 0,.ptr 1 0 0,.ptr 2 0 0,.t (.sl 1 (P.map ti)),vi P.length],[.one 5 (.t c.enc) false,.one 2 (.agg [vi 0,.fit 9 []]) false,.one 9 (mkV c r f (made) (.all 3 none)) false,.arr 9 ((A).map zm) none false]⟩)
  (hmv:Is cx (.loop 80 [0,1,0,1,1,1,1,1,1,1] 0 [vi r,.t (.sl 15 (inbox.map zn)),.ptr 0 0 0,.ptr 1 0 0,.ptr 2 0 0,.all 3 none,vi (0:Nat)] [.one 5 (.t c.enc) false,.one 2 (.agg [vi 0,.fit 9 []]) false,.one 9 (mkV c r f made (.all 4 none)) false,.arr 9 (([]:List Entity).map zm) none false,.arr 9 ((A).map zm) none false])
   ⟨.exit 2,[vi r,.t (.sl 15 (inbox.map zn)),.ptr 0 0 0,.ptr 1 0 0,.ptr 2 0 0,.all 3 none,vi A.length],[.one 5 (.t c.enc) false,.one 2 (.agg [vi 0,.fit 9 []]) false,.one 9 (mkV c r f made (.all 4 none)) false,.arr 9 ((M).map zm) none false,.arr 9 ((A).map zm) none false]⟩)
  (hsh:Is cx (.call 141 [.t (.sl 9 (M.map zm))] []) ⟨.ret,[.all 0 none],[.arr 9 ((M1).map zm) none false]⟩)
  (hge:Is cx (.call 140 [.t (.sl 9 (M1.map zm))] []) ⟨.ret,[.all 0 none],[.arr 9 ((M2).map zm) none false]⟩)
  (hbl:Is cx (.call 139 [.t (.sl 9 (M2.map zm)),.t (.sl 15 (inbox.map zn))] []) ⟨.ret,[.all 0 none],[.arr 9 ((H).map zm) none false]⟩)
  (hfa:Is cx (.call 142 [.all 0 none] [.arr 9 (H.map zm) none false]) ⟨.ret,[.all 1 none],[.arr 9 (H.map zm) none false,.arr 1 (ids.map ti) none false]⟩)
  (hnr:Fn cx 27 [c.enc,ti r] (.sl 1 (near.map ti)))
  (hfl:Is cx (.loop 80 [0,1,0,1,1,1,1,1,1,1,1,1,1,1,1] 0 [vi r,.ptr 0 0 0,.ptr 1 0 0,.ptr 2 0 0,.all 3 none,.all 4 none,.t (.sl 1 (near.map ti)),vi (0:Nat)] [.one 5 (.t c.enc) false,.one 2 (.agg [vi 0,.fit 9 []]) false,.one 9 (mkV c r f made (.all 5 none)) false,.arr 15 (([]:List Cross).map zn) none false,.arr 1 (ids.map ti) none false,.arr 9 ((H).map zm) none false])
   ⟨.exit 4,[vi r,.ptr 0 0 0,.ptr 1 0 0,.ptr 2 0 0,.all 3 none,.all 4 none,.t (.sl 1 (near.map ti)),vi ids.length],[.one 5 (.t c.enc) false,.one 2 (.agg [vi 0,.fit 9 []]) false,.one 9 (mkV c r f made (.all 5 none)) false,.arr 15 ((o).map zn) none false,.arr 1 (ids.map ti) none false,.arr 9 ((FL).map zm) none false]⟩)
  (hgm:Is cx (.loop 80 [0,1,0,1,1,1,1,1,1,1,1,1,1,1,1,1,1] 0 [vi r,.ptr 0 0 0,.ptr 1 0 0,.ptr 2 0 0,.all 3 none,vi (0:Nat),vi (0:Nat)] [.one 5 (.t c.enc) false,.one 2 (.agg [vi 0,.fit 9 []]) false,.one 9 (mkV c r f made (.all 4 none)) false,.arr 15 ((o).map zn) none false,.arr 9 ((FL).map zm) none false])
   ⟨.exit 8,[vi r,.ptr 0 0 0,.ptr 1 0 0,.ptr 2 0 0,.all 3 none,vi (n:Nat),vi FL.length],[.one 5 (.t c.enc) false,.one 2 (.agg [vi 0,.fit 9 []]) false,.one 9 (mkV c r f made (.all 4 none)) false,.arr 15 ((o).map zn) none false,.arr 9 ((FL).map zm) none false]⟩)
  (hbw:Fn cx 144 [ti 8,.int .u64 c.seed,.sl 1 ([3,f,r].map ti)] (ti b))
  (hrm:Fn cx 135 [.ip 9 (mkT c r f FL made) 0] (.bool (decide (z=1))))
  (hso:Fn cx 145 [.sl 15 (oo.map zn)] (.sl 15 (so.map zn)))
  (px py nn:Int) (G:List Entity)
  (hpl:Is cx (.call 143 [.t (.ip 9 (mkT c r f FL made) 0),vi 4,vi 5,vi r] []) ⟨.ret,[vi px,vi py],[]⟩)
  (hnx:Is cx (.call 137 [.ptr 0 0 0] [.one 9 (mkV c r f made (.all 1 none)) false,.arr 9 (FL.map zm) none false]) ⟨.ret,[vi nn],[.one 9 (mkV c r f (made+1) (.all 1 none)) false,.arr 9 (FL.map zm) none false]⟩)
  (hput:Is cx (.call 58 [.all 0 none,.t (zm ⟨nn,3,px,py,0,0,1,0,0⟩)] [.arr 9 (FL.map zm) none false]) ⟨.ret,[.all 1 none],[.dead,.arr 9 (G.map zm) none false]⟩)
  (hlv:Is cx (.loop 80 [0,1,0,1,1,1,1,1,1,1,1,1,1,1,1,1,1,1,1,1] 0 [vi r,.ptr 0 0 0,.ptr 1 0 0,.ptr 2 0 0,.all 3 none,.all 4 none,vi (0:Nat)] [.one 5 (.t c.enc) false,.one 2 (.agg [vi 0,.fit 9 []]) false,.one 9 (mkV c r f (made+1) (.all 5 none)) false,.arr 15 ((o).map zn) none false,.arr 9 (([]:List Entity).map zm) none false,.arr 9 ((G).map zm) none false])
   ⟨.exit 10,[vi r,.ptr 0 0 0,.ptr 1 0 0,.ptr 2 0 0,.all 3 none,.all 4 none,vi G.length],[.one 5 (.t c.enc) false,.one 2 (.agg [vi 0,.fit 9 []]) false,.one 9 (mkV c r f (made+1) (.all 5 none)) false,.arr 15 ((oo).map zn) none false,.arr 9 ((Z).map zm) none false,.arr 9 ((G).map zm) none false]⟩)
  (hg1:b=0) (hg2:n<3) (hg3:z=1):Is cx (.call 80 [.t c.enc,vi r,.t (zt ⟨f,l⟩),.t (.sl 3 (ins.map zr)),.t (.sl 15 (inbox.map zn))] []) ⟨.ret,[.t (zt ⟨f+1,Z⟩),.t (.sl 15 (so.map zn)),vi 0],[]⟩:=by
 refine qq ?_
 refine gg [.a _ _,.b (0 !=0) false,.a _ _,.a _ _,.a _ _,.a _ _,.a _ _,.a _ _,.a _ _,.a _ _] ⟨o_a ha,bK,o_a hA,o_a hPr,o_a hst,o_a hmv,o_a hsh,o_a hge,o_a hbl,o_a hfa,trivial⟩ ?_
 refine gg [.a _ _,.a _ _,.a _ _,.a _ _,.b (b==0) true,.tt,.tt,.b (decide ((n:Int)<3)) true,.tt,.a _ _,.b (flats [T.bool (decide (z=1))]) true,.tt,.b (decide (z=1)) true,.a _ _,.b (flats [ti px,ti py]) true,.a _ _] ⟨o_a hnr,o_a hfl,o_a hgm,o_a hbw,t_bre (by assumption),tP,o_a hrm,bK,t_brp (by assumption),o_a hpl,bK,o_a hnx,trivial⟩ ?_
 refine gg [.a _ _,.a _ _,.i zd (f+1) (f+1),.a _ _,.b (flats [qk 15 (zz zn so)]) false] ⟨o_a hput,o_a hlv,oI,o_a hso,bK,trivial⟩ ?_
 exact ge
theorem AdC (c:Config) (r:Int) (s:Region) (ins:List Input) (inbox:List Cross) (hn:s.ents.length≤100000) (hi:small ins) (hb:inbox.length≤100000) (h:askedE c r s ins inbox=0):
  Is cx (.call 80 [.t c.enc,vi r,.t s.enc,.t (.sl 3 (ins.map zr)),.t (.sl 15 (inbox.map zn))] []) ⟨.ret,[.t (zt ⟨s.frame+1,(stepS c r s ins inbox).l⟩),.t (.sl 15 ((sortS z7 (stepS c r s ins inbox).out).map zn)),vi 0],[]⟩:=by
 have hfine:=AfP h
 have hrc:=Config.is_right hfine.is
 have ha:=Afa c r s ins inbox (by unfold small;omega) hi (by unfold small;omega)
 rw [h] at ha
 have hA:=AbP s inbox hn hb
 have hsane:=hfine.sane
 have hLl:=hsane.len hrc
 have hPr:=AdW s inbox hn hb (by omega)
 obtain ⟨hst1,hst2⟩:=Afb hfine
 have hr:=Config.is_le hfine.is
 have hreg:= @Config.regions_le c
 have hf:=hfine.frame
 have hPl:(presentL s.ents inbox).length≤(arriveL s.ents inbox).length:=by unfold presentL;rw [List.length_map];exact List.length_filter_le ..
 have hst:=AcO c r s.frame ins (.sl 15 (inbox.map zn)) hfine.is hf hfine.len hfine.ins (presentL s.ents inbox) (by omega) (presentL s.ents inbox).length 0 (arriveL s.ents inbox) 0 (plE1 (arriveL s.ents inbox)) (by omega) rfl (fun p hp=>by
  obtain ⟨h1,h2⟩:=List.mem_filter.1 hp
  exact ⟨h1,by simpa using h2⟩) (AdS hsane.srt) ⟨hsane,by simp⟩
 rw [←AjN] at hst
 change Is cx _ ⟨_,_,[_,_,.one 9 (mkV c r s.frame (steerS c r s.frame ins ⟨arriveL s.ents inbox,0,[]⟩).made _) _,.arr 9 ((steerS c r s.frame ins ⟨arriveL s.ents inbox,0,[]⟩).l.map zm) _ _]⟩ at hst
 unfold stepS restS
 generalize steerS c r s.frame ins ⟨arriveL s.ents inbox,0,[]⟩=S at*
 generalize presentL s.ents inbox=P at*
 generalize arriveL s.ents inbox=L at*
 obtain ⟨A,made,o⟩:=S
 simp only at hst hst1 hst2⊢
 subst hst2
 have hmade:=hst1.made
 simp only at hmade
 have hAs:=hst1.sane
 simp only at hAs
 have hAl:=hAs.len hrc
 have hmv:=Adw c r s.frame made (.sl 15 (inbox.map zn)) A (by omega) (fun e he=>by have:=Afj (hAs.ents e he).1;omega) A.length 0 [] (by omega) (by simp)
 rw [List.drop_zero,List.nil_append] at hmv
 obtain ⟨hM,hMr⟩:=Acn hAs
 have hMl:=hM.len hrc
 have hHm:=(Acv (inbox:=inbox) hM).1
 have hHl:=hHm.len hrc
 have hsh:=Afy (moveL c A) (by unfold small;omega)
 rw [←AmS] at hsh
 have h1l:(shotsL (moveL c A)).length≤30:=by
  have:=(AdL (l:=moveL c A) fun e he _=>Afo (hMr e he)).moved hM
  exact this.len hrc
 have hge:=AfR (shotsL (moveL c A)) (by unfold small;omega)
 rw [←AnS] at hge
 have h2l:(gemsL (shotsL (moveL c A))).length≤30:=by
  have k1:=AdL (l:=moveL c A) fun e he _=>Afo (hMr e he)
  have:=(Ais (l:=shotsL (moveL c A)) k1.low).moved (k1.moved hM)
  exact this.len hrc
 have hbl:=Aew (gemsL (shotsL (moveL c A))) inbox (by unfold small;omega) (by unfold small;omega)
 clear hHm hM hMr hst1 hsane hfine h hAs
 generalize blastsL (gemsL (shotsL (moveL c A))) inbox=H at*
 generalize gemsL (shotsL (moveL c A))=M2 at*
 generalize shotsL (moveL c A)=M1 at*
 generalize moveL c A=M at*
 obtain ⟨f,l⟩:=s
 simp only at*
 have hfa:=Aev H (by unfold small;omega)
 have hnr:=Abg c r
 have hfln:(fallenL H).length≤H.length:=by unfold fallenL;rw [List.length_map];exact List.length_filter_le ..
 have hflh: ∀id∈fallenL H,∃x∈H,x.id=id:=by
  intro id h
  obtain ⟨x,h1,h2⟩:=List.mem_map.1 h
  exact ⟨x,(List.mem_filter.1 h1).1,h2⟩
 have hfl:=Adx c r f made (fallenL H) (c.near r) (by omega) rfl (fallenL H).length 0 H [] (by omega) (by omega) (by simp) (by rw [List.drop_zero];exact hflh)
 rw [List.drop_zero] at hfl
 change Is cx _ ⟨_,_,[_,_,_,.arr 15 ((fallS c r f ⟨H,made,[]⟩).out.map zn) _ _,_,.arr 9 ((fallS c r f ⟨H,made,[]⟩).l.map zm) _ _]⟩ at hfl
 have hlen:(fallS c r f ⟨H,made,[]⟩).l.length=H.length∧(fallS c r f ⟨H,made,[]⟩).made=made∧(fallS c r f ⟨H,made,[]⟩).out.length≤1000:=by
  obtain ⟨k1,k2,k3⟩:= @AeW c r f (fallenL H) ⟨H,made,[]⟩
  refine ⟨k1,k2,?_⟩
  change ((fallenL H).foldl (fall1 c r f) ⟨H,made,[]⟩).out.length≤1000
  rw [k3]
  have hns:= @Aaz c r
  have:=Nat.mul_le_mul (Nat.le_trans hfln hHl) hns
  simp only [List.length_nil]
  omega
 generalize fallS c r f ⟨H,made,[]⟩=F at*
 obtain ⟨FL,fm,o⟩:=F
 simp only at hlen hfl⊢
 obtain ⟨hl1,rfl,hl3⟩:=hlen
 have hgm:=Adk c r f fm FL o (by omega) FL.length 0 0 (by omega) (by omega)
 rw [List.drop_zero,Nat.zero_add] at hgm
 have hcn:(FL.countP fun e=>e.kind==3)≤FL.length:=List.countP_le_length
 have hbw:=Aba 8 c.seed [3,f,r] (by decide) (by simp [small])
 have hrm:=AcA c r f ⟨FL,fm,o⟩ (by unfold small;simp only;omega)
 obtain ⟨z,hz⟩: ∃z:Int,Stg.room ⟨FL,fm,o⟩=decide (z=1):=by
  cases Stg.room ⟨FL,fm,o⟩ with
  |true=>exact ⟨1,by decide⟩
  |false=>exact ⟨0,by decide⟩
 rw [hz] at hrm
 clear hfln hflh hPl
 generalize fallenL H=ids at*
 by_cases hg:below 8 c.seed [3,f,r]≠0∨3≤(FL.countP fun e=>e.kind==3)∨Stg.room ⟨FL,fm,o⟩=false
 ·have e2:growS c r f ⟨FL,fm,o⟩=⟨FL,fm,o⟩:=by unfold growS;rw [if_pos hg]
  rw [e2]
  have hlv:=Abd c r f fm FL (by omega) FL.length 0 o [] (by omega) (by omega) (by simp)
  rw [List.drop_zero,List.nil_append] at hlv
  have hso:=Ac7 (leaveS c r f ⟨FL,fm,o⟩).out (by have:= @AbJ c r f ⟨FL,fm,o⟩;unfold small;simp only at this;omega)
  exact AlQ c r f fm l L A M M1 M2 H FL _ P ids (c.near r) ins inbox o _ _ _ _ _ hf (by omega) (by omega) (by omega) (by omega) (by omega) ha hA hPr hst hmv hsh hge hbl hfa hnr hfl hgm hbw hrm hso hlv (by rcases hg with h|h|h;exact .inl h;exact .inr (.inl h);exact .inr (.inr (by rw [hz] at h;simpa using h)))
 ·have e2:growS c r f ⟨FL,fm,o⟩=⟨put1 FL (gemE c r f fm),fm+1,o⟩:=by unfold growS;rw [if_neg hg]
  rw [e2]
  have hg1:below 8 c.seed [3,f,r]=0:=Decidable.byContradiction fun q=>hg (.inl q)
  have hg2:(FL.countP fun e=>e.kind==3)<3:=by
   have: ¬3≤(FL.countP fun e=>e.kind==3):=fun q=>hg (.inr (.inl q))
   omega
  have hg3:Stg.room ⟨FL,fm,o⟩=true:=by
   cases q:Stg.room ⟨FL,fm,o⟩ with
   |true=>rfl
   |false=>exact absurd (Or.inr (Or.inr q)) hg
  have hpl:=AbX c r f 4 5 r fm FL
  have hnx:=Ac6 c r f fm FL (by omega) (by omega) (by omega)
  have hput:=Aa8 FL (gemE c r f fm) (by unfold small;omega)
  have hpln:=(@Abb FL (gemE c r f fm)).2
  have hlv:=Abd c r f (fm+1) (put1 FL (gemE c r f fm)) (by omega) (put1 FL (gemE c r f fm)).length 0 o [] (by omega) (by omega) (by simp)
  rw [List.drop_zero,List.nil_append] at hlv
  have hso:=Ac7 (leaveS c r f ⟨put1 FL (gemE c r f fm),fm+1,o⟩).out (by have:= @AbJ c r f ⟨put1 FL (gemE c r f fm),fm+1,o⟩;unfold small;simp only at this;omega)
  exact AkY c r f fm l L A M M1 M2 H FL _ P ids (c.near r) ins inbox o _ _ _ _ _ hf (by omega) (by omega) (by omega) (by omega) (by omega) ha hA hPr hst hmv hsh hge hbl hfa hnr hfl hgm hbw hrm hso _ _ _ _ hpl hnx hput hlv hg1 hg2 (by rw [hz] at hg3;simpa using hg3)
end Go.Eva.S4
namespace Go.Eva
open Go.RowKit
noncomputable def peek (live:List Nat) (q:Q (Env×Heap)):Q Res:=q.bind fun x=>(looks x.1 live).bind fun vs=> .ret ⟨.normal,vs,x.2⟩
section
variable {P:Program} {cx:Cx} {n:Nat} {ι:Io} {F:Nat→Prop} {w:Go.World} {H:Heap} {e:Env} {a:Act} {Q:Exit→Act→Go.World→Prop}
theorem Amw {live:List Nat} {vs:List V} {H':Heap} {q:Eva.Q (Env×Heap)} (hc:CxTy P cx) (hfn:FnsOK P cx) (h:Wp cx (peek live q) (· =⟨.normal,vs,H'⟩)):
  wpQ (TaskS P cx) q (fun x=>wpQ (TaskS P cx) ((looks x.1 live).bind fun vs=> .ret ⟨.normal,vs,x.2⟩) (· =(⟨.normal,vs,H'⟩:Res))):=
 Aaa _ _ _ (Ai2 (fun _ _ h=>h P hc hfn) _ _ h.h)
theorem AlW {live:List Nat} {vs:List V} {H':Heap} (hi:In n ι F w H e a) (h:wpQ (TaskS P cx) ((looks e live).bind fun vs=> .ret ⟨.normal,vs,H⟩) (· =(⟨.normal,vs,H'⟩:Res))):
  H=H'∧In n ι F w H (zipE live vs) a:=by
 obtain ⟨vs',h1,h2⟩:=AeZ hi (Aaa _ _ _ h)
 have h1:(⟨.normal,vs',H⟩:Res)=⟨.normal,vs,H'⟩:=h1
 injection h1 with _ e1 e2
 subst e1 e2
 exact ⟨rfl,hi.good,AaV h2,hi.size,hi.defers⟩
theorem AcW {ops:Array Oper} (hc:CxTy P cx) (hfn:FnsOK P cx) (hfit: ∀o∈ops.toList,fitO cx n o=true) {id:Nat} {live:List Nat} {vs:List V} {H':Heap} (hi:In n ι F w H e a) (h:Wp cx (peek live (runOps cx ops.toList ops.toList e H)) (· =⟨.normal,vs,H'⟩))
  (hQ: ∀a' w' ι' F',In n ι' F' w' H' (zipE live vs) a'→Step ι F H w ι' F' H' w'→Q .normal a' w'):(Code.region id ops false).wp P Q a w:=
 AgM hc hfn.callable (fun _ _ _ _ h=>h) hfit hi (Amw hc hfn h) (by
  rintro a' w' ⟨e',H1,ι',F',k1,k2,k3⟩
  obtain ⟨rfl,hi'⟩:=AlW k2 k1
  exact hQ a' w' ι' F' hi' k3)
theorem Ajm (hi:In n ι F w H e a) (live:List Nat):VRs ι F w H (live.map (look e)) (slots a live):=by
 refine ⟨by simp [slots],fun i v u hv hu=> ?_⟩
 simp only [List.getElem?_map,slots] at hv hu
 obtain ⟨t,ht,rfl⟩:=Option.map_eq_some_iff.1 hv
 rw [ht] at hu
 simp at hu
 subst hu
 simpa using hi.sim t
theorem Ak2 {vs:List V} {us:List Value} {v:V} {u:Value} (h:VRs ι F w H vs us) (hv:VR ι F w H v u):VRs ι F w H (vs++ [v]) (us++ [u]):=by
 refine ⟨by simp [h.1],fun i x y hx hy=> ?_⟩
 by_cases hi:i<vs.length
 ·rw [List.getElem?_append_left hi] at hx
  rw [List.getElem?_append_left (by rw [←h.1];exact hi)] at hy
  exact h.2 i x y hx hy
 ·rw [List.getElem?_append_right (by omega)] at hx
  rw [List.getElem?_append_right (by rw [←h.1];omega),←h.1] at hy
  cases hk:i-vs.length with
  |zero=>rw [hk] at hx hy;simp at hx hy;subst hx hy;exact hv
  |succ k=>rw [hk] at hx;simp at hx
theorem Aj3 {ι':Io} {F':Nat→Prop} {w':Go.World} {H':Heap} {vs:List V} {us:List Value} (h:VRs ι F w H vs us) (hm: ∀v u,VR ι F w H v u→VR ι' F' w' H' v u):VRs ι' F' w' H' vs us:=
 ⟨h.1,fun i v u hv hu=>hm v u (h.2 i v u hv hu)⟩
noncomputable def peekG (live:List Nat) (q:Eva.Q (Env×Heap)):Eva.Q Res:=q.bind fun x=>(looks x.1 live).bind fun vs=>(gc 0 vs x.2).bind fun g=> .ret ⟨.normal,g.vs,g.H⟩
theorem Aja {ops:Array Oper} (hc:CxTy P cx) (hfn:FnsOK P cx) (hfit: ∀o∈ops.toList,fitO cx n o=true) {id:Nat} {live:List Nat} {vs:List V} {H':Heap} (hi:In n ι F w H e a) (h:Wp cx (peekG live (runOps cx ops.toList ops.toList e H)) (· =⟨.normal,vs,H'⟩))
  (hQ: ∀a' w' ι' F',In n ι' F' w' H' (zipE live vs) a'→(∃ι1 F1 H1,Good ι1 F1 w' H1∧Step ι F H w ι1 F1 H1 w'∧Ext 0 ι1 F1 H1 w' ι' F' H' w')→Q .normal a' w'):(Code.region id ops false).wp P Q a w:=
 AgM hc hfn.callable (fun _ _ _ _ h=>h) hfit hi (Aaa _ _ _ (Ai2 (fun _ _ h=>h P hc hfn) _ _ h.h)) (by
  rintro a' w' ⟨e',H1,ι1,F1,k1,k2,k3⟩
  obtain ⟨vs',h1,h2⟩:=AeZ k2 (Aaa _ _ _ k1)
  obtain ⟨g,ιg,h3,_,_,_,hgg,hgv,hge⟩:=gc_ok k2.good (Aaa _ _ _ h1) h2
  have h3:(⟨.normal,g.vs,g.H⟩:Res)=⟨.normal,vs,H'⟩:=h3
  injection h3 with _ e1 e2
  rw [e1] at hgv
  rw [e2] at hgg hgv hge
  exact hQ a' w' ιg F1 ⟨hgg,AaV hgv,k2.size,k2.defers⟩ ⟨ι1,F1,H1,k2.good,k3,hge⟩)
theorem AfT {ops:Array Oper} (hc:CxTy P cx) (hfn:FnsOK P cx) (hfit: ∀o∈ops.toList,fitO cx n o=true) (hsel:Region.noSelect ops=true) (hQ: ∀c a w,¬Q (.panic c) a w) {d:Ord} {f:Nat} {listed:Array Bool} {fin:Nat→Array Bool→Bool} {live:List Nat} {vs:List V} {H':Heap}
  (hok:okTo cx ops fin d f listed []=true) (hi:In n ι F w H e a) (h:Wp cx (peek live (ordQ cx ops.toList d e H)) (· =⟨.normal,vs,H'⟩))
  (hq: ∀f' listed',fin f' listed'=true→ ∀a' w' ι' F',In n ι' F' w' H' (zipE live vs) a'→Step ι F H w ι' F' H' w'→wpAnyR P cx ops Q f' listed' a' w'):wpAnyR P cx ops Q f listed a w:=
 (AnD hc hfn.callable (fun _ _ _ _ h=>h) hfit hsel hQ d f listed [] hok hi (Amw hc hfn h) (by
  rintro f' listed' hf a' w' ⟨e',H1,ι',F',k1,k2,k3⟩
  obtain ⟨rfl,hi'⟩:=AlW k2 k1
  exact hq f' listed' hf a' w' ι' F' hi' k3)).1 rfl
theorem AnM {ops:Array Oper} {f:Nat} {listed:Array Bool} (h:okEnd ops f listed=true) (hq:Q .normal a w):wpAnyR P cx ops Q f listed a w:=by
 have hr:Region.ready .any ops listed= []:=by simpa [okEnd] using h
 cases f with
 |zero=>exact ⟨hr,hq⟩
 |succ f=>exact ⟨fun _=>hq,by rw [hr];simp⟩
theorem retree (hg:Good ι F w H) {id s:Nat} {xs ys:List T} {sp:Option Nat} {ro:Bool} (ho:H[id]?=some (.arr s xs sp ro)) (hl:ys.length=xs.length) (hc: ∀b,CellsR F w b s xs→CellsR F w b s ys):
  Good ι F w (H.set id (.arr s ys sp ro))∧Step ι F H w ι F (H.set id (.arr s ys sp ro)) w:=
 Ahr hg ho rfl rfl rfl rfl (fun _ _=>rfl) (.inr ⟨rfl,fun _ _=>rfl,ys,sp,ro,rfl,hl⟩) (fun _=>rfl) (fun _=>by
  obtain ⟨h0,h⟩:=hg.obj id _ ho
  refine ⟨h0,?_⟩
  rcases h with ⟨h1,h2,h3⟩|⟨b,cs,e,h1,h2,h3,h4,h5,h6,h7⟩
  ·refine .inl ⟨h1,?_,h3⟩
   subst h2
   exact List.length_eq_zero_iff.1 hl
  ·exact .inr ⟨b,cs,e,h1,h2,by rw [hl];exact h3,by rw [hl];exact h4,h5,h6,hc b h7⟩)
theorem retree' (hg:Good ι F w H) {id s:Nat} {xs ys:List T} {sp:Option Nat} {ro:Bool} (ho:H[id]?=some (.arr s xs sp ro)) (hl:ys.length=xs.length) (hc: ∀b,ι id=some b→CellsR F w b s ys):
  Good ι F w (H.set id (.arr s ys sp ro))∧Step ι F H w ι F (H.set id (.arr s ys sp ro)) w:=
 Ahr hg ho rfl rfl rfl rfl (fun _ _=>rfl) (.inr ⟨rfl,fun _ _=>rfl,ys,sp,ro,rfl,hl⟩) (fun _=>rfl) (fun _=>by
  obtain ⟨h0,h⟩:=hg.obj id _ ho
  refine ⟨h0,?_⟩
  rcases h with ⟨h1,h2,h3⟩|⟨b,cs,e,h1,h2,h3,h4,h5,h6,h7⟩
  ·refine .inl ⟨h1,?_,h3⟩
   subst h2
   exact List.length_eq_zero_iff.1 hl
  ·exact .inr ⟨b,cs,e,h1,h2,by rw [hl];exact h3,by rw [hl];exact h4,h5,h6,hc b h1⟩)
theorem widen (hg:Good ι F w H) {R:Nat→Prop} (hR: ∀b,R b→b<w.heap.size∧ ¬Live ι H b):Good ι (fun b=>F b∨R b) w H:=by
 refine ⟨fun b hb=>hb.elim (hg.fin b) fun h=>(hR b h).1,fun id o ho=>(hg.obj id o ho).mono (fun _ h=> .inl h) (fun _ _=>rfl) (fun i o h=>⟨o,h,.refl ι w i o⟩) (fun _=>rfl) (fun _ _ _=>rfl),hg.inj,?_,fun id o b h1 h2 h3 h4=> .inl (hg.rof id o b h1 h2 h3 h4)⟩
 rintro b ⟨id,o,h1,h2,h3⟩ (h|h)
 ·exact hg.sep b ⟨id,o,h1,h2,h3⟩ h
 ·exact (hR b h).2 ⟨id,o,h1,by cases o<;>simp_all [Ob.ro,Ob.isDead],h3⟩
theorem Own.live {b:Nat} (h:Own ι H b):Live ι H b:=by
 obtain ⟨id,o,h1,h2,h3⟩:=h
 exact ⟨id,o,h1,by cases o<;>simp_all [Ob.ro,Ob.isDead],h3⟩
def RowD (K:Nat→Prop) (ι:Io) (F:Nat→Prop) (w:Go.World) (H:Heap) (s:Nat) (h:Value) (r:List T):Option Nat→Prop
 |none=>r= []∧ ∃a,h= .slice a 0 0
 |some b=> ∃cap cs e,h= .slice (some ⟨b,0,none⟩) r.length cap∧r.length≤cap∧w.heap[b]?=some (.cells cs e (0,0))∧cs.size=cap*s∧(∀(i:Nat) (c:Value),cs[i]?=some c→c.oneCell'=true)∧CellsR F w b s r∧ ¬F b∧ ¬Live ι H b∧K b
theorem RowD.ext {K:Nat→Prop} {s:Nat} {h:Value} {r:List T} {β:Option Nat} {keep:Nat} {ι':Io} {F':Nat→Prop} {w':Go.World} {H':Heap} (hg:Good ι F w H) (hx:Ext keep ι F H w ι' F' H' w') (hr:RowD K ι F w H s h r β):RowD K ι' F' w' H' s h r β:=by
 cases β with
 |none=>exact hr
 |some b=>
  obtain ⟨cap,cs,e,k1,k2,k3,k4,k5,k6,k7,k8,k9⟩:=hr
  have hlt:b<w.heap.size:=(Array.getElem?_eq_some_iff.1 k3).1
  have hsame:=hx.same b hlt fun ho=>k8 ho.live
  refine ⟨cap,cs,e,k1,k2,by rw [hsame];exact k3,k4,k5,k6.mono hx.fsub (fun b hb=>hx.same b (hg.fin b hb) fun ho=>hg.sep b ho hb) hsame,fun hf=> ?_,fun hl=>k8 (hx.live b hlt hl),k9⟩
  rcases hx.ffr b hlt hf with hf|hf
  ·exact k7 hf
  ·exact k8 hf.live
theorem RowD.other {K:Nat→Prop} {s:Nat} {h:Value} {r:List T} {β:Option Nat} {ι':Io} {H':Heap} (hr:RowD K ι F w H s h r β) (hl: ∀b,β=some b→ ¬Live ι' H' b):RowD K ι' F w H' s h r β:=by
 cases β with
 |none=>exact hr
 |some b=>
  obtain ⟨cap,cs,e,k1,k2,k3,k4,k5,k6,k7,k8,k9⟩:=hr
  exact ⟨cap,cs,e,k1,k2,k3,k4,k5,k6,k7,hl b rfl,k9⟩
theorem RowD.dark {K:Nat→Prop} {s b:Nat} {h:Value} {r:List T} {β:Option Nat} (hr:RowD K ι F w H s h r β) (hb:β=some b):b<w.heap.size∧ ¬Live ι H b∧K b:=by
 subst hb
 obtain ⟨cap,cs,e,k1,k2,k3,k4,k5,k6,k7,k8,k9⟩:=hr
 exact ⟨(Array.getElem?_eq_some_iff.1 k3).1,k8,k9⟩
def sameB:List Bool→List Bool→Bool
 | [],[]=>true
 |true::l,true::m=>sameB l m
 |false::l,false::m=>sameB l m
 |_,_=>false
theorem Aig: ∀ {l m:List Bool},sameB l m=true→l=m
 | [],[],_=>rfl
 |true::l,true::m,h=>by rw [Aig (l:=l) (m:=m) h]
 |false::l,false::m,h=>by rw [Aig (l:=l) (m:=m) h]
 |true::_,false::_,h=>by simp [sameB] at h
 |false::_,true::_,h=>by simp [sameB] at h
 | [],_::_,h=>by simp [sameB] at h
 |_::_,[],h=>by simp [sameB] at h
def finAt (k:Nat) (m:List Bool) (f:Nat) (l:Array Bool):Bool:=Nat.beq f k&&sameB l.toList m
theorem AjS {k f:Nat} {m:List Bool} {l:Array Bool} (h:finAt k m f l=true):f=k∧l=m.toArray:=by
 simp only [finAt,Bool.and_eq_true] at h
 refine ⟨Nat.eq_of_beq_eq_true h.1,?_⟩
 rw [←Aig h.2]
theorem adopt {K:Nat→Prop} {s:Nat} {h:Value} {r:List T} {β:Option Nat} (h0:0<s) (hg:Good ι F w H) (hr:RowD K ι F w H s h r β):
  Good (upd ι H.length β) F w (H++ [.arr s r none false])∧VR (upd ι H.length β) F w (H++ [.arr s r none false]) (.all H.length none) h∧
  (∀id o,H[id]?=some o→ ∃o',(H++ [.arr s r none false])[id]?=some o'∧Like ι (upd ι H.length β) w w id o o')∧
  (∀b,Own (upd ι H.length β) (H++ [.arr s r none false]) b→Own ι H b∨β=some b)∧(∀b,Live (upd ι H.length β) (H++ [.arr s r none false]) b→Live ι H b∨β=some b):=by
 have old: ∀id,id<H.length→upd ι H.length β id=ι id:=fun id h=>by unfold upd;rw [if_neg (by omega)]
 have new:upd ι H.length β H.length=β:=by unfold upd;rw [if_pos rfl]
 have hno:(H++ [qv s r none false])[H.length]?=some (.arr s r none false):=by simp
 have hl: ∀id o,H[id]?=some o→ ∃o',(H++ [.arr s r none false])[id]?=some o'∧Like ι (upd ι H.length β) w w id o o':=by
  intro id o ho
  have hid:=(List.getElem?_eq_some_iff.1 ho).1
  refine ⟨o,by rw [List.getElem?_append_left hid];exact ho,?_⟩
  unfold Like
  cases o with
  |dead=>exact .inl rfl
  |one s v r=>exact .inr ⟨old id hid,v,r,rfl⟩
  |arr s xs sp r=>exact .inr ⟨old id hid,fun _ _=>rfl,xs,sp,r,rfl,rfl⟩
 have hown: ∀b,Own (upd ι H.length β) (H++ [.arr s r none false]) b→Own ι H b∨β=some b:=by
  rintro b ⟨id,o,h1,h2,h3⟩
  rcases Aax h1 with h1|⟨rfl,rfl⟩
  ·rw [old id (List.getElem?_eq_some_iff.1 h1).1] at h3
   exact .inl ⟨id,o,h1,h2,h3⟩
  ·rw [new] at h3;exact .inr h3
 have hlive: ∀b,Live (upd ι H.length β) (H++ [.arr s r none false]) b→Live ι H b∨β=some b:=by
  rintro b ⟨id,o,h1,h2,h3⟩
  rcases Aax h1 with h1|⟨rfl,rfl⟩
  ·rw [old id (List.getElem?_eq_some_iff.1 h1).1] at h3
   exact .inl ⟨id,o,h1,h2,h3⟩
  ·rw [new] at h3;exact .inr h3
 have hd: ∀b,β=some b→ ¬F b∧ ¬Live ι H b:=by
  intro b hb
  subst hb
  obtain ⟨cap,cs,e,k1,k2,k3,k4,k5,k6,k7,k8,k9⟩:=hr
  exact ⟨k7,k8⟩
 refine ⟨⟨hg.fin,?_,?_,?_,?_⟩,.all _ _ _ ?_,hl,hown,hlive⟩
 ·intro id o ho
  rcases Aax ho with h1|⟨rfl,rfl⟩
  ·exact (hg.obj id o h1).mono (fun _ h=>h) (fun _ _=>rfl) hl (fun _=>old id (List.getElem?_eq_some_iff.1 h1).1) (fun _ _ _=>rfl)
  ·refine ⟨h0,?_⟩
   cases β with
   |none=>exact .inl ⟨new,hr.1,by simp⟩
   |some b=>
    obtain ⟨cap,cs,e,k1,k2,k3,k4,k5,k6,k7,k8,k9⟩:=hr
    exact .inr ⟨b,cs,e,new,k3,by rw [k4];exact Nat.mul_le_mul_right _ k2,by simp,⟨cap,k4⟩,k5,k6⟩
 ·intro i j oi oj b hi hj di dj bi bj
  rcases Aax hi with h1|⟨rfl,rfl⟩<;>rcases Aax hj with h2|⟨rfl,rfl⟩
  ·rw [old i (List.getElem?_eq_some_iff.1 h1).1] at bi
   rw [old j (List.getElem?_eq_some_iff.1 h2).1] at bj
   exact hg.inj i j oi oj b h1 h2 di dj bi bj
  ·rw [old i (List.getElem?_eq_some_iff.1 h1).1] at bi
   rw [new] at bj
   exact absurd ⟨i,oi,h1,di,bi⟩ (hd b bj).2
  ·rw [old j (List.getElem?_eq_some_iff.1 h2).1] at bj
   rw [new] at bi
   exact absurd ⟨j,oj,h2,dj,bj⟩ (hd b bi).2
  ·rfl
 ·intro b ho
  rcases hown b ho with ho|ho
  ·exact hg.sep b ho
  ·exact (hd b ho).1
 ·intro id o b ho hdd hro hb
  rcases Aax ho with h1|⟨rfl,rfl⟩
  ·rw [old id (List.getElem?_eq_some_iff.1 h1).1] at hb
   exact hg.rof id o b h1 hdd hro hb
  ·simp [Ob.ro] at hro
 ·unfold OwnSl
  rw [hno,new]
  cases β with
  |none=>
   obtain ⟨rfl,a,rfl⟩:=hr
   exact ⟨a,0,rfl,Nat.le_refl _,Nat.le_refl _,rfl⟩
  |some b=>
   obtain ⟨cap,cs,e,k1,k2,k3,k4,k5,k6,k7,k8,k9⟩:=hr
   refine ⟨_,cap,k1,k2,by simp,.inr (by simp),?_⟩
   simp only
   unfold blk
   rw [k3]
   simp only
   rw [k4,Nat.zero_add]
theorem release {K:Nat→Prop} {s id:Nat} {h:Value} {r:List T} {sp:Option Nat} (hg:Good ι F w H) (ho:H[id]?=some (.arr s r sp false)) (hv:VR ι F w H (.all id none) h) (hK: ∀b,Own ι H b→K b):
  ∃β,RowD K ι F w (H.set id .dead) s h r β∧ ∀b,β=some b→Live ι H b:=by
 cases hv with
 |all _ _ _ hv=>
 unfold OwnSl at hv
 rw [ho] at hv
 obtain ⟨ad,cap,rfl,h2,_,h4⟩:=hv
 simp only [Option.getD_none] at*
 by_cases hcap:cap=0
 ·subst hcap
  have:r= []:=List.length_eq_zero_iff.1 (by omega)
  subst this
  exact ⟨none,⟨rfl,ad,rfl⟩,by simp⟩
 ·obtain ⟨h0,hb|⟨b,cs,e,h5,h6,h7,h8,h9,h10,h11⟩⟩:=hg.obj id _ ho
  ·rw [hb.1] at h4;exact absurd h4 hcap
  ·rw [h5] at h4
   obtain ⟨h12,h13⟩:=h4
   have had:ad=some ⟨b,0,none⟩:=by
    rcases h12 with h12|h12
    ·exact absurd h12 hcap
    ·simpa using h12
   subst had
   have hown:Own ι H b:=⟨id,_,ho,rfl,h5⟩
   refine ⟨some b,⟨cap,cs,e,rfl,h2,h6,?_,h10,h11,hg.sep b hown,?_,hK b hown⟩,fun b' hb'=>by cases hb';exact hown.live⟩
   ·simp only [blk,h6,Nat.zero_add] at h13
    exact h13.symm
   ·rintro ⟨i,oi,k1,k2,k3⟩
    by_cases hne:i=id
    ·subst hne
     rw [List.getElem?_set_self (List.getElem?_eq_some_iff.1 ho).1] at k1
     cases k1
     simp [Ob.isDead] at k2
    ·rw [List.getElem?_set_ne (Ne.symm hne)] at k1
     exact hne (hg.inj i id oi _ b k1 ho k2 rfl k3 h5)
theorem RowD.tr {K:Nat→Prop} {s:Nat} {h:Value} {r:List T} {β:Option Nat} (hr:RowD K ι F w H s h r β):TR (fun b=>F b∨β=some b) w (.sl s r) h:=by
 cases β with
 |none=>
  obtain ⟨rfl,a,rfl⟩:=hr
  exact .slN _ _ _
 |some b=>
  obtain ⟨cap,cs,e,rfl,k2,k3,k4,k5,⟨c,c1,c2,c3⟩,k7,k8,k9⟩:=hr
  by_cases hn:r= []
  ·subst hn;exact .slN _ _ _
  ·exact .slC s r b 0 cap c hn k2 (.inr rfl) (fun i j hi hj=>by rw [Nat.zero_add];exact c1 i j hi hj) c2 fun i j x t h1 h2 h3=>(c3 i j x t h1 h2 h3).mono (fun _ h=> .inl h) (fun _ _=>rfl)
abbrev pinE (x:T) (h:Value):T:= .agg [x,.pin h]
theorem AnG {b m:Nat} {x:T} (h:CellsR F w b 2 (zj m (.agg [x,.nul]))): ∃hs:List Value,hs.length=m∧CellsR F w b 2 (hs.map (pinE x))∧ ∀h∈hs,∃a,h= .slice a 0 0:=by
 obtain ⟨c,c1,c2,c3⟩:=h
 have key: ∀i,i<m→TR F w .nul (c i 1):=fun i hi=>c3 i 1 (.agg [x,.nul]) .nul (by simp [hi]) (by simp) rfl
 refine ⟨(List.range m).map fun i=>c i 1,by simp,⟨c,fun i j hi hj=>c1 i j (by simpa using hi) hj,?_,?_⟩,?_⟩
 ·intro i y hy hn
  simp only [List.getElem?_map] at hy
  obtain ⟨h,_,rfl⟩:=Option.map_eq_some_iff.1 hy
  rfl
 ·intro i j y t hy hn ht
  simp only [List.getElem?_map] at hy
  obtain ⟨h,hh,rfl⟩:=Option.map_eq_some_iff.1 hy
  obtain ⟨i',hi',rfl⟩:=Option.map_eq_some_iff.1 hh
  have him:i<m:=by have:=(List.getElem?_eq_some_iff.1 hi').1;simpa using this
  have e:i'=i:=by have:=(List.getElem?_eq_some_iff.1 hi').2;simpa using this.symm
  subst e
  match j,ht with
  |0,ht=>
   simp [T.cells] at ht;subst ht
   exact c3 i' 0 (.agg [x,.nul]) x (by simp [him]) (by simp) rfl
  |1,ht=>
   simp [T.cells] at ht;subst ht
   exact .pin _ (c1 i' 1 (by simpa using him) (by omega)).2
  |j+2,ht=>simp [T.cells] at ht
 ·intro h hh
  obtain ⟨i,hi,rfl⟩:=List.mem_map.1 hh
  have:=key i (by simpa using hi)
  generalize c i 1=v at this
  cases this with
  |nul a=>exact ⟨a,rfl⟩
theorem Aod {b s:Nat} {x:T} {hs:List Value} {rows:List (List T)} {F':Nat→Prop} (h:CellsR F w b 2 (hs.map (pinE x))) (hl:hs.length=rows.length) (hF: ∀b,F b→F' b)
  (hr: ∀(k:Nat) h r,hs[k]?=some h→rows[k]?=some r→TR F' w (.sl s r) h):CellsR F' w b 2 (rows.map fun r=> .agg [x,.sl s r]):=by
 obtain ⟨c,c1,c2,c3⟩:=h
 refine ⟨c,fun i j hi hj=>c1 i j (by simp at hi⊢;omega) hj,?_,?_⟩
 ·intro i y hy hn
  simp only [List.getElem?_map] at hy
  obtain ⟨r,_,rfl⟩:=Option.map_eq_some_iff.1 hy
  rfl
 ·intro i j y t hy hn ht
  simp only [List.getElem?_map] at hy
  obtain ⟨r,hrr,rfl⟩:=Option.map_eq_some_iff.1 hy
  have hi:i<hs.length:=by have:=(List.getElem?_eq_some_iff.1 hrr).1;omega
  have hh:hs[i]?=some hs[i]:=List.getElem?_eq_getElem hi
  match j,ht with
  |0,ht=>
   simp [T.cells] at ht;subst ht
   exact (c3 i 0 (pinE x hs[i]) x (by simp [hh]) (by simp) rfl).mono hF (fun _ _=>rfl)
  |1,ht=>
   simp [T.cells] at ht;subst ht
   have hp:=c3 i 1 (pinE x hs[i]) (.pin hs[i]) (by simp [hh]) (by simp) rfl
   have:=hr i _ _ hh hrr
   generalize hs[i]=v at hp this
   generalize c i 1=u at hp
   cases hp with
   |pin _ _=>exact this
  |j+2,ht=>simp [T.cells] at ht
end
end Go.Eva
namespace Go.Eva.S4
open Go.Proofs
noncomputable def c42 (p:List Nat):Code:=match subAt (codeOf Tryz.f42) (p++ [0,1,0,1,1,1,1]) with|some c=>c|none=> .skip
noncomputable def o42 (p:List Nat):Array Oper:=match c42 p with| .region _ ops _=>ops|_=> #[]
theorem w6 (c:Config) (g i:Int) (hs:List Value) (os:List T):Wp cx (peek [1,2,4,5,6,24] (runOps cx (o42 [0,0,0]).toList (o42 [0,0,0]).toList (zipE [1,2,4,5,6] [.ptr 0 0 0,.ptr 1 0 0,vi g,.ptr 2 0 0,vi i]) [.one 5 (.t c.enc) false,.one 2 (.agg [.fit 2 [],.fit 1 []]) false,.one 2 (.agg [.all 3 none,.all 4 none]) false,.arr 2 (hs.map (pinE (ti 0))) (some 0) false,.arr 1 os (some 0) false]))
  (· =⟨.normal,[.ptr 0 0 0,.ptr 1 0 0,vi g,.ptr 2 0 0,vi i,vb (decide (i≤c.players))],[.one 5 (.t c.enc) false,.one 2 (.agg [.fit 2 [],.fit 1 []]) false,.one 2 (.agg [.all 3 none,.all 4 none]) false,.arr 2 (hs.map (pinE (ti 0))) (some 0) false,.arr 1 os (some 0) false]⟩):=by
 exact ge
theorem w8 (c:Config) (g i:Int) (hs:List Value) (os:List T) (hg:0<g) (hi:1≤i∧i≤1000000):Wp cx (peek [1,2,4,5,6,7] (runOps cx (o42 [0,0,0,1,0]).toList (o42 [0,0,0,1,0]).toList (zipE [1,2,4,5,6] [.ptr 0 0 0,.ptr 1 0 0,vi g,.ptr 2 0 0,vi i]) [.one 5 (.t c.enc) false,.one 2 (.agg [.fit 2 [],.fit 1 []]) false,.one 2 (.agg [.all 3 none,.all 4 none]) false,.arr 2 (hs.map (pinE (ti 0))) (some 0) false,.arr 1 os (some 0) false]))
  (· =⟨.normal,[.ptr 0 0 0,.ptr 1 0 0,vi g,.ptr 2 0 0,vi i,vi ((i-1).tmod g)],[.one 5 (.t c.enc) false,.one 2 (.agg [.fit 2 [],.fit 1 []]) false,.one 2 (.agg [.all 3 none,.all 4 none]) false,.arr 2 (hs.map (pinE (ti 0))) (some 0) false,.arr 1 os (some 0) false]⟩):=by
 refine gg [.i zd (i-1) (i-1),.w (g≠(0:Int)),.s (ti (zg (i-1) g))] ⟨oI,oW,trivial⟩ ?_
 exact ge
theorem w9 (c:Config) (g i r:Int) (hs:List Value) (os:List T):Wp cx (peek [1,2,4,5,6,7,8,9] (runOps cx (o42 [0,1,0,0,1,0]).toList (o42 [0,1,0,0,1,0]).toList (zipE [1,2,4,5,6,7] [.ptr 0 0 0,.ptr 1 0 0,vi g,.ptr 2 0 0,vi i,vi r]) [.one 5 (.t c.enc) false,.one 2 (.agg [.fit 2 [],.fit 1 []]) false,.one 2 (.agg [.all 3 none,.all 4 none]) false,.arr 2 (hs.map (pinE (ti 0))) (some 0) false,.arr 1 os (some 0) false]))
  (· =⟨.normal,[.ptr 0 0 0,.ptr 1 0 0,vi g,.ptr 2 0 0,vi i,vi r,vi (c.cornerX r),vi (c.cornerY r)],[.one 5 (.t c.enc) false,.one 2 (.agg [.fit 2 [],.fit 1 []]) false,.one 2 (.agg [.all 3 none,.all 4 none]) false,.arr 2 (hs.map (pinE (ti 0))) (some 0) false,.arr 1 os (some 0) false]⟩):=by
 have h:=AbQ c r
 refine gg [.a _ _] ⟨o_a h,trivial⟩ ?_
 exact ge
noncomputable def d42a:Ord:= .one 0 (.one 2 (.one 3 (.one 5 (.one 9 (.one 10 (.one 11 (.one 12 (.one 13 (.one 14 (.one 4 (.one 6 (.one 7 (.one 8 .done)))))))))))))
noncomputable def d42b:Ord:= .two 1 (.one 15 (.one 16 (.one 17 (.one 18 .done)))) 15 (.two 1 (.one 16 (.one 17 (.one 18 .done))) 16 (.one 1 (.one 17 (.one 18 .done))))
noncomputable def d42c:Ord:= .one 19 .done
theorem w10a (c:Config) (g i:Int) (r:Nat) (x y:Int) (hs:List Value) (os:List T) (hr:r<hs.length) (hx:0≤x∧x≤1000000) (hy:0≤y∧y≤1000000) (hi:1≤i∧i≤1000000):
  Wp cx (peek [1,2,4,5,6,37,39,51,45] (ordQ cx (o42 [1,1,0,0,1,0]).toList d42a (zipE [1,2,4,5,6,7,8,9] [.ptr 0 0 0,.ptr 1 0 0,vi g,.ptr 2 0 0,vi i,vi r,vi x,vi y]) [.one 5 (.t c.enc) false,.one 2 (.agg [.fit 2 [],.fit 1 []]) false,.one 2 (.agg [.all 3 none,.all 4 none]) false,.arr 2 (hs.map (pinE (ti 0))) (some 0) false,.arr 1 os (some 0) false]))
  (· =⟨.normal,[.ptr 0 0 0,.ptr 1 0 0,vi g,.ptr 2 0 0,vi i,.ptr 2 0 0,vi r,.t (zm ⟨i,1,x+512,y+512,0,0,100,0,0⟩),.t (.pin (gt hs r))],[.one 5 (.t c.enc) false,.one 2 (.agg [.fit 2 [],.fit 1 []]) false,.one 2 (.agg [.all 3 none,.all 4 none]) false,.arr 2 (hs.map (pinE (ti 0))) (some 0) false,.arr 1 os (some 0) false]⟩):=by
 refine gg [.i zd (x+512) (x+512),.i zd (y+512) (y+512),.w (0≤(r:Int)),.n (zy (r:Int)) r,.w (r<zq (zz (pinE (ti (0:Int))) hs)),.g (zz (pinE (ti 0)) hs) r (pinE (ti 0) (gt hs r))] ⟨oI,oI,oW,nK,o_w (by (simp;omega)),o_gt rfl (by assumption) (by intro h;cases h),trivial⟩ ?_
 exact ge
theorem w10b (c:Config) (g i:Int) (r:Nat) (p:Entity) (row:List Entity) (hs:List Value) (os:List T) (hr:r<hs.length) (hn:row.length≤100000):
  Wp cx (peek [1,2,4,5,6,55,53] (ordQ cx (o42 [1,1,0,0,1,0]).toList d42b (zipE [1,2,4,5,6,37,39,51,45] [.ptr 0 0 0,.ptr 1 0 0,vi g,.ptr 2 0 0,vi i,.ptr 2 0 0,vi r,.t p.enc,.all 5 none]) [.one 5 (.t c.enc) false,.one 2 (.agg [.fit 2 [],.fit 1 []]) false,.one 2 (.agg [.all 3 none,.all 4 none]) false,.arr 2 (hs.map (pinE (ti 0))) (some 0) false,.arr 1 os (some 0) false,.arr 9 (row.map zm) none false]))
  (· =⟨.normal,[.ptr 0 0 0,.ptr 1 0 0,vi g,.ptr 2 0 0,vi i,.ptr 3 r 1,.all 6 none],[.one 5 (.t c.enc) false,.one 2 (.agg [.fit 2 [],.fit 1 []]) false,.one 2 (.agg [.all 3 none,.all 4 none]) false,.arr 2 (hs.map (pinE (ti 0))) (some 0) false,.arr 1 os (some 0) false,.dead,.arr 9 ((row++ [p]).map zm) none false]⟩):=by
 refine bO ?_ (bO ?_ ?_)
 all_goals
  refine gg [.w ((0:Nat)<(72:Nat)),.t (qk 0 [zm p]) (qk 0 (zz zm [p])),.t (qk 0 (zz zm row++zz zm [p])) (qk 0 (zz zm (row++ [p]))),.w (room (zq (zz zm (row++ [p]))) (72:Nat)),.w (0≤(r:Int)),.n (zy (r:Int)) r,.w (r<zq (zz (pinE (ti (0:Int))) hs))] ⟨oW,o_l (Aae rfl Aah),o_l (Aag rfl rfl),o_w (by (simp [room,appendMax];omega)),oW,nK,o_w (by (simp [room,appendMax];omega)),trivial⟩ ?_
  exact ge
theorem w10c (c:Config) (g i:Int) (r:Nat) (h:Value) (hs:List Value) (os:List T) (hr:r<hs.length):
  Wp cx (peek [1,2,4,5,6] (ordQ cx (o42 [1,1,0,0,1,0]).toList d42c (zipE [1,2,4,5,6,55,53] [.ptr 0 0 0,.ptr 1 0 0,vi g,.ptr 2 0 0,vi i,.ptr 3 r 1,.t (.pin h)]) [.one 5 (.t c.enc) false,.one 2 (.agg [.fit 2 [],.fit 1 []]) false,.one 2 (.agg [.all 3 none,.all 4 none]) false,.arr 2 (hs.map (pinE (ti 0))) (some 0) false,.arr 1 os (some 0) false,.dead,.dead]))
  (· =⟨.normal,[.ptr 0 0 0,.ptr 1 0 0,vi g,.ptr 2 0 0,vi i],[.one 5 (.t c.enc) false,.one 2 (.agg [.fit 2 [],.fit 1 []]) false,.one 2 (.agg [.all 3 none,.all 4 none]) false,.arr 2 ((hs.set r h).map (pinE (ti 0))) (some 0) false,.arr 1 os (some 0) false,.dead,.dead]⟩):=by
 refine gg [.g (zz (pinE (ti 0)) hs) r (pinE (ti 0) (gt hs r)),.t (qk 0 (zx (zz (pinE (ti 0)) hs) r (T.agg [ti 0,T.pin h]))) (qk 0 (zz (pinE (ti 0)) (zx hs r h)))] ⟨o_gt rfl (by assumption) (by intro h;cases h),o_l (Aam (e:=h) rfl rfl),trivial⟩ ?_
 exact ge
theorem w7 (c:Config) (g i:Int) (hs:List Value) (os:List T) (hi:1≤i∧i≤1000000):Wp cx (peekG [1,2,4,5,6] (runOps cx (o42 [1,1,0]).toList (o42 [1,1,0]).toList (zipE [1,2,4,5,6] [.ptr 0 0 0,.ptr 1 0 0,vi g,.ptr 2 0 0,vi i]) [.one 5 (.t c.enc) false,.one 2 (.agg [.fit 2 [],.fit 1 []]) false,.one 2 (.agg [.all 3 none,.all 4 none]) false,.arr 2 (hs.map (pinE (ti 0))) (some 0) false,.arr 1 os (some 0) false,.dead,.dead]))
  (· =⟨.normal,[.ptr 0 0 0,.ptr 1 0 0,vi g,.ptr 2 0 0,vi (i+1)],[.one 5 (.t c.enc) false,.one 2 (.agg [.fit 2 [],.fit 1 []]) false,.one 2 (.agg [.all 3 none,.all 4 none]) false,.arr 2 (hs.map (pinE (ti 0))) (some 0) false,.arr 1 os (some 0) false]⟩):=by
 refine gg [.i zd (i+1) (i+1)] ⟨oI,trivial⟩ ?_
 exact ge
end Go.Eva.S4
namespace Go.Eva
def plB (c:Config) (g i:Int):Entity:=⟨i,1,c.cornerX ((i-1).tmod g)+512,c.cornerY ((i-1).tmod g)+512,0,0,100,0,0⟩
def rowsB (c:Config) (g:Int):Nat→Int→List (List Entity)→List (List Entity)
 |0,_,L=>L
 |d+1,i,L=>rowsB c g d (i+1) (L.set ((i-1).tmod g).toNat (gt L ((i-1).tmod g).toNat++ [plB c g i]))
theorem Anq {l:List Entity} {e:Entity} (h: ∀x∈l,x.id<e.id):put1 l e=l++ [e]:=by
 have h1:(l.findIdx? fun x=>x.id==e.id)=none:=by
  rw [List.findIdx?_eq_none_iff]
  intro x hx
  have:=h x hx
  simp;omega
 have h2:(l.findIdx? fun x=>decide (x.id≥e.id))=none:=by
  rw [List.findIdx?_eq_none_iff]
  intro x hx
  have:=h x hx
  simp;omega
 unfold put1 ins
 rw [h1,h2]
theorem Ala {c:Config} (hr:c.right=true) {i:Int} (hi:1≤i):plB c c.regions i=playerP c.cols c.regions i:=by
 have h1:=Config.right_iff.1 hr
 have hml:=Config.mul_le hr
 have hre:c.regions=c.cols*c.rows:=by simp [z0,hr]
 have hk:=AaC (v:=i-1) (k:=c.regions) (by omega) (by omega)
 have his:c.is ((i-1).tmod c.regions)=true:=by rw [Config.is_iff hr];omega
 simp only [plB,playerP,Config.cornerX,Config.cornerY,his,if_true]
theorem AkU {c:Config} (hr:c.right=true): ∀ {d:Nat} {i:Int} {L:List (List Entity)},1≤i→(L.length:Int)=c.regions→(∀l∈L,∀x∈l,x.id<i)→
  beginP c.cols c.regions d i (L.map (Region.mk 0))=(rowsB c c.regions d i L).map (Region.mk 0):=by
 intro d
 induction d with
 |zero=>intro i L _ _ _;rfl
 |succ d ih=>
  intro i L hi hL hx
  have h1:=Config.right_iff.1 hr
  have hml:=Config.mul_le hr
  have hre:c.regions=c.cols*c.rows:=by simp [z0,hr]
  have hk:=AaC (v:=i-1) (k:=c.regions) (by omega) (by omega)
  have hlt:((i-1).tmod c.regions).toNat<L.length:=by omega
  rw [beginP,rowsB]
  generalize hkk:((i-1).tmod c.regions).toNat=k at*
  have hg:gt (L.map (Region.mk 0)) k=⟨0,gt L k⟩:=by simp [gt,hlt]
  have e:begin1 c.cols c.regions (L.map (Region.mk 0)) i=(L.set k (gt L k++ [plB c c.regions i])).map (Region.mk 0):=by
   unfold begin1
   rw [hkk,hg]
   simp only
   rw [←Ala hr hi,Anq (hx _ (Aav hlt)),List.map_set]
  rw [e]
  refine ih (by omega) (by simpa using hL) ?_
  intro l hl x hxl
  rcases List.mem_or_eq_of_mem_set hl with hl|rfl
  ·have:=hx l hl x hxl;omega
  ·rcases List.mem_append.1 hxl with hxl|hxl
   ·have:=hx _ (Aav hlt) x hxl;omega
   ·simp at hxl;subst hxl;show i<i+1;omega
theorem AkR {c:Config} (hr:c.right=true):beginW c.cols c.regions c.players.toNat=⟨(rowsB c c.regions c.players.toNat 1 (zj c.regions.toNat [])).map (Region.mk 0),zj c.regions.toNat []⟩:=by
 have hgl:= @Config.regions_le c
 have h:=AkU hr (d:=c.players.toNat) (i:=1) (L:=zj c.regions.toNat []) (by omega) (by simp;omega) (fun l hl=>by rw [List.eq_of_mem_replicate hl];simp)
 rw [List.map_replicate] at h
 unfold beginW
 rw [h]
end Go.Eva
namespace Go.Eva.S4
open Go.Proofs Go.RowKit
abbrev hB (c:Config) (xs os:List T):Heap:= [.one 5 (.t c.enc) false,.one 2 (.agg [.fit 2 [],.fit 1 []]) false,.one 2 (.agg [.all 3 none,.all 4 none]) false,.arr 2 (xs) (some 0) false,.arr 1 os (some 0) false]
abbrev hB2 (c:Config) (xs os:List T):Heap:= [.one 5 (.t c.enc) false,.one 2 (.agg [.fit 2 [],.fit 1 []]) false,.one 2 (.agg [.all 3 none,.all 4 none]) false,.arr 2 (xs) (some 0) false,.arr 1 os (some 0) false,.dead,.dead]
abbrev vB (g i:Int):List V:= [.ptr 0 0 0,.ptr 1 0 0,vi g,.ptr 2 0 0,vi i]
section
variable {P:Program} {n:Nat} {w0:Go.World} {ι0:Io} {F0:Nat→Prop} {H0:Heap}
structure BInv (n:Nat) (w0:Go.World) (ι0:Io) (F0:Nat→Prop) (H0:Heap) (c:Config) (g:Int) (os:List T) (i:Int) (L:List (List Entity)) (w:Go.World) (a:Act) (ι:Io) (F:Nat→Prop) (hs:List Value) (β:Nat→Option Nat):Prop where
 inn:In n ι F w (hB c (hs.map (pinE (ti 0))) os) (zipE [1,2,4,5,6] (vB g i)) a
 ext:Ext 0 ι0 F0 H0 w0 ι F (hB c (hs.map (pinE (ti 0))) os) w
 len:hs.length=L.length
 row: ∀(k:Nat) h r,hs[k]?=some h→L[k]?=some r→RowD (fun b=>b<w0.heap.size→Own ι0 H0 b) ι F w (hB c (hs.map (pinE (ti 0))) os) 9 h (r.map zm) (β k)
 inj: ∀(i j:Nat) b,i<hs.length→j<hs.length→β i=some b→β j=some b→i=j
theorem Akg:c42 [0]= .seq (.seq (c42 [0,0,0]) (.cond (.tmp 24) .skip (.exit 0))) (.seq (.block 1 (.seq (c42 [0,0,0,1,0]) (.seq (c42 [0,1,0,0,1,0]) (c42 [1,1,0,0,1,0])))) (c42 [1,1,0])):=by kernel_rfl
theorem c42_6:c42 [0,0,0]= .region 6 (o42 [0,0,0]) false:=by kernel_rfl
theorem c42_8:c42 [0,0,0,1,0]= .region 8 (o42 [0,0,0,1,0]) false:=by kernel_rfl
theorem c42_9:c42 [0,1,0,0,1,0]= .region 9 (o42 [0,1,0,0,1,0]) false:=by kernel_rfl
theorem An0:c42 [1,1,0,0,1,0]= .region 10 (o42 [1,1,0,0,1,0]) true:=by kernel_rfl
theorem c42_7:c42 [1,1,0]= .region 7 (o42 [1,1,0]) false:=by kernel_rfl
theorem fit42 {n:Nat} (h:fitC cx fi42 n fi42.code=true) {p:List Nat} {id:Nat} {b:Bool} (hp:c42 p= .region id (o42 p) b) (hs:subAt fi42.code (p++ [0,1,0,1,1,1,1])=some (c42 p)): ∀o∈(o42 p).toList,fitO cx n o=true:=by
 have:=Am8 h hs
 rw [hp] at this
 simp only [fitC,Bool.and_eq_true] at this
 exact fun o ho=>List.all_eq_true.1 this.1 o ho
theorem Aor (hc:CxTy P cx) (hfn:FnsOK P cx) (hfit:fitC cx fi42 n fi42.code=true) {Q:Exit→Act→Go.World→Prop} (hQ: ∀c a w,¬Q (.panic c) a w) {c:Config} {g i:Int} {os:List T} {L:List (List Entity)} {w:Go.World} {a:Act} {ι:Io} {F:Nat→Prop} {hs:List Value} {β:Nat→Option Nat} {r:Nat} {x y:Int} {row:List Entity}
  (hi:In n ι F w (hB c (hs.map (pinE (ti 0))) os) (zipE [1,2,4,5,6,7,8,9] (vB g i++ [vi r,vi x,vi y])) a) (hx:Ext 0 ι0 F0 H0 w0 ι F (hB c (hs.map (pinE (ti 0))) os) w) (hlen:hs.length=L.length)
  (hrow: ∀(k:Nat) h r,hs[k]?=some h→L[k]?=some r→RowD (fun b=>b<w0.heap.size→Own ι0 H0 b) ι F w (hB c (hs.map (pinE (ti 0))) os) 9 h (r.map zm) (β k)) (hinj: ∀(i j:Nat) b,i<hs.length→j<hs.length→β i=some b→β j=some b→i=j)
  (hr:r<hs.length) (hL:L[r]?=some row) (hn:row.length≤100000) (h1:0≤x∧x≤1000000) (h2:0≤y∧y≤1000000) (h3:1≤i∧i≤1000000)
  (hq: ∀a' w' ι' F' (h':Value) (β':Nat→Option Nat),In n ι' F' w' (hB2 c ((hs.set r h').map (pinE (ti 0))) os) (zipE [1,2,4,5,6] (vB g i)) a'→Ext 0 ι0 F0 H0 w0 ι' F' (hB2 c ((hs.set r h').map (pinE (ti 0))) os) w'→
   (∀(k:Nat) h rr,(hs.set r h')[k]?=some h→(L.set r (row++ [⟨i,1,x+512,y+512,0,0,100,0,0⟩]))[k]?=some rr→RowD (fun b=>b<w0.heap.size→Own ι0 H0 b) ι' F' w' (hB2 c ((hs.set r h').map (pinE (ti 0))) os) 9 h (rr.map zm) (β' k))→
   (∀(i j:Nat) b,i<hs.length→j<hs.length→β' i=some b→β' j=some b→i=j)→Q .normal a' w'):(c42 [1,1,0,0,1,0]).wp P Q a w:=by
 rw [An0]
 have hall:=fit42 hfit An0 (by kernel_rfl)
 have hsel:Region.noSelect (o42 [1,1,0,0,1,0])=true:=by kernel_rfl
 refine wp_region_any hc.orders (Aiz (cx:=cx) _ _ _ _ ?_)
 obtain ⟨d1,d2⟩:=Ait hi.good
 have hrow:=fun k h rr e1 e2=>(hrow k h rr e1 e2).ext hi.good (d2.ext 0)
 change wpAnyR P cx (o42 [1,1,0,0,1,0]) Q _ _ a w.drew
 have hi:In n ι F w.drew (hB c (hs.map (pinE (ti 0))) os) (zipE [1,2,4,5,6,7,8,9] (vB g i++ [vi r,vi x,vi y])) a:=⟨d1,fun t=>d2.vr hi.good (hi.sim t),hi.size,hi.defers⟩
 have hx:=hx.trans (d2.ext 0)
 generalize w.drew=w at*
 clear d1 d2
 refine AfT hc hfn hall hsel hQ (fin:=finAt 6 [true,false,true,true,true,true,true,true,true,true,true,true,true,true,true,false,false,false,false,false]) (d:=d42a) (by kernel_rfl) hi (w10a c g i r x y hs os hr h1 h2 h3) ?_
 intro f1 l1 hf1 a1 w1 ι1 F1 hi1 hst1
 obtain ⟨rfl,rfl⟩:=AjS hf1
 have hx1:=hx.trans (hst1.ext 0)
 have hrow1:=fun k h r e1 e2=>(hrow k h r e1 e2).ext hi.good (hst1.ext 0)
 clear hrow hst1 hi hx hf1
 have hR:=hrow1 r (gt hs r) row (Acy hr) hL
 obtain ⟨ga,va,hl,ho,hlv⟩:=adopt (by decide) hi1.good hR
 generalize hp:(⟨i,1,x+512,y+512,0,0,100,0,0⟩:Entity)=p at*
 have hva:VRs ι1 F1 w1 (hB c (hs.map (pinE (ti 0))) os) (vB g i++ [.ptr 2 0 0,vi r,.t p.enc]) (slots a1 [1,2,4,5,6,37,39,51]):=Ajm hi1 [1,2,4,5,6,37,39,51]
 have h45:a1.tmps.getD 45 undef=gt hs r:=by
  have h:VR ι1 F1 w1 (hB c (hs.map (pinE (ti 0))) os) (.t (.pin (gt hs r))) (a1.tmps.getD 45 undef):=hi1.sim 45
  generalize a1.tmps.getD 45 undef=u at h
  have h:=h.t_inv
  generalize gt hs r=v at h
  cases h
  rfl
 have hva2:=Ak2 (Aj3 hva fun v u h=>h.mono (fun _ h=>h) (fun _ _=>rfl) hl) (v:= .all 5 none) (u:=a1.tmps.getD 45 undef) (by rw [h45];exact va)
 have hi1':In n (upd ι1 5 (β r)) F1 w1 (hB c (hs.map (pinE (ti 0))) os++ [.arr 9 (row.map zm) none false]) (zipE [1,2,4,5,6,37,39,51,45] (vB g i++ [.ptr 2 0 0,vi r,.t p.enc,.all 5 none])) a1:=⟨ga,AaV hva2,hi1.size,hi1.defers⟩
 have hxa:Ext 0 ι0 F0 H0 w0 (upd ι1 5 (β r)) F1 (hB c (hs.map (pinE (ti 0))) os++ [.arr 9 (row.map zm) none false]) w1:=
  ⟨hx1.os,hx1.tape,hx1.output,hx1.size,hx1.same,fun b hb h=>(ho b h).elim (hx1.own b hb) fun e=>(hR.dark e).2.2 hb,hx1.fsub,hx1.ffr,fun id o hid=>absurd hid (by simp),fun b hb h=>(hlv b h).elim (hx1.live b hb) fun e=>((hR.dark e).2.2 hb).live⟩
 have get: ∀k,k<hs.length→ ∃h rr,hs[k]?=some h∧L[k]?=some rr:=fun k hk=>⟨hs[k],L[k]'(by omega),List.getElem?_eq_getElem hk,List.getElem?_eq_getElem (by omega)⟩
 have hrowa: ∀(k:Nat) h rr,k≠r→hs[k]?=some h→L[k]?=some rr→RowD (fun b=>b<w0.heap.size→Own ι0 H0 b) (upd ι1 5 (β r)) F1 w1 (hB c (hs.map (pinE (ti 0))) os++ [.arr 9 (row.map zm) none false]) 9 h (rr.map zm) (β k):=by
  intro k h rr hk e1 e2
  refine (hrow1 k h rr e1 e2).other fun b hb hl=> ?_
  rcases hlv b hl with hl|hl
  ·exact ((hrow1 k h rr e1 e2).dark hb).2.1 hl
  ·exact hk (hinj k r b (List.getElem?_eq_some_iff.1 e1).1 hr hb hl)
 clear hva hva2 h45 va hl ho hlv hrow1 hi1 hx1
 refine AfT hc hfn hall hsel hQ (fin:=finAt 1 [true,true,true,true,true,true,true,true,true,true,true,true,true,true,true,true,true,true,true,false]) (d:=d42b) (by kernel_rfl) hi1' (w10b c g i r p row hs os hr hn) ?_
 intro f2 l2 hf2 a2 w2 ι2 F2 hi2 hst2
 obtain ⟨rfl,rfl⟩:=AjS hf2
 have hx2:=hxa.trans (hst2.ext 0)
 have hrow2:=fun k h r hk e1 e2=>(hrowa k h r hk e1 e2).ext ga (hst2.ext 0)
 clear hrowa hst2 hi1' hxa hf2
 have hva:VRs ι2 F2 w2 ([.one 5 (.t c.enc) false,.one 2 (.agg [.fit 2 [],.fit 1 []]) false,.one 2 (.agg [.all 3 none,.all 4 none]) false,.arr 2 (hs.map (pinE (ti 0))) (some 0) false,.arr 1 os (some 0) false,.dead,.arr 9 ((row++ [p]).map zm) none false]) (vB g i++ [.ptr 3 r 1]) (slots a2 [1,2,4,5,6,55]):=Ajm hi2 [1,2,4,5,6,55]
 have h53:VR ι2 F2 w2 ([.one 5 (.t c.enc) false,.one 2 (.agg [.fit 2 [],.fit 1 []]) false,.one 2 (.agg [.all 3 none,.all 4 none]) false,.arr 2 (hs.map (pinE (ti 0))) (some 0) false,.arr 1 os (some 0) false,.dead,.arr 9 ((row++ [p]).map zm) none false]) (.all 6 none) (a2.tmps.getD 53 undef):=hi2.sim 53
 have hone:(a2.tmps.getD 53 undef).oneCell'=true:=(h53.shape (by simp) rfl).2 0 _ (by
  have:=(h53.shape (by simp) rfl).1
  generalize a2.tmps.getD 53 undef=u at h53 this
  cases h53 with
  |all _ _ _ h=>
   obtain ⟨ad,cap,rfl,_⟩:=h
   rfl)
 obtain ⟨β6,hR6,hlive6⟩:=release (K:=fun b=>b<w0.heap.size→Own ι0 H0 b) (id:=6) hi2.good rfl h53 fun b ho hb=>hx2.own b hb ho
 obtain ⟨gk,sk⟩:=Afe (id:=6) hi2.good rfl
 have hva2:=Ak2 (Aj3 hva fun v u h=>sk.vr hi2.good h) (v:= .t (.pin (a2.tmps.getD 53 undef))) (u:=a2.tmps.getD 53 undef) (.t _ _ (.pin _ hone))
 have hi2':In n ι2 F2 w2 (hB2 c (hs.map (pinE (ti 0))) os) (zipE [1,2,4,5,6,55,53] (vB g i++ [.ptr 3 r 1,.t (.pin (a2.tmps.getD 53 undef))])) a2:=⟨gk,AaV hva2,hi2.size,hi2.defers⟩
 have hx3:=hx2.trans (sk.ext 0)
 have hrow3:=fun k h r hk e1 e2=>(hrow2 k h r hk e1 e2).ext hi2.good (sk.ext 0)
 generalize a2.tmps.getD 53 undef=h' at*
 refine AfT hc hfn hall hsel hQ (fin:=okEnd (o42 [1,1,0,0,1,0])) (d:=d42c) (by kernel_rfl) hi2' (w10c c g i r h' hs os hr) ?_
 intro f3 l3 hf3 a3 w3 ι3 F3 hi3 hst3
 refine AnM hf3 (hq a3 w3 ι3 F3 h' (fun k=>if k=r then β6 else β k) hi3 (hx3.trans (hst3.ext 0)) ?_ ?_)
 ·intro k h rr e1 e2
  by_cases hk:k=r
  ·subst hk
   rw [List.getElem?_set_self hr] at e1
   rw [List.getElem?_set_self (by omega)] at e2
   cases e1
   cases e2
   simp only [if_pos]
   exact hR6.ext gk (hst3.ext 0)
  ·rw [List.getElem?_set_ne (Ne.symm hk)] at e1 e2
   rw [if_neg hk]
   exact (hrow3 k h rr hk e1 e2).ext gk (hst3.ext 0)
 ·have new: ∀j b,j<hs.length→j≠r→β j=some b→β6=some b→False:=by
   intro j b hj hne e1 e2
   obtain ⟨h,rr,k1,k2⟩:=get j hj
   exact ((hrow2 j h rr hne k1 k2).dark e1).2.1 (hlive6 b e2)
  intro i' j b hi hj e1 e2
  by_cases c1:i'=r
  ·by_cases c2:j=r
   ·rw [c1,c2]
   ·simp only [c1,c2,if_true,if_false] at e1 e2
    exact (new j b hj c2 e2 e1).elim
  ·by_cases c2:j=r
   ·simp only [c1,c2,if_true,if_false] at e1 e2
    exact (new i' b hi c1 e1 e2).elim
   ·simp only [c1,c2,if_false] at e1 e2
    exact hinj i' j b hi hj e1 e2
end
end Go.Eva.S4
namespace Go.Eva.S4
open Go.Proofs Go.RowKit
abbrev rowT (l:List Entity):T:= .agg [ti 0,.sl 9 (l.map zm)]
theorem Ani {L:List (List Entity)}:((L.map fun l=>l.map zm).map fun r=>T.agg [ti 0,.sl 9 r])=L.map rowT:=by rw [List.map_map];rfl
section
variable {P:Program} {n:Nat} {w0:Go.World} {ι0:Io} {F0:Nat→Prop} {H0:Heap}
def QB (n:Nat) (w0:Go.World) (ι0:Io) (F0:Nat→Prop) (H0:Heap) (c:Config) (g:Int) (os:List T) (i:Int) (L:List (List Entity)) (ex:Exit) (a':Act) (w':Go.World):Prop:=
 ∃ι' F',exEq ex (.exit 0)∧In n ι' F' w' (hB c (L.map rowT) os) (zipE [1,2,4,5,6] (vB g i)) a'∧Ext 0 ι0 F0 H0 w0 ι' F' (hB c (L.map rowT) os) w'
theorem Als {c:Config} {g i:Int} {os:List T} {L:List (List Entity)} {w:Go.World} {a:Act} {ι:Io} {F:Nat→Prop} {hs:List Value} {β:Nat→Option Nat} (hv:BInv n w0 ι0 F0 H0 c g os i L w a ι F hs β):QB n w0 ι0 F0 H0 c g os i L (.exit 0) a w:=by
 obtain ⟨hi,hx,hl,hrow,hinj⟩:=hv
 have get: ∀k,k<hs.length→ ∃h rr,hs[k]?=some h∧L[k]?=some rr:=fun k hk=>⟨hs[k],L[k]'(by omega),List.getElem?_eq_getElem hk,List.getElem?_eq_getElem (by omega)⟩
 have hd: ∀b,(∃k,k<hs.length∧β k=some b)→b<w.heap.size∧ ¬Live ι (hB c (hs.map (pinE (ti 0))) os) b∧(b<w0.heap.size→Own ι0 H0 b):=by
  rintro b ⟨k,hk,hb⟩
  obtain ⟨h,rr,e1,e2⟩:=get k hk
  exact (hrow k h rr e1 e2).dark hb
 have gw:=widen (R:=fun b=> ∃k,k<hs.length∧β k=some b) hi.good fun b hb=>⟨(hd b hb).1,(hd b hb).2.1⟩
 obtain ⟨gr,sr⟩:=retree (id:=3) (ys:=L.map rowT) gw rfl (by simp [hl]) (fun b hcb=>by
  have:=Aod (s:=9) (rows:=L.map fun l=>l.map zm) (F':=fun b=>F b∨ ∃k,k<hs.length∧β k=some b) hcb (by simp [hl]) (fun _ h=>h) (fun k h r e1 e2=>by
   simp only [List.getElem?_map] at e2
   obtain ⟨l,e3,rfl⟩:=Option.map_eq_some_iff.1 e2
   exact (hrow k h l e1 e3).tr.mono (fun b hb=>hb.elim .inl fun hb=> .inr ⟨k,(List.getElem?_eq_some_iff.1 e1).1,hb⟩) (fun _ _=>rfl))
  rw [Ani] at this
  exact this)
 have hvr: ∀v u,VR ι F w (hB c (hs.map (pinE (ti 0))) os) v u→VR ι (fun b=>F b∨ ∃k,k<hs.length∧β k=some b) w (hB c (L.map rowT) os) v u:=fun v u h=>
  sr.vr gw (h.mono (fun _ h=> .inl h) (fun _ _=>rfl) fun i o h=>⟨o,h,.refl ι w i o⟩)
 refine ⟨ι,_,rfl,⟨gr,AaV (Aj3 (Ajm hi [1,2,4,5,6]) hvr),hi.size,hi.defers⟩,⟨hx.os,hx.tape,hx.output,hx.size,hx.same,fun b hb h=>hx.own b hb (sr.own b (Nat.lt_of_lt_of_le hb hx.size) h),fun b hb=> .inl (hx.fsub b hb),?_,fun id o hid=>absurd hid (by simp),fun b hb h=>hx.live b hb (sr.live b (Nat.lt_of_lt_of_le hb hx.size) h)⟩⟩
 rintro b hb (h|h)
 ·exact hx.ffr b hb h
 ·exact .inr ((hd b h).2.2 hb)
theorem Amv (hc:CxTy P cx) (hfn:FnsOK P cx) (hfit:fitC cx fi42 n fi42.code=true) {c:Config} {g:Int} {os:List T} (hg:0<g) (hp:c.players≤1000): ∀(d:Nat) (i:Int) (L:List (List Entity)) (w:Go.World) (a:Act) {ι:Io} {F:Nat→Prop} {hs:List Value} {β:Nat→Option Nat},
  i+d=c.players+1→1≤i→(L.length:Int)=g→(∀l∈L,l.length+d≤10000)→BInv n w0 ι0 F0 H0 c g os i L w a ι F hs β→LoopWp P (c42 [0]) (QB n w0 ι0 F0 H0 c g os (c.players+1) (rowsB c g d i L)) a w:=by
 intro d
 induction d with
 |zero=>
  intro i L w a ι F hs β hd h1 hL hb hv
  obtain rfl:i=c.players+1:=by omega
  refine LoopWp.round ?_
  rw [Akg]
  refine wp_seq (wp_seq ?_)
  rw [c42_6]
  refine AcW hc hfn (fit42 hfit c42_6 (by kernel_rfl)) hv.inn (w6 c g (c.players+1) hs os) ?_
  intro a1 w1 ι1 F1 hi1 hst1
  have hev:a1.eval (.tmp 24)= .bool (decide (c.players+1≤c.players)):=by
   have h:=Aaq hi1.sim (.tmp 24)
   exact (show VR ι1 F1 w1 _ (vb (decide (c.players+1≤c.players))) _ from h).t_inv.bool_inv
  rw [show decide (c.players+1≤c.players)=false by simp;omega] at hev
  refine wp_cond_false hev (wp_exit ?_)
  refine Als (hs:=hs) (β:=β) ⟨⟨hi1.good,AaV (Ajm hi1 [1,2,4,5,6]),hi1.size,hi1.defers⟩,hv.ext.trans (hst1.ext 0),hv.len,fun k h r e1 e2=>(hv.row k h r e1 e2).ext hv.inn.good (hst1.ext 0),hv.inj⟩
 |succ d ih=>
  intro i L w a ι F hs β hd h1 hL hb hv
  refine LoopWp.round ?_
  rw [Akg]
  refine wp_seq (wp_seq ?_)
  rw [c42_6]
  refine AcW hc hfn (fit42 hfit c42_6 (by kernel_rfl)) hv.inn (w6 c g i hs os) ?_
  intro a1 w1 ι1 F1 hi1 hst1
  have hev:a1.eval (.tmp 24)= .bool (decide (i≤c.players)):=by
   have h:=Aaq hi1.sim (.tmp 24)
   exact (show VR ι1 F1 w1 _ (vb (decide (i≤c.players))) _ from h).t_inv.bool_inv
  rw [show decide (i≤c.players)=true by simp;omega] at hev
  refine wp_cond_true hev (wp_skip ?_)
  have hi1:In n ι1 F1 w1 (hB c (hs.map (pinE (ti 0))) os) (zipE [1,2,4,5,6] (vB g i)) a1:=⟨hi1.good,AaV (Ajm hi1 [1,2,4,5,6]),hi1.size,hi1.defers⟩
  have hx1:=hv.ext.trans (hst1.ext 0)
  have hr1:=fun k h r e1 e2=>(hv.row k h r e1 e2).ext hv.inn.good (hst1.ext 0)
  have hlen:=hv.len
  have hinj:=hv.inj
  clear hv hst1 hev
  refine wp_seq (wp_block (wp_seq ?_))
  rw [c42_8]
  refine AcW hc hfn (fit42 hfit c42_8 (by kernel_rfl)) hi1 (w8 c g i hs os hg (by omega)) ?_
  intro a2 w2 ι2 F2 hi2 hst2
  have hx2:=hx1.trans (hst2.ext 0)
  have hr2:=fun k h r e1 e2=>(hr1 k h r e1 e2).ext hi1.good (hst2.ext 0)
  clear hr1 hx1 hst2 hi1
  have htm:=AaC (v:=i-1) (k:=g) (by omega) (by omega)
  obtain ⟨r,hr⟩: ∃r:Nat,(i-1).tmod g=r:=⟨((i-1).tmod g).toNat,by omega⟩
  have hrL:r<L.length:=by omega
  have hcor:= @Aff c ((i-1).tmod g)
  have hbk:=hb _ (Aav hrL)
  rw [hr] at hi2 hcor
  refine wp_seq ?_
  rw [c42_9]
  refine AcW hc hfn (fit42 hfit c42_9 (by kernel_rfl)) hi2 (w9 c g i r hs os) ?_
  intro a3 w3 ι3 F3 hi3 hst3
  have hx3:=hx2.trans (hst3.ext 0)
  have hr3:=fun k h r e1 e2=>(hr2 k h r e1 e2).ext hi2.good (hst3.ext 0)
  clear hr2 hx2 hst3 hi2
  refine Aor hc hfn hfit (β:=β) ?_ hi3 hx3 hlen hr3 hinj (r:=r) (row:=gt L r) (by omega) (Acy hrL) (by omega) (by omega) (by omega) (by omega) ?_
  ·rintro cc aa ww ⟨_,_,h,_⟩
   exact h
  intro a4 w4 ι4 F4 h' β4 hi4 hx4 hr4 hinj4
  show (c42 [1,1,0]).wp P _ a4 w4
  rw [c42_7]
  refine Aja hc hfn (fit42 hfit c42_7 (by kernel_rfl)) hi4 (w7 c g i (hs.set r h') os (by omega)) ?_
  rintro a5 w5 ι5 F5 hi5 ⟨ι6,F6,H6,g6,hst6,hx6⟩
  show LoopWp P (c42 [0]) _ a5 w5
  have e:rowsB c g (d+1) i L=rowsB c g d (i+1) (L.set r (gt L r++ [⟨i,1,c.cornerX r+512,c.cornerY r+512,0,0,100,0,0⟩])):=by
   rw [rowsB]
   unfold plB
   rw [hr,Int.toNat_natCast]
  rw [e]
  refine ih (i+1) _ w5 a5 (hs:=hs.set r h') (β:=β4) (by omega) (by omega) (by simpa using hL) ?_ ⟨hi5,(hx4.trans (hst6.ext 0)).trans hx6,by simp [hlen],fun k h rr e1 e2=>((hr4 k h rr e1 e2).ext hi4.good (hst6.ext 0)).ext g6 hx6,by simpa using hinj4⟩
  intro l hl
  rcases List.mem_or_eq_of_mem_set hl with hl|rfl
  ·have:=hb l hl;omega
  ·simp;omega
end
end Go.Eva.S4
namespace Go.Eva.S4
open Go.Proofs Go.RowKit
theorem AcG (c:Config) (g:Int) (m:Nat) (os:List T) (hg:0<g) (hm:(m:Int)=g) (hp:0≤c.players∧c.players≤1000):
  Is cx (.loop 42 [0,1,0,1,1,1,1] 0 (vB g 1) (hB c (zj m (.agg [ti 0,.nul])) os)) ⟨.exit 0,vB g (c.players+1),hB c ((rowsB c g c.players.toNat 1 (zj m [])).map rowT) os⟩:=by
 intro P hc hfn fi cc live n hf hsub hlive hfit w ι F a hi
 have e1:cx.fn.get 42=some (some fi42):=by kernel_rfl
 rw [e1] at hf
 simp only [Option.some.injEq] at hf
 subst hf
 have e2:subAt fi42.code [0,1,0,1,1,1,1]=some (.loop (c42 [0])):=by kernel_rfl
 rw [e2] at hsub
 simp only [Option.some.injEq,Code.loop.injEq] at hsub
 subst hsub
 have e3:liveAt fi42.live [0,1,0,1,1,1,1]=some [1,2,4,5,6]:=by kernel_rfl
 rw [e3] at hlive
 simp only [Option.some.injEq] at hlive
 subst hlive
 have hob:=hi.good.obj 3 _ rfl
 have key: ∃hs:List Value,hs.length=m∧(∀h∈hs,∃ad,h= .slice ad 0 0)∧Good ι F w (hB c (hs.map (pinE (ti 0))) os)∧Step ι F (hB c (zj m (.agg [ti 0,.nul])) os) w ι F (hB c (hs.map (pinE (ti 0))) os) w:=by
  obtain ⟨h0,h⟩:=hob
  rcases h with ⟨_,h2,_⟩|⟨b,cs,e,h1,h2,h3,h4,h5,h6,h7⟩
  ·have:=congrArg zq h2
   simp at this
   omega
  ·obtain ⟨hs,k1,k2,k3⟩:=AnG h7
   obtain ⟨g1,g2⟩:=retree' (id:=3) (ys:=hs.map (pinE (ti 0))) hi.good rfl (by simp [k1]) (fun b' hb'=>by
    rw [h1] at hb'
    cases hb'
    exact k2)
   exact ⟨hs,k1,k3,g1,g2⟩
 obtain ⟨hs,k1,k2,k3,k4⟩:=key
 have hi':In n ι F w (hB c (hs.map (pinE (ti 0))) os) (zipE [1,2,4,5,6] (vB g 1)) a:=⟨k3,fun t=>k4.vr hi.good (hi.sim t),hi.size,hi.defers⟩
 have hx:Ext 0 ι F (hB c (zj m (.agg [ti 0,.nul])) os) w ι F (hB c (hs.map (pinE (ti 0))) os) w:=k4.ext 0
 have hmain:=Amv hc hfn hfit hg hp.2 c.players.toNat 1 (zj m []) w a (os:=os) (hs:=hs) (β:=fun _=>none) (by omega) (by omega) (by simpa using hm) (fun l hl=>by rw [List.eq_of_mem_replicate hl];simp;omega) ⟨hi',hx,by simp [k1],fun k h r e1 e2=>by
  have hr:r= []:=List.eq_of_mem_replicate (List.mem_of_getElem? e2)
  subst hr
  exact ⟨rfl,k2 h (List.mem_of_getElem? e1)⟩,fun i j b _ _ h=>by simp at h⟩
 refine hmain.mono ?_
 rintro ex a' w' ⟨ι',F',q1,q2,q3⟩
 exact ⟨_,ι',F',rfl,q1,q2,q3⟩
end Go.Eva.S4
namespace Go.Eva.S4
theorem Ads (c:Config) (h:c.right=true):Is cx (.call 42 [.t c.enc] []) ⟨.ret,[.t (.agg [.sl 2 ((rowsB c c.regions c.players.toNat 1 (zj c.regions.toNat [])).map rowT),.sl 1 (zj c.regions.toNat (qk 15 []))]),vi 0],[]⟩:=by
 have hgr:=Config.right_iff.1 h
 have hgl:= @Config.regions_le c
 have hml:=Config.mul_le h
 have hre:c.regions=c.cols*c.rows:=by simp [z0,h]
 have hR:=Aao c
 rw [h] at hR
 have hG:=Aan c
 have hL:=AcG c c.regions c.regions.toNat (zj c.regions.toNat (qk 15 [])) (by omega) (by omega) (by omega)
 simp only [hB,vB] at hL
 generalize (rowsB c c.regions c.players.toNat 1 (zj c.regions.toNat [])).map rowT=X at*
 generalize c.regions=g at*
 refine qq ?_
 refine gg [.a _ _,.b (!true) false,.a _ _] ⟨o_a hR,bK,o_a hG,trivial⟩ ?_
 refine bO ?_ ?_
 ·refine gg [.w (0≤g∧g≤g∧room (zy g) (32:Nat)),.l (zy g)] ⟨o_w ⟨(by omega),⟨(by omega),(by (simp [room,appendMax];omega))⟩⟩,trivial⟩ ?_
  refine bO ?_ ?_
  all_goals
   refine gg [.w (0≤g∧g≤g∧room (zy g) (24:Nat)),.l (zy g),.a _ _] ⟨o_w ⟨(by omega),⟨(by omega),(by (simp [room,appendMax];omega))⟩⟩,o_a hL,trivial⟩ ?_
   exact ge
 ·refine bO ?_ ?_
  ·refine gg [.w (0≤g∧g≤g∧room (zy g) (24:Nat)),.l (zy g)] ⟨o_w ⟨(by omega),⟨(by omega),(by (simp [room,appendMax];omega))⟩⟩,trivial⟩ ?_
   refine bO ?_ ?_
   all_goals
    refine gg [.w (0≤g∧g≤g∧room (zy g) (32:Nat)),.l (zy g),.a _ _] ⟨o_w ⟨(by omega),⟨(by omega),(by (simp [room,appendMax];omega))⟩⟩,o_a hL,trivial⟩ ?_
    exact ge
  ·refine bO ?_ ?_
   ·refine gg [.w (0≤g∧g≤g∧room (zy g) (32:Nat)),.l (zy g),.w (0≤g∧g≤g∧room (zy g) (24:Nat)),.l (zy g),.a _ _] ⟨o_w ⟨(by omega),⟨(by omega),(by (simp [room,appendMax];omega))⟩⟩,o_w ⟨(by omega),⟨(by omega),(by (simp [room,appendMax];omega))⟩⟩,o_a hL,trivial⟩ ?_
    exact ge
   ·refine gg [.w (0≤g∧g≤g∧room (zy g) (24:Nat)),.l (zy g),.w (0≤g∧g≤g∧room (zy g) (32:Nat)),.l (zy g),.a _ _] ⟨o_w ⟨(by omega),⟨(by omega),(by (simp [room,appendMax];omega))⟩⟩,o_w ⟨(by omega),⟨(by omega),(by (simp [room,appendMax];omega))⟩⟩,o_a hL,trivial⟩ ?_
    exact ge
theorem Adq (c:Config) (h:c.right=true):Is cx (.call 42 [.t c.enc] []) ⟨.ret,[.t (beginW c.cols c.regions c.players.toNat).enc,vi 0],[]⟩:=by
 have hB:=Ads c h
 rw [AkR h]
 have e:(World.enc ⟨(rowsB c c.regions c.players.toNat 1 (zj c.regions.toNat [])).map (Region.mk 0),zj c.regions.toNat []⟩)= .agg [.sl 2 ((rowsB c c.regions c.players.toNat 1 (zj c.regions.toNat [])).map rowT),.sl 1 (zj c.regions.toNat (qk 15 []))]:=by
  simp only [World.enc,List.map_map,List.map_replicate]
  rfl
 rw [e]
 exact hB
end Go.Eva.S4
namespace Go.Eva.S4
theorem Alx {outs:List CrossL} {r:Int} {l:List Int} {i:Nat} (h:i<l.length):(((l.drop i).filter fun q=>decide (q<(outs.length:Int))).map fun q=>toL (gt outs q.toNat) r).flatten=(if gt l i<(outs.length:Int) then toL (gt outs (gt l i).toNat) r else [])++(((l.drop (i+1)).filter fun q=>decide (q<(outs.length:Int))).map fun q=>toL (gt outs q.toNat) r).flatten:=by
 rw [Aaf h,List.filter_cons]
 by_cases h2:gt l i<(outs.length:Int)<;>simp [h2]
theorem AcY (c:Config) (outs:List CrossL) (r:Int) (hr:c.is r=true) (ho:outs.length≤16) (hs: ∀l∈outs,l.length≤400): ∀(d i:Nat) (A:List Cross),i+d=(c.near r).length→A.length≤400*i→
  Is cx (.loop 48 [0,1,0,1,1,1] 0 [.t (.sl 1 (outs.map encL)),vi r,.all 0 none,.t (.sl 1 ((c.near r).map ti)),vi (i)] [.arr 15 (A.map zn) none false])
   ⟨.exit 0,[.t (.sl 1 (outs.map encL)),vi r,.all 0 none,.t (.sl 1 ((c.near r).map ti)),vi ((c.near r).length)],[.arr 15 ((A++((((c.near r).drop i).filter fun q=>decide (q<(outs.length:Int))).map fun q=>toL (gt outs q.toNat) r).flatten).map zn) none false]⟩:=by
 have hns:(c.near r).length≤9:=Aaz
 intro d
 induction d with
 |zero=>
  intro i A hi hA
  rw [Aac (by omega)]
  refine qq ?_
  refine gg [.n (zq (zz ti (z6 c r))) (zq (z6 c r)),.b (decide ((i:Int)<(↑(zq (z6 c r)):Int))) false] ⟨o_n (by simp),fP,trivial⟩ ?_
  refine rT (a:=qz (qx 0) [V.t (qk 1 (zz encL outs)),vi r,qy 0 none,V.t (qk 1 (zz ti (z6 c r))),vi (i:Int)] [qv 15 (zz zn A) none false]) ?_
  ((have:i=(c.near r).length:=by omega);subst this;simp)
 |succ d ih=>
  intro i A hi hA
  have hlt:i<(c.near r).length:=by omega
  have hq:=Ai7 hr (Aav hlt)
  rw [Alx hlt]
  have ih0:=ih (i+1) A (by omega) (by omega)
  by_cases h2:gt (c.near r) i<(outs.length:Int)
  ·rw [if_pos h2]
   have hl:=hs _ (Aav (show (gt (c.near r) i).toNat<outs.length by omega))
   have hT:=Ahl (gt outs (gt (c.near r) i).toNat) r (by unfold small;omega)
   have hTl:= @AjM (gt outs (gt (c.near r) i).toNat) r
   have ih1:=ih (i+1) (A++toL (gt outs (gt (c.near r) i).toNat) r) (by omega) (by rw [List.length_append];omega)
   rw [List.append_assoc] at ih1
   clear ih ih0 hs
   generalize ((((c.near r).drop (i+1)).filter fun q=>decide (q<(outs.length:Int))).map fun q=>toL (gt outs q.toNat) r).flatten=X at*
   generalize toL (gt outs (gt (c.near r) i).toNat) r=W at*
   refine qq ?_
   refine gg [.n (zq (zz ti (z6 c r))) (zq (z6 c r)),.b (decide ((i:Int)<(↑(zq (z6 c r)):Int))) true,.w (0≤(i:Int)),.n (zy (i:Int)) i,.g (zz ti (z6 c r)) i (ti (gt (z6 c r) i)),.n (zq (zz encL outs)) (zq outs),.b (decide (gt (z6 c r) i<(↑(zq outs):Int))) true,.w (0≤(i:Int)),.n (zy (i:Int)) i,.g (zz ti (z6 c r)) i (ti (gt (z6 c r) i)),.w (0≤gt (z6 c r) i),.l (zy (gt (z6 c r) i)),.g (zz encL outs) (zy (gt (z6 c r) i)) (encL (gt outs (zy (gt (z6 c r) i)))),.a _ _,.w ((0:Nat)<(120:Nat)),.s (qk 0 (zz zn W))] ⟨o_n (by simp),tP,oW,nK,o_gt rfl (by assumption) (by intro h;cases h),o_n (by simp),t_brp (by assumption),oW,nK,o_gt rfl (by assumption) (by intro h;cases h),oW,oT,o_a hT,oW,trivial⟩ ?_
   refine gg [.t (qk 0 (zz zn A++zz zn W)) (qk 0 (zz zn (A++W))),.w (room (zq (zz zn (A++W))) (120:Nat)),.i zd ((i:Int)+1) ((↑(i+1):Int)),.a _ _] ⟨o_l (Aag rfl rfl),o_w (by (simp [room,appendMax];omega)),oI,o_a ih1,trivial⟩ ?_
   exact ge
  ·rw [if_neg h2,List.nil_append]
   clear ih hs
   generalize ((((c.near r).drop (i+1)).filter fun q=>decide (q<(outs.length:Int))).map fun q=>toL (gt outs q.toNat) r).flatten=X at*
   refine qq ?_
   refine gg [.n (zq (zz ti (z6 c r))) (zq (z6 c r)),.b (decide ((i:Int)<(↑(zq (z6 c r)):Int))) true,.w (0≤(i:Int)),.n (zy (i:Int)) i,.g (zz ti (z6 c r)) i (ti (gt (z6 c r) i)),.n (zq (zz encL outs)) (zq outs),.b (decide (gt (z6 c r) i<(↑(zq outs):Int))) false,.i zd ((i:Int)+1) ((↑(i+1):Int)),.a _ _] ⟨o_n (by simp),tP,oW,nK,o_gt rfl (by assumption) (by intro h;cases h),o_n (by simp),f_brp (by assumption),oI,o_a ih0,trivial⟩ ?_
   exact ge
theorem AeQ (c:Config) (outs:List CrossL) (r:Int) (hr:c.is r=true) (ho:outs.length≤16) (hs: ∀l∈outs,l.length≤400):Fn cx 48 [c.enc,.sl 1 (outs.map encL),ti r] (.sl 15 ((inboxL c outs r).map zn)):=by
 have hN:=Abg c r
 have h:=AcY c outs r hr ho hs (c.near r).length 0 [] (by omega) (by simp)
 rw [List.drop_zero,List.nil_append] at h
 unfold inboxL
 clear hs
 generalize (((c.near r).filter fun q=>decide (q<(outs.length:Int))).map fun q=>toL (gt outs q.toNat) r).flatten=X at*
 have hns:(c.near r).length≤9:=Aaz
 refine qq ?_
 refine gg [.a _ _,.a _ _] ⟨o_a hN,o_a h,trivial⟩ ?_
 exact ge
theorem Amz {c:Config} {w:World} {f:Int} (h:WFine c w f): ∀l∈w.outs,l.length≤400:=by
 intro l hl
 obtain ⟨k,hk,rfl⟩:=List.mem_iff_getElem.1 hl
 have:=(h.sent k hk).2
 have e:gt w.outs k=w.outs[k]:=by simp [gt,hk]
 rwa [e] at this
theorem Abq (c:Config) (w:World) (f:Int) (ins:List Input) (h:WFine c w f) (hf:0≤f∧f<10000) (hl:(ins.length:Int)=c.players) (hi: ∀i∈ins,i.right=true) {r:Nat} (hr:r<w.regions.length):
  Fn cx 48 [c.enc,.sl 1 (w.outs.map encL),ti r] (.sl 15 ((inboxL c w.outs r).map zn))∧
  Is cx (.call 80 [.t c.enc,vi r,.t (gt w.regions r).enc,.t (.sl 3 (ins.map zr)),.t (.sl 15 ((inboxL c w.outs r).map zn))] []) ⟨.ret,[.t (nextR c w ins r).enc,.t (.sl 15 ((nextO c w ins r).map zn)),vi 0],[]⟩:=by
 have hreg:=h.regs
 have hout:=h.outs
 have hgl:= @Config.regions_le c
 have hcr:=Config.right_iff.1 h.right
 have hF:=AdR h hf hl hi hr
 have hb:=Ain h hr
 have hs:=h.sane r hr
 exact ⟨AeQ c w.outs r hF.is (by omega) (Amz h),AdC c r (gt w.regions r) ins (inboxL c w.outs r) (by omega) (by unfold small;omega) (by omega) (AfC hF)⟩
theorem Adz (c:Config) (w:World) (f:Int) (ins:List Input) (h:WFine c w f) (hf:0≤f∧f<10000) (hl:(ins.length:Int)=c.players) (hi: ∀i∈ins,i.right=true): ∀(d i:Nat),i+d=w.regions.length→
  Is cx (.loop 35 [0,1,0,1,1,1,1,1] 0 [.t (.sl 3 (ins.map zr)),.ptr 0 0 0,.ptr 1 0 0,.ptr 2 0 0,vi 0,vi w.regions.length,.ptr 3 0 0,vi (i)] [.one 5 (.t c.enc) false,.one 2 (.t w.enc) false,.one 2 (.agg [.fit 2 [],.fit 1 []]) false,.one 2 (.agg [.all 4 none,.all 5 none]) false,.arr 2 (((List.range i).map (nextR c w ins)).map zt) none false,.arr 1 (((List.range i).map (nextO c w ins)).map encL) none false])
   ⟨.exit 0,[.t (.sl 3 (ins.map zr)),.ptr 0 0 0,.ptr 1 0 0,.ptr 2 0 0,vi 0,vi w.regions.length,.ptr 3 0 0,vi (w.regions.length)],[.one 5 (.t c.enc) false,.one 2 (.t w.enc) false,.one 2 (.agg [.fit 2 [],.fit 1 []]) false,.one 2 (.agg [.all 4 none,.all 5 none]) false,.arr 2 (((List.range w.regions.length).map (nextR c w ins)).map zt) none false,.arr 1 (((List.range w.regions.length).map (nextO c w ins)).map encL) none false]⟩:=by
 have hreg:=h.regs
 have hgl:= @Config.regions_le c
 intro d
 induction d with
 |zero=>
  intro i hi
  obtain rfl:i=w.regions.length:=by omega
  generalize (List.range w.regions.length).map (nextR c w ins)=A at*
  generalize (List.range w.regions.length).map (nextO c w ins)=B at*
  obtain ⟨R,O⟩:=w
  refine qq ?_
  refine gg [.b (decide ((↑(zq R):Int)<(↑(zq R):Int))) false] ⟨fP,trivial⟩ ?_
  exact ge
 |succ d ih=>
  intro i hid
  have hlt:i<w.regions.length:=by omega
  have ih1:=ih (i+1) (by omega)
  obtain ⟨hI,hS⟩:=Abq c w f ins h hf hl hi hlt
  have e1:(List.range (i+1)).map (nextR c w ins)=(List.range i).map (nextR c w ins)++ [nextR c w ins i]:=by rw [List.range_succ,List.map_append];rfl
  have e2:(List.range (i+1)).map (nextO c w ins)=(List.range i).map (nextO c w ins)++ [nextO c w ins i]:=by rw [List.range_succ,List.map_append];rfl
  rw [e1,e2] at ih1
  have hA:((List.range i).map (nextR c w ins)).length=i:=by simp
  have hB:((List.range i).map (nextO c w ins)).length=i:=by simp
  clear ih hi e1 e2
  generalize (List.range i).map (nextR c w ins)=A at*
  generalize (List.range i).map (nextO c w ins)=B at*
  generalize (List.range w.regions.length).map (nextR c w ins)=A2 at*
  generalize (List.range w.regions.length).map (nextO c w ins)=B2 at*
  generalize nextR c w ins i=x at*
  generalize nextO c w ins i=y at*
  generalize inboxL c w.outs i=box at*
  obtain ⟨R,O⟩:=w
  simp only at hreg hlt hI hS ih1⊢
  clear h
  refine qq ?_
  refine gg [.b (decide ((i:Int)<(↑(zq R):Int))) true,.w (0≤(i:Int)),.n (zy (i:Int)) i,.g (zz zt R) i (zt (gt R i))] ⟨tP,oW,nK,o_gt rfl (by assumption) (by intro h;cases h),trivial⟩ ?_
  refine bO ?_ ?_
  ·refine gg [.a _ _] ⟨o_a hI,trivial⟩ ?_
   refine bO ?_ ?_
   all_goals
    refine gg [.a _ _,.b (0 !=0) false] ⟨o_a hS,bK,trivial⟩ ?_
    refine bO (bO ?_ (bO (bO ?_ ?_) (bO ?_ ?_))) (bO (bO (bO ?_ ?_) ?_) (bO (bO ?_ ?_) ?_))
    all_goals
     refine gg [.w ((0:Nat)<(32:Nat)),.t (qk 0 [zt x]) (qk 0 (zz zt [x])),.t (qk 0 (zz zt A++zz zt [x])) (qk 0 (zz zt (A++ [x]))),.w (room (zq (zz zt (A++ [x]))) (32:Nat)),.w ((0:Nat)<(24:Nat)),.s (qk 0 [qk 15 (zz zn y)]),.t (qk 0 (zz encL B++ [qk 15 (zz zn y)])) (qk 0 (zz encL (B++ [y]))),.w (room (zq (zz encL (B++ [y]))) (24:Nat)),.i zd ((i:Int)+1) ((↑(i+1):Int)),.a _ _] ⟨oW,o_l (Aae rfl Aah),o_l (Aag rfl rfl),o_w (by (simp [room,appendMax];omega)),oW,o_l (Aag rfl (Aae (e:=y) rfl Aah)),o_w (by (simp [room,appendMax];omega)),oI,o_a ih1,trivial⟩ ?_
     exact ge
  ·refine gg [.a _ _,.a _ _,.b (0 !=0) false] ⟨o_a hI,o_a hS,bK,trivial⟩ ?_
   refine bO (bO ?_ (bO (bO ?_ ?_) (bO ?_ ?_))) (bO (bO (bO ?_ ?_) ?_) (bO (bO ?_ ?_) ?_))
   all_goals
    refine gg [.w ((0:Nat)<(32:Nat)),.t (qk 0 [zt x]) (qk 0 (zz zt [x])),.t (qk 0 (zz zt A++zz zt [x])) (qk 0 (zz zt (A++ [x]))),.w (room (zq (zz zt (A++ [x]))) (32:Nat)),.w ((0:Nat)<(24:Nat)),.s (qk 0 [qk 15 (zz zn y)]),.t (qk 0 (zz encL B++ [qk 15 (zz zn y)])) (qk 0 (zz encL (B++ [y]))),.w (room (zq (zz encL (B++ [y]))) (24:Nat)),.i zd ((i:Int)+1) ((↑(i+1):Int)),.a _ _] ⟨oW,o_l (Aae rfl Aah),o_l (Aag rfl rfl),o_w (by (simp [room,appendMax];omega)),oW,o_l (Aag rfl (Aae (e:=y) rfl Aah)),o_w (by (simp [room,appendMax];omega)),oI,o_a ih1,trivial⟩ ?_
    exact ge
theorem AcN (c:Config) (w:World) (f:Int) (ins:List Input) (h:WFine c w f) (hf:0≤f∧f<10000) (hl:(ins.length:Int)=c.players) (hi: ∀i∈ins,i.right=true):
  Is cx (.loop 35 [0,1,0,1,1,1,1,1] 0 [.t (.sl 3 (ins.map zr)),.ptr 0 0 0,.ptr 1 0 0,.ptr 2 0 0,vi 0,vi w.regions.length,.ptr 3 0 0,vi (0)] [.one 5 (.t c.enc) false,.one 2 (.t w.enc) false,.one 2 (.agg [.fit 2 [],.fit 1 []]) false,.one 2 (.agg [.fit 2 [],.fit 1 []]) false])
   ⟨.exit 0,[.t (.sl 3 (ins.map zr)),.ptr 0 0 0,.ptr 1 0 0,.ptr 2 0 0,vi 0,vi w.regions.length,.ptr 3 0 0,vi (w.regions.length)],[.one 5 (.t c.enc) false,.one 2 (.t w.enc) false,.one 2 (.agg [.fit 2 [],.fit 1 []]) false,.one 2 (.agg [.all 4 none,.all 5 none]) false,.arr 2 (((List.range w.regions.length).map (nextR c w ins)).map zt) none false,.arr 1 (((List.range w.regions.length).map (nextO c w ins)).map encL) none false]⟩:=by
 have hreg:=h.regs
 have hgl:= @Config.regions_le c
 have hml:=Config.mul_le h.right
 have hgr:c.regions=c.cols*c.rows:=by simp [z0,h.right]
 have hlt:0<w.regions.length:=by omega
 have ih1:=Adz c w f ins h hf hl hi (w.regions.length-1) 1 (by omega)
 obtain ⟨hI,hS⟩:=Abq c w f ins h hf hl hi hlt
 change Is cx (.loop _ _ _ _ [_,_,_,_,.arr 2 [(nextR c w ins 0).enc] _ _,.arr 1 [encL (nextO c w ins 0)] _ _]) _ at ih1
 clear hi hgr
 generalize (List.range w.regions.length).map (nextR c w ins)=A2 at*
 generalize (List.range w.regions.length).map (nextO c w ins)=B2 at*
 generalize nextR c w ins 0=x at*
 generalize nextO c w ins 0=y at*
 generalize inboxL c w.outs (0:Nat)=box at*
 obtain ⟨R,O⟩:=w
 simp only at hreg hlt hI hS ih1⊢
 clear h
 refine qq ?_
 refine gg [.b (decide (0<(↑(zq R):Int))) true,.w (0≤(0:Int)),.l 0,.g (zz zt R) 0 (zt (gt R 0))] ⟨tP,oW,o_gt rfl (by assumption) (by intro h;cases h),trivial⟩ ?_
 refine bO ?_ ?_
 ·refine gg [.a _ _] ⟨o_a hI,trivial⟩ ?_
  refine bO ?_ ?_
  all_goals
   refine gg [.a _ _,.b (0 !=0) false] ⟨o_a hS,bK,trivial⟩ ?_
   refine bO (bO ?_ (bO (bO ?_ ?_) (bO ?_ ?_))) (bO (bO (bO ?_ ?_) ?_) (bO (bO ?_ ?_) ?_))
   all_goals
    refine gg [.w ((0:Nat)<(32:Nat)),.t (qk 0 [zt x]) (qk 0 (zz zt [x])),.t (qk 0 [zt x]) (qk 0 (zz zt [x])),.w (room (zq (zz zt [x])) (32:Nat)),.w ((0:Nat)<(24:Nat)),.s (qk 0 [qk 15 (zz zn y)]),.s (qk 0 [qk 15 (zz zn y)]),.w (room (zq [qk (15:Nat) (zz zn y)]) (24:Nat)),.i zd 1 1,.a _ _] ⟨oW,o_l (Aae rfl Aah),o_l (Aae rfl Aah),o_w (by (simp [room,appendMax])),oW,o_w (by (simp [room,appendMax])),oK,o_a ih1,trivial⟩ ?_
    exact ge
 ·refine gg [.a _ _,.a _ _,.b (0 !=0) false] ⟨o_a hI,o_a hS,bK,trivial⟩ ?_
  refine bO (bO ?_ (bO (bO ?_ ?_) (bO ?_ ?_))) (bO (bO (bO ?_ ?_) ?_) (bO (bO ?_ ?_) ?_))
  all_goals
   refine gg [.w ((0:Nat)<(32:Nat)),.t (qk 0 [zt x]) (qk 0 (zz zt [x])),.t (qk 0 [zt x]) (qk 0 (zz zt [x])),.w (room (zq (zz zt [x])) (32:Nat)),.w ((0:Nat)<(24:Nat)),.s (qk 0 [qk 15 (zz zn y)]),.s (qk 0 [qk 15 (zz zn y)]),.w (room (zq [qk (15:Nat) (zz zn y)]) (24:Nat)),.i zd 1 1,.a _ _] ⟨oW,o_l (Aae rfl Aah),o_l (Aae rfl Aah),o_w (by (simp [room,appendMax])),oW,o_w (by (simp [room,appendMax])),oK,o_a ih1,trivial⟩ ?_
   exact ge
theorem AdA (c:Config) (w:World) (f:Int) (ins:List Input) (h:WFine c w f) (hf:0≤f∧f<10000) (hl:(ins.length:Int)=c.players) (hi: ∀i∈ins,i.right=true):
  Is cx (.call 35 [.t c.enc,.t w.enc,.t (.sl 3 (ins.map zr))] []) ⟨.ret,[.t (nextW c w ins).enc,vi 0],[]⟩:=by
 have hr:=h.right
 have hreg:=h.regs
 have hout:=h.outs
 have hgl:= @Config.regions_le c
 have hR:=Aao c
 rw [hr] at hR
 have hG:=Aan c
 rw [←hreg] at hG
 have hE:=AcN c w f ins h hf hl hi
 have e3:(nextW c w ins).enc= .agg [.sl 2 (((List.range w.regions.length).map (nextR c w ins)).map zt),.sl 1 (((List.range w.regions.length).map (nextO c w ins)).map encL)]:=rfl
 rw [e3]
 clear hi e3
 generalize (List.range w.regions.length).map (nextR c w ins)=A at*
 generalize (List.range w.regions.length).map (nextO c w ins)=B at*
 obtain ⟨R,O⟩:=w
 simp only at hreg hout hG hE⊢
 clear h
 refine qq ?_
 refine gg [.a _ _,.b (!true) false,.a _ _,.n (zq (zz zt R)) (zq R),.b ((↑(zq R):Int) !=(↑(zq R):Int)) false,.ff,.ff,.n (zq (zz encL O)) (zq O),.ff,.ff,.ff,.b ((↑(zq O):Int) !=(↑(zq R):Int)) false,.a _ _] ⟨o_a hR,bK,o_a hG,o_n (by simp),f_brn rfl,o_n (by simp),fN,o_a hE,trivial⟩ ?_
 exact ge
end Go.Eva.S4
namespace Go.Eva
theorem AiB {n:Nat} {l:List InputL} {most:Nat}: ∀i∈playFrames n l most,i.length=n∧ ∀x∈i,x.right=true:=fun i hi=>by
 obtain ⟨x,_,rfl⟩:=List.mem_map.1 hi
 exact ⟨Ajw,Aif⟩
theorem Ahu {n:Nat} {l:List InputL} {most:Nat}:(playFrames n l most).length≤most:=by simp [playFrames];omega
end Go.Eva
namespace Go.Eva.S4
theorem AdF (c:Config) (rows:List InputL) (hi: ∀i∈rows,(i.length:Int)=c.players∧ ∀x∈i,x.right=true) (hn:rows.length≤100): ∀(d i:Nat) (w:World) (f:Int),i+d=rows.length→WFine c w f→0≤f→f+d≤10000→
  Is cx (.loop 44 [0,1,0,1,1] 0 [.t (.sl 1 (rows.map encI)),.ptr 0 0 0,.ptr 1 0 0,.ptr 2 0 0,vi 0,vi i] [.one 5 (.t c.enc) false,.one 2 (.agg [.fit 2 [],.fit 1 []]) false,.one 2 (.t w.enc) false])
   ⟨.exit 0,[.t (.sl 1 (rows.map encI)),.ptr 0 0 0,.ptr 1 0 0,.ptr 2 0 0,vi 0,vi rows.length],[.one 5 (.t c.enc) false,.one 2 (.agg [.fit 2 [],.fit 1 []]) false,.one 2 (.t (runW c w (rows.drop i)).enc) false]⟩:=by
 intro d
 induction d with
 |zero=>
  intro i w f hid hw h0 hf
  rw [Aac (by omega)]
  refine qq ?_
  refine gg [.n (zq (zz encI rows)) (zq rows),.b (decide ((i:Int)<(↑(zq rows):Int))) false,.ff,.ff,.ff] ⟨o_n (by simp),fP,trivial⟩ ?_
  refine rT (a:=qz (qx 0) [V.t (qk 1 (zz encI rows)),V.ptr 0 0 0,V.ptr 1 0 0,V.ptr 2 0 0,vi 0,vi (i:Int)] [qg 5 (V.t (Config.enc c)) false,qg 2 (V.agg [V.fit 2 [],V.fit 1 []]) false,qg 2 (V.t (World.enc w)) false]) ?_
  ((have:i=rows.length:=by omega);subst this;rfl)
 |succ d ih=>
  intro i w f hid hw h0 hf
  have hlt:i<rows.length:=by omega
  have h1:=hi _ (Aav hlt)
  have hS:=AdA c w f (gt rows i) hw (by omega) h1.1 h1.2
  have ih1:=ih (i+1) (nextW c w (gt rows i)) (f+1) (by omega) (Ag8 hw (by omega) h1.1 h1.2) (by omega) (by omega)
  rw [show runW c w (rows.drop i)=runW c (nextW c w (gt rows i)) (rows.drop (i+1)) by rw [Aaf hlt];rfl]
  clear ih hi h1 hw
  generalize runW c (nextW c w (gt rows i)) (rows.drop (i+1))=W at*
  generalize nextW c w (gt rows i)=x at*
  refine qq ?_
  refine gg [.n (zq (zz encI rows)) (zq rows),.b (decide ((i:Int)<(↑(zq rows):Int))) true,.tt,.tt,.b (0==0) true,.w (0≤(i:Int)),.n (zy (i:Int)) i,.g (zz encI rows) i (encI (gt rows i)),.a _ _,.i zd ((i:Int)+1) ((↑(i+1):Int)),.a _ _] ⟨o_n (by simp),tP,bK,oW,nK,o_gt rfl (by assumption) (by intro h;cases h),o_a hS,oI,o_a ih1,trivial⟩ ?_
  exact ge
theorem Agt (c:Config) (rows:List InputL) (hr:c.right=true) (hi: ∀i∈rows,(i.length:Int)=c.players∧ ∀x∈i,x.right=true) (hn:rows.length≤100):
  Is cx (.call 44 [.t c.enc,.t (.sl 1 (rows.map encI))] []) ⟨.ret,[.t (worldAt c rows).enc,vi 0],[]⟩:=by
 have hB:=Adq c hr
 have hL:=AdF c rows hi hn rows.length 0 (beginW c.cols c.regions c.players.toNat) 0 (by omega) (Ac5 hr) (by omega) (by omega)
 rw [List.drop_zero] at hL
 unfold worldAt
 generalize runW c (beginW c.cols c.regions c.players.toNat) rows=W at*
 generalize beginW c.cols c.regions c.players.toNat=B at*
 clear hi
 refine qq ?_
 refine gg [.a _ _,.a _ _] ⟨o_a hB,o_a hL,trivial⟩ ?_
 exact ge
end Go.Eva.S4
namespace Go.Eva
def colI (rows:List InputL) (p:Nat):InputL:=rows.map fun r=>gt r p
def colsI (rows:List InputL) (n:Nat):List InputL:=(List.range n).map (colI rows)
def quietAt (rows:List InputL) (gone en:Int) (p f:Nat):Input:=if (p:Int)=gone∧en≤(f:Int) then Input.zero else gt (gt rows f) p
def quietI (rows:List InputL) (gone en:Int) (p:Nat):InputL:=(List.range rows.length).map (quietAt rows gone en p)
def quietsI (rows:List InputL) (gone en:Int) (n:Nat):List InputL:=(List.range n).map (quietI rows gone en)
theorem Ake {rows:List InputL} {p:Nat}:(colI rows p).length=rows.length:=by simp [colI]
theorem Al6 {rows:List InputL} {p f:Nat} (h:f<rows.length):gt (colI rows p) f=gt (gt rows f) p:=by simp [colI,gt,h]
theorem AkF {rows:List InputL} {n p:Nat} (h:p<n):gt (colsI rows n) p=colI rows p:=by simp [colsI,gt,h]
theorem AkX {rows:List InputL} {gone en:Int} {n p:Nat} (h:p<n):gt (quietsI rows gone en n) p=quietI rows gone en p:=by simp [quietsI,gt,h]
theorem AlP {rows:List InputL} {gone en:Int} {p f:Nat} (h:f<rows.length):gt (quietI rows gone en p) f=quietAt rows gone en p f:=by simp [quietI,gt,h]
theorem Anv {a:List InputL} {n k:Nat} {g:Nat→Nat→Input} (hk:k≤a.length) (hn: ∀r∈a,r.length=n) (h: ∀f p,f<k→p<n→g f p=gt (gt a f) p):((List.range k).map fun f=>(List.range n).map (g f))=a.take k:=by
 apply List.ext_getElem?
 intro f
 by_cases hf:f<k
 ·rw [List.getElem?_map,List.getElem?_range hf,Option.map_some,List.getElem?_take,if_pos hf]
  have hfa:f<a.length:=by omega
  rw [List.getElem?_eq_getElem hfa]
  congr 1
  have hl:=hn _ (List.getElem_mem hfa)
  apply List.ext_getElem?
  intro p
  by_cases hp:p<n
  ·rw [List.getElem?_map,List.getElem?_range hp,Option.map_some,h f p hf hp,gt_eq hfa,List.getElem?_eq_getElem (by omega),gt_eq (by omega)]
  ·rw [List.getElem?_eq_none (by simp;omega),List.getElem?_eq_none (by omega)]
 ·rw [List.getElem?_eq_none (by simp;omega),List.getElem?_eq_none (by simp;omega)]
theorem AhV {rows:List InputL} {n k:Nat} (hk:k≤rows.length) (hn: ∀r∈rows,r.length=n):ghostRows (colsI rows n) (-1) 0 n k=rows.take k:=by
 refine Anv hk hn fun f p hf hp=> ?_
 unfold ghostAt
 rw [AkF hp,Ake,if_pos ⟨by omega,.inl (by omega)⟩,Al6 (by omega)]
theorem Aj5 {rows:List InputL} {gone en:Int} {n:Nat}:ghostRows (colsI rows n) gone en n rows.length=ghostRows (quietsI rows gone en n) (-1) 0 n rows.length:=by
 unfold ghostRows ghostRow
 refine List.map_congr_left fun f hf=>List.map_congr_left fun p hp=> ?_
 have hf:f<rows.length:=List.mem_range.1 hf
 have hp:p<n:=List.mem_range.1 hp
 unfold ghostAt
 rw [AkF hp,AkX hp,Ake,show (quietI rows gone en p).length=rows.length by simp [quietI],Al6 hf,AlP hf]
 unfold quietAt
 by_cases h:(p:Int)=gone∧en≤(f:Int)
 ·rw [if_pos h,if_neg (fun q=>q.2.elim (fun q=>q h.1) (fun q=>by omega)),if_pos ⟨by omega,.inl (by omega)⟩]
 ·rw [if_neg h,if_pos ⟨by omega,by omega⟩,if_pos ⟨by omega,.inl (by omega)⟩]
theorem AfI {rows:List InputL} {n:Nat} (hn: ∀r∈rows,r.length=n∧ ∀i∈r,i.right=true): ∀x∈colsI rows n,∀i∈x,i.right=true:=by
 intro x hx i hi
 obtain ⟨p,hp,rfl⟩:=List.mem_map.1 hx
 obtain ⟨r,hr,rfl⟩:=List.mem_map.1 hi
 have hp:=List.mem_range.1 hp
 obtain ⟨h1,h2⟩:=hn r hr
 exact h2 _ (Aav (by omega))
theorem AfZ {rows:List InputL} {gone en:Int} {n:Nat} (hn: ∀r∈rows,r.length=n∧ ∀i∈r,i.right=true): ∀x∈quietsI rows gone en n,∀i∈x,i.right=true:=by
 intro x hx i hi
 obtain ⟨p,hp,rfl⟩:=List.mem_map.1 hx
 obtain ⟨f,hf,rfl⟩:=List.mem_map.1 hi
 have hp:=List.mem_range.1 hp
 have hf:=List.mem_range.1 hf
 unfold quietAt
 split
 ·decide
 ·obtain ⟨h1,h2⟩:=hn _ (Aav hf)
  exact h2 _ (Aav (by omega))
end Go.Eva
namespace Go.Eva.S4
end Go.Eva.S4
namespace Go.Eva.S4
theorem Ajl {c:Config} {w:World} {f:Int} (h:WFine c w f):Fn cx 36 [w.enc,w.enc] (.bool true):=by
 have hgl:= @Config.regions_le c
 have h1:=h.regs
 have h2:=h.outs
 refine AfV w (by unfold small;omega) (by unfold small;omega) (fun s hs=> ?_) (fun l hl=> ?_)
 ·obtain ⟨k,hk,rfl⟩:=List.mem_iff_getElem.1 hs
  have:=(h.sane k hk).2.2
  rw [gt_eq hk] at this
  unfold small;omega
 ·have:=Amz h l hl
  unfold small;omega
end Go.Eva.S4