/- A reading of the program, proved sound against the model, and what its functions answer by it: part 2. -/
import Derived.Test.YtdlmgaiiheeigaaGreatEva1
set_option linter.unusedSimpArgs false
set_option linter.unusedVariables false
open List renaming length → zq, map → zz, replicate → zj, set → zx, take → zw, drop → zk
open Int renaming toNat → zy, tmod → zg, fdiv → zh
open Go.IntKind renaming i64 → zd, u64 → zf, wrap → zp
open BitVec renaming ofInt → zb
open Go.Eva.Entity renaming enc → zm, mk → qw
open Go.Eva.Cross renaming enc → zn
open Go.Eva.Input renaming enc → zr
open Go.Eva.Region renaming enc → zt
open Go.Eva.Config renaming regions → z0
open Go.Eva.Wp renaming ev → qq
open Go.Eva.Res renaming mk → qz
open Go.Eva.Ex renaming ret → qj, exit → qx
open Go.Eva.Ob renaming arr → qv, one → qg
open Go.Eva.T renaming sl → qk
open Go.Eva.V renaming all → qy
namespace Go.Eva.S4
theorem Aic (e:Entity) (id:Int):Fn cx 165 [e.enc,.ip 1 (ti id) 0] (.bool (e.id==id)):=by
 refine qq ?_
 exact ge
theorem Ai2 (e x:Entity):Fn cx 148 [x.enc,.ip 9 e.enc 0] (.bool (decide (x.id≥e.id))):=by
 refine qq ?_
 exact ge
theorem Aa2 (l:List Entity) (id:Int) (hl:small l):Fn cx 113 [.sl 9 (l.map zm),ti id] (ti (find l id)):=by
 have h:=Aav l 165 [.ip 1 (ti id) 0] (fun e=>e.id==id) (by kernel_rfl) hl (fun e _=>Aic e id)
 refine qq ?_
 refine gg [.a _ _,.b (flats [ti (pos (fun (e:Entity)↦e.id==id) l)]) true] ⟨o_a h,bK,trivial⟩ ?_
 exact ge
theorem Ag4 (m:List Entity) (hm:m.length≤400000): ∀(d i:Nat) (A:List Entity),i+d=m.length→A.length≤400000+i→
  Is cx (.loop 82 [0,1,0,1,1] 0 [.all 0 none,.t (.sl 9 (m.map zm)),vi m.length,vi i] [.arr 9 (A.map zm) none false])
   ⟨.exit 0,[.all 0 none,.t (.sl 9 (m.map zm)),vi m.length,vi m.length],[.arr 9 ((puts A (m.drop i)).map zm) none false]⟩:=by
 intro d
 induction d with
 |zero=>
  intro i A hi hA
  rw [Aac (by omega)]
  refine qq ?_
  refine gg [.b (decide ((i:Int)<(↑(zq m):Int))) false] ⟨fP,trivial⟩ ?_
  refine rT (a:=qz (qx 0) [qy 0 none,V.t (qk 9 (zz zm m)),vi (↑(zq m):Int),vi (i:Int)] [qv 9 (zz zm A) none false]) ?_
  ((have hq:i=m.length:=by omega);subst hq;rfl)
 |succ d ih=>
  intro i A hi hA
  have hlt:i<m.length:=by omega
  rw [Aae hlt]
  show Is cx _ ⟨_,_,[.arr 9 ((puts (put1 A (gt m i)) (m.drop (i+1))).map zm) none false]⟩
  have hl:= @Abl A (gt m i)
  have ih1:=ih (i+1) (put1 A (gt m i)) (by omega) (by omega)
  clear ih
  have hs:small A:=by unfold small;omega
  have hF:=Aa2 A (gt m i).id hs
  have hG:=Aav A 148 [.ip 9 (gt m i).enc 0] (fun x=>decide (x.id≥(gt m i).id)) (by kernel_rfl) hs (fun x _=>Ai2 (gt m i) x)
  clear hl
  unfold find at hF
  unfold put1 at*
  cases hq:A.findIdx? fun x=>x.id==(gt m i).id with
  |some k=>
   rw [hq] at ih1
   rw [AbK hq] at hF
   simp only at ih1⊢
   refine qq ?_
   refine gg [.b (decide ((i:Int)<(↑(zq m):Int))) true,.w (0≤(i:Int)),.n (zy (i:Int)) i,.g (zz zm m) i (zm (gt m i)),.a _ _,.b (flats [ti (k:Int)]) true,.b (decide ((k:Int)≥0)) true,.i zd ((i:Int)+1) ((↑(i+1):Int)),.a _ _] ⟨tP,oW,nK,o_gt rfl (by assumption) (by intro h;cases h),o_a hF,bK,bK,oI,o_a ih1,trivial⟩ ?_
   exact ge
  |none=>
   rw [hq] at ih1
   rw [Ac2 hq] at hF
   simp only at ih1⊢
   unfold ins at*
   cases hp:A.findIdx? fun x=>decide (x.id≥(gt m i).id) with
   |some k=>
    rw [hp] at ih1
    rw [AbK hp] at hG
    simp only at ih1⊢
    have hk:=(List.findIdx?_eq_some_iff_getElem.1 hp).1
    refine qq ?_
    refine gg [.b (decide ((i:Int)<(↑(zq m):Int))) true,.w (0≤(i:Int)),.n (zy (i:Int)) i,.g (zz zm m) i (zm (gt m i)),.a _ _,.b (flats [ti (-1)]) true,.b (decide (-1≥0)) false,.a _ _,.b (flats [ti (k:Int)]) true,.b (decide ((k:Int)<0)) false,.a _ _,.i zd ((i:Int)+1) ((↑(i+1):Int)),.a _ _] ⟨tP,oW,nK,o_gt rfl (by assumption) (by intro h;cases h),o_a hF,bK,bK,o_a hG,bK,bK,o_a (Abp A (gt m i) k (by assumption) (by omega)),oI,o_a ih1,trivial⟩ ?_
    exact ge
   |none=>
    rw [hp] at ih1
    rw [Ac2 hp] at hG
    simp only at ih1⊢
    have hI:=Abp A (gt m i) A.length hs (Nat.le_refl _)
    rw [List.take_length,List.drop_length] at hI
    refine qq ?_
    refine gg [.b (decide ((i:Int)<(↑(zq m):Int))) true,.w (0≤(i:Int)),.n (zy (i:Int)) i,.g (zz zm m) i (zm (gt m i)),.a _ _,.b (flats [ti (-1)]) true,.b (decide (-1≥0)) false,.a _ _,.b (flats [ti (-1)]) true,.b (decide (-1<0)) true,.n (zq (zz zm A)) (zq A),.a _ _,.i zd ((i:Int)+1) ((↑(i+1):Int)),.a _ _] ⟨tP,oW,nK,o_gt rfl (by assumption) (by intro h;cases h),o_a hF,bK,bK,o_a hG,bK,bK,o_n (by simp),o_a hI,oI,o_a ih1,trivial⟩ ?_
    exact ge
theorem Aba (l m:List Entity) (hl:l.length≤400000) (hm:m.length≤400000):Is cx (.call 82 [.t (.sl 9 (l.map zm)),.t (.sl 9 (m.map zm))] []) ⟨.ret,[.all 0 none],[.arr 9 ((puts l m).map zm) none false]⟩:=by
 have hs:small l:=by unfold small;omega
 have h:=Ag4 m hm m.length 0 l (by omega) (by omega)
 rw [List.drop_zero] at h
 refine qq ?_
 refine gg [.a _ _,.n (zq (zz zm m)) (zq m),.a _ _] ⟨o_a (Aa7 l (by assumption)),o_n (by simp),o_a h,trivial⟩ ?_
 exact ge
theorem AeT (l:List Entity) (hn:small l): ∀(d i:Nat),i+d=l.length→1≤i→
  ∃k:Nat,Is cx (.loop 93 [0,1,0,1] 0 [.t (.sl 9 (l.map zm)),vb false,vi l.length,vi i] []) (match sortedL (l.drop (i-1)) with
    |true=>⟨.exit 0,[.t (.sl 9 (l.map zm)),vb false,vi l.length,vi l.length],[]⟩
    |false=>⟨.ret,[.t (.sl 9 (l.map zm)),vb false,vi l.length,vi k],[]⟩):=by
 unfold small at hn
 intro d
 induction d with
 |zero=>
  intro i hi h1
  refine ⟨0,?_⟩
  rw [AiI (by omega)]
  refine qq ?_
  refine gg [.b (decide ((i:Int)<(↑(zq l):Int))) false] ⟨fP,trivial⟩ ?_
  refine rT (a:=qz (qx 0) [V.t (qk 9 (zz zm l)),vb false,vi (↑(zq l):Int),vi (i:Int)] []) ?_
  ((have hq:i=l.length:=by omega);subst hq;rfl)
 |succ d ih=>
  intro i hi h1
  have hlt:i<l.length:=by omega
  obtain ⟨k,ih1⟩:=ih (i+1) (by omega) (by omega)
  clear ih
  obtain ⟨j,rfl⟩: ∃j,i=j+1:=⟨i-1,by omega⟩
  simp only [Nat.add_sub_cancel] at*
  rw [Ako hlt]
  by_cases hp:(gt l j).id<(gt l (j+1)).id
  ·simp only [hp,decide_true,Bool.true_and]
   refine ⟨k,?_⟩
   cases hq:sortedL (l.drop (j+1)) with
   |true=>
    rw [hq] at ih1
    refine qq ?_
    refine gg [.b (decide ((↑(j+1):Int)<(↑(zq l):Int))) true,.b (decide ((↑(j+1):Int)>0)) true,.tt,.tt,.w (0≤(↑(j+(1:Nat)):Int)),.n (zy (↑(j+1):Int)) (j+1),.g (zz zm l) (j+1) (zm (gt l (j+1))),.tt,.tt,.tt,.tt,.i zd ((↑(j+1):Int)-1) ((↑(j+1):Int)-1),.tt,.w (0≤(↑(j+(1:Nat)):Int)-(1:Int)),.n (zy ((↑(j+1):Int)-1)) j,.g (zz zm l) j (zm (gt l j))] ⟨tP,tP,oW,nK,o_gt rfl (by assumption) (by intro h;cases h),oI,oW,oN,oT,trivial⟩ ?_
    refine gg [.tt,.tt,.tt,.tt,.tt,.b (decide ((gt l (j+1)).id≤(gt l j).id)) false,.i zd ((↑(j+1):Int)+1) ((↑(j+1+1):Int)),.a _ _] ⟨fP,oI,o_a ih1,trivial⟩ ?_
    exact ge
   |false=>
    rw [hq] at ih1
    refine qq ?_
    refine gg [.b (decide ((↑(j+1):Int)<(↑(zq l):Int))) true,.b (decide ((↑(j+1):Int)>0)) true,.tt,.tt,.w (0≤(↑(j+(1:Nat)):Int)),.n (zy (↑(j+1):Int)) (j+1),.g (zz zm l) (j+1) (zm (gt l (j+1))),.tt,.tt,.tt,.tt,.i zd ((↑(j+1):Int)-1) ((↑(j+1):Int)-1),.tt,.w (0≤(↑(j+(1:Nat)):Int)-(1:Int)),.n (zy ((↑(j+1):Int)-1)) j,.g (zz zm l) j (zm (gt l j))] ⟨tP,tP,oW,nK,o_gt rfl (by assumption) (by intro h;cases h),oI,oW,oN,oT,trivial⟩ ?_
    refine gg [.tt,.tt,.tt,.tt,.tt,.b (decide ((gt l (j+1)).id≤(gt l j).id)) false,.i zd ((↑(j+1):Int)+1) ((↑(j+1+1):Int)),.a _ _] ⟨fP,oI,o_a ih1,trivial⟩ ?_
    exact ge
  ·simp only [hp,decide_false,Bool.false_and]
   refine ⟨j+1,?_⟩
   refine qq ?_
   refine gg [.b (decide ((↑(j+1):Int)<(↑(zq l):Int))) true,.b (decide ((↑(j+1):Int)>0)) true,.tt,.tt,.w (0≤(↑(j+(1:Nat)):Int)),.n (zy (↑(j+1):Int)) (j+1),.g (zz zm l) (j+1) (zm (gt l (j+1))),.tt,.tt,.tt,.tt,.i zd ((↑(j+1):Int)-1) ((↑(j+1):Int)-1),.tt,.w (0≤(↑(j+(1:Nat)):Int)-(1:Int)),.n (zy ((↑(j+1):Int)-1)) j,.g (zz zm l) j (zm (gt l j))] ⟨tP,tP,oW,nK,o_gt rfl (by assumption) (by intro h;cases h),oI,oW,oN,oT,trivial⟩ ?_
   refine gg [.tt,.tt,.tt,.tt,.tt,.b (decide ((gt l (j+1)).id≤(gt l j).id)) true] ⟨tP,trivial⟩ ?_
   exact ge
theorem Aih (l:List Entity) (hn:small l):Fn cx 93 [.sl 9 (l.map zm)] (.bool (sortedL l)):=by
 have hn':l.length≤1000000:=hn
 have hz:l.length=0→Is cx (.loop 93 [0,1,0,1] 0 [.t (.sl 9 (l.map zm)),vb false,vi l.length,vi 0] []) ⟨.exit 0,[.t (.sl 9 (l.map zm)),vb false,vi l.length,vi l.length],[]⟩:=by
  intro h0
  rw [h0]
  refine qq ?_
  refine gg [.b (decide (0<0)) false] ⟨bK,trivial⟩ ?_
  exact ge
 by_cases h0:l.length=0
 ·have h:=hz h0
  have:l= []:=List.length_eq_zero_iff.1 h0
  subst this
  refine qq ?_
  refine gg [.l 0,.a _ _] ⟨o_a (hz (by kernel_rfl)),trivial⟩ ?_
  exact ge
 ·clear hz
  obtain ⟨k,h⟩:=AeT l hn (l.length-1) 1 (by omega) (by omega)
  simp only [Nat.sub_self,List.drop_zero] at h
  have hz:Is cx (.loop 93 [0,1,0,1] 0 [.t (.sl 9 (l.map zm)),vb false,vi l.length,vi 0] []) (match sortedL l with
    |true=>⟨.exit 0,[.t (.sl 9 (l.map zm)),vb false,vi l.length,vi l.length],[]⟩
    |false=>⟨.ret,[.t (.sl 9 (l.map zm)),vb false,vi l.length,vi k],[]⟩):=by
   cases hq:sortedL l with
   |true=>
    rw [hq] at h
    refine qq ?_
    refine gg [.b (decide (0<(↑(zq l):Int))) true,.b (decide (0>0)) false,.ff,.ff,.ff,.ff,.ff,.ff,.ff,.ff,.ff,.ff,.ff,.ff,.ff,.i zd 1 1] ⟨tP,bK,oK,trivial⟩ ?_
    refine gg [.a _ _] ⟨o_a h,trivial⟩ ?_
    exact ge
   |false=>
    rw [hq] at h
    refine qq ?_
    refine gg [.b (decide (0<(↑(zq l):Int))) true,.b (decide (0>0)) false,.ff,.ff,.ff,.ff,.ff,.ff,.ff,.ff,.ff,.ff,.ff,.ff,.ff,.i zd 1 1] ⟨tP,bK,oK,trivial⟩ ?_
    refine gg [.a _ _] ⟨o_a h,trivial⟩ ?_
    exact ge
  clear h
  cases hq:sortedL l with
  |true=>
   rw [hq] at hz
   refine qq ?_
   refine gg [.n (zq (zz zm l)) (zq l),.a _ _] ⟨o_n (by simp),o_a hz,trivial⟩ ?_
   exact ge
  |false=>
   rw [hq] at hz
   refine qq ?_
   refine gg [.n (zq (zz zm l)) (zq l),.a _ _] ⟨o_n (by simp),o_a hz,trivial⟩ ?_
   exact ge
theorem Adc (l:List Entity) (hn:small l): ∀(d i:Nat),i+d=l.length→1≤i→
  ∃k:Nat,Is cx (.loop 72 [0,1,0,1] 0 [.t (.sl 9 (l.map zm)),vb false,vi i] []) (match sortedL (l.drop (i-1)) with
    |true=>⟨.exit 0,[.t (.sl 9 (l.map zm)),vb false,vi l.length],[]⟩
    |false=>⟨.ret,[.t (.sl 9 (l.map zm)),vb false,vi k],[]⟩):=by
 unfold small at hn
 intro d
 induction d with
 |zero=>
  intro i hi h1
  refine ⟨0,?_⟩
  rw [AiI (by omega)]
  refine qq ?_
  refine gg [.n (zq (zz zm l)) (zq l),.b (decide ((i:Int)<(↑(zq l):Int))) false] ⟨o_n (by simp),fP,trivial⟩ ?_
  refine rT (a:=qz (qx 0) [V.t (qk 9 (zz zm l)),vb false,vi (i:Int)] []) ?_
  ((have hq:i=l.length:=by omega);subst hq;rfl)
 |succ d ih=>
  intro i hi h1
  have hlt:i<l.length:=by omega
  obtain ⟨k,ih1⟩:=ih (i+1) (by omega) (by omega)
  clear ih
  obtain ⟨j,rfl⟩: ∃j,i=j+1:=⟨i-1,by omega⟩
  simp only [Nat.add_sub_cancel] at*
  rw [Ako hlt]
  by_cases hp:(gt l j).id<(gt l (j+1)).id
  ·simp only [hp,decide_true,Bool.true_and]
   refine ⟨k,?_⟩
   cases hq:sortedL (l.drop (j+1)) with
   |true=>
    rw [hq] at ih1
    refine qq ?_
    refine gg [.n (zq (zz zm l)) (zq l),.b (decide ((↑(j+1):Int)<(↑(zq l):Int))) true,.w (0≤(↑(j+(1:Nat)):Int)),.n (zy (↑(j+1):Int)) (j+1),.g (zz zm l) (j+1) (zm (gt l (j+1))),.i zd ((↑(j+1):Int)-1) ((↑(j+1):Int)-1),.w (0≤(↑(j+(1:Nat)):Int)-(1:Int)),.n (zy ((↑(j+1):Int)-1)) j,.g (zz zm l) j (zm (gt l j)),.b (decide ((gt l (j+1)).id≤(gt l j).id)) false,.i zd ((↑(j+1):Int)+1) ((↑(j+1+1):Int)),.a _ _] ⟨o_n (by simp),tP,oW,nK,o_gt rfl (by assumption) (by intro h;cases h),oI,oW,oN,oT,fP,oI,o_a ih1,trivial⟩ ?_
    exact ge
   |false=>
    rw [hq] at ih1
    refine qq ?_
    refine gg [.n (zq (zz zm l)) (zq l),.b (decide ((↑(j+1):Int)<(↑(zq l):Int))) true,.w (0≤(↑(j+(1:Nat)):Int)),.n (zy (↑(j+1):Int)) (j+1),.g (zz zm l) (j+1) (zm (gt l (j+1))),.i zd ((↑(j+1):Int)-1) ((↑(j+1):Int)-1),.w (0≤(↑(j+(1:Nat)):Int)-(1:Int)),.n (zy ((↑(j+1):Int)-1)) j,.g (zz zm l) j (zm (gt l j)),.b (decide ((gt l (j+1)).id≤(gt l j).id)) false,.i zd ((↑(j+1):Int)+1) ((↑(j+1+1):Int)),.a _ _] ⟨o_n (by simp),tP,oW,nK,o_gt rfl (by assumption) (by intro h;cases h),oI,oW,oN,oT,fP,oI,o_a ih1,trivial⟩ ?_
    exact ge
  ·simp only [hp,decide_false,Bool.false_and]
   refine ⟨j+1,?_⟩
   refine qq ?_
   refine gg [.n (zq (zz zm l)) (zq l),.b (decide ((↑(j+1):Int)<(↑(zq l):Int))) true,.w (0≤(↑(j+(1:Nat)):Int)),.n (zy (↑(j+1):Int)) (j+1),.g (zz zm l) (j+1) (zm (gt l (j+1))),.i zd ((↑(j+1):Int)-1) ((↑(j+1):Int)-1),.w (0≤(↑(j+(1:Nat)):Int)-(1:Int)),.n (zy ((↑(j+1):Int)-1)) j,.g (zz zm l) j (zm (gt l j)),.b (decide ((gt l (j+1)).id≤(gt l j).id)) true] ⟨o_n (by simp),tP,oW,nK,o_gt rfl (by assumption) (by intro h;cases h),oI,oW,oN,oT,tP,trivial⟩ ?_
   exact ge
theorem Afw (l:List Entity) (hn:small l):Fn cx 72 [.sl 9 (l.map zm)] (.bool (sortedL l)):=by
 have hn':l.length≤1000000:=hn
 by_cases h0:l.length=0
 ·have:l= []:=List.length_eq_zero_iff.1 h0
  subst this
  have h:Is cx (.loop 72 [0,1,0,1] 0 [.t (.sl 9 []),vb false,vi 1] []) ⟨.exit 0,[.t (.sl 9 []),vb false,vi 1],[]⟩:=by
   refine qq ?_
   refine gg [.l 0,.b (decide (1<0)) false] ⟨bK,trivial⟩ ?_
   exact ge
  refine qq ?_
  refine gg [.a _ _] ⟨o_a h,trivial⟩ ?_
  exact ge
 ·obtain ⟨k,h⟩:=Adc l hn (l.length-1) 1 (by omega) (by omega)
  simp only [Nat.sub_self,List.drop_zero] at h
  cases hq:sortedL l with
  |true=>
   rw [hq] at h
   refine qq ?_
   refine gg [.a _ _] ⟨o_a h,trivial⟩ ?_
   exact ge
  |false=>
   rw [hq] at h
   refine qq ?_
   refine gg [.a _ _] ⟨o_a h,trivial⟩ ?_
   exact ge
theorem Ad0 (l:List Int) (x:Int) (hn:small l): ∀(d i:Nat),i+d=l.length→
  Is cx (.loop 183 [0,1,0,1] 0 [.t (.sl 1 (l.map ti)),vi x,vi 0,vi l.length,vi i] [])
   (match (l.drop i).findIdx? fun y=>x==y with
    |some j=>⟨.ret,[.t (.sl 1 (l.map ti)),vi x,vi (i+j:Nat),vi l.length,vi (i+j:Nat)],[]⟩
    |none=>⟨.exit 0,[.t (.sl 1 (l.map ti)),vi x,vi 0,vi l.length,vi l.length],[]⟩):=by
 unfold small at hn
 intro d
 induction d with
 |zero=>
  intro i hi
  refine qq ?_
  refine gg [.b (decide ((i:Int)<(↑(zq l):Int))) false] ⟨fP,trivial⟩ ?_
  refine rT (a:=qz (qx 0) [V.t (qk 1 (zz ti l)),vi x,vi 0,vi (↑(zq l):Int),vi (i:Int)] []) ?_
  ((have:i=l.length:=by omega);subst this;rw [Aac (Nat.le_refl _)];rfl)
 |succ d ih=>
  intro i hi
  have hlt:i<l.length:=by omega
  have ih1:=ih (i+1) (by omega)
  clear ih
  rw [Aae hlt,List.findIdx?_cons]
  by_cases hp:x=gt l i
  ·simp only [show (x==gt l i)=true by simpa using hp,if_true]
   refine qq ?_
   refine gg [.b (decide ((i:Int)<(↑(zq l):Int))) true,.w (0≤(i:Int)),.n (zy (i:Int)) i,.g (zz ti l) i (ti (gt l i)),.b (x==gt l i) true] ⟨tP,oW,nK,o_gt rfl (by assumption) (by intro h;cases h),t_bre (by assumption),trivial⟩ ?_
   exact ge
  ·simp only [show (x==gt l i)=false by simpa using hp,Bool.false_eq_true,if_false]
   cases hq:(l.drop (i+1)).findIdx? fun y=>x==y with
   |none=>
    rw [hq] at ih1
    refine qq ?_
    refine gg [.b (decide ((i:Int)<(↑(zq l):Int))) true,.w (0≤(i:Int)),.n (zy (i:Int)) i,.g (zz ti l) i (ti (gt l i)),.b (x==gt l i) false,.i zd ((i:Int)+1) ((↑(i+1):Int)),.a _ _] ⟨tP,oW,nK,o_gt rfl (by assumption) (by intro h;cases h),f_bre (by assumption),oI,o_a ih1,trivial⟩ ?_
    exact ge
   |some j=>
    rw [hq] at ih1
    refine qq ?_
    refine gg [.b (decide ((i:Int)<(↑(zq l):Int))) true,.w (0≤(i:Int)),.n (zy (i:Int)) i,.g (zz ti l) i (ti (gt l i)),.b (x==gt l i) false,.i zd ((i:Int)+1) ((↑(i+1):Int)),.a _ _] ⟨tP,oW,nK,o_gt rfl (by assumption) (by intro h;cases h),f_bre (by assumption),oI,o_a ih1,trivial⟩ ?_
    refine rT (a:=qz qj [V.t (qk 1 (zz ti l)),vi x,vi (↑(i+1+j):Int),vi (↑(zq l):Int),vi (↑(i+1+j):Int)] []) ?_
    simp [Nat.add_assoc,Nat.add_comm 1 j]
theorem AfU (l:List Int) (x:Int) (hn:small l):Fn cx 183 [.sl 1 (l.map ti),ti x] (ti (pos (fun y=>x==y) l)):=by
 have h:=Ad0 l x hn l.length 0 (by omega)
 rw [List.drop_zero] at h
 unfold pos
 cases hq:l.findIdx? fun y=>x==y with
 |none=>
  rw [hq] at h
  refine qq ?_
  refine gg [.n (zq (zz ti l)) (zq l),.a _ _] ⟨o_n (by simp),o_a h,trivial⟩ ?_
  exact ge
 |some j=>
  rw [hq] at h
  refine qq ?_
  refine gg [.n (zq (zz ti l)) (zq l),.a _ _] ⟨o_n (by simp),o_a h,trivial⟩ ?_
  refine rT (a:=qz qj [vi (↑(0+j):Int)] []) ?_
  simp
theorem Aej (l:List Int) (x:Int) (hn:small l):Fn cx 163 [.sl 1 (l.map ti),ti x] (.bool (has l x)):=by
 have h:=AfU l x hn
 rw [←AoW]
 generalize pos (fun y=>x==y) l=k at*
 refine qq ?_
 refine gg [.a _ _] ⟨o_a h,trivial⟩ ?_
 exact ge
theorem AeZ (l:List Entity) (hn:small l): ∀(d i n:Nat),i+d=l.length→n≤i→
  Is cx (.loop 94 [0,1,0,1,1] 0 [vi n,.t (.sl 9 (l.map zm)),vi l.length,vi i] []) ⟨.exit 0,[vi (n+(l.drop i).countP fun e=>e.kind !=1:Nat),.t (.sl 9 (l.map zm)),vi l.length,vi l.length],[]⟩:=by
 unfold small at hn
 intro d
 induction d with
 |zero=>
  intro i n hi hm
  rw [Aac (by omega)]
  refine qq ?_
  refine gg [.b (decide ((i:Int)<(↑(zq l):Int))) false] ⟨fP,trivial⟩ ?_
  refine rT (a:=qz (qx 0) [vi (n:Int),V.t (qk 9 (zz zm l)),vi (↑(zq l):Int),vi (i:Int)] []) ?_
  ((have hq:i=l.length:=by omega);subst hq;rfl)
 |succ d ih=>
  intro i n hi hm
  have hlt:i<l.length:=by omega
  have ih1:=ih (i+1) n (by omega) (by omega)
  have ih2:=ih (i+1) (n+1) (by omega) (by omega)
  clear ih
  rw [Ae2 _ hlt]
  refine qq ?_
  refine gg [.b (decide ((i:Int)<(↑(zq l):Int))) true,.w (0≤(i:Int)),.n (zy (i:Int)) i,.g (zz zm l) i (zm (gt l i))] ⟨tP,oW,nK,o_gt rfl (by assumption) (by intro h;cases h),trivial⟩ ?_
  refine brn (x:=(gt l i).kind) (y:=1) (by kernel_rfl) (fun h1=> ?_) (fun h1=> ?_)
  ·refine gg [.i zd ((n:Int)+1) ((↑(n+1):Int)),.i zd ((i:Int)+1) ((↑(i+1):Int)),.a _ _] ⟨oI,oI,o_a ih2,trivial⟩ ?_
   refine rT (a:=qz (qx 0) [vi (↑(n+1+List.countP (fun (e:Entity)↦e.kind !=1) (zk (i+1) l)):Int),V.t (qk 9 (zz zm l)),vi (↑(zq l):Int),vi (↑(zq l):Int)] []) ?_
   (simp_all;try omega)
  ·refine gg [.i zd ((i:Int)+1) ((↑(i+1):Int)),.a _ _] ⟨oI,o_a ih1,trivial⟩ ?_
   refine rT (a:=qz (qx 0) [vi (↑(n+List.countP (fun (e:Entity)↦e.kind !=1) (zk (i+1) l)):Int),V.t (qk 9 (zz zm l)),vi (↑(zq l):Int),vi (↑(zq l):Int)] []) ?_
   (simp_all;try omega)
theorem AbZ (l:List Entity) (hn:small l):Fn cx 94 [.sl 9 (l.map zm)] (ti (things l)):=by
 have h:=AeZ l hn l.length 0 0 (by omega) (by omega)
 rw [List.drop_zero,Nat.zero_add] at h
 refine qq ?_
 refine gg [.n (zq (zz zm l)) (zq l),.a _ _] ⟨o_n (by simp),o_a h,trivial⟩ ?_
 exact ge
theorem AcL (l:List Entity) (hn:small l): ∀(d i n:Nat),i+d=l.length→n≤i→
  Is cx (.loop 73 [0,1,0,1,1] 0 [.t (.sl 9 (l.map zm)),vi n,vi i] []) ⟨.exit 0,[.t (.sl 9 (l.map zm)),vi (n+(l.drop i).countP fun e=>e.kind !=1:Nat),vi l.length],[]⟩:=by
 unfold small at hn
 intro d
 induction d with
 |zero=>
  intro i n hi hm
  rw [Aac (by omega)]
  refine qq ?_
  refine gg [.n (zq (zz zm l)) (zq l),.b (decide ((i:Int)<(↑(zq l):Int))) false] ⟨o_n (by simp),fP,trivial⟩ ?_
  refine rT (a:=qz (qx 0) [V.t (qk 9 (zz zm l)),vi (n:Int),vi (i:Int)] []) ?_
  ((have hq:i=l.length:=by omega);subst hq;rfl)
 |succ d ih=>
  intro i n hi hm
  have hlt:i<l.length:=by omega
  have ih1:=ih (i+1) n (by omega) (by omega)
  have ih2:=ih (i+1) (n+1) (by omega) (by omega)
  clear ih
  rw [Ae2 _ hlt]
  refine qq ?_
  refine gg [.n (zq (zz zm l)) (zq l),.b (decide ((i:Int)<(↑(zq l):Int))) true,.w (0≤(i:Int)),.n (zy (i:Int)) i,.g (zz zm l) i (zm (gt l i))] ⟨o_n (by simp),tP,oW,nK,o_gt rfl (by assumption) (by intro h;cases h),trivial⟩ ?_
  refine brn (x:=(gt l i).kind) (y:=1) (by kernel_rfl) (fun h1=> ?_) (fun h1=> ?_)
  ·refine gg [.i zd ((n:Int)+1) ((↑(n+1):Int)),.i zd ((i:Int)+1) ((↑(i+1):Int)),.a _ _] ⟨oI,oI,o_a ih2,trivial⟩ ?_
   refine rT (a:=qz (qx 0) [V.t (qk 9 (zz zm l)),vi (↑(n+1+List.countP (fun (e:Entity)↦e.kind !=1) (zk (i+1) l)):Int),vi (↑(zq l):Int)] []) ?_
   (simp_all;try omega)
  ·refine gg [.i zd ((i:Int)+1) ((↑(i+1):Int)),.a _ _] ⟨oI,o_a ih1,trivial⟩ ?_
   refine rT (a:=qz (qx 0) [V.t (qk 9 (zz zm l)),vi (↑(n+List.countP (fun (e:Entity)↦e.kind !=1) (zk (i+1) l)):Int),vi (↑(zq l):Int)] []) ?_
   (simp_all;try omega)
theorem AaU (l:List Entity) (hn:small l):Fn cx 73 [.sl 9 (l.map zm)] (ti (things l)):=by
 have h:=AcL l hn l.length 0 0 (by omega) (by omega)
 rw [List.drop_zero,Nat.zero_add] at h
 refine qq ?_
 refine gg [.a _ _] ⟨o_a h,trivial⟩ ?_
 exact ge
theorem Aeg (l:List Entity) (id:Int) (hn:small l): ∀(d i:Nat),i+d=l.length→
  Is cx (.loop 100 [0,1,0,1] 0 [.t (.sl 9 (l.map zm)),vi id,vi 0,vi i] [])
   (match (l.drop i).findIdx? fun e=>e.id==id with
    |some j=>⟨.ret,[.t (.sl 9 (l.map zm)),vi id,vi (i+j:Nat),vi (i+j:Nat)],[]⟩
    |none=>⟨.exit 0,[.t (.sl 9 (l.map zm)),vi id,vi 0,vi l.length],[]⟩):=by
 unfold small at hn
 intro d
 induction d with
 |zero=>
  intro i hi
  refine qq ?_
  refine gg [.n (zq (zz zm l)) (zq l),.b (decide ((i:Int)<(↑(zq l):Int))) false] ⟨o_n (by simp),fP,trivial⟩ ?_
  refine rT (a:=qz (qx 0) [V.t (qk 9 (zz zm l)),vi id,vi 0,vi (i:Int)] []) ?_
  ((have:i=l.length:=by omega);subst this;rw [Aac (Nat.le_refl _)];rfl)
 |succ d ih=>
  intro i hi
  have hlt:i<l.length:=by omega
  have ih1:=ih (i+1) (by omega)
  clear ih
  rw [Aae hlt,List.findIdx?_cons]
  by_cases hp:(gt l i).id=id
  ·simp only [show ((gt l i).id==id)=true by simpa using hp,if_true]
   refine qq ?_
   refine gg [.n (zq (zz zm l)) (zq l),.b (decide ((i:Int)<(↑(zq l):Int))) true,.w (0≤(i:Int)),.n (zy (i:Int)) i,.g (zz zm l) i (zm (gt l i)),.b ((gt l i).id==id) true] ⟨o_n (by simp),tP,oW,nK,o_gt rfl (by assumption) (by intro h;cases h),t_bre (by assumption),trivial⟩ ?_
   exact ge
  ·simp only [show ((gt l i).id==id)=false by simpa using hp,Bool.false_eq_true,if_false]
   cases hq:(l.drop (i+1)).findIdx? fun e=>e.id==id with
   |none=>
    rw [hq] at ih1
    refine qq ?_
    refine gg [.n (zq (zz zm l)) (zq l),.b (decide ((i:Int)<(↑(zq l):Int))) true,.w (0≤(i:Int)),.n (zy (i:Int)) i,.g (zz zm l) i (zm (gt l i)),.b ((gt l i).id==id) false,.i zd ((i:Int)+1) ((↑(i+1):Int)),.a _ _] ⟨o_n (by simp),tP,oW,nK,o_gt rfl (by assumption) (by intro h;cases h),f_bre (by assumption),oI,o_a ih1,trivial⟩ ?_
    exact ge
   |some j=>
    rw [hq] at ih1
    refine qq ?_
    refine gg [.n (zq (zz zm l)) (zq l),.b (decide ((i:Int)<(↑(zq l):Int))) true,.w (0≤(i:Int)),.n (zy (i:Int)) i,.g (zz zm l) i (zm (gt l i)),.b ((gt l i).id==id) false,.i zd ((i:Int)+1) ((↑(i+1):Int)),.a _ _] ⟨o_n (by simp),tP,oW,nK,o_gt rfl (by assumption) (by intro h;cases h),f_bre (by assumption),oI,o_a ih1,trivial⟩ ?_
    refine rT (a:=qz qj [V.t (qk 9 (zz zm l)),vi id,vi (↑(i+1+j):Int),vi (↑(i+1+j):Int)] []) ?_
    simp [Nat.add_assoc,Nat.add_comm 1 j]
theorem Abv (l:List Entity) (id:Int) (hn:small l):Fn cx 100 [.sl 9 (l.map zm),ti id] (ti (find l id)):=by
 have h:=Aeg l id hn l.length 0 (by omega)
 rw [List.drop_zero] at h
 unfold find pos
 cases hq:l.findIdx? fun e=>e.id==id with
 |none=>
  rw [hq] at h
  refine qq ?_
  refine gg [.a _ _] ⟨o_a h,trivial⟩ ?_
  exact ge
 |some j=>
  rw [hq] at h
  refine qq ?_
  refine gg [.a _ _] ⟨o_a h,trivial⟩ ?_
  refine rT (a:=qz qj [vi (↑(0+j):Int)] []) ?_
  simp
theorem Adw (l:List Int) (x:Int) (hn:small l): ∀(d i:Nat),i+d=l.length→
  ∃k:Nat,Is cx (.loop 26 [0,1,0,1] 0 [.t (.sl 1 (l.map ti)),vi x,vb false,vi i] [])
   (match has (l.drop i) x with
    |true=>⟨.ret,[.t (.sl 1 (l.map ti)),vi x,vb true,vi k],[]⟩
    |false=>⟨.exit 0,[.t (.sl 1 (l.map ti)),vi x,vb false,vi l.length],[]⟩):=by
 unfold small at hn
 intro d
 induction d with
 |zero=>
  intro i hi
  refine ⟨0,?_⟩
  rw [Aac (by omega)]
  refine qq ?_
  refine gg [.n (zq (zz ti l)) (zq l),.b (decide ((i:Int)<(↑(zq l):Int))) false] ⟨o_n (by simp),fP,trivial⟩ ?_
  refine rT (a:=qz (qx 0) [V.t (qk 1 (zz ti l)),vi x,vb false,vi (i:Int)] []) ?_
  ((have:i=l.length:=by omega);subst this;rfl)
 |succ d ih=>
  intro i hi
  have hlt:i<l.length:=by omega
  obtain ⟨k,ih1⟩:=ih (i+1) (by omega)
  clear ih
  unfold has at*
  rw [Ani _ hlt]
  by_cases hp:gt l i=x
  ·simp only [show (gt l i==x)=true by simpa using hp,Bool.true_or]
   refine ⟨i,?_⟩
   refine qq ?_
   refine gg [.n (zq (zz ti l)) (zq l),.b (decide ((i:Int)<(↑(zq l):Int))) true,.w (0≤(i:Int)),.n (zy (i:Int)) i,.g (zz ti l) i (ti (gt l i)),.b (gt l i==x) true] ⟨o_n (by simp),tP,oW,nK,o_gt rfl (by assumption) (by intro h;cases h),t_bre (by assumption),trivial⟩ ?_
   exact ge
  ·simp only [show (gt l i==x)=false by simpa using hp,Bool.false_or]
   refine ⟨k,?_⟩
   cases hq:(l.drop (i+1)).any fun y=>y==x with
   |true=>
    rw [hq] at ih1
    refine qq ?_
    refine gg [.n (zq (zz ti l)) (zq l),.b (decide ((i:Int)<(↑(zq l):Int))) true,.w (0≤(i:Int)),.n (zy (i:Int)) i,.g (zz ti l) i (ti (gt l i)),.b (gt l i==x) false,.i zd ((i:Int)+1) ((↑(i+1):Int)),.a _ _] ⟨o_n (by simp),tP,oW,nK,o_gt rfl (by assumption) (by intro h;cases h),f_bre (by assumption),oI,o_a ih1,trivial⟩ ?_
    exact ge
   |false=>
    rw [hq] at ih1
    refine qq ?_
    refine gg [.n (zq (zz ti l)) (zq l),.b (decide ((i:Int)<(↑(zq l):Int))) true,.w (0≤(i:Int)),.n (zy (i:Int)) i,.g (zz ti l) i (ti (gt l i)),.b (gt l i==x) false,.i zd ((i:Int)+1) ((↑(i+1):Int)),.a _ _] ⟨o_n (by simp),tP,oW,nK,o_gt rfl (by assumption) (by intro h;cases h),f_bre (by assumption),oI,o_a ih1,trivial⟩ ?_
    exact ge
theorem Agj (l:List Int) (x:Int) (hn:small l):Fn cx 26 [.sl 1 (l.map ti),ti x] (.bool (has l x)):=by
 obtain ⟨k,h⟩:=Adw l x hn l.length 0 (by omega)
 rw [List.drop_zero] at h
 cases hq:has l x with
 |true=>
  rw [hq] at h
  refine qq ?_
  refine gg [.a _ _] ⟨o_a h,trivial⟩ ?_
  exact ge
 |false=>
  rw [hq] at h
  refine qq ?_
  refine gg [.a _ _] ⟨o_a h,trivial⟩ ?_
  exact ge
end Go.Eva.S4
namespace Go.Eva
def pace (v:Int):Bool:=decide (v=0)||decide (v=160)||decide (v= -160)
def Entity.right (c:Config) (e:Entity):Bool:=c.inside e.x e.y&&
 (if e.kind=1 then within e.id 1 c.players&&within e.vx (-64) 64&&within e.vy (-64) 64&&within e.health 1 100&&within e.age 0 6&&decide (e.owner=0)
  else if e.kind=2 then within e.id 1000 2147483647&&decide (e.health=1)&&pace e.vx&&pace e.vy&&(!decide (e.vx=0)|| !decide (e.vy=0))&&within e.age 0 12&&within e.owner 1 c.players
  else if e.kind=3 then within e.id 1000 2147483647&&decide (e.health=1)&&decide (e.vx=0)&&decide (e.vy=0)&&decide (e.age=0)&&decide (e.owner=0)
  else false)
theorem beqd (a b:Int):(a==b)=decide (a=b):=by rw [Bool.eq_iff_iff];simp
theorem bned (a b:Int):(a !=b)= !decide (a=b):=by rw [Bool.eq_iff_iff];simp
theorem Ak5 {a b:Entity}:teq a.enc b.enc=decide (a=b):=by rw [Bool.eq_iff_iff,teqIff,Entity.enc_inj,decide_eq_true_eq]
theorem AmD {a b:Cross}:teq a.enc b.enc=decide (a=b):=by rw [Bool.eq_iff_iff,teqIff,Cross.enc_inj,decide_eq_true_eq]
theorem Config.inside_false {c:Config} {x y:Int} (h:c.right=false):c.inside x y=false:=by
 cases hi:c.inside x y with
 |false=>rfl
 |true=>
  simp only [Config.inside,Config.width,h,Aad,Bool.and_eq_true,Bool.false_eq_true,if_false] at hi
  omega
theorem Config.inside_right {c:Config} {x y:Int} (h:c.inside x y=true):c.right=true:=by
 cases hr:c.right with
 |true=>rfl
 |false=>rw [Config.inside_false hr] at h;contradiction
end Go.Eva
namespace Go.Eva.S4
theorem Acn (a b:Entity):Fn cx 86 [a.enc,b.enc] (.bool (decide (a=b))):=by
 rw [←Ak5]
 refine qq ?_
 refine gg [.w (conform cx (40:Nat) (48:Nat) (T.agg [ti a.id,ti a.kind,ti a.x,ti a.y,ti a.vx,ti a.vy,ti a.health,ti a.age,ti a.owner])=true∧conform cx (40:Nat) (48:Nat) (T.agg [ti b.id,ti b.kind,ti b.x,ti b.y,ti b.vx,ti b.vy,ti b.health,ti b.age,ti b.owner])=true)] ⟨o_w ⟨(by kernel_rfl),(by kernel_rfl)⟩,trivial⟩ ?_
 exact ge
theorem AcB (a b:Cross):Fn cx 79 [a.enc,b.enc] (.bool (decide (a=b))):=by
 rw [←AmD]
 refine qq ?_
 refine gg [.w (conform cx (40:Nat) (50:Nat) (T.agg [ti a.kind,ti a.frm,ti a.to,ti a.frame,ti a.ent.id,ti a.ent.kind,ti a.ent.x,ti a.ent.y,ti a.ent.vx,ti a.ent.vy,ti a.ent.health,ti a.ent.age,ti a.ent.owner,ti a.x,ti a.y])=true∧conform cx (40:Nat) (50:Nat) (T.agg [ti b.kind,ti b.frm,ti b.to,ti b.frame,ti b.ent.id,ti b.ent.kind,ti b.ent.x,ti b.ent.y,ti b.ent.vx,ti b.ent.vy,ti b.ent.health,ti b.ent.age,ti b.ent.owner,ti b.x,ti b.y])=true)] ⟨o_w ⟨(by kernel_rfl),(by kernel_rfl)⟩,trivial⟩ ?_
 exact ge
theorem AbF (a b:List Entity) (g:Nat) (p:Entity→Entity→Bool) (hb:isFnB cx g=true) (hn:small a) (hl:a.length=b.length)
  (hg: ∀x y,Fn cx g [zm x,zm y] (.bool (p x y))): ∀(d i:Nat),i+d=a.length→
  ∃k:Nat,Is cx (.loop 85 [0,1,0,1,1] 0 [.t (.sl 9 (a.map zm)),.t (.sl 9 (b.map zm)),.t (.clo g []),vb false,vi i] [])
   (match sameL p (a.drop i) (b.drop i) with
    |true=>⟨.exit 0,[.t (.sl 9 (a.map zm)),.t (.sl 9 (b.map zm)),.t (.clo g []),vb false,vi a.length],[]⟩
    |false=>⟨.ret,[.t (.sl 9 (a.map zm)),.t (.sl 9 (b.map zm)),.t (.clo g []),vb false,vi k],[]⟩):=by
 unfold small at hn
 intro d
 induction d with
 |zero=>
  intro i hi
  refine ⟨0,?_⟩
  rw [Aac (by omega),Aac (by omega)]
  refine qq ?_
  refine gg [.n (zq (zz zm a)) (zq a),.b (decide ((i:Int)<(↑(zq a):Int))) false] ⟨o_n (by simp),fP,trivial⟩ ?_
  refine rT (a:=qz (qx 0) [V.t (qk 9 (zz zm a)),V.t (qk 9 (zz zm b)),V.t (T.clo g []),vb false,vi (i:Int)] []) ?_
  ((have hq:i=a.length:=by omega);subst hq;rfl)
 |succ d ih=>
  intro i hi
  have hlt:i<a.length:=by omega
  have hlt':i<b.length:=by omega
  obtain ⟨k,ih1⟩:=ih (i+1) (by omega)
  have hy:=hg (gt a i) (gt b i)
  clear ih hg
  rw [AnE hlt hlt']
  cases hp:p (gt a i) (gt b i) with
  |true=>
   rw [hp] at hy
   refine ⟨k,?_⟩
   rw [Bool.true_and]
   cases hq:sameL p (a.drop (i+1)) (b.drop (i+1)) with
   |true=>
    rw [hq] at ih1
    refine qq ?_
    refine gg [.n (zq (zz zm a)) (zq a),.b (decide ((i:Int)<(↑(zq a):Int))) true,.w (0≤(i:Int)),.n (zy (i:Int)) i,.g (zz zm a) i (zm (gt a i)),.w (0≤(i:Int)),.n (zy (i:Int)) i,.g (zz zm b) i (zm (gt b i)),.w (isFnB cx g=true),.a _ _,.b (!true) false,.i zd ((i:Int)+1) ((↑(i+1):Int)),.a _ _] ⟨o_n (by simp),tP,oW,nK,o_gt rfl (by assumption) (by intro h;cases h),oW,nK,o_gt rfl (by assumption) (by intro h;cases h),oA,o_a hy,bK,oI,o_a ih1,trivial⟩ ?_
    exact ge
   |false=>
    rw [hq] at ih1
    refine qq ?_
    refine gg [.n (zq (zz zm a)) (zq a),.b (decide ((i:Int)<(↑(zq a):Int))) true,.w (0≤(i:Int)),.n (zy (i:Int)) i,.g (zz zm a) i (zm (gt a i)),.w (0≤(i:Int)),.n (zy (i:Int)) i,.g (zz zm b) i (zm (gt b i)),.w (isFnB cx g=true),.a _ _,.b (!true) false,.i zd ((i:Int)+1) ((↑(i+1):Int)),.a _ _] ⟨o_n (by simp),tP,oW,nK,o_gt rfl (by assumption) (by intro h;cases h),oW,nK,o_gt rfl (by assumption) (by intro h;cases h),oA,o_a hy,bK,oI,o_a ih1,trivial⟩ ?_
    exact ge
  |false=>
   rw [hp] at hy
   refine ⟨i,?_⟩
   rw [Bool.false_and]
   refine qq ?_
   refine gg [.n (zq (zz zm a)) (zq a),.b (decide ((i:Int)<(↑(zq a):Int))) true,.w (0≤(i:Int)),.n (zy (i:Int)) i,.g (zz zm a) i (zm (gt a i)),.w (0≤(i:Int)),.n (zy (i:Int)) i,.g (zz zm b) i (zm (gt b i)),.w (isFnB cx g=true),.a _ _,.b (!false) true] ⟨o_n (by simp),tP,oW,nK,o_gt rfl (by assumption) (by intro h;cases h),oW,nK,o_gt rfl (by assumption) (by intro h;cases h),oA,o_a hy,bK,trivial⟩ ?_
   exact ge
theorem Adu (a b:List Entity) (g:Nat) (p:Entity→Entity→Bool) (hb:isFnB cx g=true) (hn:small a)
  (hg: ∀x y,Fn cx g [zm x,zm y] (.bool (p x y))):Fn cx 85 [.sl 9 (a.map zm),.sl 9 (b.map zm),.clo g []] (.bool (decide (a.length=b.length)&&sameL p a b)):=by
 by_cases hl:a.length=b.length
 ·obtain ⟨k,h⟩:=AbF a b g p hb hn hl hg a.length 0 (by omega)
  clear hg
  rw [List.drop_zero,List.drop_zero] at h
  rw [show decide (a.length=b.length)=true by simpa using hl,Bool.true_and]
  cases hq:sameL p a b with
  |true=>
   rw [hq] at h
   refine qq ?_
   refine gg [.n (zq (zz zm a)) (zq a),.n (zq (zz zm b)) (zq b),.b ((↑(zq a):Int) !=(↑(zq b):Int)) false,.a _ _] ⟨o_n (by simp),o_n (by simp),fN,o_a h,trivial⟩ ?_
   exact ge
  |false=>
   rw [hq] at h
   refine qq ?_
   refine gg [.n (zq (zz zm a)) (zq a),.n (zq (zz zm b)) (zq b),.b ((↑(zq a):Int) !=(↑(zq b):Int)) false,.a _ _] ⟨o_n (by simp),o_n (by simp),fN,o_a h,trivial⟩ ?_
   exact ge
 ·clear hg
  simp only [hl,decide_false,Bool.false_and]
  refine qq ?_
  refine gg [.n (zq (zz zm a)) (zq a),.n (zq (zz zm b)) (zq b),.b ((↑(zq a):Int) !=(↑(zq b):Int)) true] ⟨o_n (by simp),o_n (by simp),tN,trivial⟩ ?_
  exact ge
theorem Acm (a b:List Cross) (g:Nat) (p:Cross→Cross→Bool) (hb:isFnB cx g=true) (hn:small a) (hl:a.length=b.length)
  (hg: ∀x y,Fn cx g [zn x,zn y] (.bool (p x y))): ∀(d i:Nat),i+d=a.length→
  ∃k:Nat,Is cx (.loop 78 [0,1,0,1,1] 0 [.t (.sl 15 (a.map zn)),.t (.sl 15 (b.map zn)),.t (.clo g []),vb false,vi i] [])
   (match sameL p (a.drop i) (b.drop i) with
    |true=>⟨.exit 0,[.t (.sl 15 (a.map zn)),.t (.sl 15 (b.map zn)),.t (.clo g []),vb false,vi a.length],[]⟩
    |false=>⟨.ret,[.t (.sl 15 (a.map zn)),.t (.sl 15 (b.map zn)),.t (.clo g []),vb false,vi k],[]⟩):=by
 unfold small at hn
 intro d
 induction d with
 |zero=>
  intro i hi
  refine ⟨0,?_⟩
  rw [Aac (by omega),Aac (by omega)]
  refine qq ?_
  refine gg [.n (zq (zz zn a)) (zq a),.b (decide ((i:Int)<(↑(zq a):Int))) false] ⟨o_n (by simp),fP,trivial⟩ ?_
  refine rT (a:=qz (qx 0) [V.t (qk 15 (zz zn a)),V.t (qk 15 (zz zn b)),V.t (T.clo g []),vb false,vi (i:Int)] []) ?_
  ((have hq:i=a.length:=by omega);subst hq;rfl)
 |succ d ih=>
  intro i hi
  have hlt:i<a.length:=by omega
  have hlt':i<b.length:=by omega
  obtain ⟨k,ih1⟩:=ih (i+1) (by omega)
  have hy:=hg (gt a i) (gt b i)
  clear ih hg
  rw [AnE hlt hlt']
  cases hp:p (gt a i) (gt b i) with
  |true=>
   rw [hp] at hy
   refine ⟨k,?_⟩
   rw [Bool.true_and]
   cases hq:sameL p (a.drop (i+1)) (b.drop (i+1)) with
   |true=>
    rw [hq] at ih1
    refine qq ?_
    refine gg [.n (zq (zz zn a)) (zq a),.b (decide ((i:Int)<(↑(zq a):Int))) true,.w (0≤(i:Int)),.n (zy (i:Int)) i,.g (zz zn a) i (zn (gt a i)),.w (0≤(i:Int)),.n (zy (i:Int)) i,.g (zz zn b) i (zn (gt b i)),.w (isFnB cx g=true),.a _ _,.b (!true) false,.i zd ((i:Int)+1) ((↑(i+1):Int)),.a _ _] ⟨o_n (by simp),tP,oW,nK,o_gt rfl (by assumption) (by intro h;cases h),oW,nK,o_gt rfl (by assumption) (by intro h;cases h),oA,o_a hy,bK,oI,o_a ih1,trivial⟩ ?_
    exact ge
   |false=>
    rw [hq] at ih1
    refine qq ?_
    refine gg [.n (zq (zz zn a)) (zq a),.b (decide ((i:Int)<(↑(zq a):Int))) true,.w (0≤(i:Int)),.n (zy (i:Int)) i,.g (zz zn a) i (zn (gt a i)),.w (0≤(i:Int)),.n (zy (i:Int)) i,.g (zz zn b) i (zn (gt b i)),.w (isFnB cx g=true),.a _ _,.b (!true) false,.i zd ((i:Int)+1) ((↑(i+1):Int)),.a _ _] ⟨o_n (by simp),tP,oW,nK,o_gt rfl (by assumption) (by intro h;cases h),oW,nK,o_gt rfl (by assumption) (by intro h;cases h),oA,o_a hy,bK,oI,o_a ih1,trivial⟩ ?_
    exact ge
  |false=>
   rw [hp] at hy
   refine ⟨i,?_⟩
   rw [Bool.false_and]
   refine qq ?_
   refine gg [.n (zq (zz zn a)) (zq a),.b (decide ((i:Int)<(↑(zq a):Int))) true,.w (0≤(i:Int)),.n (zy (i:Int)) i,.g (zz zn a) i (zn (gt a i)),.w (0≤(i:Int)),.n (zy (i:Int)) i,.g (zz zn b) i (zn (gt b i)),.w (isFnB cx g=true),.a _ _,.b (!false) true] ⟨o_n (by simp),tP,oW,nK,o_gt rfl (by assumption) (by intro h;cases h),oW,nK,o_gt rfl (by assumption) (by intro h;cases h),oA,o_a hy,bK,trivial⟩ ?_
   exact ge
theorem AdP (a b:List Cross) (g:Nat) (p:Cross→Cross→Bool) (hb:isFnB cx g=true) (hn:small a)
  (hg: ∀x y,Fn cx g [zn x,zn y] (.bool (p x y))):Fn cx 78 [.sl 15 (a.map zn),.sl 15 (b.map zn),.clo g []] (.bool (decide (a.length=b.length)&&sameL p a b)):=by
 by_cases hl:a.length=b.length
 ·obtain ⟨k,h⟩:=Acm a b g p hb hn hl hg a.length 0 (by omega)
  clear hg
  rw [List.drop_zero,List.drop_zero] at h
  rw [show decide (a.length=b.length)=true by simpa using hl,Bool.true_and]
  cases hq:sameL p a b with
  |true=>
   rw [hq] at h
   refine qq ?_
   refine gg [.n (zq (zz zn a)) (zq a),.n (zq (zz zn b)) (zq b),.b ((↑(zq a):Int) !=(↑(zq b):Int)) false,.a _ _] ⟨o_n (by simp),o_n (by simp),fN,o_a h,trivial⟩ ?_
   exact ge
  |false=>
   rw [hq] at h
   refine qq ?_
   refine gg [.n (zq (zz zn a)) (zq a),.n (zq (zz zn b)) (zq b),.b ((↑(zq a):Int) !=(↑(zq b):Int)) false,.a _ _] ⟨o_n (by simp),o_n (by simp),fN,o_a h,trivial⟩ ?_
   exact ge
 ·clear hg
  simp only [hl,decide_false,Bool.false_and]
  refine qq ?_
  refine gg [.n (zq (zz zn a)) (zq a),.n (zq (zz zn b)) (zq b),.b ((↑(zq a):Int) !=(↑(zq b):Int)) true] ⟨o_n (by simp),o_n (by simp),tN,trivial⟩ ?_
  exact ge
theorem AaX (a b:List Entity) (hn:small a):Fn cx 45 [.sl 9 (a.map zm),.sl 9 (b.map zm)] (.bool (plain a b)):=by
 have h:=Adu a b 86 (fun x y=>decide (x=y)) (by kernel_rfl) hn Acn
 have e:(decide (a.length=b.length)&&sameL (fun x y=>decide (x=y)) a b)=plain a b:=by
  by_cases hl:a.length=b.length
  ·rw [Ak0 hl];simp [hl,plain]
  ·have:a≠b:=fun h=>hl (by rw [h])
   simp [hl,plain,this]
 rw [e] at h
 refine qq ?_
 refine gg [.a _ _] ⟨o_a h,trivial⟩ ?_
 exact ge
theorem Abd (a b:List Cross) (hn:small a):Fn cx 30 [.sl 15 (a.map zn),.sl 15 (b.map zn)] (.bool (plain a b)):=by
 have h:=AdP a b 79 (fun x y=>decide (x=y)) (by kernel_rfl) hn AcB
 have e:(decide (a.length=b.length)&&sameL (fun x y=>decide (x=y)) a b)=plain a b:=by
  by_cases hl:a.length=b.length
  ·rw [Ak0 hl];simp [hl,plain]
  ·have:a≠b:=fun h=>hl (by rw [h])
   simp [hl,plain,this]
 rw [e] at h
 refine qq ?_
 refine gg [.a _ _] ⟨o_a h,trivial⟩ ?_
 exact ge
end Go.Eva.S4
namespace Go.Eva.S4
theorem Agb (v:Int):Fn cx 157 [ti v] (.bool (pace v)):=by
 refine qq ?_
 refine bre (x:=v) (y:=0) (by kernel_rfl) (fun h1=> ?_) (fun h1=> ?_)
 ·refine gg [.tt,.tt,.tt,.tt,.tt] trivial ?_
  refine rT (a:=qz qj [vb true] []) ?_
  simp_all [pace,beqd]
 ·refine gg [.ff,.ff] trivial ?_
  refine bre (x:=v) (y:=160) (by kernel_rfl) (fun h2=> ?_) (fun h2=> ?_)
  ·refine gg [.tt,.tt] trivial ?_
   refine rT (a:=qz qj [vb true] []) ?_
   simp_all [pace,beqd]
  ·refine gg [.ff,.ff] trivial ?_
   refine rT (a:=qz qj [vb (v== -160)] []) ?_
   simp_all [pace,beqd]
theorem Add (v:Int):Fn cx 99 [ti v] (.bool (pace v)):=by
 refine qq ?_
 refine bre (x:=v) (y:= -160) (by kernel_rfl) (fun h1=> ?_) (fun h1=> ?_)
 ·refine gg [.tt,.tt,.tt,.tt,.tt] trivial ?_
  refine rT (a:=qz qj [vb true] []) ?_
  (simp_all [pace,beqd])
 ·refine gg [.ff,.ff] trivial ?_
  refine bre (x:=v) (y:=0) (by kernel_rfl) (fun h2=> ?_) (fun h2=> ?_)
  ·refine gg [.tt,.tt] trivial ?_
   refine rT (a:=qz qj [vb true] []) ?_
   (simp_all [pace,beqd])
  ·refine gg [.ff,.ff] trivial ?_
   refine rT (a:=qz qj [vb (v==160)] []) ?_
   (simp_all [pace,beqd])
theorem Ac6 (c:Config) (e:Entity):Fn cx 97 [c.enc,e.enc] (.bool (e.right c)):=by
 refine qq ?_
 refine gg [.a _ _] ⟨o_a (Adn c e.x e.y),trivial⟩ ?_
 refine brnot (b:=Config.inside c e.x e.y) (by kernel_rfl) (fun h1=> ?_) (fun h1=> ?_)
 ·refine rT (a:=qz qj [vb false] []) ?_
  simp_all [Entity.right,beqd,bned]
 ·refine gg [.a _ _] ⟨o_a (Aai e.id 1000 2147483647),trivial⟩ ?_
  refine br (b:=within e.id 1000 2147483647) (by kernel_rfl) (fun h2=> ?_) (fun h2=> ?_)
  ·refine gg [.tt,.tt,.tt] trivial ?_
   refine bre (x:=e.kind) (y:=1) (by kernel_rfl) (fun h3=> ?_) (fun h3=> ?_)
   ·refine gg [.a _ _] ⟨o_a (Aai e.id 1 c.players),trivial⟩ ?_
    refine br (b:=within e.id 1 c.players) (by kernel_rfl) (fun h4=> ?_) (fun h4=> ?_)
    ·refine gg [.tt,.tt,.a _ _,.tt] ⟨o_a (Aai e.vx (-64) 64),trivial⟩ ?_
     refine br (b:=within e.vx (-64) 64) (by kernel_rfl) (fun h5=> ?_) (fun h5=> ?_)
     ·refine gg [.tt,.tt,.a _ _,.tt] ⟨o_a (Aai e.vy (-64) 64),trivial⟩ ?_
      refine br (b:=within e.vy (-64) 64) (by kernel_rfl) (fun h6=> ?_) (fun h6=> ?_)
      ·refine gg [.tt,.tt,.a _ _,.tt] ⟨o_a (Aai e.health 1 100),trivial⟩ ?_
       refine br (b:=within e.health 1 100) (by kernel_rfl) (fun h7=> ?_) (fun h7=> ?_)
       ·refine gg [.tt,.tt,.a _ _,.tt] ⟨o_a (Aai e.age 0 6),trivial⟩ ?_
        refine br (b:=within e.age 0 6) (by kernel_rfl) (fun h8=> ?_) (fun h8=> ?_)
        ·refine gg [.tt,.tt,.tt] trivial ?_
         refine rT (a:=qz qj [vb (e.owner==0)] []) ?_
         simp_all [Entity.right,beqd,bned]
        ·refine gg [.ff,.ff,.ff] trivial ?_
         refine rT (a:=qz qj [vb false] []) ?_
         simp_all [Entity.right,beqd,bned]
       ·refine gg [.ff,.ff,.ff,.ff,.ff,.ff,.ff] trivial ?_
        refine rT (a:=qz qj [vb false] []) ?_
        simp_all [Entity.right,beqd,bned]
      ·refine gg [.ff,.ff,.ff,.ff,.ff,.ff,.ff,.ff,.ff,.ff,.ff] trivial ?_
       refine rT (a:=qz qj [vb false] []) ?_
       simp_all [Entity.right,beqd,bned]
     ·refine gg [.ff,.ff,.ff,.ff,.ff,.ff,.ff,.ff,.ff,.ff,.ff,.ff,.ff,.ff,.ff] trivial ?_
      refine rT (a:=qz qj [vb false] []) ?_
      simp_all [Entity.right,beqd,bned]
    ·refine gg [.ff,.ff,.ff,.ff,.ff,.ff,.ff,.ff,.ff,.ff,.ff,.ff,.ff,.ff,.ff,.ff] trivial ?_
     refine gg [.ff,.ff,.ff] trivial ?_
     refine rT (a:=qz qj [vb false] []) ?_
     simp_all [Entity.right,beqd,bned]
   ·refine bre (x:=e.kind) (y:=2) (by kernel_rfl) (fun h4=> ?_) (fun h4=> ?_)
    ·refine bre (x:=e.health) (y:=1) (by kernel_rfl) (fun h5=> ?_) (fun h5=> ?_)
     ·refine gg [.tt,.tt,.a _ _,.tt] ⟨o_a (Agb e.vx),trivial⟩ ?_
      refine br (b:=pace e.vx) (by kernel_rfl) (fun h6=> ?_) (fun h6=> ?_)
      ·refine gg [.tt,.tt,.a _ _,.tt] ⟨o_a (Agb e.vy),trivial⟩ ?_
       refine br (b:=pace e.vy) (by kernel_rfl) (fun h7=> ?_) (fun h7=> ?_)
       ·refine gg [.tt,.tt,.tt] trivial ?_
        refine brn (x:=e.vx) (y:=0) (by kernel_rfl) (fun h8=> ?_) (fun h8=> ?_)
        ·refine gg [.tt,.tt,.tt,.tt,.tt,.tt,.tt,.tt,.a _ _,.tt] ⟨o_a (Aai e.age 0 12),trivial⟩ ?_
         refine br (b:=within e.age 0 12) (by kernel_rfl) (fun h9=> ?_) (fun h9=> ?_)
         ·refine gg [.tt,.tt,.tt,.tt,.tt,.a _ _,.tt] ⟨o_a (Aai e.owner 1 c.players),trivial⟩ ?_
          refine rT (a:=qz qj [vb (within e.owner 1 c.players)] []) ?_
          simp_all [Entity.right,beqd,bned]
         ·refine gg [.ff,.ff,.ff,.ff,.ff,.ff] trivial ?_
          refine rT (a:=qz qj [vb false] []) ?_
          simp_all [Entity.right,beqd,bned]
        ·refine gg [.ff,.ff,.tt,.ff,.tt] trivial ?_
         refine brn (x:=e.vy) (y:=0) (by kernel_rfl) (fun h9=> ?_) (fun h9=> ?_)
         ·refine gg [.tt,.tt,.a _ _,.tt] ⟨o_a (Aai e.age 0 12),trivial⟩ ?_
          refine br (b:=within e.age 0 12) (by kernel_rfl) (fun h10=> ?_) (fun h10=> ?_)
          ·refine gg [.tt,.tt,.tt,.tt,.tt,.a _ _,.tt] ⟨o_a (Aai e.owner 1 c.players),trivial⟩ ?_
           refine rT (a:=qz qj [vb (within e.owner 1 c.players)] []) ?_
           simp_all [Entity.right,beqd,bned]
          ·refine gg [.ff,.ff,.ff,.ff,.ff,.ff] trivial ?_
           refine rT (a:=qz qj [vb false] []) ?_
           simp_all [Entity.right,beqd,bned]
         ·refine gg [.ff,.ff,.ff,.ff,.ff,.ff,.ff,.ff,.ff,.ff] trivial ?_
          refine rT (a:=qz qj [vb false] []) ?_
          simp_all [Entity.right,beqd,bned]
       ·refine gg [.ff,.ff,.ff,.ff,.ff,.ff,.ff,.ff,.ff,.ff,.ff,.ff,.ff,.ff,.ff,.ff] trivial ?_
        refine rT (a:=qz qj [vb false] []) ?_
        simp_all [Entity.right,beqd,bned]
      ·refine gg [.ff,.ff,.ff,.ff,.ff,.ff,.ff,.ff,.ff,.ff,.ff,.ff,.ff,.ff,.ff,.ff] trivial ?_
       refine gg [.ff,.ff,.ff,.ff] trivial ?_
       refine rT (a:=qz qj [vb false] []) ?_
       simp_all [Entity.right,beqd,bned]
     ·refine gg [.ff,.ff,.ff,.ff,.ff,.ff,.ff,.ff,.ff,.ff,.ff,.ff,.ff,.ff,.ff,.ff] trivial ?_
      refine gg [.ff,.ff,.ff,.ff,.ff,.ff,.ff,.ff] trivial ?_
      refine rT (a:=qz qj [vb false] []) ?_
      simp_all [Entity.right,beqd,bned]
    ·refine bre (x:=e.kind) (y:=3) (by kernel_rfl) (fun h5=> ?_) (fun h5=> ?_)
     ·refine bre (x:=e.health) (y:=1) (by kernel_rfl) (fun h6=> ?_) (fun h6=> ?_)
      ·refine gg [.tt,.tt,.tt] trivial ?_
       refine bre (x:=e.vx) (y:=0) (by kernel_rfl) (fun h7=> ?_) (fun h7=> ?_)
       ·refine gg [.tt,.tt,.tt] trivial ?_
        refine bre (x:=e.vy) (y:=0) (by kernel_rfl) (fun h8=> ?_) (fun h8=> ?_)
        ·refine gg [.tt,.tt,.tt] trivial ?_
         refine bre (x:=e.age) (y:=0) (by kernel_rfl) (fun h9=> ?_) (fun h9=> ?_)
         ·refine gg [.tt,.tt,.tt] trivial ?_
          refine rT (a:=qz qj [vb (e.owner==0)] []) ?_
          simp_all [Entity.right,beqd,bned]
         ·refine gg [.ff,.ff,.ff] trivial ?_
          refine rT (a:=qz qj [vb false] []) ?_
          simp_all [Entity.right,beqd,bned]
        ·refine gg [.ff,.ff,.ff,.ff,.ff,.ff,.ff] trivial ?_
         refine rT (a:=qz qj [vb false] []) ?_
         simp_all [Entity.right,beqd,bned]
       ·refine gg [.ff,.ff,.ff,.ff,.ff,.ff,.ff,.ff,.ff,.ff,.ff] trivial ?_
        refine rT (a:=qz qj [vb false] []) ?_
        simp_all [Entity.right,beqd,bned]
      ·refine gg [.ff,.ff,.ff,.ff,.ff,.ff,.ff,.ff,.ff,.ff,.ff,.ff,.ff,.ff,.ff] trivial ?_
       refine rT (a:=qz qj [vb false] []) ?_
       simp_all [Entity.right,beqd,bned]
     ·refine rT (a:=qz qj [vb false] []) ?_
      simp_all [Entity.right,beqd,bned]
  ·refine gg [.ff,.ff,.ff] trivial ?_
   refine bre (x:=e.kind) (y:=1) (by kernel_rfl) (fun h3=> ?_) (fun h3=> ?_)
   ·refine gg [.a _ _] ⟨o_a (Aai e.id 1 c.players),trivial⟩ ?_
    refine br (b:=within e.id 1 c.players) (by kernel_rfl) (fun h4=> ?_) (fun h4=> ?_)
    ·refine gg [.tt,.tt,.a _ _,.tt] ⟨o_a (Aai e.vx (-64) 64),trivial⟩ ?_
     refine br (b:=within e.vx (-64) 64) (by kernel_rfl) (fun h5=> ?_) (fun h5=> ?_)
     ·refine gg [.tt,.tt,.a _ _,.tt] ⟨o_a (Aai e.vy (-64) 64),trivial⟩ ?_
      refine br (b:=within e.vy (-64) 64) (by kernel_rfl) (fun h6=> ?_) (fun h6=> ?_)
      ·refine gg [.tt,.tt,.a _ _,.tt] ⟨o_a (Aai e.health 1 100),trivial⟩ ?_
       refine br (b:=within e.health 1 100) (by kernel_rfl) (fun h7=> ?_) (fun h7=> ?_)
       ·refine gg [.tt,.tt,.a _ _,.tt] ⟨o_a (Aai e.age 0 6),trivial⟩ ?_
        refine br (b:=within e.age 0 6) (by kernel_rfl) (fun h8=> ?_) (fun h8=> ?_)
        ·refine gg [.tt,.tt,.tt] trivial ?_
         refine rT (a:=qz qj [vb (e.owner==0)] []) ?_
         simp_all [Entity.right,beqd,bned]
        ·refine gg [.ff,.ff,.ff] trivial ?_
         refine rT (a:=qz qj [vb false] []) ?_
         simp_all [Entity.right,beqd,bned]
       ·refine gg [.ff,.ff,.ff,.ff,.ff,.ff,.ff] trivial ?_
        refine rT (a:=qz qj [vb false] []) ?_
        simp_all [Entity.right,beqd,bned]
      ·refine gg [.ff,.ff,.ff,.ff,.ff,.ff,.ff,.ff,.ff,.ff,.ff] trivial ?_
       refine rT (a:=qz qj [vb false] []) ?_
       simp_all [Entity.right,beqd,bned]
     ·refine gg [.ff,.ff,.ff,.ff,.ff,.ff,.ff,.ff,.ff,.ff,.ff,.ff,.ff,.ff,.ff] trivial ?_
      refine rT (a:=qz qj [vb false] []) ?_
      simp_all [Entity.right,beqd,bned]
    ·refine gg [.ff,.ff,.ff,.ff,.ff,.ff,.ff,.ff,.ff,.ff,.ff,.ff,.ff,.ff,.ff,.ff] trivial ?_
     refine gg [.ff,.ff,.ff] trivial ?_
     refine rT (a:=qz qj [vb false] []) ?_
     simp_all [Entity.right,beqd,bned]
   ·refine bre (x:=e.kind) (y:=2) (by kernel_rfl) (fun h4=> ?_) (fun h4=> ?_)
    ·refine gg [.ff,.ff,.ff,.ff,.ff,.ff,.ff,.ff,.ff,.ff,.ff,.ff,.ff,.ff,.ff,.ff] trivial ?_
     refine gg [.ff,.ff,.ff,.ff,.ff,.ff,.ff,.ff,.ff] trivial ?_
     refine rT (a:=qz qj [vb false] []) ?_
     simp_all [Entity.right,beqd,bned]
    ·refine bre (x:=e.kind) (y:=3) (by kernel_rfl) (fun h5=> ?_) (fun h5=> ?_)
     ·refine gg [.ff,.ff,.ff,.ff,.ff,.ff,.ff,.ff,.ff,.ff,.ff,.ff,.ff,.ff,.ff,.ff] trivial ?_
      refine rT (a:=qz qj [vb false] []) ?_
      simp_all [Entity.right,beqd,bned]
     ·refine rT (a:=qz qj [vb false] []) ?_
      simp_all [Entity.right,beqd,bned]
theorem Abh (c:Config) (e:Entity):Fn cx 57 [c.enc,e.enc] (.bool (e.right c)):=by
 refine qq ?_
 refine gg [.a _ _] ⟨o_a (AaT c e.x e.y),trivial⟩ ?_
 refine brnot (b:=Config.inside c e.x e.y) (by kernel_rfl) (fun h1=> ?_) (fun h1=> ?_)
 ·refine rT (a:=qz qj [vb false] []) ?_
  simp_all [Entity.right,beqd,bned]
 ·refine gg [.a _ _] ⟨o_a (Aah e.id 1000 2147483647),trivial⟩ ?_
  refine bre (x:=e.kind) (y:=1) (by kernel_rfl) (fun h2=> ?_) (fun h2=> ?_)
  ·refine gg [.a _ _] ⟨o_a (Aah e.id 1 c.players),trivial⟩ ?_
   refine br (b:=within e.id 1 c.players) (by kernel_rfl) (fun h3=> ?_) (fun h3=> ?_)
   ·refine gg [.tt,.tt,.a _ _,.tt] ⟨o_a (Aah e.vx (-64) 64),trivial⟩ ?_
    refine br (b:=within e.vx (-64) 64) (by kernel_rfl) (fun h4=> ?_) (fun h4=> ?_)
    ·refine gg [.tt,.tt,.a _ _,.tt] ⟨o_a (Aah e.vy (-64) 64),trivial⟩ ?_
     refine br (b:=within e.vy (-64) 64) (by kernel_rfl) (fun h5=> ?_) (fun h5=> ?_)
     ·refine gg [.tt,.tt,.a _ _,.tt] ⟨o_a (Aah e.health 1 100),trivial⟩ ?_
      refine br (b:=within e.health 1 100) (by kernel_rfl) (fun h6=> ?_) (fun h6=> ?_)
      ·refine gg [.tt,.tt,.a _ _,.tt] ⟨o_a (Aah e.age 0 6),trivial⟩ ?_
       refine br (b:=within e.age 0 6) (by kernel_rfl) (fun h7=> ?_) (fun h7=> ?_)
       ·refine gg [.tt,.tt,.tt] trivial ?_
        refine rT (a:=qz qj [vb (e.owner==0)] []) ?_
        simp_all [Entity.right,beqd,bned]
       ·refine gg [.ff,.ff,.ff] trivial ?_
        refine rT (a:=qz qj [vb false] []) ?_
        simp_all [Entity.right,beqd,bned]
      ·refine gg [.ff,.ff,.ff,.ff,.ff,.ff,.ff] trivial ?_
       refine rT (a:=qz qj [vb false] []) ?_
       simp_all [Entity.right,beqd,bned]
     ·refine gg [.ff,.ff,.ff,.ff,.ff,.ff,.ff,.ff,.ff,.ff,.ff] trivial ?_
      refine rT (a:=qz qj [vb false] []) ?_
      simp_all [Entity.right,beqd,bned]
    ·refine gg [.ff,.ff,.ff,.ff,.ff,.ff,.ff,.ff,.ff,.ff,.ff,.ff,.ff,.ff,.ff] trivial ?_
     refine rT (a:=qz qj [vb false] []) ?_
     simp_all [Entity.right,beqd,bned]
   ·refine gg [.ff,.ff,.ff,.ff,.ff,.ff,.ff,.ff,.ff,.ff,.ff,.ff,.ff,.ff,.ff,.ff] trivial ?_
    refine gg [.ff,.ff,.ff] trivial ?_
    refine rT (a:=qz qj [vb false] []) ?_
    simp_all [Entity.right,beqd,bned]
  ·refine bre (x:=e.kind) (y:=2) (by kernel_rfl) (fun h3=> ?_) (fun h3=> ?_)
   ·refine br (b:=within e.id 1000 2147483647) (by kernel_rfl) (fun h4=> ?_) (fun h4=> ?_)
    ·refine gg [.tt,.tt,.a _ _,.tt] ⟨o_a (Add e.vx),trivial⟩ ?_
     refine br (b:=pace e.vx) (by kernel_rfl) (fun h5=> ?_) (fun h5=> ?_)
     ·refine gg [.tt,.tt,.a _ _,.tt] ⟨o_a (Add e.vy),trivial⟩ ?_
      refine br (b:=pace e.vy) (by kernel_rfl) (fun h6=> ?_) (fun h6=> ?_)
      ·refine gg [.tt,.tt,.tt] trivial ?_
       refine brn (x:=e.vx) (y:=0) (by kernel_rfl) (fun h7=> ?_) (fun h7=> ?_)
       ·refine gg [.tt,.tt,.tt,.tt,.tt,.tt,.tt,.tt,.tt] trivial ?_
        refine bre (x:=e.health) (y:=1) (by kernel_rfl) (fun h8=> ?_) (fun h8=> ?_)
        ·refine gg [.tt,.tt,.a _ _,.tt] ⟨o_a (Aah e.age 0 12),trivial⟩ ?_
         refine br (b:=within e.age 0 12) (by kernel_rfl) (fun h9=> ?_) (fun h9=> ?_)
         ·refine gg [.tt,.tt,.tt,.tt,.a _ _,.tt] ⟨o_a (Aah e.owner 1 c.players),trivial⟩ ?_
          refine rT (a:=qz qj [vb (within e.owner 1 c.players)] []) ?_
          simp_all [Entity.right,beqd,bned]
         ·refine gg [.ff,.ff,.ff,.ff,.ff] trivial ?_
          refine rT (a:=qz qj [vb false] []) ?_
          simp_all [Entity.right,beqd,bned]
        ·refine gg [.ff,.ff,.ff,.ff,.ff,.ff,.ff,.ff,.ff] trivial ?_
         refine rT (a:=qz qj [vb false] []) ?_
         simp_all [Entity.right,beqd,bned]
       ·refine gg [.ff,.ff,.tt,.ff,.tt] trivial ?_
        refine brn (x:=e.vy) (y:=0) (by kernel_rfl) (fun h8=> ?_) (fun h8=> ?_)
        ·refine gg [.tt,.tt,.tt] trivial ?_
         refine bre (x:=e.health) (y:=1) (by kernel_rfl) (fun h9=> ?_) (fun h9=> ?_)
         ·refine gg [.tt,.tt,.a _ _,.tt] ⟨o_a (Aah e.age 0 12),trivial⟩ ?_
          refine br (b:=within e.age 0 12) (by kernel_rfl) (fun h10=> ?_) (fun h10=> ?_)
          ·refine gg [.tt,.tt,.tt,.tt,.a _ _,.tt] ⟨o_a (Aah e.owner 1 c.players),trivial⟩ ?_
           refine rT (a:=qz qj [vb (within e.owner 1 c.players)] []) ?_
           simp_all [Entity.right,beqd,bned]
          ·refine gg [.ff,.ff,.ff,.ff,.ff] trivial ?_
           refine rT (a:=qz qj [vb false] []) ?_
           simp_all [Entity.right,beqd,bned]
         ·refine gg [.ff,.ff,.ff,.ff,.ff,.ff,.ff,.ff,.ff] trivial ?_
          refine rT (a:=qz qj [vb false] []) ?_
          simp_all [Entity.right,beqd,bned]
        ·refine gg [.ff,.ff,.ff,.ff,.ff,.ff,.ff,.ff,.ff,.ff,.ff,.ff,.ff] trivial ?_
         refine rT (a:=qz qj [vb false] []) ?_
         simp_all [Entity.right,beqd,bned]
      ·refine gg [.ff,.ff,.ff,.ff,.ff,.ff,.ff,.ff,.ff,.ff,.ff,.ff,.ff,.ff,.ff,.ff] trivial ?_
       refine gg [.ff,.ff,.ff] trivial ?_
       refine rT (a:=qz qj [vb false] []) ?_
       simp_all [Entity.right,beqd,bned]
     ·refine gg [.ff,.ff,.ff,.ff,.ff,.ff,.ff,.ff,.ff,.ff,.ff,.ff,.ff,.ff,.ff,.ff] trivial ?_
      refine gg [.ff,.ff,.ff,.ff,.ff,.ff,.ff] trivial ?_
      refine rT (a:=qz qj [vb false] []) ?_
      simp_all [Entity.right,beqd,bned]
    ·refine gg [.ff,.ff,.ff,.ff,.ff,.ff,.ff,.ff,.ff,.ff,.ff,.ff,.ff,.ff,.ff,.ff] trivial ?_
     refine gg [.ff,.ff,.ff,.ff,.ff,.ff,.ff,.ff,.ff,.ff,.ff] trivial ?_
     refine rT (a:=qz qj [vb false] []) ?_
     simp_all [Entity.right,beqd,bned]
   ·refine bre (x:=e.kind) (y:=3) (by kernel_rfl) (fun h4=> ?_) (fun h4=> ?_)
    ·refine br (b:=within e.id 1000 2147483647) (by kernel_rfl) (fun h5=> ?_) (fun h5=> ?_)
     ·refine gg [.tt,.tt,.tt] trivial ?_
      refine bre (x:=e.vx) (y:=0) (by kernel_rfl) (fun h6=> ?_) (fun h6=> ?_)
      ·refine gg [.tt,.tt,.tt] trivial ?_
       refine bre (x:=e.vy) (y:=0) (by kernel_rfl) (fun h7=> ?_) (fun h7=> ?_)
       ·refine gg [.tt,.tt,.tt] trivial ?_
        refine bre (x:=e.age) (y:=0) (by kernel_rfl) (fun h8=> ?_) (fun h8=> ?_)
        ·refine gg [.tt,.tt,.tt] trivial ?_
         refine bre (x:=e.owner) (y:=0) (by kernel_rfl) (fun h9=> ?_) (fun h9=> ?_)
         ·refine gg [.tt,.tt,.tt] trivial ?_
          refine rT (a:=qz qj [vb (e.health==1)] []) ?_
          simp_all [Entity.right,beqd,bned]
         ·refine gg [.ff,.ff,.ff] trivial ?_
          refine rT (a:=qz qj [vb false] []) ?_
          simp_all [Entity.right,beqd,bned]
        ·refine gg [.ff,.ff,.ff,.ff,.ff,.ff,.ff] trivial ?_
         refine rT (a:=qz qj [vb false] []) ?_
         simp_all [Entity.right,beqd,bned]
       ·refine gg [.ff,.ff,.ff,.ff,.ff,.ff,.ff,.ff,.ff,.ff,.ff] trivial ?_
        refine rT (a:=qz qj [vb false] []) ?_
        simp_all [Entity.right,beqd,bned]
      ·refine gg [.ff,.ff,.ff,.ff,.ff,.ff,.ff,.ff,.ff,.ff,.ff,.ff,.ff,.ff,.ff] trivial ?_
       refine rT (a:=qz qj [vb false] []) ?_
       simp_all [Entity.right,beqd,bned]
     ·refine gg [.ff,.ff,.ff,.ff,.ff,.ff,.ff,.ff,.ff,.ff,.ff,.ff,.ff,.ff,.ff,.ff] trivial ?_
      refine gg [.ff,.ff,.ff] trivial ?_
      refine rT (a:=qz qj [vb false] []) ?_
      simp_all [Entity.right,beqd,bned]
    ·refine rT (a:=qz qj [vb false] []) ?_
     simp_all [Entity.right,beqd,bned]
end Go.Eva.S4
namespace Go.Eva.S4
theorem AcA (l:List Entity) (e:Entity) (hn:small l): ∀(d k:Nat),k+d=l.length→
  Is cx (.loop 58 [0,0,1,1,1] 1 [.all 0 none,.ptr 1 0 0,vi k] [.arr 9 (l.map zm) none false,.one 9 (.t e.enc) false])
   ⟨.exit 0,[.all 0 none,.ptr 1 0 0,vi (match (l.drop k).findIdx? fun x=>decide (x.id≥e.id) with|some j=>k+j|none=>l.length:Nat)],[.arr 9 (l.map zm) none false,.one 9 (.t e.enc) false]⟩:=by
 unfold small at hn
 intro d
 induction d with
 |zero=>
  intro k hk
  rw [Aac (by omega)]
  refine qq ?_
  refine gg [.n (zq (zz zm l)) (zq l),.b (decide ((k:Int)<(↑(zq l):Int))) false,.ff,.ff,.ff,.ff,.ff,.ff,.ff,.ff,.ff] ⟨o_n (by simp),fP,trivial⟩ ?_
  refine rT (a:=qz (qx 0) [qy 0 none,V.ptr 1 0 0,vi (k:Int)] [qv 9 (zz zm l) none false,qg 9 (V.t (zm e)) false]) ?_
  ((have hq:k=l.length:=by omega);subst hq;rfl)
 |succ d ih=>
  intro k hk
  have hlt:k<l.length:=by omega
  have ih1:=ih (k+1) (by omega)
  clear ih
  rw [Aae hlt,List.findIdx?_cons]
  by_cases hp:(gt l k).id≥e.id
  ·rw [show decide ((gt l k).id≥e.id)=true by simpa using hp,if_pos rfl]
   clear ih1
   refine qq ?_
   refine gg [.n (zq (zz zm l)) (zq l),.b (decide ((k:Int)<(↑(zq l):Int))) true,.tt,.tt,.w (0≤(k:Int)),.n (zy (k:Int)) k,.w (k<zq (zz zm l)),.tt,.tt,.tt,.g (zz zm l) k (zm (gt l k)),.tt,.tt,.tt,.b (decide ((gt l k).id<e.id)) false] ⟨o_n (by simp),tP,oW,nK,o_w (by (simp;omega)),o_gt rfl (by assumption) (by intro h;cases h),fP,trivial⟩ ?_
   exact ge
  ·rw [show decide ((gt l k).id≥e.id)=false by simpa using hp,if_neg (by simp)]
   cases hq:(l.drop (k+1)).findIdx? fun x=>decide (x.id≥e.id) with
   |none=>
    rw [hq] at ih1
    refine qq ?_
    refine gg [.n (zq (zz zm l)) (zq l),.b (decide ((k:Int)<(↑(zq l):Int))) true,.tt,.tt,.w (0≤(k:Int)),.n (zy (k:Int)) k,.w (k<zq (zz zm l)),.tt,.tt,.tt,.g (zz zm l) k (zm (gt l k)),.tt,.tt,.tt,.b (decide ((gt l k).id<e.id)) true,.i zd ((k:Int)+1) ((↑(k+1):Int))] ⟨o_n (by simp),tP,oW,nK,o_w (by (simp;omega)),o_gt rfl (by assumption) (by intro h;cases h),tP,oI,trivial⟩ ?_
    refine gg [.a _ _] ⟨o_a ih1,trivial⟩ ?_
    exact ge
   |some j=>
    rw [hq] at ih1
    refine qq ?_
    refine gg [.n (zq (zz zm l)) (zq l),.b (decide ((k:Int)<(↑(zq l):Int))) true,.tt,.tt,.w (0≤(k:Int)),.n (zy (k:Int)) k,.w (k<zq (zz zm l)),.tt,.tt,.tt,.g (zz zm l) k (zm (gt l k)),.tt,.tt,.tt,.b (decide ((gt l k).id<e.id)) true,.i zd ((k:Int)+1) ((↑(k+1):Int))] ⟨o_n (by simp),tP,oW,nK,o_w (by (simp;omega)),o_gt rfl (by assumption) (by intro h;cases h),tP,oI,trivial⟩ ?_
    refine gg [.a _ _] ⟨o_a ih1,trivial⟩ ?_
    refine rt (a:=qz (qx 0)
     [qy 0 none,V.ptr 1 0 0,
      vi
       (↑(match some j with
         |some j=>k+1+j
         |none=>zq l):
        Int)]
     [qv 9 (zz zm l) none false,qg 9 (V.t (zm e)) false]) (by kernel_rfl) ?_
    (simp;omega)
theorem AaD (l:List Entity) (e:Entity) (hn:small l):Is cx (.call 58 [.all 0 none,.t e.enc] [.arr 9 (l.map zm) none false]) ⟨.ret,[.all 1 none],[.dead,.arr 9 ((put1 l e).map zm) none false]⟩:=by
 have hF:=Abv l e.id hn
 have hn':l.length≤1000000:=hn
 unfold find at hF
 unfold put1
 cases hq:l.findIdx? fun x=>x.id==e.id with
 |some k=>
  rw [AbK hq] at hF
  refine qq ?_
  refine gg [.a _ _,.b (flats [ti (k:Int)]) true,.b (decide ((k:Int)≥0)) true] ⟨o_a hF,bK,bK,trivial⟩ ?_
  exact ge
 |none=>
  rw [Ac2 hq] at hF
  have h:=AcA l e hn l.length 0 (by omega)
  rw [List.drop_zero] at h
  unfold ins
  cases hp:l.findIdx? fun x=>decide (x.id≥e.id) with
  |some k=>
   rw [hp] at h
   simp only [Nat.zero_add] at h
   have hk:=(List.findIdx?_eq_some_iff_getElem.1 hp).1
   refine qq ?_
   refine gg [.a _ _,.b (flats [ti (-1)]) true,.b (decide (-1≥0)) false,.a _ _,.w (0≤(k:Int)),.n (zy (k:Int)) k,.w ((0:Nat)≤k∧k≤zq (zz zm l)),.l 0,.n (k-0) k,.w (0≤(k:Int)),.n (zy (k:Int)) k,.w (k≤zq (zz zm l)∧zq (zz zm l)≤zq (zz zm l)),.n (0+k) k,.n (zq (zz zm l)-k) (zq l-k)] ⟨o_a hF,bK,bK,o_a h,oW,nK,o_w ⟨(by omega),(by (simp [room,appendMax];omega))⟩,nK,oW,nK,o_w ⟨(by (simp [room,appendMax];omega)),(by omega)⟩,oN,o_n (by simp),trivial⟩ ?_
   refine bO ?_ ?_
   all_goals
    refine gg [.w ((0:Nat)<(72:Nat)),.t (qk 0 (zw k (zk 0 (zz zm l)))) (qk 0 (zz zm (zw k l))),.s (qk 0 (zz zm (zw k l))),.w (room (zq (zz zm (zw k l))) (72:Nat)),.w ((0:Nat)<(72:Nat)),.t (qk 0 [zm e]) (qk 0 (zz zm [e])),.t (qk 0 (zz zm (zw k l)++zz zm [e])) (qk 0 (zz zm (zw k l++ [e]))),.w (room (zq (zz zm (zw k l++ [e]))) (72:Nat)),.w ((0:Nat)<(72:Nat)),.t (qk 0 (zw (zq l-k) (zk k (zz zm l)))) (qk 0 (zz zm (zw (zq l-k) (zk k l)))),.t (qk 0 (zz zm (zw k l++ [e])++zz zm (zw (zq l-k) (zk k l)))) (qk 0 (zz zm (zw k l++ [e]++zw (zq l-k) (zk k l)))),.w (room (zq (zz zm (zw k l++ [e]++zw (zq l-k) (zk k l)))) (72:Nat))] ⟨oW,o_l (nm_eq (AaQ (AbB rfl)) (by kernel_rfl)),o_w (by (simp [room,appendMax];omega)),oW,o_l (Aaf rfl Aap),o_l (Aam rfl rfl),o_w (by (simp [room,appendMax];omega)),oW,o_l (AaQ (AbB rfl)),o_l (Aam rfl rfl),o_w (by (simp [room,appendMax];omega)),trivial⟩ ?_
    refine rT (a:=qz qj [qy 1 none] [Ob.dead,qv 9 (zz zm (zw k l++ [e]++zw (zq l-k) (zk k l))) none false]) ?_
    (first|(simp;done)|(simp;rw [List.take_of_length_le (by simp)]))
  |none=>
   rw [hp] at h
   simp only at h
   refine qq ?_
   refine gg [.a _ _,.b (flats [ti (-1)]) true,.b (decide (-1≥0)) false,.a _ _,.w (0≤(↑(zq l):Int)),.n (zy (↑(zq l):Int)) (zq l),.w ((0:Nat)≤zq l∧zq l≤zq (zz zm l)),.l 0,.n (zq l-0) (zq l),.w (0≤(↑(zq l):Int)),.n (zy (↑(zq l):Int)) (zq l),.w (zq l≤zq (zz zm l)∧zq (zz zm l)≤zq (zz zm l)),.n (0+zq l) (zq l),.n (zq (zz zm l)-zq l) 0] ⟨o_a hF,bK,bK,o_a h,oW,nK,o_w ⟨(by omega),(by simp)⟩,nK,oW,nK,o_w ⟨(by simp),(by omega)⟩,oN,o_n (by simp),trivial⟩ ?_
   refine bO ?_ ?_
   all_goals
    refine gg [.w ((0:Nat)<(72:Nat)),.t (qk 0 (zw (zq l) (zk 0 (zz zm l)))) (qk 0 (zz zm l)),.s (qk 0 (zz zm l)),.w (room (zq (zz zm l)) (72:Nat)),.w ((0:Nat)<(72:Nat)),.t (qk 0 [zm e]) (qk 0 (zz zm [e])),.t (qk 0 (zz zm l++zz zm [e])) (qk 0 (zz zm (l++ [e]))),.w (room (zq (zz zm (l++ [e]))) (72:Nat)),.w ((0:Nat)<(72:Nat)),.s (qk 0 []),.t (qk 0 (zz zm (l++ [e])++ [])) (qk 0 (zz zm (l++ [e]))),.w (room (zq (zz zm (l++ [e]))) (72:Nat))] ⟨oW,o_l (nm_eq (AaQ (AbB rfl)) (by simp)),o_w (by (simp [room,appendMax];omega)),oW,o_l (Aaf rfl Aap),o_l (Aam rfl rfl),o_w (by (simp [room,appendMax];omega)),oW,o_l (nm_eq (Aam rfl Aap) (by simp)),o_w (by (simp [room,appendMax];omega)),trivial⟩ ?_
    refine rT (a:=qz qj [qy 1 none] [Ob.dead,qv 9 (zz zm (l++ [e])) none false]) ?_
    (first|(simp;done)|(simp;rw [List.take_of_length_le (by simp)]))
end Go.Eva.S4
namespace Go.Eva
abbrev Srt (l:List Entity):Prop:=l.Pairwise fun a b=>a.id<b.id
theorem AiT: ∀ {l:List Entity},sortedL l=true↔Srt l
 | []=>by simp [sortedL]
 | [a]=>by simp [sortedL]
 |a::b::r=>by
  rw [sortedL,Bool.and_eq_true,decide_eq_true_eq,@AiT (b::r),Srt,Srt,List.pairwise_cons (a:=a)]
  constructor
  ·rintro ⟨h1,h2⟩
   refine ⟨fun x hx=> ?_,h2⟩
   rcases List.mem_cons.1 hx with rfl|hx
   ·exact h1
   ·have:=(List.pairwise_cons.1 h2).1 x hx;omega
  ·rintro ⟨h1,h2⟩
   exact ⟨h1 b (List.mem_cons_self ..),h2⟩
theorem Am1 {e:Entity}:ins [] e= [e]:=rfl
theorem Aoz {y e:Entity} {l:List Entity} (h:e.id≤y.id):ins (y::l) e=e::y::l:=by
 unfold ins
 rw [List.findIdx?_cons,show decide (y.id≥e.id)=true by simpa using h]
 rfl
theorem Ao5 {y e:Entity} {l:List Entity} (h:y.id<e.id):ins (y::l) e=y::ins l e:=by
 unfold ins
 rw [List.findIdx?_cons,show decide (y.id≥e.id)=false by simpa using h]
 cases l.findIdx? fun x=>decide (x.id≥e.id)<;>simp
theorem AhN {e x:Entity}: ∀ {l:List Entity},x∈ins l e↔x=e∨x∈l
 | []=>by simp [Am1]
 |y::l=>by
  rcases Int.lt_or_le y.id e.id with h|h
  ·rw [Ao5 h,List.mem_cons,AhN,List.mem_cons]
   constructor<;>(intro h;rcases h with h|h|h<;>simp [h])
  ·rw [Aoz h];simp
theorem AiC {e:Entity}: ∀ {l:List Entity},Srt l→(∀x∈l,x.id≠e.id)→Srt (ins l e)
 | [],_,_=>by simp [Am1,Srt]
 |y::l,h,hne=>by
  obtain ⟨h1,h2⟩:=List.pairwise_cons.1 h
  rcases Int.lt_or_le y.id e.id with hy|hy
  ·rw [Ao5 hy]
   refine List.pairwise_cons.2 ⟨fun x hx=> ?_,AiC h2 fun x hx=>hne x (List.mem_cons_of_mem _ hx)⟩
   rcases AhN.1 hx with rfl|hx
   ·exact hy
   ·exact h1 x hx
  ·rw [Aoz hy]
   have hyy:=hne y (List.mem_cons_self ..)
   refine List.pairwise_cons.2 ⟨fun x hx=> ?_,h⟩
   rcases List.mem_cons.1 hx with rfl|hx
   ·omega
   ·have:=h1 x hx;omega
theorem no_id {l:List Entity} {id:Int} (h:l.findIdx? (fun x=>x.id==id)=none): ∀x∈l,x.id≠id:=by
 intro x hx
 have:=List.findIdx?_eq_none_iff.1 h x hx
 simpa using this
theorem an_id [Inhabited Entity] {l:List Entity} {id:Int} {k:Nat} (h:l.findIdx? (fun x=>x.id==id)=some k):k<l.length∧(gt l k).id=id∧gt l k∈l:=by
 obtain ⟨hk,h1,_⟩:=List.findIdx?_eq_some_iff_getElem.1 h
 exact ⟨hk,by rw [gt_eq hk];simpa using h1,Aa3 hk⟩
theorem AaC {l:List Entity} {e:Entity} (h:Srt l):Srt (put1 l e):=by
 unfold put1
 split
 ·exact h
 ·rename_i hq;exact AiC h (no_id hq)
theorem Ac1 {l:List Entity} {e:Entity}: ∀x∈l,x∈put1 l e:=by
 intro x hx
 unfold put1
 split
 ·exact hx
 ·exact AhN.2 (.inr hx)
theorem AnZ {l:List Entity} {id:Int} (h: ∃x∈l,x.id=id): ∃k:Nat,l.findIdx? (fun x=>x.id==id)=some k:=by
 cases hq:l.findIdx? fun x=>x.id==id with
 |some k=>exact ⟨k,rfl⟩
 |none=>
  obtain ⟨x,hx,he⟩:=h
  exact absurd he (no_id hq x hx)
theorem Ai0 {l:List Entity}:(l.countP fun e=>e.kind !=1)+(l.countP fun e=>e.kind==1)=l.length:=by
 induction l with
 |nil=>rfl
 |cons e l ih=>
  simp only [List.countP_cons,List.length_cons]
  by_cases h:e.kind=1
  ·simp [h];omega
  ·simp [h];omega
theorem drop_drop {l:List Entity} {id:Int}:drops (drops l [id]) [id,id]=drops l [id]:=by
 unfold drops
 rw [List.filter_filter]
 congr 1
 funext x
 simp [has]
end Go.Eva
namespace Go.Eva
def u1 (n k:Int):Int:=1+(IntKind.u64.wrap n).tmod k
def Config.play (c:Config):Config:=if c.right=true∧c.cols≤3∧c.rows≤3∧c.players≤4 then c else ⟨u1 c.cols 3,u1 c.rows 3,u1 c.players 4,u1 c.window 8,c.seed⟩
theorem Amh {n:Int}:0≤IntKind.u64.wrap n:=by simp [zp,IntKind.bits,IntKind.signed];omega
theorem AbP {n k:Int} (hk:0<k):0≤(IntKind.u64.wrap n).tmod k∧(IntKind.u64.wrap n).tmod k<k:=AaE hk Amh
theorem Config.play_ok {c:Config}:c.play.right=true∧(1≤c.play.cols∧c.play.cols≤3)∧(1≤c.play.rows∧c.play.rows≤3)∧(1≤c.play.players∧c.play.players≤4)∧1≤c.play.window∧c.play.window≤16:=by
 unfold Config.play
 split
 ·rename_i h
  have:=Config.right_iff.1 h.1
  exact ⟨h.1,by omega,by omega,by omega,by omega⟩
 ·have h1:= @AbP c.cols 3 (by decide)
  have h2:= @AbP c.rows 3 (by decide)
  have h3:= @AbP c.players 4 (by decide)
  have h4:= @AbP c.window 8 (by decide)
  simp only [Config.right_iff,u1]
  omega
theorem Config.grid_of {c:Config} (h:c.right=true):c.grid=c:=by simp [Config.grid,h]
theorem Config.err_of {c:Config} (h:c.right=true):c.err=0:=by simp [Config.err,h]
end Go.Eva
namespace Go.Eva
def cmpI (x y:Int):Int:=if x<y then-1 else if x>y then 1 else 0
def orI:List Int→Int
 | []=>0
 |x::r=>if x≠0 then x else orI r
def Cross.cmp (a b:Cross):Int:=
 if orI [cmpI a.to b.to,cmpI a.kind b.kind]≠0 then orI [cmpI a.to b.to,cmpI a.kind b.kind]
 else if a.kind=1 then cmpI a.ent.id b.ent.id
 else orI [cmpI a.x b.x,cmpI a.y b.y]
def Cross.less (a b:Cross):Bool:=decide (a.cmp b<0)
def toL (l:List Cross) (r:Int):List Cross:=l.filter fun c=>decide (c.to=r)
theorem AeL {x y:Int}:cmpI x y<0↔x<y:=by unfold cmpI;split<;>(try split)<;>omega
theorem AcF {x y:Int}:cmpI x y=0↔x=y:=by unfold cmpI;split<;>(try split)<;>omega
theorem AmA {x y:Int}:orI [x,y]<0↔x<0∨x=0∧y<0:=by unfold orI orI orI;split<;>(try split)<;>omega
theorem Alj {x y:Int}:orI [x,y]=0↔x=0∧y=0:=by unfold orI orI orI;split<;>(try split)<;>omega
theorem Acv {a b:Cross}:a.less b=true↔(a.to<b.to∨a.to=b.to∧(a.kind<b.kind∨a.kind=b.kind∧(a.kind=1∧a.ent.id<b.ent.id∨a.kind≠1∧(a.x<b.x∨a.x=b.x∧a.y<b.y)))):=by
 unfold Cross.less Cross.cmp
 rw [decide_eq_true_eq]
 split
 ·rename_i h
  rw [Ne,Alj,AcF,AcF] at h
  rw [AmA,AeL,AeL,AcF]
  omega
 ·rename_i h
  rw [Ne,Alj,AcF,AcF] at h
  split
  ·rw [AeL];omega
  ·rw [AmA,AeL,AeL,AcF];omega
end Go.Eva
namespace Go.Eva
def colsL (base col:Int):Nat→List Int
 |0=> []
 |d+1=>(base+col)::colsL base (col+1) d
def rowsL (cols lo:Int) (w:Nat) (row:Int):Nat→List Int
 |0=> []
 |d+1=>colsL (row*cols) lo w++rowsL cols lo w (row+1) d
def loI (q:Int):Int:=maxI (q-1) 0
def hiI (q n:Int):Int:=minI (q+1) (n-1)
def nearP (cols rows r:Int):List Int:=
 rowsL cols (loI (r.tmod cols)) (hiI (r.tmod cols) cols+1-loI (r.tmod cols)).toNat (loI (r.tdiv cols)) (hiI (r.tdiv cols) rows+1-loI (r.tdiv cols)).toNat
def isNear (cols r n:Int):Bool:=decide (-1≤n.tmod cols-r.tmod cols∧n.tmod cols-r.tmod cols≤1∧ -1≤n.tdiv cols-r.tdiv cols∧n.tdiv cols-r.tdiv cols≤1)
def nearR (cols r:Int) (n:Int):Nat→List Int
 |0=> []
 |d+1=>(if isNear cols r n=true then [n] else [])++nearR cols r (n+1) d
def Config.near (c:Config) (r:Int):List Int:=if c.is r=true then nearP c.cols c.rows r else []
theorem An3 {cols rows r:Int} (hc:1≤cols∧cols≤4) (hr:1≤rows∧rows≤4) (h:0≤r∧r<cols*rows):nearR cols r 0 (cols*rows).toNat=nearP cols rows r:=by
 have key: ∀a∈ [1,2,3,4],∀b∈ [1,2,3,4],∀k∈List.range (a*b),nearR (a:Nat) (k:Nat) 0 ((a:Int)*(b:Nat)).toNat=nearP (a:Nat) (b:Nat) (k:Nat):=by decide+kernel
 obtain ⟨a,rfl⟩: ∃a:Nat,cols=a:=⟨cols.toNat,by omega⟩
 obtain ⟨b,rfl⟩: ∃b:Nat,rows=b:=⟨rows.toNat,by omega⟩
 obtain ⟨k,rfl⟩: ∃k:Nat,r=k:=⟨r.toNat,by omega⟩
 refine key a ?_ b ?_ k ?_
 ·have:a=1∨a=2∨a=3∨a=4:=by omega
  simpa using this
 ·have:b=1∨b=2∨b=3∨b=4:=by omega
  simpa using this
 ·rw [List.mem_range]
  have:=h.2
  exact_mod_cast this
theorem Aov {cols rows r:Int} (hc:1≤cols∧cols≤4) (hr:1≤rows∧rows≤4) (h:0≤r∧r<cols*rows):(nearP cols rows r).length≤9:=by
 have key: ∀a∈ [1,2,3,4],∀b∈ [1,2,3,4],∀k∈List.range (a*b),(nearP (a:Nat) (b:Nat) (k:Nat)).length≤9:=by decide+kernel
 obtain ⟨a,rfl⟩: ∃a:Nat,cols=a:=⟨cols.toNat,by omega⟩
 obtain ⟨b,rfl⟩: ∃b:Nat,rows=b:=⟨rows.toNat,by omega⟩
 obtain ⟨k,rfl⟩: ∃k:Nat,r=k:=⟨r.toNat,by omega⟩
 refine key a ?_ b ?_ k ?_
 ·have:a=1∨a=2∨a=3∨a=4:=by omega
  simpa using this
 ·have:b=1∨b=2∨b=3∨b=4:=by omega
  simpa using this
 ·rw [List.mem_range]
  have:=h.2
  exact_mod_cast this
theorem Config.is_iff {c:Config} {r:Int} (h:c.right=true):c.is r=true↔0≤r∧r<c.cols*c.rows:=by
 simp only [Config.is,Aad,z0,h,if_true];omega
theorem Config.is_right {c:Config} {r:Int} (h:c.is r=true):c.right=true:=by
 cases hr:c.right with
 |true=>rfl
 |false=>
  exfalso
  simp only [Config.is,Aad,z0,hr,Bool.false_eq_true,if_false] at h
  omega
theorem Aa0 {c:Config} {r:Int}:(c.near r).length≤9:=by
 unfold Config.near
 split
 ·rename_i h
  have hr:=Config.is_right h
  obtain ⟨hc,hrr,_⟩:=Config.right_iff.1 hr
  exact Aov hc hrr ((Config.is_iff hr).1 h)
 ·simp
def Entity.zero:Entity:=⟨0,0,0,0,0,0,0,0,0⟩
def Cross.right (c:Config) (m:Cross):Bool:=has (c.near m.frm) m.to&&within m.frame 0 9999&&
 (if m.kind=1 then m.ent.right c&&decide (c.of m.ent.x m.ent.y=m.to)&&decide (m.x=0)&&decide (m.y=0)&& !decide (m.to=m.frm)
  else if m.kind=2 then c.inside m.x m.y&&decide (m.ent=Entity.zero) else false)
theorem Aau {e:Entity}:teq e.enc (.agg [ti 0,ti 0,ti 0,ti 0,ti 0,ti 0,ti 0,ti 0,ti 0])=decide (e=Entity.zero):=Ak5 (b:=Entity.zero)
theorem teq_zero' {e:Entity}:teq (.agg [ti e.id,ti e.kind,ti e.x,ti e.y,ti e.vx,ti e.vy,ti e.health,ti e.age,ti e.owner]) (.agg [ti 0,ti 0,ti 0,ti 0,ti 0,ti 0,ti 0,ti 0,ti 0])=decide (e=Entity.zero):=Ak5 (b:=Entity.zero)
theorem Config.grid_of_not {c:Config} (h:c.right=false):c.grid=Config.zero:=by simp [Config.grid,h]
theorem Config.is_false {c:Config} {r:Int} (h:c.right=false):c.is r=false:=by
 cases hi:c.is r with
 |false=>rfl
 |true=>rw [Config.is_right hi] at h;contradiction
theorem AmQ {c:Config} {r:Int}:c.grid.near r=c.near r:=by
 cases h:c.right with
 |true=>rw [Config.grid_of h]
 |false=>rw [Config.grid_of_not h];simp [Config.near,Config.is_false h,Config.is_false (c:=Config.zero) rfl]
end Go.Eva
namespace Go.Eva
abbrev w64u (n:Int):Int:=IntKind.u64.wrap n
def x33 (x:Int):Int:=w64u ((zb 64 x^^^zb 64 (x.fdiv 8589934592)).toNat:Nat)
def mix (x:Int):Int:=x33 (w64u (x33 (w64u (x33 x*18397679294719823053))*14181476777654086739))
def atStep (h v:Int):Int:=mix (w64u (w64u (h+w64u v)+11400714819323198485))
def chanceAt (seed:Int) (l:List Int):Int:=l.foldl atStep (mix seed)
def below (n seed:Int) (l:List Int):Int:=if n<1 then 0 else (chanceAt seed l).tmod n
theorem Apl {x:Int}:0≤x33 x∧x33 x≤18446744073709551615:=by
 unfold x33 w64u
 simp [zp,IntKind.bits,IntKind.signed];omega
theorem AoB {x:Int}:0≤mix x∧mix x≤18446744073709551615:=Apl
theorem at_le {seed:Int} {l:List Int}:0≤chanceAt seed l∧chanceAt seed l≤18446744073709551615:=by
 unfold chanceAt
 rcases List.eq_nil_or_concat l with rfl|⟨l',v,rfl⟩
 ·exact AoB
 ·rw [List.concat_eq_append,List.foldl_append];exact AoB
theorem Acr {n seed:Int} {l:List Int} (h:1≤n):0≤below n seed l∧below n seed l<n:=by
 unfold below
 rw [if_neg (by omega)]
 exact AaE (by omega) at_le.1
def held (v:Int):Int:=clamp v (-2147483647) 2147483647
def subH (a b:Int):Int:=held (held a-held b)
def sumStep (s v:Int):Int:=held (s+held v)
def sumH (l:List Int):Int:=l.foldl sumStep 0
def sizeI (v:Int):Int:=maxI v (0-v)
def farI (ax ay bx y:Int):Int:=maxI (sizeI (subH ax bx)) (sizeI (subH ay y))
theorem Abe {v:Int}: -2147483647≤held v∧held v≤2147483647:=Acz (by decide)
theorem Aen {v:Int} (h: -2147483647≤v∧v≤2147483647):held v=v:=by unfold held clamp;rw [if_neg (by omega),if_neg (by omega)]
theorem AgN {x v:Int} (hx: -1000000000≤x∧x≤1000000000) (hv: -1000000000≤v∧v≤1000000000):sumH [x,v]=x+v:=by
 simp only [sumH,sumStep,List.foldl_cons,List.foldl_nil]
 rw [Aen (v:=x) (by omega),Aen (v:=v) (by omega),Aen (v:=0+x) (by omega),Aen (by omega)]
 omega
def Input.right (i:Input):Bool:=within i.dx (-2) 2&&within i.dy (-2) 2
def Input.zero:Input:=⟨0,0,false⟩
def steerE (e:Entity) (i:Input):Entity×Bool:=
 if e.kind≠1∨i.right=false then (e,false)
 else if i.fire=true∧e.age=0 then ({e with vx:=i.dx*32,vy:=i.dy*32,age:=6},true)
 else ({e with vx:=i.dx*32,vy:=i.dy*32,age:=maxI e.age 1-1},false)
def paceD (d:Int):Int:=clamp d (-1) 1*160
def shootE (e:Entity) (i:Input) (id:Int):Entity:=⟨id,2,e.x,e.y,if paceD i.dx=0∧paceD i.dy=0 then 160 else paceD i.dx,paceD i.dy,1,0,e.id⟩
def goE (c:Config) (e:Entity):Entity×Bool:=
 if e.right c=false then (Entity.zero,false)
 else if e.kind=2 then
  (if e.age+1>12∨c.inside (sumH [e.x,e.vx]) (sumH [e.y,e.vy])=false then (Entity.zero,false)
   else ({e with x:=clamp (sumH [e.x,e.vx]) 0 (c.width-1),y:=clamp (sumH [e.y,e.vy]) 0 (c.height-1),age:=e.age+1},true))
 else ({e with x:=clamp (sumH [e.x,e.vx]) 0 (c.width-1),y:=clamp (sumH [e.y,e.vy]) 0 (c.height-1)},true)
def nearE (e:Entity) (x y far:Int):Bool:=decide (farI e.x e.y x y≤far)
section
variable (kind far:Int) (other:Entity→Entity→Bool) (turn:Int→Int)
def meetP (t p:Entity):Bool:=decide (p.kind=1)&&(other t p&&nearE p t.x t.y far)
def meet1 (out:List Entity) (gone:List Bool) (i:Nat):List Entity×List Bool:=
 if (gt out i).kind=kind then (match out.findIdx? (meetP far other (gt out i)) with
  |some k=>(out.set k {gt out k with health:=turn (gt out k).health},gone.set i true)
  |none=>(out,gone))
 else (out,gone)
def meetN:Nat→Nat→List Entity→List Bool→List Entity×List Bool
 |0,_,out,gone=>(out,gone)
 |d+1,i,out,gone=>meetN d (i+1) (meet1 kind far other turn out gone i).1 (meet1 kind far other turn out gone i).2
end
def keepL:List Entity→List Bool→List Entity
 |e::l,b::g=>(if b=true then [] else [e])++keepL l g
 |_,_=> []
def meetL (kind far:Int) (other:Entity→Entity→Bool) (turn:Int→Int) (l:List Entity):List Entity:=
 keepL (meetN kind far other turn l.length 0 l (zj l.length false)).1 (meetN kind far other turn l.length 0 l (zj l.length false)).2
def shotsL (l:List Entity):List Entity:=meetL 2 24 (fun s p=>decide (p.id≠s.owner)) (fun h=>subH h 20) l
def gemsL (l:List Entity):List Entity:=meetL 3 32 (fun _ _=>true) (fun h=>minI (sumH [h,25]) 100) l
def hurtE (b:Cross) (e:Entity):Entity:=if b.kind=2∧e.kind=1∧nearE e b.x b.y 128=true then {e with health:=subH e.health 10} else e
def blastsL (l:List Entity) (bs:List Cross):List Entity:=bs.foldl (fun l b=>l.map (hurtE b)) l
def fallenP (e:Entity):Bool:=decide (e.kind=1)&&decide (e.health≤0)
def fallenL (l:List Entity):List Int:=(l.filter fallenP).map Entity.id
def regionRight (c:Config) (r:Int) (s:Region):Bool:=
 c.is r&&within s.frame 0 10000&&sortedL s.ents&&decide (things s.ents≤24)&&s.ents.all fun e=>e.right c&&decide (c.of e.x e.y=r)
def arrive1 (l:List Entity) (m:Cross):List Entity:=if m.kind=1∧(m.ent.kind=1∨things l<24) then put1 l m.ent else l
def arriveL (l:List Entity) (inbox:List Cross):List Entity:=inbox.foldl arrive1 l
def presentL (l:List Entity) (inbox:List Cross):List Int:=((arriveL l inbox).filter fun e=>decide (e.kind=1)).map Entity.id
def askedE (c:Config) (r:Int) (s:Region) (ins:List Input) (inbox:List Cross):Int:=
 if c.is r=false then 13
 else if regionRight c r s=false then 4
 else if (ins.length:Int)≠c.players∨(ins.any fun i=> !i.right)=true then 11
 else if (inbox.any fun m=> !(m.right c&&decide (m.to=r)&&decide (m.frame=s.frame-1)))=true then 1
 else if s.frame=10000 then 16
 else 0
end Go.Eva
namespace Go.Eva
structure Swo {α:Type} (lt:α→α→Bool):Prop where
 asymm: ∀ {x y},lt x y=true→lt y x=false
 ntrans: ∀ {x y z},lt x y=false→lt y z=false→lt x z=false
section
variable {α:Type} {lt:α→α→Bool}
abbrev Sd (lt:α→α→Bool) (l:List α):Prop:=l.Pairwise fun a b=>lt b a=false
def eqv (lt:α→α→Bool) (x y:α):Bool:= !lt x y&& !lt y x
def StEq (lt:α→α→Bool) (s l:List α):Prop:= ∀x,s.filter (eqv lt x)=l.filter (eqv lt x)
theorem Swo.irr (h:Swo lt) (x:α):lt x x=false:=by
 cases hx:lt x x with
 |false=>rfl
 |true=>exact absurd (h.asymm hx) (by rw [hx];simp)
theorem Swo.trans (h:Swo lt) {x y z:α} (h1:lt x y=true) (h2:lt y z=true):lt x z=true:=by
 cases hx:lt x z with
 |true=>rfl
 |false=>
  have:=h.ntrans hx (h.asymm h2)
  rw [h1] at this
  contradiction
theorem Swo.lt_le (h:Swo lt) {x y z:α} (h1:lt x y=true) (h2:lt z y=false):lt x z=true:=by
 cases hx:lt x z with
 |true=>rfl
 |false=>exact absurd (h.ntrans hx h2) (by rw [h1];simp)
theorem Swo.le_lt (h:Swo lt) {x y z:α} (h1:lt y x=false) (h2:lt y z=true):lt x z=true:=by
 cases hx:lt x z with
 |true=>rfl
 |false=>exact absurd (h.ntrans h1 hx) (by rw [h2];simp)
theorem AjC (h:Swo lt) (x:α):eqv lt x x=true:=by simp [eqv,h.irr x]
theorem StEq.refl (l:List α):StEq lt l l:=fun _=>rfl
theorem StEq.symm {s l:List α} (h:StEq lt s l):StEq lt l s:=fun x=>(h x).symm
theorem StEq.trans {s l m:List α} (h:StEq lt s l) (k:StEq lt l m):StEq lt s m:=fun x=>(h x).trans (k x)
theorem StEq.append {s l s' l':List α} (h:StEq lt s l) (k:StEq lt s' l'):StEq lt (s++s') (l++l'):=fun x=>by rw [List.filter_append,List.filter_append,h x,k x]
theorem StEq.nil {s:List α} (hw:Swo lt) (h:StEq lt s []):s= []:=by
 cases s with
 |nil=>rfl
 |cons x s=>
  have:=h x
  rw [List.filter_cons,if_pos (AjC hw x)] at this
  simp at this
theorem StEq.mem {s l:List α} (hw:Swo lt) (h:StEq lt s l) {x:α} (hx:x∈s):x∈l:=by
 have:x∈s.filter (eqv lt x):=List.mem_filter.2 ⟨hx,AjC hw x⟩
 rw [h x] at this
 exact (List.mem_filter.1 this).1
theorem uniq (hw:Swo lt): ∀ {s t:List α},Sd lt s→Sd lt t→StEq lt s t→s=t
 | [],t,_,_,h=>(h.symm.nil hw).symm
 |x::s,[],_,_,h=>h.nil hw
 |x::s,y::t,hs,ht,h=>by
  have hx:x∈y::t:=h.mem hw (List.mem_cons_self ..)
  have hy:y∈x::s:=h.symm.mem hw (List.mem_cons_self ..)
  obtain ⟨h1,h2⟩:=List.pairwise_cons.1 hs
  obtain ⟨h3,h4⟩:=List.pairwise_cons.1 ht
  have e1:lt x y=false:=by
   rcases List.mem_cons.1 hx with rfl|hx
   ·exact hw.irr _
   ·exact h3 x hx
  have e2:lt y x=false:=by
   rcases List.mem_cons.1 hy with rfl|hy
   ·exact hw.irr _
   ·exact h1 y hy
  have e3:eqv lt x y=true:=by simp [eqv,e1,e2]
  have:=h x
  rw [List.filter_cons,if_pos (AjC hw x),List.filter_cons,if_pos e3] at this
  obtain ⟨rfl,_⟩:=List.cons.inj this
  have h5:StEq lt s t:=by
   intro z
   have:=h z
   rw [List.filter_cons,List.filter_cons] at this
   split at this
   ·exact (List.cons.inj this).2
   ·exact this
  rw [uniq hw h2 h4 h5]
theorem StEq.swap (hw:Swo lt) {u v:List α} (h: ∀x∈v,∀y∈u,lt x y=true):StEq lt (u++v) (v++u):=by
 intro z
 rw [List.filter_append,List.filter_append]
 by_cases hu: ∃y∈u,eqv lt z y=true
 ·obtain ⟨y,hy,hzy⟩:=hu
  have:v.filter (eqv lt z)= []:=by
   rw [List.filter_eq_nil_iff]
   intro x hx hzx
   have hxy:=h x hx y hy
   simp only [eqv,Bool.and_eq_true,Bool.not_eq_true'] at hzy hzx
   have:=hw.ntrans hzx.2 hzy.1
   rw [hxy] at this
   contradiction
  rw [this];simp
 ·have:u.filter (eqv lt z)= []:=by
   rw [List.filter_eq_nil_iff]
   intro y hy hzy
   exact hu ⟨y,hy,hzy⟩
  rw [this];simp
def insS (lt:α→α→Bool):List α→α→List α
 | [],x=> [x]
 |y::l,x=>match lt x y with
  |true=>x::y::l
  |false=>y::insS lt l x
def sortS (lt:α→α→Bool) (l:List α):List α:=l.foldl (insS lt) []
theorem AlH {x z:α}: ∀ {l:List α},z∈insS lt l x↔z=x∨z∈l
 | []=>by simp [insS]
 |y::l=>by
  simp only [insS]
  cases lt x y with
  |true=>simp
  |false=>
   simp only [List.mem_cons,AlH]
   constructor<;>(intro h;rcases h with h|h|h<;>simp [h])
theorem Aik (hw:Swo lt) {x:α}: ∀ {l:List α},Sd lt l→Sd lt (insS lt l x)
 | [],_=>by simp [insS,Sd]
 |y::l,h=>by
  obtain ⟨h1,h2⟩:=List.pairwise_cons.1 h
  simp only [insS]
  cases hxy:lt x y with
  |true=>
   refine List.pairwise_cons.2 ⟨fun z hz=> ?_,h⟩
   rcases List.mem_cons.1 hz with rfl|hz
   ·exact hw.asymm hxy
   ·exact hw.ntrans (h1 z hz) (hw.asymm hxy)
  |false=>
   refine List.pairwise_cons.2 ⟨fun z hz=> ?_,Aik hw h2⟩
   rcases AlH.1 hz with rfl|hz
   ·exact hxy
   ·exact h1 z hz
theorem AkA (hw:Swo lt) {x:α}: ∀ {l:List α},Sd lt l→StEq lt (insS lt l x) (l++ [x])
 | [],_=> .refl _
 |y::l,h=>by
  obtain ⟨h1,h2⟩:=List.pairwise_cons.1 h
  simp only [insS]
  cases hxy:lt x y with
  |true=>
   have:StEq lt ((y::l)++ [x]) ([x]++(y::l)):= .swap hw fun a ha b hb=>by
    simp at ha;subst ha
    rcases List.mem_cons.1 hb with rfl|hb
    ·exact hxy
    ·exact hw.lt_le hxy (h1 b hb)
   exact this.symm
  |false=>exact StEq.append (s:= [y]) (l:= [y]) (.refl _) (AkA hw h2)
theorem Aj6 (hw:Swo lt): ∀ {l acc:List α},Sd lt acc→Sd lt (l.foldl (insS lt) acc)∧StEq lt (l.foldl (insS lt) acc) (acc++l)
 | [],acc,h=>⟨h,by simpa using StEq.refl acc⟩
 |x::l,acc,h=>by
  obtain ⟨h1,h2⟩:=Aj6 hw (l:=l) (Aik hw (x:=x) h)
  refine ⟨h1,h2.trans ?_⟩
  have:=StEq.append (AkA hw (x:=x) h) (StEq.refl (lt:=lt) l)
  simpa using this
theorem AaO (hw:Swo lt) (l:List α):Sd lt (sortS lt l):=(Aj6 hw (by simp [Sd])).1
theorem AaL (hw:Swo lt) (l:List α):StEq lt (sortS lt l) l:=by
 have:=(Aj6 hw (l:=l) (acc:= []) (by simp [Sd])).2
 simpa [sortS] using this
theorem AfR (hw:Swo lt) {s l:List α} (h:Sd lt s) (k:StEq lt s l):s=sortS lt l:=uniq hw h (AaO hw l) (k.trans (AaL hw l).symm)
theorem StEq.len (hw:Swo lt): ∀ {s l:List α},Sd lt s→StEq lt s l→s.length=l.length:=by
 intro s l hs h
 rw [AfR hw hs h]
 have: ∀(l acc:List α),(l.foldl (insS lt) acc).length=acc.length+l.length:=by
  intro l
  induction l with
  |nil=>simp
  |cons x l ih=>
   intro acc
   have: ∀acc:List α,(insS lt acc x).length=acc.length+1:=by
    intro acc
    induction acc with
    |nil=>rfl
    |cons y acc ih=>simp only [insS];cases lt x y<;>simp [ih]
   simp [ih,this];omega
 simpa [sortS] using this l []
theorem AaM (hw:Swo lt) (l:List α):(sortS lt l).length=l.length:=StEq.len hw (AaO hw l) (AaL hw l)
theorem Aa5 (hw:Swo lt) {l:List α} (h:Sd lt l):sortS lt l=l:=(AfR hw h (.refl l)).symm
theorem Ak9 (hw:Swo lt) {u1 u2 v1 v2:List α} (h1: ∀x∈v1,∀y∈u2,lt x y=true) (h2: ∀x∈u1++v1,∀y∈u2++v2,lt y x=false):
  sortS lt (u1++v1)++sortS lt (u2++v2)=sortS lt ((u1++u2)++(v1++v2)):=by
 refine AfR hw ?_ ?_
 ·refine List.pairwise_append.2 ⟨AaO hw _,AaO hw _,fun x hx y hy=> ?_⟩
  exact h2 x ((AaL hw _).mem hw hx) y ((AaL hw _).mem hw hy)
 ·refine ((AaL hw _).append (AaL hw _)).trans ?_
  have h3:StEq lt (v1++u2) (u2++v1):=(StEq.swap hw h1).symm
  have:=((StEq.refl (lt:=lt) u1).append h3).append (StEq.refl v2)
  simpa [List.append_assoc] using this
end
end Go.Eva
namespace Go.Eva
theorem Ad6:Swo Cross.less:=by
 refine ⟨fun {x y} h=> ?_,fun {x y z} h k=> ?_⟩
 ·rw [Acv] at h
  rw [←Bool.not_eq_true,Acv]
  omega
 ·rw [←Bool.not_eq_true,Acv] at*
  omega
theorem Aaq:Swo Cross.less:=Ad6
def Entity.cmp (a b:Entity):Int:=cmpI a.id b.id
def Entity.less (a b:Entity):Bool:=decide (a.cmp b<0)
theorem Aii {a b:Entity}:a.less b=true↔a.id<b.id:=by
 unfold Entity.less Entity.cmp
 rw [decide_eq_true_eq,AeL]
theorem Aak:Swo Entity.less:=by
 refine ⟨fun {x y} h=> ?_,fun {x y z} h k=> ?_⟩
 ·rw [Aii] at h
  rw [←Bool.not_eq_true,Aii]
  omega
 ·rw [←Bool.not_eq_true,Aii] at*
  omega
def bs (P:Nat→Bool):Nat→Nat→Nat→Nat
 |0,i,_=>i
 |d+1,i,j=>if i<j then (match P ((i+j)/2) with|true=>bs P d ((i+j)/2+1) j|false=>bs P d i ((i+j)/2)) else i
theorem bs_ok {P:Nat→Bool}: ∀ {d i j:Nat},i≤j→j≤i+d→(∀h h',i≤h→h≤h'→h'<j→P h'=true→P h=true)→
  i≤bs P d i j∧bs P d i j≤j∧(∀h,i≤h→h<bs P d i j→P h=true)∧(∀h,bs P d i j≤h→h<j→P h=false)
 |0,i,j,h1,h2,_=>by
  simp only [bs]
  exact ⟨Nat.le_refl _,h1,fun h a b=>by omega,fun h a b=>by omega⟩
 |d+1,i,j,h1,h2,hm=>by
  simp only [bs]
  by_cases hij:i<j
  ·rw [if_pos hij]
   have hh:i≤(i+j)/2∧(i+j)/2<j:=by omega
   cases hp:P ((i+j)/2) with
   |true=>
    simp only
    obtain ⟨k1,k2,k3,k4⟩:=bs_ok (P:=P) (d:=d) (i:=(i+j)/2+1) (j:=j) (by omega) (by omega) (fun h h' a b c e=>hm h h' (by omega) b c e)
    refine ⟨by omega,k2,fun h a b=> ?_,k4⟩
    by_cases hc:h≤(i+j)/2
    ·exact hm h _ a hc hh.2 hp
    ·exact k3 h (by omega) b
   |false=>
    simp only
    obtain ⟨k1,k2,k3,k4⟩:=bs_ok (P:=P) (d:=d) (i:=i) (j:=(i+j)/2) (by omega) (by omega) (fun h h' a b c e=>hm h h' a b (by omega) e)
    refine ⟨k1,by omega,k3,fun h a b=> ?_⟩
    by_cases hc:h<(i+j)/2
    ·exact k4 h a hc
    ·cases hq:P h with
     |false=>rfl
     |true=>
      have:=hm _ h hh.1 (by omega) b hq
      rw [hp] at this
      contradiction
  ·rw [if_neg hij]
   exact ⟨Nat.le_refl _,h1,fun h a b=>by omega,fun h a b=>by omega⟩
section
variable {α:Type} [Inhabited α]
def sw (A:List α) (i j:Nat):List α:=(A.set i (gt A j)).set j (gt A i)
theorem AaY (A:List α) (i j:Nat):(sw A i j).length=A.length:=by simp [sw]
theorem AlQ {A:List α} {i k:Nat} {x:α} (h:i<A.length):gt (A.set i x) k=if k=i then x else gt A k:=by
 unfold gt
 rw [List.getElem?_set]
 by_cases hk:i=k
 ·subst hk;simp [h]
 ·simp [hk,show¬k=i by omega]
theorem gt_sw {A:List α} {i j k:Nat} (hi:i<A.length) (hj:j<A.length):gt (sw A i j) k=if k=j then gt A i else if k=i then gt A j else gt A k:=by
 unfold sw
 rw [AlQ (by simpa using hj),AlQ hi]
theorem Ak2 {A B:List α} (h:A.length=B.length) (k: ∀i,i<A.length→gt A i=gt B i):A=B:=by
 apply List.ext_getElem h
 intro i h1 h2
 have:=k i h1
 rwa [gt_eq h1,gt_eq h2] at this
theorem Aks {A B:List α} {i:Nat}:gt (A++B) i=if i<A.length then gt A i else gt B (i-A.length):=by
 unfold gt
 rw [List.getElem?_append]
 split<;>rfl
def swR:Nat→List α→Nat→Nat→List α
 |0,A,_,_=>A
 |n+1,A,a,b=>swR n (sw A a b) (a+1) (b+1)
theorem AaI: ∀(n:Nat) (A:List α) (a b:Nat),(swR n A a b).length=A.length
 |0,_,_,_=>rfl
 |n+1,A,a,b=>by rw [swR,AaI,AaY]
theorem Ao6: ∀ {n:Nat} {A:List α} {a b k:Nat},a+n≤b→b+n≤A.length→
  gt (swR n A a b) k=if a≤k∧k<a+n then gt A (b+(k-a)) else if b≤k∧k<b+n then gt A (a+(k-b)) else gt A k
 |0,A,a,b,k,_,_=>by
  simp only [swR]
  rw [if_neg (by omega),if_neg (by omega)]
 |n+1,A,a,b,k,h1,h2=>by
  rw [swR,Ao6 (by omega) (by rw [AaY];omega)]
  have g:=fun k=>gt_sw (A:=A) (i:=a) (j:=b) (k:=k) (by omega) (by omega)
  rw [g,g,g]
  repeat' split
  all_goals first|omega|rfl|(congr 1<;>omega)
theorem AmG {P X M Y Q:List α} (h:X.length=Y.length):swR X.length (P++X++M++Y++Q) P.length (P.length+X.length+M.length)=P++Y++M++X++Q:=by
 refine Ak2 (by rw [AaI];simp;omega) fun k hk=> ?_
 rw [Ao6 (by omega) (by simp;omega)]
 simp only [Aks,List.length_append]
 repeat' split
 all_goals first|omega|rfl|(congr 1<;>omega)
def up:Nat→List α→Nat→List α
 |0,A,_=>A
 |n+1,A,k=>up n (sw A k (k+1)) (k+1)
theorem up_eq {Q:List α} {x:α}: ∀ {V:List α} {P:List α},up V.length (P++x::V++Q) P.length=P++V++x::Q
 | [],P=>by simp [up]
 |y::V,P=>by
  rw [List.length_cons,up]
  have e:sw (P++x::y::V++Q) P.length (P.length+1)=(P++ [y])++x::V++Q:=by
   refine Ak2 (by rw [AaY];simp) fun k hk=> ?_
   rw [gt_sw (by simp) (by simp)]
   have g0:gt (P++x::y::V++Q) P.length=x:=by unfold gt;simp
   have g1:gt (P++x::y::V++Q) (P.length+1)=y:=by unfold gt;simp
   rw [g0,g1]
   unfold gt
   rcases Nat.lt_trichotomy k P.length with h|h|h
   ·rw [if_neg (by omega),if_neg (by omega)]
    rw [List.append_assoc,List.append_assoc,List.append_assoc,List.getElem?_append_left h,List.getElem?_append_left h]
   ·subst h;simp
   ·by_cases h1:k=P.length+1
    ·subst h1;simp
    ·rw [if_neg h1,if_neg (by omega)]
     obtain ⟨j,rfl⟩: ∃j,k=P.length+(j+2):=⟨k-P.length-2,by omega⟩
     simp [List.getElem?_append_right]
  rw [e]
  have:=up_eq (Q:=Q) (x:=x) (V:=V) (P:=P++ [y])
  simp only [List.length_append,List.length_cons,List.length_nil,Nat.zero_add] at this
  exact this.trans (by simp)
def down:Nat→List α→Nat→List α
 |0,A,_=>A
 |n+1,A,k=>down n (sw A k (k-1)) (k-1)
end
end Go.Eva
namespace Go.Eva
set_option linter.unusedSectionVars false
section
variable {α:Type} [Inhabited α]
theorem AgS {P Q:List α} {x:α} {k:Nat} (h:k=P.length):gt (P++x::Q) k=x:=by subst h;unfold gt;simp
theorem Ao4 {P Q:List α} {x y:α} {i j:Nat} (hi:i=P.length+1) (hj:j=P.length):sw (P++x::y::Q) i j=P++y::x::Q:=by
 subst hi hj
 have g0:gt (P++x::y::Q) P.length=x:=AgS rfl
 have g1:gt (P++x::y::Q) (P.length+1)=y:=by unfold gt;simp
 unfold sw
 rw [g0,g1]
 have e1:(P++x::y::Q).set (P.length+1) x=P++x::x::Q:=by
  rw [List.set_append,if_neg (by omega)];simp
 rw [e1,List.set_append,if_neg (by omega)];simp
theorem AoD {Q:List α} {x:α}: ∀ {n:Nat} {V P:List α} {k:Nat},n=V.length→k=P.length+V.length→down n (P++V++x::Q) k=P++x::V++Q:=by
 intro n
 induction n generalizing Q with
 |zero=>
  intro V P k h1 h2
  have:V= []:=List.eq_nil_of_length_eq_zero h1.symm
  subst this
  simp [down]
 |succ n ih=>
  intro V P k h1 h2
  obtain ⟨V',y,rfl⟩: ∃V' y,V=V'++ [y]:=⟨V.dropLast,V.getLast (by intro h;subst h;simp at h1),(List.dropLast_concat_getLast _).symm⟩
  simp only [List.length_append,List.length_cons,List.length_nil] at h1 h2
  rw [down]
  have e:sw (P++(V'++ [y])++x::Q) k (k-1)=P++V'++x::(y::Q):=by
   have:=Ao4 (P:=P++V') (Q:=Q) (x:=y) (y:=x) (i:=k) (j:=k-1) (by simp;omega) (by simp;omega)
   simpa using this
  rw [e,ih (V:=V') (P:=P) (by omega) (by omega)]
  simp
variable (lt:α→α→Bool)
def insIn (a:Nat):Nat→List α→List α
 |0,A=>A
 |j+1,A=>if a<j+1 then (match lt (gt A (j+1)) (gt A j) with|true=>insIn a j (sw A (j+1) j)|false=>A) else A
def insOut (a:Nat):Nat→Nat→List α→List α
 |0,_,A=>A
 |d+1,i,A=>insOut a d (i+1) (insIn lt a i A)
variable {lt}
theorem Ack (a:Nat): ∀(j:Nat) (A:List α),(insIn lt a j A).length=A.length
 |0,_=>rfl
 |j+1,A=>by
  rw [insIn]
  split
  ·split
   ·rw [Ack,AaY]
   ·rfl
  ·rfl
theorem Amp (S:List α) (x:α):sortS lt (S++ [x])=insS lt (sortS lt S) x:=by simp [sortS]
theorem AiK {x y:α} (h:lt x y=true): ∀(S:List α),insS lt (S++ [y]) x=insS lt S x++ [y]
 | []=>by simp [insS,h]
 |z::S=>by
  simp only [List.cons_append,insS]
  cases lt x z with
  |true=>simp
  |false=>simp [AiK h S]
theorem Al7 {x:α}: ∀ {S:List α},(∀z∈S,lt x z=false)→insS lt S x=S++ [x]
 | [],_=>rfl
 |z::S,h=>by
  simp only [insS,h z (List.mem_cons_self ..),Al7 fun w hw=>h w (List.mem_cons_of_mem _ hw),List.cons_append]
theorem AnJ (hw:Swo lt) {P:List α} {x:α}: ∀ {n:Nat} {S Q:List α} {j:Nat},n=S.length→Sd lt S→j=P.length+S.length→insIn lt P.length j (P++S++x::Q)=P++insS lt S x++Q:=by
 intro n
 induction n with
 |zero=>
  intro S Q j h1 _ h2
  have:S= []:=List.eq_nil_of_length_eq_zero h1.symm
  subst this
  simp only [List.length_nil,Nat.add_zero] at h2
  subst h2
  have: ∀A:List α,insIn lt P.length P.length A=A:=by
   intro A
   cases hp:P.length with
   |zero=>rfl
   |succ k=>simp [insIn]
  rw [this];simp [insS]
 |succ n ih=>
  intro S Q j h1 hs h2
  obtain ⟨S',y,rfl⟩: ∃S' y,S=S'++ [y]:=⟨S.dropLast,S.getLast (by intro h;subst h;simp at h1),(List.dropLast_concat_getLast _).symm⟩
  simp only [List.length_append,List.length_cons,List.length_nil] at h1 h2
  obtain ⟨k,rfl⟩: ∃k,j=k+1:=⟨j-1,by omega⟩
  obtain ⟨hs1,_,hs3⟩:=List.pairwise_append.1 hs
  rw [insIn,if_pos (by omega)]
  have g1:gt (P++(S'++ [y])++x::Q) (k+1)=x:=AgS (by simp;omega)
  have g0:gt (P++(S'++ [y])++x::Q) k=y:=by
   have:=AgS (P:=P++S') (Q:=x::Q) (x:=y) (k:=k) (by simp;omega)
   simpa using this
  rw [g1,g0]
  cases h:lt x y with
  |true=>
   have e:sw (P++(S'++ [y])++x::Q) (k+1) k=P++S'++x::(y::Q):=by
    have:=Ao4 (P:=P++S') (Q:=Q) (x:=y) (y:=x) (i:=k+1) (j:=k) (by simp;omega) (by simp;omega)
    simpa using this
   simp only
   rw [e,ih (by omega) hs1 (by omega),AiK h]
   simp
  |false=>
   simp only
   rw [Al7]
   ·simp
   ·intro z hz
    rcases List.mem_append.1 hz with hz|hz
    ·exact hw.ntrans h (hs3 z hz y (by simp))
    ·simp at hz;subst hz;exact h
theorem AmY (hw:Swo lt) {P Q:List α}: ∀ {T S:List α} {d i:Nat},d=T.length→i=P.length+S.length→insOut lt P.length d i (P++sortS lt S++(T++Q))=P++sortS lt (S++T)++Q:=by
 intro T
 induction T with
 |nil=>intro S d i h1 _;subst h1;simp [insOut]
 |cons x T ih=>
  intro S d i h1 h2
  simp only [List.length_cons] at h1
  subst h1
  rw [insOut]
  have:=AnJ hw (P:=P) (x:=x) (n:=(sortS lt S).length) (S:=sortS lt S) (Q:=T++Q) (j:=i) rfl (AaO hw S) (by rw [AaM hw];omega)
  rw [List.cons_append,this,←Amp,ih rfl (by simp;omega)]
  simp
abbrev seg (A:List α) (a b:Nat):List α:=(A.drop a).take (b-a)
def srt (lt:α→α→Bool) (A:List α) (a b:Nat):List α:=A.take a++sortS lt (seg A a b)++A.drop b
theorem Agg {A:List α} {a b:Nat} (h:a≤b):A=A.take a++seg A a b++A.drop b:=by
 have:A.drop b=(A.drop a).drop (b-a):=by rw [List.drop_drop];congr 1;omega
 rw [this,List.append_assoc,List.take_append_drop,List.take_append_drop]
theorem Ajy (P S Q:List α) {a b:Nat} (ha:a=P.length) (hb:b=P.length+S.length):srt lt (P++S++Q) a b=P++sortS lt S++Q:=by
 subst ha hb
 unfold srt seg
 simp
theorem Akd (hw:Swo lt) {A:List α} {a b:Nat} (h:b≤a+1) (h2:a≤b):srt lt A a b=A:=by
 have e:sortS lt (seg A a b)=seg A a b:=Aa5 hw (by
  have:(seg A a b).length≤1:=by simp;omega
  match seg A a b,this with
  | [],_=>exact .nil
  | [x],_=>exact List.pairwise_singleton ..)
 unfold srt
 rw [e,←Agg h2]
theorem AiN (hw:Swo lt) {A:List α} {a b:Nat} (h1:a<b) (h2:b≤A.length):insOut lt a (b-a-1) (a+1) A=srt lt A a b:=by
 have hs:=Agg (A:=A) (a:=a) (b:=b) (by omega)
 have hp:(A.take a).length=a:=by simp;omega
 have hl:(seg A a b).length=b-a:=by simp;omega
 obtain ⟨x,T,hT⟩: ∃x T,seg A a b=x::T:=by
  cases h:seg A a b with
  |nil=>rw [h] at hl;simp at hl;omega
  |cons x T=>exact ⟨x,T,rfl⟩
 have hd:b-a-1=T.length:=by rw [hT] at hl;simp at hl;omega
 have:=AmY hw (P:=A.take a) (Q:=A.drop b) (T:=T) (S:= [x]) (d:=b-a-1) (i:=a+1) hd (by rw [hp];simp)
 rw [hp] at this
 unfold srt
 rw [hT]
 conv=>lhs;rw [hs,hT]
 simpa [sortS,insS] using this
def rotL:Nat→List α→Nat→Nat→Nat→List α
 |0,A,_,_,_=>A
 |d+1,A,m,i,j=>if i=j then swR i A (m-i) m else if j<i then rotL d (swR j A (m-i) m) m (i-j) j else rotL d (swR i A (m-i) (m+j-i)) m i (j-i)
theorem AoU: ∀ {d:Nat} {P X Y Q:List α} {m i j:Nat},i=X.length→j=Y.length→m=P.length+i→0<i→0<j→i+j≤d→
  rotL d (P++X++Y++Q) m i j=P++Y++X++Q:=by
 intro d
 induction d with
 |zero=>intros;omega
 |succ d ih=>
  intro P X Y Q m i j h1 h2 h3 h4 h5 h6
  rw [rotL]
  by_cases hij:i=j
  ·rw [if_pos hij]
   have:=AmG (P:=P) (X:=X) (M:= []) (Y:=Y) (Q:=Q) (by omega)
   simp only [List.append_nil,List.length_nil,Nat.add_zero] at this
   rw [show m-i=P.length by omega,show m=P.length+X.length by omega,h1]
   exact this
  ·rw [if_neg hij]
   by_cases hj:j<i
   ·rw [if_pos hj]
    have hX:X=X.take j++X.drop j:=(List.take_append_drop ..).symm
    have l1:(X.take j).length=j:=by simp;omega
    have l2:(X.drop j).length=i-j:=by simp;omega
    have:=AmG (P:=P) (X:=X.take j) (M:=X.drop j) (Y:=Y) (Q:=Q) (by omega)
    rw [l1,l2] at this
    have e:swR j (P++X++Y++Q) (m-i) m=(P++Y)++X.drop j++X.take j++Q:=by
     rw [show m-i=P.length by omega,show m=P.length+j+(i-j) by omega]
     conv=>lhs;rw [hX]
     rw [←this]
     simp
    rw [e,ih (by omega) (by omega) (by simp;omega) (by omega) h5 (by omega)]
    conv=>rhs;rw [hX]
    simp
   ·rw [if_neg hj]
    have hY:Y=Y.take (j-i)++Y.drop (j-i):=(List.take_append_drop ..).symm
    have l1:(Y.take (j-i)).length=j-i:=by simp;omega
    have l2:(Y.drop (j-i)).length=i:=by simp;omega
    have:=AmG (P:=P) (X:=X) (M:=Y.take (j-i)) (Y:=Y.drop (j-i)) (Q:=Q) (by omega)
    rw [l1,←h1] at this
    have e:swR i (P++X++Y++Q) (m-i) (m+j-i)=P++Y.drop (j-i)++Y.take (j-i)++(X++Q):=by
     rw [show m-i=P.length by omega,show m+j-i=P.length+i+(j-i) by omega]
     conv=>lhs;rw [hY]
     have:=this.trans (b:=_) rfl
     simp only [List.append_assoc] at this⊢
     exact this
    rw [e,ih (by omega) (by omega) (by omega) h4 (by omega) (by omega)]
    conv=>rhs;rw [hY]
    simp
theorem AlO {A:List α} {a m b d:Nat} (h1:a<m) (h2:m<b) (h3:b≤A.length) (h4:b-a≤d):rotL d A m (m-a) (b-m)=A.take a++seg A m b++seg A a m++A.drop b:=by
 have hs:A=A.take a++seg A a m++seg A m b++A.drop b:=by
  conv=>lhs;rw [Agg (A:=A) (a:=m) (b:=b) (by omega)]
  congr 2
  have:=Agg (A:=A.take m) (a:=a) (b:=m) (by omega)
  rw [List.take_take,Nat.min_eq_left (by omega)] at this
  rw [this]
  unfold seg
  simp [List.drop_take,List.take_take]
 have:=AoU (d:=d) (P:=A.take a) (X:=seg A a m) (Y:=seg A m b) (Q:=A.drop b) (m:=m) (i:=m-a) (j:=b-m) (by simp;omega) (by simp;omega) (by simp;omega) (by omega) (by omega) (by omega)
 rw [←this,←hs]
end
end Go.Eva
namespace Go.Eva
set_option linter.unusedSectionVars false
theorem bs_t {P:Nat→Bool} {d i j h:Nat} (h1:i<j) (h2:(i+j)/2=h) (h3:P h=true):bs P (d+1) i j=bs P d (h+1) j:=by rw [bs,if_pos h1,h2,h3]
theorem bs_f {P:Nat→Bool} {d i j h:Nat} (h1:i<j) (h2:(i+j)/2=h) (h3:P h=false):bs P (d+1) i j=bs P d i h:=by rw [bs,if_pos h1,h2,h3]
section
variable {α:Type} [Inhabited α] {lt:α→α→Bool}
theorem Af2 (hw:Swo lt) {U1 U2 V1 V2:List α} (hU:Sd lt (U1++U2)) (hV:Sd lt (V1++V2)) (h1: ∀x∈V1,∀y∈U2,lt x y=true) (h2: ∀x∈U1,∀y∈V2,lt y x=false):
  sortS lt (U1++V1)++sortS lt (U2++V2)=sortS lt ((U1++U2)++(V1++V2)):=by
 refine Ak9 hw h1 fun x hx y hy=> ?_
 rcases List.mem_append.1 hx with hx|hx<;>rcases List.mem_append.1 hy with hy|hy
 ·exact (List.pairwise_append.1 hU).2.2 x hx y hy
 ·exact h2 x hx y hy
 ·exact hw.asymm (h1 x hx y hy)
 ·exact (List.pairwise_append.1 hV).2.2 x hx y hy
theorem sd_gt {P U Q:List α} (hU:Sd lt U) (hw:Swo lt) {p q:Nat} (h1:P.length≤p) (h2:p≤q) (h3:q<P.length+U.length):lt (gt (P++U++Q) q) (gt (P++U++Q) p)=false:=by
 by_cases hpq:p=q
 ·subst hpq;exact hw.irr _
 ·have e: ∀k,P.length≤k→k<P.length+U.length→ ∃h:k-P.length<U.length,gt (P++U++Q) k=U[k-P.length]:=by
   intro k h h'
   refine ⟨by omega,?_⟩
   rw [List.append_assoc,Aks,if_neg (by omega),Aks,if_pos (by omega),gt_eq (by omega)]
  obtain ⟨b1,e1⟩:=e p h1 (by omega)
  obtain ⟨b2,e2⟩:=e q (by omega) h3
  rw [e1,e2]
  exact List.pairwise_iff_getElem.1 hU _ _ b1 b2 (by omega)
theorem An7 {U:List α} {x y:α} (hU:Sd lt (U++ [y])) (hw:Swo lt) (hx:x∈U++ [y]):lt y x=false:=by
 rcases List.mem_append.1 hx with h|h
 ·exact (List.pairwise_append.1 hU).2.2 x h y (by simp)
 ·simp at h;subst h;exact hw.irr _
theorem Anu {U:List α} {x y:α} (hU:Sd lt (y::U)) (hw:Swo lt) (hx:x∈y::U):lt x y=false:=by
 rcases List.mem_cons.1 hx with h|h
 ·subst h;exact hw.irr _
 ·exact (List.pairwise_cons.1 hU).1 x h
theorem AkF {U:List α} (h:U≠ []): ∃U' y,U=U'++ [y]:=⟨U.dropLast,U.getLast h,(List.dropLast_concat_getLast _).symm⟩
theorem cross1 (hw:Swo lt) {V1 U2:List α} (hV:Sd lt V1) (hU:Sd lt U2) (h:V1≠ []→U2≠ []→lt (gt V1 (V1.length-1)) (gt U2 0)=true): ∀x∈V1,∀y∈U2,lt x y=true:=by
 intro x hx y hy
 have hV1:V1≠ []:=by intro e;subst e;simp at hx
 have hU2:U2≠ []:=by intro e;subst e;simp at hy
 have h:=h hV1 hU2
 obtain ⟨V',v,rfl⟩:=AkF hV1
 obtain ⟨u,U',rfl⟩: ∃u U',U2=u::U':=by
  cases U2 with
  |nil=>exact absurd rfl hU2
  |cons u U'=>exact ⟨u,U',rfl⟩
 have g1:gt (V'++ [v]) ((V'++ [v]).length-1)=v:=AgS (Q:= []) (by simp)
 have g2:gt (u::U') 0=u:=rfl
 rw [g1,g2] at h
 exact hw.le_lt (An7 hV hw hx) (hw.lt_le h (Anu hU hw hy))
theorem cross2 (hw:Swo lt) {U1 V2:List α} (hU:Sd lt U1) (hV:Sd lt V2) (h:U1≠ []→V2≠ []→lt (gt V2 0) (gt U1 (U1.length-1))=false): ∀x∈U1,∀y∈V2,lt y x=false:=by
 intro x hx y hy
 have hU1:U1≠ []:=by intro e;subst e;simp at hx
 have hV2:V2≠ []:=by intro e;subst e;simp at hy
 have h:=h hU1 hV2
 obtain ⟨U',u,rfl⟩:=AkF hU1
 obtain ⟨v,V',rfl⟩: ∃v V',V2=v::V':=by
  cases V2 with
  |nil=>exact absurd rfl hV2
  |cons v V'=>exact ⟨v,V',rfl⟩
 have g1:gt (U'++ [u]) ((U'++ [u]).length-1)=u:=AgS (Q:= []) (by simp)
 have g2:gt (v::V') 0=v:=rfl
 rw [g1,g2] at h
 exact hw.ntrans (Anu hV hw hy) (hw.ntrans h (An7 hU hw hx))
end
end Go.Eva
namespace Go.Eva
set_option linter.unusedSectionVars false
section
variable {α:Type} [Inhabited α] {lt:α→α→Bool}
theorem gt_in {P U Q:List α} {k:Nat} (h:P.length≤k) (h':k<P.length+U.length):gt (P++U++Q) k=gt U (k-P.length):=by
 rw [List.append_assoc,Aks,if_neg (by omega),Aks,if_pos (by omega)]
theorem AhH (hw:Swo lt) {P V Q:List α} {x:α} {a m b d s:Nat} (ha:a=P.length) (hm:m=a+1) (hb:b=m+V.length) (hd:b≤m+d) (hV:Sd lt V)
  (hs:s=bs (fun h=>lt (gt (P++ [x]++V++Q) h) (gt (P++ [x]++V++Q) a)) d m b):
  m≤s∧s≤b∧up (s-1-a) (P++ [x]++V++Q) a=P++sortS lt ([x]++V)++Q:=by
 have ga:gt (P++ [x]++V++Q) a=x:=by
  have:=AgS (P:=P) (Q:=V++Q) (x:=x) (k:=a) ha
  simpa using this
 rw [ga] at hs
 have hg: ∀h,m≤h→h<b→gt (P++ [x]++V++Q) h=gt V (h-m):=by
  intro h h1 h2
  rw [gt_in (P:=P++ [x]) (U:=V) (by simp;omega) (by simp;omega)]
  congr 1;simp;omega
 have hsd: ∀h h',m≤h→h≤h'→h'<b→lt (gt (P++ [x]++V++Q) h') (gt (P++ [x]++V++Q) h)=false:=by
  intro h h' h1 h2 h3
  exact sd_gt (P:=P++ [x]) hV hw (by simp;omega) h2 (by simp;omega)
 obtain ⟨k1,k2,k3,k4⟩:=bs_ok (P:=fun h=>lt (gt (P++ [x]++V++Q) h) x) (d:=d) (i:=m) (j:=b) (by omega) (by omega)
  (fun h h' c1 c2 c3 c4=>hw.le_lt (hsd h h' c1 c2 c3) c4)
 rw [←hs] at k1 k2 k3 k4
 refine ⟨k1,k2,?_⟩
 have hVs:V=V.take (s-m)++V.drop (s-m):=(List.take_append_drop ..).symm
 have l1:(V.take (s-m)).length=s-m:=by simp;omega
 have hV':=hV
 rw [hVs] at hV'
 have c1: ∀y∈V.take (s-m),lt y x=true:=by
  intro y hy
  obtain ⟨i,hi,rfl⟩:=List.getElem_of_mem hy
  have:=k3 (m+i) (by omega) (by omega)
  rw [hg _ (by omega) (by omega),Nat.add_sub_cancel_left] at this
  rw [List.getElem_take,←gt_eq];exact this
 have c2: ∀y∈V.drop (s-m),lt y x=false:=by
  intro y hy
  obtain ⟨i,hi,rfl⟩:=List.getElem_of_mem hy
  rw [List.length_drop] at hi
  have:=k4 (s+i) (by omega) (by omega)
  rw [hg _ (by omega) (by omega)] at this
  rw [List.getElem_drop,←gt_eq,show s-m+i=s+i-m by omega];exact this
 have hxV:Sd lt (x::V.drop (s-m)):=List.pairwise_cons.2 ⟨c2,(List.pairwise_append.1 hV').2.1⟩
 have e:=Af2 hw (U1:= []) (U2:= [x]) (V1:=V.take (s-m)) (V2:=V.drop (s-m)) (by simp [Sd]) hV' (fun y hy z hz=>by simp at hz;subst hz;exact c1 y hy) (fun _ h=>by simp at h)
 rw [List.take_append_drop,List.nil_append,List.nil_append,Aa5 hw (List.pairwise_append.1 hV').1,List.singleton_append,Aa5 hw hxV] at e
 rw [←e]
 have:=up_eq (Q:=V.drop (s-m)++Q) (x:=x) (V:=V.take (s-m)) (P:=P)
 rw [l1,←ha] at this
 rw [show s-1-a=s-m by omega]
 have e2:P++ [x]++V++Q=P++x::V.take (s-m)++(V.drop (s-m)++Q):=by
  simp only [List.append_assoc,List.cons_append,List.nil_append]
  rw [←List.append_assoc (V.take _),List.take_append_drop]
 rw [e2,this]
 simp
theorem AiX (hw:Swo lt) {P U Q:List α} {y:α} {a m d s:Nat} (ha:a=P.length) (hm:m=a+U.length) (hd:m≤a+d) (hU:Sd lt U)
  (hs:s=bs (fun h=> !lt (gt (P++U++ [y]++Q) m) (gt (P++U++ [y]++Q) h)) d a m):
  a≤s∧s≤m∧down (m-s) (P++U++ [y]++Q) m=P++sortS lt (U++ [y])++Q:=by
 have gm:gt (P++U++ [y]++Q) m=y:=by
  have:=AgS (P:=P++U) (Q:=Q) (x:=y) (k:=m) (by simp;omega)
  simpa using this
 rw [gm] at hs
 have hg: ∀h,a≤h→h<m→gt (P++U++ [y]++Q) h=gt U (h-a):=by
  intro h h1 h2
  rw [List.append_assoc (P++U),gt_in (by omega) (by omega),ha]
 have hsd: ∀h h',a≤h→h≤h'→h'<m→lt (gt (P++U++ [y]++Q) h') (gt (P++U++ [y]++Q) h)=false:=by
  intro h h' h1 h2 h3
  rw [List.append_assoc (P++U)]
  exact sd_gt hU hw (by omega) h2 (by omega)
 obtain ⟨k1,k2,k3,k4⟩:=bs_ok (P:=fun h=> !lt y (gt (P++U++ [y]++Q) h)) (d:=d) (i:=a) (j:=m) (by omega) (by omega)
  (fun h h' c1 c2 c3 c4=>by
   simp only [Bool.not_eq_true'] at c4⊢
   exact hw.ntrans c4 (hsd h h' c1 c2 c3))
 rw [←hs] at k1 k2 k3 k4
 refine ⟨k1,k2,?_⟩
 have hUs:U=U.take (s-a)++U.drop (s-a):=(List.take_append_drop ..).symm
 have l1:(U.take (s-a)).length=s-a:=by simp;omega
 have l2:(U.drop (s-a)).length=m-s:=by simp;omega
 have hU':=hU
 rw [hUs] at hU'
 have c1: ∀z∈U.take (s-a),lt y z=false:=by
  intro z hz
  obtain ⟨i,hi,rfl⟩:=List.getElem_of_mem hz
  have:=k3 (a+i) (by omega) (by omega)
  rw [hg _ (by omega) (by omega),Nat.add_sub_cancel_left] at this
  rw [List.getElem_take,←gt_eq];simpa using this
 have c2: ∀z∈U.drop (s-a),lt y z=true:=by
  intro z hz
  obtain ⟨i,hi,rfl⟩:=List.getElem_of_mem hz
  rw [List.length_drop] at hi
  have:=k4 (s+i) (by omega) (by omega)
  rw [hg _ (by omega) (by omega)] at this
  rw [List.getElem_drop,←gt_eq,show s-a+i=s+i-a by omega];simpa using this
 have hUy:Sd lt (U.take (s-a)++ [y]):=List.pairwise_append.2 ⟨(List.pairwise_append.1 hU').1,by simp,fun z hz w hw'=>by simp at hw';subst hw';exact c1 z hz⟩
 have e:=Af2 hw (U1:=U.take (s-a)) (U2:=U.drop (s-a)) (V1:= [y]) (V2:= []) hU' (by simp [Sd]) (fun w hw' z hz=>by simp at hw';subst hw';exact c2 z hz) (fun _ _ _ h=>by simp at h)
 rw [List.take_append_drop,List.append_nil,List.append_nil,Aa5 hw (List.pairwise_append.1 hU').2.1,Aa5 hw hUy] at e
 rw [←e]
 have:=AoD (Q:=Q) (x:=y) (n:=m-s) (V:=U.drop (s-a)) (P:=P++U.take (s-a)) (k:=m) (by omega) (by simp;omega)
 have e2:P++U++ [y]++Q=P++U.take (s-a)++U.drop (s-a)++y::Q:=by
  simp only [List.append_assoc,List.cons_append,List.nil_append]
  rw [←List.append_assoc (U.take _),List.take_append_drop]
 rw [e2,this]
 simp
end
end Go.Eva
namespace Go.Eva
set_option linter.unusedSectionVars false
section
variable {α:Type} [Inhabited α] {lt:α→α→Bool}
theorem Akf (hw:Swo lt) {P U V Q:List α} {a m b mid s0 r0 d s:Nat} (ha:a=P.length) (hm:m=a+U.length) (hb:b=m+V.length) (hU:Sd lt U) (hV:Sd lt V)
  (h1:0<U.length) (h2:0<V.length) (hmid:(a+b)/2=mid) (hs0:m≤mid∧s0=a∧r0=m∨mid<m∧s0=mid+m-b∧r0=mid) (hd:r0≤s0+d)
  (hs:s=bs (fun c=> !lt (gt (P++U++V++Q) (mid+m-1-c)) (gt (P++U++V++Q) c)) d s0 r0):
  s0≤s∧s≤r0∧ ∃U1 U2 V1 V2,U=U1++U2∧V=V1++V2∧U1.length=s-a∧V1.length=mid-s∧sortS lt (U1++V1)++sortS lt (U2++V2)=sortS lt (U++V)∧
   Sd lt U1∧Sd lt U2∧Sd lt V1∧Sd lt V2:=by
 have hgU: ∀h,a≤h→h<m→gt (P++U++V++Q) h=gt U (h-a):=by
  intro h c1 c2
  rw [List.append_assoc (P++U),gt_in (by omega) (by omega),ha]
 have hgV: ∀h,m≤h→h<b→gt (P++U++V++Q) h=gt V (h-m):=by
  intro h c1 c2
  rw [gt_in (P:=P++U) (U:=V) (by simp;omega) (by simp;omega)]
  congr 1;simp;omega
 have hsU: ∀h h',a≤h→h≤h'→h'<m→lt (gt (P++U++V++Q) h') (gt (P++U++V++Q) h)=false:=by
  intro h h' c1 c2 c3
  rw [List.append_assoc (P++U)]
  exact sd_gt hU hw (by omega) c2 (by omega)
 have hsV: ∀h h',m≤h→h≤h'→h'<b→lt (gt (P++U++V++Q) h') (gt (P++U++V++Q) h)=false:=by
  intro h h' c1 c2 c3
  exact sd_gt (P:=P++U) hV hw (by simp;omega) c2 (by simp;omega)
 obtain ⟨k1,k2,k3,k4⟩:=bs_ok (P:=fun c=> !lt (gt (P++U++V++Q) (mid+m-1-c)) (gt (P++U++V++Q) c)) (d:=d) (i:=s0) (j:=r0) (by omega) (by omega)
  (fun h h' c1 c2 c3 c4=>by
   simp only [Bool.not_eq_true'] at c4⊢
   exact hw.ntrans (hw.ntrans (hsV (mid+m-1-h') (mid+m-1-h) (by omega) (by omega) (by omega)) c4) (hsU h h' (by omega) c2 (by omega)))
 rw [←hs] at k1 k2 k3 k4
 refine ⟨k1,k2,U.take (s-a),U.drop (s-a),V.take (mid-s),V.drop (mid-s),(List.take_append_drop ..).symm,(List.take_append_drop ..).symm,by simp;omega,by simp;omega,?_⟩
 have hUs:U=U.take (s-a)++U.drop (s-a):=(List.take_append_drop ..).symm
 have hVs:V=V.take (mid-s)++V.drop (mid-s):=(List.take_append_drop ..).symm
 have hU':=hU
 rw [hUs] at hU'
 have hV':=hV
 rw [hVs] at hV'
 obtain ⟨u1,u2,_⟩:=List.pairwise_append.1 hU'
 obtain ⟨v1,v2,_⟩:=List.pairwise_append.1 hV'
 refine ⟨?_,u1,u2,v1,v2⟩
 have lu1:(U.take (s-a)).length=s-a:=by simp;omega
 have lu2:(U.drop (s-a)).length=m-s:=by simp;omega
 have lv1:(V.take (mid-s)).length=mid-s:=by simp;omega
 have lv2:(V.drop (mid-s)).length=b-(mid+m-s):=by simp;omega
 have gtk: ∀ {L:List α} {n i:Nat},i<n→gt (L.take n) i=gt L i:=by
  intro L n i h
  unfold gt
  rw [List.getElem?_take,if_pos h]
 have gdr: ∀ {L:List α} {n i:Nat},gt (L.drop n) i=gt L (n+i):=by
  intro L n i
  unfold gt
  rw [List.getElem?_drop]
 have:=Af2 hw hU' hV' (cross1 hw v1 u2 fun c1 c2=> ?_) (cross2 hw u1 v2 fun c1 c2=> ?_)
 ·rw [List.take_append_drop,List.take_append_drop] at this
  exact this
 ·have n1:0<mid-s:=by rw [←lv1];exact List.length_pos_iff.2 c1
  have n2:0<m-s:=by rw [←lu2];exact List.length_pos_iff.2 c2
  have:=k4 s (Nat.le_refl _) (by omega)
  simp only [Bool.not_eq_false'] at this
  rw [hgV _ (by omega) (by omega),hgU _ (by omega) (by omega)] at this
  rw [gtk (by omega),gdr,lv1,show mid-s-1=mid+m-1-s-m by omega]
  exact this
 ·have n1:0<s-a:=by rw [←lu1];exact List.length_pos_iff.2 c1
  have n2:0<b-(mid+m-s):=by rw [←lv2];exact List.length_pos_iff.2 c2
  have:=k3 (s-1) (by omega) (by omega)
  simp only [Bool.not_eq_true'] at this
  rw [hgV _ (by omega) (by omega),hgU _ (by omega) (by omega)] at this
  rw [gtk (by omega),gdr,lu1,show mid-s+0=mid+m-1-(s-1)-m by omega,show s-a-1=s-1-a by omega]
  exact this
end
end Go.Eva
namespace Go.Eva
set_option linter.unusedSectionVars false
section
variable {α:Type} [Inhabited α] {lt:α→α→Bool}
inductive Blks (lt:α→α→Bool) (n:Nat):List α→Prop
 |last {R:List α}:R.length≤n→Sd lt R→Blks lt n R
 |cons {S R:List α}:S.length=n→Sd lt S→Blks lt n R→Blks lt n (S++R)
inductive Full (lt:α→α→Bool) (n:Nat):List α→Prop
 |nil:Full lt n []
 |snoc {P S:List α}:Full lt n P→S.length=n→Sd lt S→Full lt n (P++S)
theorem Full.blks {n:Nat} {P:List α} (h:Full lt n P): ∀ {R:List α},Blks lt n R→Blks lt n (P++R):=by
 induction h with
 |nil=>intro R h;exact h
 |snoc _ h2 h3 ih=>intro R h;rw [List.append_assoc];exact ih (.cons h2 h3 h)
theorem Blks.more {n:Nat} {R:List α} (h:Blks lt n R) (hl:n<R.length): ∃S R',R=S++R'∧S.length=n∧Sd lt S∧Blks lt n R':=by
 cases h with
 |last h _=>omega
 |cons h1 h2 h3=>exact ⟨_,_,rfl,h1,h2,h3⟩
theorem Blks.more' {n:Nat} {R:List α} (h:Blks lt n R) (hl:n≤R.length): ∃S R',R=S++R'∧S.length=n∧Sd lt S∧Blks lt n R':=by
 by_cases hx:n<R.length
 ·exact h.more hx
 ·cases h with
  |last h2 h3=>exact ⟨R,[],by simp,by omega,h3,.last (by simp) (by simp [Sd])⟩
  |cons h1 h2 h3=>exact ⟨_,_,rfl,h1,h2,h3⟩
theorem Blks.sd {n:Nat} {R:List α} (h:Blks lt n R) (hl:R.length≤n):Sd lt R:=by
 cases h with
 |last _ h=>exact h
 | @cons S R' h1 h2 h3=>
  have:R'= []:=by
   rw [List.length_append] at hl
   exact List.eq_nil_of_length_eq_zero (by omega)
  subst this
  simpa using h2
theorem Blks.two {n:Nat} {R:List α} (h:Blks lt n R) (hn:0<n) (hl:2*n≤R.length): ∃S1 S2 R',R=S1++S2++R'∧S1.length=n∧S2.length=n∧Sd lt S1∧Sd lt S2∧Blks lt n R':=by
 obtain ⟨S1,R1,rfl,h1,h2,h3⟩:=h.more (by omega)
 rw [List.length_append] at hl
 obtain ⟨S2,R2,rfl,h4,h5,h6⟩:=h3.more' (by omega)
 exact ⟨S1,S2,R2,by simp,h1,h4,h2,h5,h6⟩
theorem Blks.one {n:Nat} {R:List α} (h:Blks lt n R) (hl:n<R.length) (h2:R.length<2*n): ∃S1 S2,R=S1++S2∧S1.length=n∧Sd lt S1∧Sd lt S2∧0<S2.length:=by
 obtain ⟨S1,R1,rfl,h3,h4,h5⟩:=h.more hl
 rw [List.length_append] at hl h2
 exact ⟨S1,R1,rfl,h3,h4,h5.sd (by omega),by omega⟩
theorem StEq.mid {P S S' Q:List α} (h:StEq lt S' S):StEq lt (P++S'++Q) (P++S++Q):=((StEq.refl _).append h).append (.refl _)
theorem Al6 (R:List α) {n:Nat} (h:n≤R.length): ∃S R',R=S++R'∧S.length=n:=⟨R.take n,R.drop n,(List.take_append_drop ..).symm,by simp;omega⟩
theorem AlD {x:α}: ∀ {S T:List α},(∀z∈S,lt x z=false)→insS lt (S++T) x=S++insS lt T x
 | [],_,_=>rfl
 |z::S,T,h=>by
  simp only [List.cons_append,insS,h z (List.mem_cons_self ..),AlD fun w hw=>h w (List.mem_cons_of_mem _ hw)]
theorem Aka {x:α} {T:List α} (h: ∀t∈T,lt x t=true):insS lt T x=x::T:=by
 cases T with
 |nil=>rfl
 |cons t T=>simp only [insS,h t (List.mem_cons_self ..)]
def bk (lt:α→α→Bool) (x:α) (A:List α):Nat→Nat
 |0=>0
 |k+1=>match lt x (gt A k) with|true=>bk lt x A k|false=>k+1
theorem bk_le {x:α} {A:List α}: ∀ {k:Nat},bk lt x A k≤k
 |0=>Nat.le_refl _
 |k+1=>by
  unfold bk
  split
  ·have:= @bk_le x A k;omega
  ·exact Nat.le_refl _
theorem Apq (hw:Swo lt) {x:α}: ∀ {n:Nat} {S T:List α},n=S.length→Sd lt S→(∀t∈T,lt x t=true)→insS lt (S++T) x=(S++T).take (bk lt x (S++T) n)++x::(S++T).drop (bk lt x (S++T) n):=by
 intro n
 induction n with
 |zero=>
  intro S T h1 _ h2
  have:S= []:=List.eq_nil_of_length_eq_zero h1.symm
  subst this
  simp [bk,Aka h2]
 |succ n ih=>
  intro S T h1 hs h2
  obtain ⟨S',y,rfl⟩:=AkF (U:=S) (by intro e;subst e;simp at h1)
  simp only [List.length_append,List.length_cons,List.length_nil] at h1
  have g:gt (S'++ [y]++T) n=y:=by
   have:=AgS (P:=S') (Q:=T) (x:=y) (k:=n) (by omega)
   simpa using this
  rw [bk,g]
  cases hl:lt x y with
  |true=>
   simp only
   have:=ih (S:=S') (T:=y::T) (by omega) (List.pairwise_append.1 hs).1 (fun t ht=>by
    rcases List.mem_cons.1 ht with rfl|ht
    ·exact hl
    ·exact h2 t ht)
   simpa using this
  |false=>
   simp only
   rw [AlD (S:=S'++ [y]) (T:=T) (fun z hz=> ?_),Aka h2]
   ·rw [List.take_left' (by simp;omega),List.drop_left' (by simp;omega)]
   ·rcases List.mem_append.1 hz with hz|hz
    ·exact hw.ntrans hl ((List.pairwise_append.1 hs).2.2 z hz y (by simp))
    ·simp at hz;subst hz;exact hl
theorem bk_eq (hw:Swo lt) {x:α} {S:List α} (hs:Sd lt S):insS lt S x=S.take (bk lt x S S.length)++x::S.drop (bk lt x S S.length):=by
 have:=Apq hw (x:=x) (S:=S) (T:= []) rfl hs (by simp)
 simpa using this
end
end Go.Eva
namespace Go.Eva
def total (ls:List (List Cross)):Nat:=(ls.map zq).sum
theorem AlN {ls:List (List Cross)} {i:Nat} (h:i<ls.length):total (ls.drop i)=(gt ls i).length+total (ls.drop (i+1)):=by
 unfold total;rw [Aae h];simp
theorem AnF {ls:List (List Cross)} {i:Nat} (h:ls.length≤i):total (ls.drop i)=0:=by
 unfold total;rw [Aac h];rfl
theorem AoH {ls:List (List Cross)} {i:Nat} (h:i<ls.length):(ls.drop i).flatten=gt ls i++(ls.drop (i+1)).flatten:=by
 rw [Aae h];simp
theorem Aou {ls:List (List Cross)}:ls.flatten.length=total ls:=by
 unfold total;simp [List.length_flatten]
def parts (s:List Cross) (r:Int):Nat→List Cross
 |0=> []
 |d+1=>toL s r++parts s (r+1) d
theorem AjE {s:List Cross} {r:Int}:(toL s r).length≤s.length:=List.length_filter_le ..
def alike (l:List Cross) (x:Cross):Nat→List Cross
 |0=> []
 |d+1=>alike l x d++ [{x with frame:=(d:Int),frm:=(gt l d).frm}]
end Go.Eva
namespace Go.Eva
structure Stg where
 l:List Entity
 made:Int
 out:List Cross
def Stg.room (s:Stg):Bool:=decide (s.made<8)&&decide (things s.l<24)
section
variable (c:Config) (r f:Int)
def numI (made:Int):Int:=1000+(f*c.regions+r)*8+(made+1)-1
def placeX (a o:Int):Int:=c.cornerX r+below 1024 c.seed [a,f,o]
def placeY (b o:Int):Int:=c.cornerY r+below 1024 c.seed [b,f,o]
def setId (l:List Entity) (id:Int) (e:Entity):List Entity:=l.set (find l id).toNat e
def inAt (ins:List Input) (id:Int):Input:=gt ins (id-1).toNat
def steer1 (ins:List Input) (s:Stg) (p:Entity):Stg:=
 if p.kind≠1 then s
 else if (steerE p (inAt ins p.id)).2=true then
  (if s.room=true then {s with l:=setId (put1 s.l (shootE (steerE p (inAt ins p.id)).1 (inAt ins p.id) (numI c r f s.made))) p.id (steerE p (inAt ins p.id)).1,made:=s.made+1}
   else {s with l:=setId s.l p.id {(steerE p (inAt ins p.id)).1 with age:=0}})
 else {s with l:=setId s.l p.id (steerE p (inAt ins p.id)).1}
def steerS (ins:List Input) (s:Stg):Stg:=s.l.foldl (steer1 c r f ins) s
def moveL (l:List Entity):List Entity:=(l.filter fun e=>(goE c e).2).map fun e=>(goE c e).1
def blastsAt (e:Entity):List Cross:=(c.near r).map fun q=>⟨2,r,q,f,Entity.zero,e.x,e.y⟩
def anewE (id:Int) (e:Entity):Entity:= {e with health:=100,vx:=0,vy:=0,age:=0,x:=placeX c r f 1 id,y:=placeY c r f 2 id}
def fall1 (s:Stg) (id:Int):Stg:= {s with l:=s.l.set (find s.l id).toNat (anewE c r f id (gt s.l (find s.l id).toNat)),out:=s.out++blastsAt c r f (gt s.l (find s.l id).toNat)}
def fallS (s:Stg):Stg:=(fallenL s.l).foldl (fall1 c r f) s
def gemE (made:Int):Entity:=⟨numI c r f made,3,placeX c r f 4 r,placeY c r f 5 r,0,0,1,0,0⟩
def growS (s:Stg):Stg:=
 if below 8 c.seed [3,f,r]≠0∨3≤(s.l.countP fun e=>e.kind==3)∨s.room=false then s
 else {s with l:=put1 s.l (gemE c r f s.made),made:=s.made+1}
def handE (e:Entity):Cross:=⟨1,r,c.of e.x e.y,f,e,0,0⟩
def leaveS (s:Stg):Stg:= {s with l:=s.l.filter fun e=>decide (c.of e.x e.y=r),out:=s.out++(s.l.filter fun e=> !decide (c.of e.x e.y=r)).map (handE c r f)}
def restS (inbox:List Cross) (s:Stg):Stg:=leaveS c r f (growS c r f (fallS c r f {s with l:=blastsL (gemsL (shotsL (moveL c s.l))) inbox}))
end
def stepS (c:Config) (r:Int) (s:Region) (ins:List Input) (inbox:List Cross):Stg:=
 restS c r s.frame inbox (steerS c r s.frame ins ⟨arriveL s.ents inbox,0,[]⟩)
def Region.zero:Region:=⟨0,[]⟩
def stepP (c:Config) (r:Int) (s:Region) (ins:List Input) (inbox:List Cross):Region×List Cross×Int:=
 if askedE c r s ins inbox≠0 then (Region.zero,[],askedE c r s ins inbox)
 else (⟨s.frame+1,(stepS c r s ins inbox).l⟩,sortS Cross.less (stepS c r s ins inbox).out,0)
end Go.Eva
namespace Go.Eva
theorem AbX {l:List Entity} {id:Int} (h: ∃x∈l,x.id=id): ∃k:Nat,find l id=k∧k<l.length∧(gt l k).id=id:=by
 obtain ⟨k,hk⟩:=AnZ h
 obtain ⟨h1,h2,_⟩:=an_id hk
 exact ⟨k,AbK hk,h1,h2⟩
theorem Adg {l:List Entity} {k:Nat} {e:Entity} (hk:k<l.length) (h:(gt l k).id=e.id):(l.set k e).map Entity.id=l.map Entity.id:=by
 rw [List.map_set]
 apply List.ext_getElem?
 intro i
 rw [List.getElem?_set]
 split
 ·rename_i hik
  subst hik
  rw [List.length_map,if_pos hk,List.getElem?_map,AcJ hk,Option.map_some,h]
 ·rfl
theorem Ait {l:List Entity} {e:Entity} (h: ∃x∈l,x.id=e.id):(setId l e.id e).map Entity.id=l.map Entity.id:=by
 obtain ⟨k,h1,h2,h3⟩:=AbX h
 unfold setId
 rw [h1]
 exact Adg h2 h3
theorem AfZ {l:List Entity} {id:Int} {e:Entity}:(setId l id e).length=l.length:=by simp [setId]
theorem AjD {l m:List Entity} (h:l.map Entity.id=m.map Entity.id) (hs:Srt l):Srt m:=by
 have:(l.map Entity.id).Pairwise (· < ·):=List.pairwise_map.2 hs
 rw [h] at this
 exact List.pairwise_map.1 this
theorem Ajx {l m:List Entity} (h:l.map Entity.id=m.map Entity.id) {id:Int} (hx: ∃x∈l,x.id=id): ∃x∈m,x.id=id:=by
 obtain ⟨x,h1,h2⟩:=hx
 have:id∈l.map Entity.id:=List.mem_map.2 ⟨x,h1,h2⟩
 rw [h] at this
 obtain ⟨y,h3,h4⟩:=List.mem_map.1 this
 exact ⟨y,h3,h4⟩
theorem Ah2 {α:Type} {l:List α} {k:Nat} {e x:α} (h:x∈l.set k e):x=e∨x∈l:=by
 rcases List.mem_or_eq_of_mem_set h with h|h
 ·exact .inr h
 ·exact .inl h
theorem Aei {l:List Entity} {id:Int} {e x:Entity} (h:x∈setId l id e):x=e∨x∈l:=Ah2 h
theorem AaZ {l:List Entity} {e x:Entity} (h:x∈put1 l e):x=e∨x∈l:=by
 unfold put1 at h
 split at h
 ·exact .inr h
 ·exact AhN.1 h
theorem AoN {l:List Entity}: ∀ {a b:Int},Srt l→(∀x∈l,a≤x.id∧x.id≤b)→(l.length:Int)≤max 0 (b-a+1):=by
 induction l with
 |nil=>intro a b _ _;simp;omega
 |cons e l ih=>
  intro a b hs h
  obtain ⟨h1,h2⟩:=List.pairwise_cons.1 hs
  have:=ih (a:=a+1) (b:=b) h2 fun x hx=>by
   have k1:=h1 x hx
   have k2:=h e (List.mem_cons_self ..)
   have k3:=h x (List.mem_cons_of_mem _ hx)
   omega
  have k2:=h e (List.mem_cons_self ..)
  simp only [List.length_cons]
  omega
theorem AeM {l:List Entity} {p:Entity→Bool} (h:Srt l):Srt (l.filter p):=List.Pairwise.filter _ h
theorem Amt {l:List Entity} {n:Int} (hs:Srt l) (h: ∀x∈l,x.kind=1→1≤x.id∧x.id≤n) (hn:0≤n):((l.countP fun e=>e.kind==1:Nat):Int)≤n:=by
 rw [List.countP_eq_length_filter]
 have:=AoN (a:=1) (b:=n) (AeM (p:=fun e=>e.kind==1) hs) fun x hx=>by
  obtain ⟨h1,h2⟩:=List.mem_filter.1 hx
  exact h x h1 (by simpa using h2)
 omega
theorem An0 {l:List Entity} {n:Int} (hs:Srt l) (h: ∀x∈l,x.kind=1→1≤x.id∧x.id≤n) (hn:0≤n):(l.length:Int)≤things l+n:=by
 have h1:=Amt hs h hn
 have h2:= @Ai0 l
 unfold things
 omega
theorem Entity.right_player {c:Config} {e:Entity} (h:e.right c=true) (hk:e.kind=1):1≤e.id∧e.id≤c.players:=by
 simp only [Entity.right,hk,if_true,Bool.and_eq_true,Aad] at h
 omega
theorem Aaz {c:Config} {r:Int} {s:Region}:regionRight c r s=true↔c.is r=true∧(0≤s.frame∧s.frame≤10000)∧Srt s.ents∧things s.ents≤24∧ ∀e∈s.ents,e.right c=true∧c.of e.x e.y=r:=by
 simp only [regionRight,Bool.and_eq_true,Aad,AiT,decide_eq_true_eq,List.all_eq_true]
 constructor
 ·rintro ⟨⟨⟨⟨h1,h2⟩,h3⟩,h4⟩,h5⟩;exact ⟨h1,h2,h3,h4,h5⟩
 ·rintro ⟨h1,h2,h3,h4,h5⟩;exact ⟨⟨⟨⟨h1,h2⟩,h3⟩,h4⟩,h5⟩
structure Fine (c:Config) (r:Int) (s:Region) (ins:List Input) (inbox:List Cross):Prop where
 is:c.is r=true
 frame:0≤s.frame∧s.frame<10000
 srt:Srt s.ents
 things:things s.ents≤24
 ents: ∀e∈s.ents,e.right c=true∧c.of e.x e.y=r
 len:(ins.length:Int)=c.players
 ins: ∀i∈ins,i.right=true
 box: ∀m∈inbox,m.right c=true∧m.to=r∧m.frame=s.frame-1
theorem Agz {c:Config} {r:Int} {s:Region} {ins:List Input} {inbox:List Cross} (h:askedE c r s ins inbox=0):Fine c r s ins inbox:=by
 unfold askedE at h
 split at h
 ·omega
 ·rename_i h1
  split at h
  ·omega
  ·rename_i h2
   split at h
   ·omega
   ·rename_i h3
    split at h
    ·omega
    ·rename_i h4
     split at h
     ·omega
     ·rename_i h5
      obtain ⟨k1,k2,k3,k4,k5⟩:=Aaz.1 (by simpa using h2)
      refine ⟨k1,by omega,k3,k4,k5,by omega,fun i hi=> ?_,fun m hm=> ?_⟩
      ·have h3: ¬(ins.any fun i=> !i.right)=true:=fun e=>h3 (.inr e)
       cases hr:i.right with
       |true=>rfl
       |false=>exact absurd (List.any_eq_true.2 ⟨i,hi,by simp [hr]⟩) h3
      ·have:(m.right c&&decide (m.to=r)&&decide (m.frame=s.frame-1))=true:=by
        cases hr:(m.right c&&decide (m.to=r)&&decide (m.frame=s.frame-1)) with
        |true=>rfl
        |false=>exact absurd (List.any_eq_true.2 ⟨m,hm,by simp [hr]⟩) h4
       simp only [Bool.and_eq_true,decide_eq_true_eq] at this
       exact ⟨this.1.1,this.1.2,this.2⟩
theorem Ag2 {c:Config} {r:Int} {s:Region} {ins:List Input} {inbox:List Cross} (h:Fine c r s ins inbox):askedE c r s ins inbox=0:=by
 have h1:regionRight c r s=true:=Aaz.2 ⟨h.is,by have:=h.frame;omega,h.srt,h.things,h.ents⟩
 have h2:(ins.any fun i=> !i.right)=false:=by rw [List.any_eq_false];intro i hi;simp [h.ins i hi]
 have h3:(inbox.any fun m=> !(m.right c&&decide (m.to=r)&&decide (m.frame=s.frame-1)))=false:=by
  rw [List.any_eq_false];intro m hm
  obtain ⟨k1,k2,k3⟩:=h.box m hm
  simp [k1,k2,k3]
 have h4:=h.frame
 unfold askedE
 rw [if_neg (by simp [h.is]),if_neg (by simp [h1]),if_neg (by simp [h.len,h2]),if_neg (by rw [h3];simp),if_neg (by omega)]
structure Sane (c:Config) (r:Int) (l:List Entity):Prop where
 srt:Srt l
 things:things l≤24
 ents: ∀e∈l,e.right c=true∧c.of e.x e.y=r
theorem Adl {l:List Entity} {e:Entity}:things (put1 l e)≤things l+(if e.kind=1 then 0 else 1):=by
 have ins_things: ∀l:List Entity,things (ins l e)=things l+(if e.kind=1 then 0 else 1):=by
  intro l
  unfold ins things
  split
  ·rename_i k hk
   have:(l.take k++e::l.drop k).countP (fun e=>e.kind !=1)=l.countP (fun e=>e.kind !=1)+(if e.kind=1 then 0 else 1):=by
    rw [List.countP_append,List.countP_cons]
    conv=>rhs;rw [←List.take_append_drop k l,List.countP_append]
    by_cases h:e.kind=1<;>simp [h]<;>omega
   rw [this]
   split<;>simp
  ·rw [List.countP_append,List.countP_cons,List.countP_nil]
   by_cases h:e.kind=1<;>simp [h]
 unfold put1
 split
 ·split<;>omega
 ·rw [ins_things];omega
theorem Akc {c:Config} {r:Int} {l:List Entity} {m:Cross} (h:Sane c r l) (hm:m.right c=true) (ht:m.to=r):Sane c r (arrive1 l m):=by
 unfold arrive1
 split
 ·rename_i hk
  have hp:= @Adl l m.ent
  have ht2:=h.things
  simp only [Cross.right,hk.1,if_true,Bool.and_eq_true,decide_eq_true_eq] at hm
  refine ⟨AaC h.srt,by split at hp<;>omega,fun e he=> ?_⟩
  rcases AaZ he with rfl|he
  ·exact ⟨hm.2.1.1.1.1,by omega⟩
  ·exact h.ents e he
 ·exact h
theorem Ak6 {c:Config} {r:Int} {inbox:List Cross}: ∀ {l:List Entity},Sane c r l→(∀m∈inbox,m.right c=true∧m.to=r)→Sane c r (arriveL l inbox):=by
 induction inbox with
 |nil=>intro l h _;exact h
 |cons m inbox ih=>
  intro l h hm
  have h1:=hm m (List.mem_cons_self ..)
  exact ih (Akc h h1.1 h1.2) fun x hx=>hm x (List.mem_cons_of_mem _ hx)
theorem Fine.sane {c:Config} {r:Int} {s:Region} {ins:List Input} {inbox:List Cross} (h:Fine c r s ins inbox):Sane c r (arriveL s.ents inbox):=
 Ak6 ⟨h.srt,h.things,h.ents⟩ fun m hm=>⟨(h.box m hm).1,(h.box m hm).2.1⟩
theorem Sane.len {c:Config} {r:Int} {l:List Entity} (h:Sane c r l) (hc:c.right=true):l.length≤30:=by
 have h1:=An0 (n:=c.players) h.srt (fun x hx hk=>Entity.right_player (h.ents x hx).1 hk) (by have:=Config.right_iff.1 hc;omega)
 have h2:=h.things
 have h3:=Config.right_iff.1 hc
 omega
end Go.Eva
namespace Go.Eva
theorem AhK {l:List Entity} (h:Srt l): ∀ {x y:Entity},x∈l→y∈l→x.id=y.id→x=y:=by
 induction l with
 |nil=>intro x y hx;simp at hx
 |cons a l ih=>
  intro x y hx hy e
  obtain ⟨h1,h2⟩:=List.pairwise_cons.1 h
  rcases List.mem_cons.1 hx with kx|kx<;>rcases List.mem_cons.1 hy with ky|ky
  ·rw [kx,ky]
  ·have:=h1 y ky;rw [kx] at e;omega
  ·have:=h1 x kx;rw [ky] at e;omega
  ·exact ih h2 kx ky e
theorem Afq {l:List Entity} {p:Entity} (hs:Srt l) (h:p∈l): ∃k:Nat,find l p.id=k∧k<l.length∧gt l k=p:=by
 obtain ⟨k,h1,h2,h3⟩:=AbX (l:=l) (id:=p.id) ⟨p,h,rfl⟩
 exact ⟨k,h1,h2,AhK hs (Aa3 h2) h h3⟩
theorem Ae5 {l:List Entity} {p e:Entity} (hs:Srt l) (h:p∈l) (he:e.id=p.id):Srt (setId l p.id e):=by
 rw [←he]
 exact AjD (Ait ⟨p,h,he.symm⟩).symm hs
theorem Acu {l:List Entity} {p e:Entity} (hs:Srt l) (h:p∈l) (hk:e.kind=p.kind):things (setId l p.id e)=things l:=by
 obtain ⟨k,h1,h2,h3⟩:=Afq hs h
 unfold setId things
 rw [h1,Int.toNat_natCast,List.countP_set h2,hk]
 rw [gt_eq h2] at h3
 rw [h3]
 have:(if (p.kind !=1)=true then 1 else 0)≤l.countP fun e=>e.kind !=1:=by
  split
  ·rename_i hp
   exact List.countP_pos_iff.2 ⟨p,h,hp⟩
  ·omega
 omega
theorem Abr {l:List Entity} {p e x:Entity} (hs:Srt l) (h:p∈l) (hx:x∈l) (hne:x.id≠p.id):x∈setId l p.id e:=by
 obtain ⟨k,h1,h2,h3⟩:=Afq hs h
 obtain ⟨j,j1,j2,j3⟩:=Afq hs hx
 unfold setId
 rw [h1,Int.toNat_natCast]
 have hjk:j≠k:=fun e=>hne (by rw [←j3,←h3,e])
 rw [List.mem_iff_getElem?]
 refine ⟨j,?_⟩
 rw [List.getElem?_set_ne (by omega),AcJ j2,j3]
theorem Alb {l:List Entity} {p e:Entity} (hs:Srt l) (h:p∈l):e∈setId l p.id e:=by
 obtain ⟨k,h1,h2,h3⟩:=Afq hs h
 unfold setId
 rw [h1,Int.toNat_natCast]
 exact List.mem_set h2 e
theorem AcD {p:Entity} {i:Input}:(steerE p i).1.id=p.id∧(steerE p i).1.kind=p.kind∧(steerE p i).1.x=p.x∧(steerE p i).1.y=p.y∧(steerE p i).1.health=p.health:=by
 unfold steerE
 split
 ·simp
 ·split<;>simp
theorem AhB {a b:Int}:a≤maxI a b∧b≤maxI a b∧(maxI a b=a∨maxI a b=b):=by unfold maxI;split<;>omega
theorem AjN {c:Config} {p:Entity} {i:Input} (h:p.right c=true) (hk:p.kind=1) (hi:i.right=true):(steerE p i).1.right c=true∧({(steerE p i).1 with age:=0}:Entity).right c=true:=by
 simp only [Input.right,Bool.and_eq_true,Aad] at hi
 simp only [Entity.right,hk,if_true,Bool.and_eq_true,Aad,decide_eq_true_eq] at h
 have hm:= @AhB p.age 1
 unfold steerE
 split
 ·simp only [Entity.right,hk,if_true,Bool.and_eq_true,Aad,decide_eq_true_eq]
  refine ⟨⟨h.1,?_⟩,⟨h.1,?_⟩⟩<;>omega
 ·split
  ·simp only [Entity.right,hk,if_true,Bool.and_eq_true,Aad,decide_eq_true_eq]
   refine ⟨⟨h.1,?_⟩,⟨h.1,?_⟩⟩<;>omega
  ·simp only [Entity.right,hk,if_true,Bool.and_eq_true,Aad,decide_eq_true_eq]
   refine ⟨⟨h.1,?_⟩,⟨h.1,?_⟩⟩<;>omega
theorem Agp (d:Int):clamp d (-1) 1= -1∨clamp d (-1) 1=0∨clamp d (-1) 1=1:=by unfold clamp;split<;>(try split)<;>omega
theorem AjI {c:Config} {p:Entity} {i:Input} {id:Int} (h:p.right c=true) (hk:p.kind=1) (hid:1000≤id∧id≤2147483647):(shootE p i id).right c=true:=by
 have hp:=Entity.right_player h hk
 simp only [Entity.right,Bool.and_eq_true] at h
 have h1:=Agp i.dx
 have h2:=Agp i.dy
 have hh:within id 1000 2147483647=true:=Aad.2 hid
 have ho:within p.id 1 c.players=true:=Aad.2 hp
 have h0:within 0 0 12=true:=by decide
 unfold shootE paceD
 simp only [Entity.right,h.1,hh,ho,h0,pace]
 rcases h1 with h1|h1|h1<;>rcases h2 with h2|h2|h2<;>simp [h1,h2]
structure Steer (c:Config) (r:Int) (s:Stg):Prop where
 sane:Sane c r s.l
 made:0≤s.made∧s.made≤8
theorem AmX {c:Config} {r f made:Int} (hr:0≤r∧r<c.regions) (hf:0≤f∧f<10000) (hm:0≤made∧made≤8):1000≤numI c r f made∧numI c r f made≤2147483647:=by
 have h:= @Config.regions_le c
 have h1:0≤f*c.regions:=Int.mul_nonneg hf.1 h.1
 have h2:f*c.regions≤10000*16:=Int.mul_le_mul (by omega) h.2 h.1 (by omega)
 unfold numI
 omega
theorem Config.is_le {c:Config} {r:Int} (h:c.is r=true):0≤r∧r<c.regions:=by
 simp only [Config.is,Aad] at h;omega
theorem Stg.room_iff {s:Stg}:s.room=true↔s.made<8∧things s.l<24:=by simp [Stg.room]
theorem Ais {c:Config} {r f:Int} {ins:List Input} {s:Stg} {p:Entity} (hs:Steer c r s) (hr:c.is r=true) (hf:0≤f∧f<10000) (hp:p∈s.l) (hi:p.kind=1→(inAt ins p.id).right=true):
  Steer c r (steer1 c r f ins s p)∧(∀x∈s.l,x.id≠p.id→x∈(steer1 c r f ins s p).l)∧(steer1 c r f ins s p).out=s.out:=by
 unfold steer1
 split
 ·exact ⟨hs,fun x hx _=>hx,rfl⟩
 ·rename_i hk
  have hk:p.kind=1:=by omega
  obtain ⟨hpr,hpo⟩:=hs.sane.ents p hp
  have hi:=hi hk
  obtain ⟨e1,e2⟩:=AjN hpr hk hi
  obtain ⟨i1,i2,i3,i4,i5⟩:= @AcD p (inAt ins p.id)
  split
  ·split
   ·rename_i hroom
    have hroom:=Stg.room_iff.1 hroom
    have hn:=AmX (made:=s.made) (Config.is_le hr) hf hs.made
    have hsh:=AjI (i:=inAt ins p.id) e1 (by omega) hn
    have hs1:Srt (put1 s.l (shootE (steerE p (inAt ins p.id)).1 (inAt ins p.id) (numI c r f s.made))):=AaC hs.sane.srt
    have hp1:p∈put1 s.l (shootE (steerE p (inAt ins p.id)).1 (inAt ins p.id) (numI c r f s.made)):=Ac1 p hp
    have ht:= @Adl s.l (shootE (steerE p (inAt ins p.id)).1 (inAt ins p.id) (numI c r f s.made))
    refine ⟨⟨⟨Ae5 hs1 hp1 i1,?_,fun e he=> ?_⟩,by have:=hs.made;simp only;omega⟩,fun x hx hne=>Abr hs1 hp1 (Ac1 x hx) hne,rfl⟩
    ·simp only
     rw [Acu hs1 hp1 i2]
     have:=hs.sane.things
     split at ht<;>omega
    ·rcases Aei he with rfl|he
     ·exact ⟨e1,by rw [i3,i4];exact hpo⟩
     ·rcases AaZ he with rfl|he
      ·refine ⟨hsh,?_⟩
       show c.of (steerE p (inAt ins p.id)).1.x (steerE p (inAt ins p.id)).1.y=r
       rw [i3,i4];exact hpo
      ·exact hs.sane.ents e he
   ·refine ⟨⟨⟨Ae5 hs.sane.srt hp i1,?_,fun e he=> ?_⟩,hs.made⟩,fun x hx hne=>Abr hs.sane.srt hp hx hne,rfl⟩
    ·simp only
     rw [Acu hs.sane.srt hp (by exact i2)]
     exact hs.sane.things
    ·rcases Aei he with rfl|he
     ·refine ⟨e2,?_⟩
      show c.of (steerE p (inAt ins p.id)).1.x (steerE p (inAt ins p.id)).1.y=r
      rw [i3,i4];exact hpo
     ·exact hs.sane.ents e he
  ·refine ⟨⟨⟨Ae5 hs.sane.srt hp i1,?_,fun e he=> ?_⟩,hs.made⟩,fun x hx hne=>Abr hs.sane.srt hp hx hne,rfl⟩
   ·simp only
    rw [Acu hs.sane.srt hp i2]
    exact hs.sane.things
   ·rcases Aei he with rfl|he
    ·exact ⟨e1,by rw [i3,i4];exact hpo⟩
    ·exact hs.sane.ents e he
theorem Amw {c:Config} {r f:Int} {ins:List Input} (hr:c.is r=true) (hf:0≤f∧f<10000) (hins:(ins.length:Int)=c.players) (hi: ∀i∈ins,i.right=true): ∀ {R:List Entity} {s:Stg},Steer c r s→Srt R→(∀p∈R,p∈s.l)→
  Steer c r (R.foldl (steer1 c r f ins) s)∧(R.foldl (steer1 c r f ins) s).out=s.out:=by
 intro R
 induction R with
 |nil=>intro s h _ _;exact ⟨h,rfl⟩
 |cons p R ih=>
  intro s h hR hm
  have hp:=hm p (List.mem_cons_self ..)
  obtain ⟨h1,h2,h3⟩:=Ais (f:=f) (ins:=ins) h hr hf hp fun hk=>by
   have:=Entity.right_player (h.sane.ents p hp).1 hk
   unfold inAt
   exact hi _ (Aa3 (by omega))
  obtain ⟨hR1,hR2⟩:=List.pairwise_cons.1 hR
  have:=ih h1 hR2 fun q hq=>h2 q (hm q (List.mem_cons_of_mem _ hq)) (by have:=hR1 q hq;omega)
  exact ⟨this.1,by rw [List.foldl_cons,this.2,h3]⟩
theorem AfI {c:Config} {r:Int} {s:Region} {ins:List Input} {inbox:List Cross} (h:Fine c r s ins inbox):
  Steer c r (steerS c r s.frame ins ⟨arriveL s.ents inbox,0,[]⟩)∧(steerS c r s.frame ins ⟨arriveL s.ents inbox,0,[]⟩).out= []:=
 Amw (ins:=ins) h.is h.frame h.len h.ins ⟨h.sane,by simp⟩ h.sane.srt fun p hp=>hp
end Go.Eva
namespace Go.Eva
theorem AlA {c:Config} {e:Entity} (h:(goE c e).2=true):(goE c e).1.id=e.id∧(goE c e).1.kind=e.kind∧(goE c e).1.health=e.health∧(goE c e).1.owner=e.owner:=by
 unfold goE at h⊢
 split
 ·rename_i h1;rw [if_pos h1] at h;simp at h
 ·rename_i h1
  rw [if_neg h1] at h
  split
  ·rename_i h2
   rw [if_pos h2] at h
   split
   ·rename_i h3;rw [if_pos h3] at h;simp at h
   ·simp
  ·simp
theorem Ad3 {c:Config} {e:Entity} (h:e.right c=true):c.right=true∧(0≤e.x∧e.x<c.width)∧(0≤e.y∧e.y<c.height):=by
 simp only [Entity.right,Bool.and_eq_true] at h
 have hr:=Config.inside_right h.1
 have:=h.1
 simp only [Config.inside,Bool.and_eq_true,Aad] at this
 exact ⟨hr,by omega,by omega⟩
theorem AlX {c:Config} {e:Entity} (h:e.right c=true):(-160≤e.vx∧e.vx≤160)∧(-160≤e.vy∧e.vy≤160)∧(e.kind=1∨e.kind=2∨e.kind=3)∧(e.kind=3→e.vx=0∧e.vy=0):=by
 simp only [Entity.right,Bool.and_eq_true] at h
 have h2:=h.2
 by_cases k1:e.kind=1
 ·rw [if_pos k1] at h2
  simp only [Bool.and_eq_true,Aad,decide_eq_true_eq] at h2
  omega
 ·rw [if_neg k1] at h2
  by_cases k2:e.kind=2
  ·rw [if_pos k2] at h2
   simp only [Bool.and_eq_true,Aad,decide_eq_true_eq,pace,Bool.or_eq_true] at h2
   omega
  ·rw [if_neg k2] at h2
   by_cases k3:e.kind=3
   ·rw [if_pos k3] at h2
    simp only [Bool.and_eq_true,Aad,decide_eq_true_eq] at h2
    omega
   ·rw [if_neg k3] at h2;contradiction
theorem AeO {v hi:Int} (h:0≤v∧v≤hi):clamp v 0 hi=v:=by unfold clamp;rw [if_neg (by omega),if_neg (by omega)]
theorem Ajd {v d hi:Int} (h:0≤v∧v≤hi) (hd: -160≤d∧d≤160):v-160≤clamp (v+d) 0 hi∧clamp (v+d) 0 hi≤v+160:=by unfold clamp;split<;>(try split)<;>omega
theorem Alq {c:Config} {e:Entity} (h:(goE c e).2=true):(goE c e).1.right c=true∧e.right c=true∧(e.x-160≤(goE c e).1.x∧(goE c e).1.x≤e.x+160)∧(e.y-160≤(goE c e).1.y∧(goE c e).1.y≤e.y+160):=by
 have hr:e.right c=true:=by
  cases hq:e.right c with
  |true=>rfl
  |false=>unfold goE at h;rw [if_pos hq] at h;simp at h
 obtain ⟨hc,hx,hy⟩:=Ad3 hr
 obtain ⟨vx,vy,hk,_⟩:=AlX hr
 have hw:= @Config.width_le c
 have hh:= @Config.height_le c
 have ax:sumH [e.x,e.vx]=e.x+e.vx:=AgN (by omega) (by omega)
 have ay:sumH [e.y,e.vy]=e.y+e.vy:=AgN (by omega) (by omega)
 have cx:=Ajd (v:=e.x) (d:=e.vx) (hi:=c.width-1) (by omega) vx
 have cy:=Ajd (v:=e.y) (d:=e.vy) (hi:=c.height-1) (by omega) vy
 have bx:=Acz (v:=e.x+e.vx) (lo:=0) (hi:=c.width-1) (by omega)
 have bY:=Acz (v:=e.y+e.vy) (lo:=0) (hi:=c.height-1) (by omega)
 refine ⟨?_,hr,?_⟩
 ·have hin:c.inside (clamp (e.x+e.vx) 0 (c.width-1)) (clamp (e.y+e.vy) 0 (c.height-1))=true:=by
   simp only [Config.inside,Bool.and_eq_true,Aad]
   exact ⟨bx,bY⟩
  unfold goE at h⊢
  rw [ax,ay] at h⊢
  rw [if_neg (by simp [hr])] at h⊢
  simp only [Entity.right,Bool.and_eq_true] at hr
  have hr2:=hr.2
  by_cases k2:e.kind=2
  ·rw [if_pos k2] at h⊢
   by_cases k3:e.age+1>12∨c.inside (e.x+e.vx) (e.y+e.vy)=false
   ·rw [if_pos k3] at h;simp at h
   ·rw [if_neg k3]
    simp only [Entity.right,hin,Bool.true_and,if_neg (show¬e.kind=1 by omega),if_pos k2] at hr2⊢
    simp only [Bool.and_eq_true,Aad] at hr2⊢
    refine ⟨⟨hr2.1.1,?_⟩,hr2.2⟩
    have:=hr2.1.2
    omega
  ·rw [if_neg k2]
   simp only [Entity.right,hin,Bool.true_and]
   exact hr2
 ·unfold goE at h⊢
  rw [ax,ay] at h⊢
  rw [if_neg (by simp [hr])] at h⊢
  by_cases k2:e.kind=2
  ·rw [if_pos k2] at h⊢
   by_cases k3:e.age+1>12∨c.inside (e.x+e.vx) (e.y+e.vy)=false
   ·rw [if_pos k3] at h;simp at h
   ·rw [if_neg k3];exact ⟨cx,cy⟩
  ·rw [if_neg k2];exact ⟨cx,cy⟩
def weak (c:Config) (e:Entity):Prop:=({e with health:=1}:Entity).right c=true∧e.health≤100∧(e.kind≠1→e.health=1)
theorem AcN {c:Config} {e:Entity} (h:e.right c=true):weak c e∧1≤e.health:=by
 unfold weak
 simp only [Entity.right,Bool.and_eq_true] at h⊢
 by_cases k1:e.kind=1
 ·simp only [k1,if_true,Bool.and_eq_true,Aad,decide_eq_true_eq] at h⊢
  obtain ⟨h0,h⟩:=h
  refine ⟨⟨⟨h0,?_⟩,?_,fun q=>absurd rfl q⟩,?_⟩<;>omega
 ·simp only [if_neg k1] at h⊢
  by_cases k2:e.kind=2
  ·simp only [if_pos k2,Bool.and_eq_true,decide_eq_true_eq] at h⊢
   simp only [h,and_self,true_and,implies_true,and_true]
   omega
  ·simp only [if_neg k2] at h⊢
   by_cases k3:e.kind=3
   ·simp only [if_pos k3,Bool.and_eq_true,decide_eq_true_eq] at h⊢
    simp only [h,and_self,true_and,implies_true,and_true]
    omega
   ·simp [k3] at h
theorem Amr {c:Config} {e:Entity} (h:weak c e) (hp:1≤e.health):e.right c=true:=by
 obtain ⟨h1,h2,h3⟩:=h
 by_cases k1:e.kind=1
 ·simp only [Entity.right,k1,if_true,Bool.and_eq_true,Aad,decide_eq_true_eq] at h1⊢
  exact ⟨h1.1,by omega⟩
 ·have:({e with health:=1}:Entity)=e:=by have:=h3 k1;cases e;simp_all
  rw [this] at h1;exact h1
theorem Ama {c:Config} {e:Entity} (h:weak c e):c.right=true∧(0≤e.x∧e.x<c.width)∧(0≤e.y∧e.y<c.height):=by
 have:=Ad3 h.1
 exact this
structure Moved (c:Config) (r:Int) (l:List Entity):Prop where
 srt:Srt l
 things:things l≤24
 ents: ∀e∈l,weak c e∧has (c.near r) (c.of e.x e.y)=true
theorem AgJ {l m:List Entity} (h:l.Sublist m):things l≤things m:=by
 unfold things
 have:=h.countP_le (p:=fun e:Entity=>e.kind !=1)
 omega
end Go.Eva
namespace Go.Eva
theorem AjO {cols r m:Int}: ∀ {d:Nat} {n:Int},has (nearR cols r n d) m=true↔(n≤m∧m<n+d)∧isNear cols r m=true
 |0,n=>by simp [nearR,has];omega
 |d+1,n=>by
  have ih:= @AjO cols r m d (n+1)
  unfold has at ih⊢
  rw [nearR,List.any_append,Bool.or_eq_true,ih]
  constructor
  ·rintro (h|⟨h1,h2⟩)
   ·split at h
    ·rename_i hn
     simp only [List.any_cons,List.any_nil,Bool.or_false,beq_iff_eq] at h
     subst h
     exact ⟨by omega,hn⟩
    ·simp at h
   ·exact ⟨by omega,h2⟩
  ·rintro ⟨h1,h2⟩
   by_cases hnm:n=m
   ·subst hnm
    left
    rw [if_pos h2];simp
   ·right
    exact ⟨by omega,h2⟩
theorem Aj8 {c:Config} {r m:Int} (h:c.is r=true):has (c.near r) m=true↔(0≤m∧m<c.cols*c.rows)∧isNear c.cols r m=true:=by
 have hr:=Config.is_right h
 have hi:=(Config.is_iff hr).1 h
 obtain ⟨hc,hrr,_⟩:=Config.right_iff.1 hr
 have hN:c.near r=nearR c.cols r 0 (c.cols*c.rows).toNat:=by rw [An3 hc hrr hi];simp [Config.near,h]
 rw [hN,AjO]
 have:=Config.mul_le hr
 constructor
 ·rintro ⟨h1,h2⟩;exact ⟨by omega,h2⟩
 ·rintro ⟨h1,h2⟩;exact ⟨by omega,h2⟩
theorem Anx {a q p:Int} (ha:0<a) (hp:0≤p∧p<a) (hq:0≤q):(q*a+p).tmod a=p∧(q*a+p).tdiv a=q:=by
 have h0:0≤q*a:=Int.mul_nonneg hq (by omega)
 rw [Int.tmod_eq_emod_of_nonneg (by omega),Int.tdiv_eq_ediv_of_nonneg (by omega)]
 constructor
 ·rw [Int.add_comm,Int.add_mul_emod_self_right,Int.emod_eq_of_lt hp.1 hp.2]
 ·rw [Int.add_comm,Int.add_mul_ediv_right _ _ (by omega),Int.ediv_eq_zero_of_lt hp.1 hp.2];omega
theorem of_eq {c:Config} {x y:Int} (hr:c.right=true) (hx:0≤x∧x<c.width) (hy:0≤y∧y<c.height):c.of x y=y.tdiv 1024*c.cols+x.tdiv 1024∧(0≤x.tdiv 1024∧x.tdiv 1024<c.cols)∧(0≤y.tdiv 1024∧y.tdiv 1024<c.rows):=by
 have h:=Config.right_iff.1 hr
 have hw:c.width=c.cols*1024:=by simp [Config.width,hr]
 have hh:c.height=c.rows*1024:=by simp [Config.height,hr]
 refine ⟨?_,AaR (by omega) hx.1 (by omega),AaR (by omega) hy.1 (by omega)⟩
 unfold Config.of
 rw [if_pos hr,AeO (by omega),AeO (by omega)]
theorem of_is {c:Config} {x y:Int} (hr:c.right=true) (hx:0≤x∧x<c.width) (hy:0≤y∧y<c.height):c.is (c.of x y)=true:=by
 obtain ⟨h1,h2,h3⟩:=of_eq hr hx hy
 obtain ⟨hc,hrr,_⟩:=Config.right_iff.1 hr
 rw [Config.is_iff hr,h1]
 have h4:y.tdiv 1024*c.cols≤(c.rows-1)*c.cols:=Int.mul_le_mul_of_nonneg_right (by omega) (by omega)
 have h5:0≤y.tdiv 1024*c.cols:=Int.mul_nonneg (by omega) (by omega)
 have h6:(c.rows-1)*c.cols=c.cols*c.rows-c.cols:=by rw [Int.sub_mul,Int.one_mul,Int.mul_comm]
 omega
theorem Anc {c:Config} {x y u v:Int} (hr:c.right=true) (hx:0≤x∧x<c.width) (hy:0≤y∧y<c.height) (hu:0≤u∧u<c.width) (hv:0≤v∧v<c.height)
  (h1:x-160≤u∧u≤x+160) (h2:y-160≤v∧v≤y+160):has (c.near (c.of x y)) (c.of u v)=true:=by
 rw [Aj8 (of_is hr hx hy)]
 have hi:=(Config.is_iff hr).1 (of_is hr hu hv)
 refine ⟨hi,?_⟩
 obtain ⟨a1,a2,a3⟩:=of_eq hr hx hy
 obtain ⟨b1,b2,b3⟩:=of_eq hr hu hv
 obtain ⟨hc,hrr,_⟩:=Config.right_iff.1 hr
 have p:=Anx (a:=c.cols) (q:=y.tdiv 1024) (p:=x.tdiv 1024) (by omega) a2 a3.1
 have q:=Anx (a:=c.cols) (q:=v.tdiv 1024) (p:=u.tdiv 1024) (by omega) b2 b3.1
 unfold isNear
 rw [a1,b1,p.1,p.2,q.1,q.2,decide_eq_true_eq]
 rw [Int.tdiv_eq_ediv_of_nonneg hx.1,Int.tdiv_eq_ediv_of_nonneg hy.1,Int.tdiv_eq_ediv_of_nonneg hu.1,Int.tdiv_eq_ediv_of_nonneg hv.1]
 omega
theorem Ah6 {c:Config} {r:Int} (h:c.is r=true):has (c.near r) r=true:=by
 rw [Aj8 h]
 exact ⟨(Config.is_iff (Config.is_right h)).1 h,by simp [isNear]⟩
theorem Ajq {c:Config} {r f o1 o2 a b:Int} (h:c.is r=true):(0≤placeX c r f a o1∧placeX c r f a o1<c.width)∧(0≤placeY c r f b o2∧placeY c r f b o2<c.height)∧c.of (placeX c r f a o1) (placeY c r f b o2)=r:=by
 have hr:=Config.is_right h
 have hi:=(Config.is_iff hr).1 h
 obtain ⟨hc,hrr,_⟩:=Config.right_iff.1 hr
 have hw:c.width=c.cols*1024:=by simp [Config.width,hr]
 have hh:c.height=c.rows*1024:=by simp [Config.height,hr]
 have b1:=Acr (n:=1024) (seed:=c.seed) (l:= [a,f,o1]) (by decide)
 have b2:=Acr (n:=1024) (seed:=c.seed) (l:= [b,f,o2]) (by decide)
 have k1:=AaR (v:=r) (k:=c.cols) (m:=c.rows) (by omega) (by omega) (by omega)
 have k2:=AaE (v:=r) (k:=c.cols) (by omega) (by omega)
 have e:=Int.tmod_add_tdiv_mul r c.cols
 have hx:0≤placeX c r f a o1∧placeX c r f a o1<c.width:=by unfold placeX Config.cornerX;rw [if_pos h];omega
 have hy:0≤placeY c r f b o2∧placeY c r f b o2<c.height:=by unfold placeY Config.cornerY;rw [if_pos h];omega
 refine ⟨hx,hy,?_⟩
 rw [(of_eq hr hx hy).1,Int.tdiv_eq_ediv_of_nonneg hx.1,Int.tdiv_eq_ediv_of_nonneg hy.1]
 unfold placeX placeY Config.cornerX Config.cornerY
 rw [if_pos h,if_pos h]
 have d1:(r.tmod c.cols*1024+below 1024 c.seed [a,f,o1])/1024=r.tmod c.cols:=by omega
 have d2:(r.tdiv c.cols*1024+below 1024 c.seed [b,f,o2])/1024=r.tdiv c.cols:=by omega
 rw [d1,d2]
 omega
end Go.Eva
namespace Go.Eva
theorem AgC {α:Type} [Inhabited α] {l:List α} {i:Nat} (h:i<l.length):l.set i (gt l i)=l:=by
 rw [gt_eq h];exact List.set_getElem_self h
def core (e:Entity):Entity:=if e.kind=1 then {e with health:=0} else e
theorem AhY {a b:Entity} (h:core a=core b):a.id=b.id∧a.kind=b.kind∧a.x=b.x∧a.y=b.y∧a.vx=b.vx∧a.vy=b.vy∧a.age=b.age∧a.owner=b.owner∧(a.kind≠1→a=b):=by
 have hk: ∀e:Entity,(core e).kind=e.kind:=fun e=>by unfold core;split<;>rfl
 have e1:a.kind=b.kind:=by rw [←hk a,←hk b,h]
 unfold core at h
 by_cases k:a.kind=1
 ·rw [if_pos k,if_pos (by omega)] at h
  cases a;cases b
  simp only [Entity.mk.injEq] at h⊢
  simp_all
 ·rw [if_neg k,if_neg (by omega)] at h
  subst h
  simp
theorem Aip {e:Entity} {n:Int} (h:e.kind=1):core {e with health:=n}=core e:=by
 unfold core;simp only [h,if_true]
theorem AnY {l:List Entity} {k:Nat} {n:Int} (hk:k<l.length) (h:(gt l k).kind=1):(l.set k {gt l k with health:=n}).map core=l.map core:=by
 rw [List.map_set,Aip h]
 apply List.ext_getElem?
 intro i
 rw [List.getElem?_set]
 split
 ·rename_i hik
  subst hik
  rw [List.length_map,if_pos hk,List.getElem?_map,AcJ hk,Option.map_some]
 ·rfl
theorem Ala {l m:List Entity} (h:l.map core=m.map core) {e:Entity} (he:e∈l): ∃x∈m,core e=core x:=by
 have:core e∈l.map core:=List.mem_map_of_mem he
 rw [h] at this
 obtain ⟨x,h1,h2⟩:=List.mem_map.1 this
 exact ⟨x,h1,h2.symm⟩
theorem Ali {l m:List Entity} (h:l.map core=m.map core):l.map Entity.id=m.map Entity.id:=by
 have hk: ∀e:Entity,(core e).id=e.id:=fun e=>by unfold core;split<;>rfl
 have h2:=congrArg (zz Entity.id) h
 rw [List.map_map,List.map_map] at h2
 have e:Entity.id∘core=Entity.id:=funext hk
 rwa [e] at h2
theorem Amd {l m:List Entity} (h:l.map core=m.map core):l.map Entity.kind=m.map Entity.kind:=by
 have hk: ∀e:Entity,(core e).kind=e.kind:=fun e=>by unfold core;split<;>rfl
 have h2:=congrArg (zz Entity.kind) h
 rw [List.map_map,List.map_map] at h2
 have e:Entity.kind∘core=Entity.kind:=funext hk
 rwa [e] at h2
theorem Aiu {l m:List Entity} (h:l.map core=m.map core):things l=things m:=by
 have h2:=Amd h
 have e: ∀l:List Entity,things l=((l.map Entity.kind).countP fun k=>k !=1:Nat):=fun l=>by
  unfold things;rw [List.countP_map];rfl
 rw [e,e,h2]
theorem AmS {l m:List Entity} (h:l.map core=m.map core) {i:Nat} (hi:i<l.length):core (gt l i)=core (gt m i):=by
 have hl:l.length=m.length:=by simpa using congrArg zq h
 have:=congrArg (fun x=>x[i]?) h
 simp only [List.getElem?_map,AcJ hi,AcJ (l:=m) (i:=i) (by omega),Option.map_some,Option.some.injEq] at this
 exact this
theorem AjP {c:Config} {a b:Entity} (h:core a=core b) (hb:weak c b) (ha:a.kind=1→a.health≤100):weak c a:=by
 obtain ⟨h1,h2,h3,h4,h5,h6,h7,h8,h9⟩:=AhY h
 by_cases k:a.kind=1
 ·refine ⟨?_,ha k,fun q=>absurd k q⟩
  have:=hb.1
  have e:({a with health:=1}:Entity)= {b with health:=1}:=by cases a;cases b;simp_all
  rw [e];exact this
 ·rw [h9 k];exact hb
theorem AlZ {c:Config} {r:Int} {l m:List Entity} (h:l.map core=m.map core) (hm:Moved c r m) (hh: ∀e∈l,e.kind=1→e.health≤100):Moved c r l:=by
 refine ⟨AjD (Ali h).symm hm.srt,by rw [Aiu h];exact hm.things,fun e he=> ?_⟩
 obtain ⟨x,hx,hc⟩:=Ala h he
 obtain ⟨h1,h2⟩:=hm.ents x hx
 refine ⟨AjP hc h1 (hh e he),?_⟩
 obtain ⟨_,_,k3,k4,_⟩:=AhY hc
 rw [k3,k4];exact h2
section
variable {kind far:Int} {other:Entity→Entity→Bool} {turn:Int→Int}
theorem Aoo {out:List Entity} {gone:List Bool} {i:Nat} (hk:kind≠1) (hi:i<out.length) (hg:gone.length=out.length) (ht: ∀n,n≤100→turn n≤100) (hh: ∀e∈out,e.kind=1→e.health≤100) (hf: ∀j,gt gone j=true→(gt out j).kind=kind):
  (meet1 kind far other turn out gone i).1.map core=out.map core∧(∀e∈(meet1 kind far other turn out gone i).1,e.kind=1→e.health≤100)∧
   (meet1 kind far other turn out gone i).2.length=out.length∧ ∀j,gt (meet1 kind far other turn out gone i).2 j=true→(gt (meet1 kind far other turn out gone i).1 j).kind=kind:=by
 unfold meet1
 split
 ·rename_i hki
  split
  ·rename_i k hq
   obtain ⟨hk1,hk2,_⟩:=List.findIdx?_eq_some_iff_getElem.1 hq
   simp only [meetP,Bool.and_eq_true,decide_eq_true_eq] at hk2
   rw [←gt_eq hk1] at hk2
   have hc:=AnY (n:=turn (gt out k).health) hk1 hk2.1
   refine ⟨hc,fun e he hek=> ?_,by simpa using hg,fun j hj=> ?_⟩
   ·rcases Ah2 he with rfl|he
    ·exact ht _ (hh _ (Aa3 hk1) hk2.1)
    ·exact hh e he hek
   ·have hlen:(out.set k {gt out k with health:=turn (gt out k).health}).length=out.length:=by simp
    by_cases hij:j=i
    ·subst hij
     have:=AhY (AmS hc (i:=j) (by rw [hlen];exact hi))
     simp only
     rw [this.2.1];exact hki
    ·simp only at hj⊢
     rw [AlQ (by omega),if_neg hij] at hj
     have hj2:=hf j hj
     by_cases hjl:j<out.length
     ·have:=AhY (AmS hc (i:=j) (by rw [hlen];exact hjl))
      rw [this.2.1];exact hj2
     ·exfalso
      unfold gt at hj
      rw [List.getElem?_eq_none (by omega)] at hj
      simp at hj
  ·exact ⟨rfl,hh,hg,hf⟩
 ·exact ⟨rfl,hh,hg,hf⟩
theorem Al3 (hk:kind≠1) (ht: ∀n,n≤100→turn n≤100): ∀ {d i:Nat} {out:List Entity} {gone:List Bool},i+d=out.length→gone.length=out.length→(∀e∈out,e.kind=1→e.health≤100)→(∀j,gt gone j=true→(gt out j).kind=kind)→
  (meetN kind far other turn d i out gone).1.map core=out.map core∧(∀e∈(meetN kind far other turn d i out gone).1,e.kind=1→e.health≤100)∧
   (meetN kind far other turn d i out gone).2.length=out.length∧ ∀j,gt (meetN kind far other turn d i out gone).2 j=true→(gt (meetN kind far other turn d i out gone).1 j).kind=kind
 |0,i,out,gone,_,hg,hh,hf=>⟨rfl,hh,hg,hf⟩
 |d+1,i,out,gone,hi,hg,hh,hf=>by
  obtain ⟨h1,h2,h3,h4⟩:=Aoo (far:=far) (other:=other) (turn:=turn) (i:=i) hk (by omega) hg ht hh hf
  have hl:(meet1 kind far other turn out gone i).1.length=out.length:=by simpa using congrArg zq h1
  obtain ⟨k1,k2,k3,k4⟩:=Al3 hk ht (d:=d) (i:=i+1) (by omega) (by omega) h2 h4
  rw [meetN]
  exact ⟨k1.trans h1,k2,by omega,k4⟩
theorem Agc: ∀ {l:List Entity} {g:List Bool},(keepL l g).Sublist l
 | [],_=>by simp [keepL]
 |e::l,[]=>by simp [keepL]
 |e::l,b::g=>by
  rw [keepL]
  split
  ·exact (Agc (l:=l) (g:=g)).cons _
  ·exact (Agc (l:=l) (g:=g)).cons_cons _
theorem Ags: ∀ {l:List Entity} {g:List Bool},g.length=l.length→(∀j,gt g j=true→(gt l j).kind≠1)→(keepL l g).filter (fun e=>decide (e.kind=1))=l.filter fun e=>decide (e.kind=1)
 | [],_,_,_=>by simp [keepL]
 |e::l,[],h,_=>by simp at h
 |e::l,b::g,h,hf=>by
  rw [keepL,List.filter_append,Ags (l:=l) (g:=g) (by simpa using h) fun j hj=>hf (j+1) hj]
  split
  ·rename_i hb
   have:=hf 0 hb
   rw [List.filter_cons,if_neg (by simpa [gt] using this)]
   simp
  ·rw [List.filter_cons,List.filter_cons]
   split<;>simp
end
structure Hit (l m:List Entity):Prop where
 sub: ∃k:List Entity,l.Sublist k∧k.map core=m.map core∧l.filter (fun e=>decide (e.kind=1))=k.filter fun e=>decide (e.kind=1)
 low: ∀e∈l,e.kind=1→e.health≤100
theorem AjU {kind far:Int} {other:Entity→Entity→Bool} {turn:Int→Int} {l:List Entity} (hk:kind≠1) (ht: ∀n,n≤100→turn n≤100) (hh: ∀e∈l,e.kind=1→e.health≤100):Hit (meetL kind far other turn l) l:=by
 obtain ⟨h1,h2,h3,h4⟩:=Al3 (far:=far) (other:=other) (turn:=turn) hk ht (d:=l.length) (i:=0) (out:=l) (gone:=zj l.length false) (by omega) (by simp) hh fun j hj=>by
  exfalso
  unfold gt at hj
  rw [List.getElem?_replicate] at hj
  split at hj<;>simp at hj
 have hl:(meetN kind far other turn l.length 0 l (zj l.length false)).1.length=l.length:=by simpa using congrArg zq h1
 refine ⟨⟨_,Agc,h1,Ags (by omega) fun j hj=>by rw [h4 j hj];exact hk⟩,fun e he=>h2 e (Agc.subset he)⟩
theorem Hit.moved {c:Config} {r:Int} {l m:List Entity} (h:Hit l m) (hm:Moved c r m):Moved c r l:=by
 obtain ⟨⟨k,h1,h2,h3⟩,h4⟩:=h
 refine ⟨(AjD (Ali h2).symm hm.srt).sublist h1,?_,fun e he=> ?_⟩
 ·have:=AgJ h1
  rw [Aiu h2] at this
  have:=hm.things
  omega
 ·obtain ⟨x,hx,hc⟩:=Ala h2 (h1.subset he)
  obtain ⟨g1,g2⟩:=hm.ents x hx
  refine ⟨AjP hc g1 (h4 e he),?_⟩
  obtain ⟨_,_,k3,k4,_⟩:=AhY hc
  rw [k3,k4];exact g2
theorem Ao9 {k m:List Entity} (h:k.map core=m.map core):(k.filter fun e=>decide (e.kind=1)).map Entity.id=(m.filter fun e=>decide (e.kind=1)).map Entity.id:=by
 have hk: ∀e:Entity,(core e).kind=e.kind:=fun e=>by unfold core;split<;>rfl
 have hi: ∀e:Entity,(core e).id=e.id:=fun e=>by unfold core;split<;>rfl
 have e: ∀l:List Entity,(l.filter fun e=>decide (e.kind=1)).map Entity.id=((l.map core).filter fun e=>decide (e.kind=1)).map Entity.id:=fun l=>by
  rw [List.filter_map,List.map_map]
  have e1:Entity.id∘core=Entity.id:=funext hi
  have e2:(fun e:Entity=>decide (e.kind=1))∘core=fun e=>decide (e.kind=1):=funext fun e=>by simp [hk]
  rw [e1,e2]
 rw [e k,e m,h]
theorem Hit.players {l m:List Entity} (h:Hit l m):(l.filter fun e=>decide (e.kind=1)).map Entity.id=(m.filter fun e=>decide (e.kind=1)).map Entity.id:=by
 obtain ⟨⟨k,h1,h2,h3⟩,h4⟩:=h
 rw [h3,Ao9 h2]
theorem AeF {l:List Entity} (hh: ∀e∈l,e.kind=1→e.health≤100):Hit (shotsL l) l:=
 AjU (by decide) (fun n hn=>by
  unfold subH
  have h1:held n≤100:=by unfold held clamp;split<;>(try split)<;>omega
  rw [show held 20=20 by decide]
  unfold held clamp at*
  split<;>(try split)<;>omega) hh
theorem Ajt {l:List Entity} (hh: ∀e∈l,e.kind=1→e.health≤100):Hit (gemsL l) l:=
 AjU (by decide) (fun n hn=>by unfold minI;split<;>omega) hh
theorem AkG {bs:List Cross}: ∀ {l:List Entity},(∀e∈l,e.kind=1→e.health≤100)→(blastsL l bs).map core=l.map core∧ ∀e∈blastsL l bs,e.kind=1→e.health≤100:=by
 induction bs with
 |nil=>intro l h;exact ⟨rfl,h⟩
 |cons b bs ih=>
  intro l h
  have h1:(l.map (hurtE b)).map core=l.map core:=by
   rw [List.map_map]
   congr 1
   funext e
   simp only [Function.comp,hurtE]
   split
   ·rename_i hq;exact Aip hq.2.1
   ·rfl
  have h2: ∀e∈l.map (hurtE b),e.kind=1→e.health≤100:=by
   intro e he hk
   obtain ⟨x,hx,rfl⟩:=List.mem_map.1 he
   unfold hurtE at hk⊢
   split
   ·rename_i hq
    have:=h x hx hq.2.1
    simp only [subH]
    have h1:held x.health≤100:=by unfold held clamp;split<;>(try split)<;>omega
    rw [show held 10=10 by decide]
    unfold held clamp at*
    split<;>(try split)<;>omega
   ·rename_i hq
    rw [if_neg hq] at hk
    exact h x hx hk
  obtain ⟨k1,k2⟩:=ih h2
  exact ⟨k1.trans h1,k2⟩
end Go.Eva
namespace Go.Eva
theorem AoE {l:List Entity} {id:Int} {i k:Nat} (hi:i<l.length) (h:(gt l i).id=id) (hk:find l id=k):k≤i:=by
 unfold find pos at hk
 cases hq:l.findIdx? fun e=>e.id==id with
 |none=>
  have:=List.findIdx?_eq_none_iff.1 hq _ (Aa3 hi)
  simp [h] at this
 |some j=>
  rw [hq] at hk
  simp only at hk
  obtain rfl:j=k:=by omega
  obtain ⟨hj,_,h2⟩:=List.findIdx?_eq_some_iff_getElem.1 hq
  rcases Nat.lt_or_ge i j with hlt|hge
  ·have:=h2 i hlt
   rw [←gt_eq hi] at this
   simp [h] at this
  ·exact hge
theorem Ah0 {l:List Entity} {e:Entity} {id:Int} (h: ∃x∈l,x.id=id): ∃x∈put1 l e,x.id=id:=by
 obtain ⟨x,h1,h2⟩:=h
 exact ⟨x,Ac1 x h1,h2⟩
theorem Aey {l:List Entity} {p e:Entity} {id:Int} (hp: ∃x∈l,x.id=p.id) (he:e.id=p.id) (h: ∃x∈l,x.id=id): ∃x∈setId l p.id e,x.id=id:=by
 refine Ajx ?_ h
 rw [←he]
 rw [←he] at hp
 exact (Ait hp).symm
theorem Ab1 {l:List Entity} {id:Int} {e:Entity} {k:Nat} (h:find l id=k):setId l id e=l.set k e:=by
 unfold setId;rw [h];rfl
theorem Akg {α:Type} [Inhabited α] {l:List α} {k j:Nat} {x:α} (h:j≠k):gt (l.set k x) j=gt l j:=by
 unfold gt;rw [List.getElem?_set_ne (by omega)]
theorem Am5 {α:Type} [Inhabited α] {A B:List α} {i:Nat} (hl:A.length=B.length) (h: ∀j,i≤j→j<B.length→gt A j=gt B j):A.drop i=B.drop i:=by
 refine Ak2 (by simp [hl]) fun j hj=> ?_
 have e: ∀l:List α,gt (l.drop i) j=gt l (i+j):=fun l=>by unfold gt;rw [List.getElem?_drop]
 rw [e,e]
 simp only [List.length_drop] at hj
 exact h _ (by omega) (by omega)
end Go.Eva
namespace Go.Eva
theorem Ami {l:List Entity} {g:Entity→Entity} (h: ∀e∈l,(g e).kind=e.kind):things (l.map g)=things l:=by
 unfold things
 rw [List.countP_map]
 congr 1
 refine List.countP_congr fun e he=> ?_
 simp [h e he]
theorem AcK {c:Config} {r:Int} {A:List Entity} (h:Sane c r A):Moved c r (moveL c A)∧ ∀e∈moveL c A,e.right c=true:=by
 have hmem: ∀e∈moveL c A,∃x∈A,(goE c x).2=true∧e=(goE c x).1:=by
  intro e he
  unfold moveL at he
  obtain ⟨x,hx,rfl⟩:=List.mem_map.1 he
  obtain ⟨h1,h2⟩:=List.mem_filter.1 hx
  exact ⟨x,h1,h2,rfl⟩
 have hr: ∀e∈moveL c A,e.right c=true:=by
  intro e he
  obtain ⟨x,hx,hg,rfl⟩:=hmem e he
  exact (Alq hg).1
 refine ⟨⟨?_,?_,fun e he=>⟨(AcN (hr e he)).1,?_⟩⟩,hr⟩
 ·unfold moveL
  rw [Srt,List.pairwise_map]
  refine List.Pairwise.imp_of_mem ?_ (AeM h.srt)
  intro a b ha hb hab
  have h1:=(AlA (List.mem_filter.1 ha).2).1
  have h2:=(AlA (List.mem_filter.1 hb).2).1
  omega
 ·unfold moveL
  rw [Ami fun e he=>(AlA (List.mem_filter.1 he).2).2.1]
  have:=AgJ (List.filter_sublist (p:=fun e=>(goE c e).2) (l:=A))
  have:=h.things
  omega
 ·obtain ⟨x,hx,hg,rfl⟩:=hmem e he
  obtain ⟨g1,g2,g3,g4⟩:=Alq hg
  obtain ⟨hxr,hxo⟩:=h.ents x hx
  obtain ⟨hc,p1,p2⟩:=Ad3 hxr
  obtain ⟨_,q1,q2⟩:=Ad3 g1
  have:=Anc hc p1 p2 q1 q2 g3 g4
  rwa [hxo] at this
theorem Moved.len {c:Config} {r:Int} {l:List Entity} (h:Moved c r l) (hc:c.right=true):l.length≤30:=by
 have h3:=Config.right_iff.1 hc
 have h1:=An0 (n:=c.players) h.srt (fun x hx hk=>by
  have:=Entity.right_player (h.ents x hx).1.1 hk
  exact this) (by omega)
 have h2:=h.things
 omega
theorem Af8 {c:Config} {e:Entity} (h:e.right c=true):e.health≤100:=(AcN h).1.2.1
theorem AcE {c:Config} {r:Int} {M:List Entity} {inbox:List Cross} (h:Moved c r M):Moved c r (blastsL (gemsL (shotsL M)) inbox)∧((blastsL (gemsL (shotsL M)) inbox).filter fun e=>decide (e.kind=1)).map Entity.id=(M.filter fun e=>decide (e.kind=1)).map Entity.id:=by
 have l0: ∀e∈M,e.kind=1→e.health≤100:=fun e he _=>(h.ents e he).1.2.1
 have h1:=AeF l0
 have m1:=h1.moved h
 have h2:=Ajt (l:=shotsL M) h1.low
 have m2:=h2.moved m1
 obtain ⟨b1,b2⟩:=AkG (bs:=inbox) (l:=gemsL (shotsL M)) h2.low
 refine ⟨AlZ b1 m2 b2,?_⟩
 rw [Ao9 b1,h2.players,h1.players]
theorem AfP {c:Config} {r f:Int}: ∀ {ids:List Int} {s:Stg},(ids.foldl (fall1 c r f) s).l.length=s.l.length∧(ids.foldl (fall1 c r f) s).made=s.made∧(ids.foldl (fall1 c r f) s).out.length=s.out.length+ids.length*(c.near r).length:=by
 intro ids
 induction ids with
 |nil=>intro s;simp
 |cons id ids ih=>
  intro s
  obtain ⟨h1,h2,h3⟩:= @ih (fall1 c r f s id)
  rw [List.foldl_cons]
  refine ⟨by rw [h1];simp [fall1],by rw [h2];rfl,?_⟩
  rw [h3]
  simp only [fall1,blastsAt,List.length_append,List.length_map,List.length_cons]
  rw [Nat.add_mul];omega
theorem Aol {c:Config} {r:Int} (h:c.is r=true):0<(c.near r).length:=by
 have:=Ah6 h
 cases hn:c.near r with
 |nil=>rw [hn] at this;simp [has] at this
 |cons a l=>simp
structure Still2 (c:Config) (r:Int) (l:List Entity):Prop where
 srt:Srt l
 things:things l≤24
 ents: ∀e∈l,e.right c=true∧has (c.near r) (c.of e.x e.y)=true
def blastOk (c:Config) (r f:Int) (m:Cross):Prop:=m.right c=true∧m.frm=r∧m.frame=f∧has (c.near r) m.to=true
theorem AkU {l:List Int} {x:Int}:has l x=true↔x∈l:=by
 unfold has
 rw [List.any_eq_true]
 constructor
 ·rintro ⟨y,h1,h2⟩;simp at h2;subst h2;exact h1
 ·intro h;exact ⟨x,h,by simp⟩
theorem Amj {c:Config} {r f:Int} {e:Entity} {id:Int} (h:weak c e) (hk:e.kind=1) (hr:c.is r=true):(anewE c r f id e).right c=true∧c.of (anewE c r f id e).x (anewE c r f id e).y=r:=by
 obtain ⟨h1,h2,h3⟩:=Ajq (c:=c) (r:=r) (f:=f) (o1:=id) (o2:=id) (a:=1) (b:=2) hr
 refine ⟨?_,h3⟩
 have hin:c.inside (placeX c r f 1 id) (placeY c r f 2 id)=true:=by
  simp only [Config.inside,Bool.and_eq_true,Aad];omega
 have hp:=h.1
 simp only [Entity.right,hk,if_true,Bool.and_eq_true,Aad,decide_eq_true_eq] at hp
 simp only [anewE,Entity.right,hk,if_true,Bool.and_eq_true,Aad,decide_eq_true_eq]
 refine ⟨hin,?_⟩
 omega
theorem Aoe {c:Config} {r f:Int} {e:Entity} {q:Int} (h:weak c e) (hr:c.is r=true) (hf:0≤f∧f<10000) (hq:q∈c.near r):blastOk c r f ⟨2,r,q,f,Entity.zero,e.x,e.y⟩:=by
 obtain ⟨h1,h2,h3⟩:=Ama h
 have hin:c.inside e.x e.y=true:=by simp only [Config.inside,Bool.and_eq_true,Aad];omega
 have hw:within f 0 9999=true:=Aad.2 (by omega)
 refine ⟨?_,rfl,rfl,AkU.2 hq⟩
 simp [Cross.right,AkU.2 hq,hw,hin]
theorem Anz {c:Config} {r f:Int} (hr:c.is r=true) (hf:0≤f∧f<10000): ∀ {ids:List Int} {s:Stg},Moved c r s.l→(∀id∈ids,∃x∈s.l,x.id=id∧x.kind=1)→(∀e∈s.l,e.health≤0→e.id∈ids)→(∀m∈s.out,blastOk c r f m)→
  Still2 c r (ids.foldl (fall1 c r f) s).l∧(∀m∈(ids.foldl (fall1 c r f) s).out,blastOk c r f m)∧((ids.foldl (fall1 c r f) s).l.filter fun e=>decide (e.kind=1)).map Entity.id=(s.l.filter fun e=>decide (e.kind=1)).map Entity.id:=by
 intro ids
 induction ids with
 |nil=>
  intro s hm _ hh ho
  refine ⟨⟨hm.srt,hm.things,fun e he=> ?_⟩,ho,rfl⟩
  obtain ⟨h1,h2⟩:=hm.ents e he
  refine ⟨Amr h1 ?_,h2⟩
  rcases Int.lt_or_le 0 e.health with h|h
  ·omega
  ·have:=hh e he h;simp at this
 |cons id ids ih=>
  intro s hm hp hh ho
  obtain ⟨x,hx,hxi,hxk⟩:=hp id (List.mem_cons_self ..)
  obtain ⟨k,k1,k2,k3⟩:=Afq hm.srt hx
  rw [hxi] at k1
  have e1:fall1 c r f s id=⟨s.l.set k (anewE c r f id x),s.made,s.out++blastsAt c r f x⟩:=by
   unfold fall1
   rw [k1,Int.toNat_natCast,k3]
  rw [List.foldl_cons,e1]
  obtain ⟨wx,_⟩:=hm.ents x hx
  obtain ⟨a1,a2⟩:=Amj (f:=f) (id:=id) wx hxk hr
  have hids:(s.l.set k (anewE c r f id x)).map Entity.id=s.l.map Entity.id:=Adg k2 (by rw [k3];rfl)
  have hkinds:things (s.l.set k (anewE c r f id x))=things s.l:=by
   have:=Acu (e:=anewE c r f id x) hm.srt hx rfl
   rwa [Ab1 (by rw [hxi];exact k1)] at this
  have hpl:((s.l.set k (anewE c r f id x)).filter fun e=>decide (e.kind=1)).map Entity.id=(s.l.filter fun e=>decide (e.kind=1)).map Entity.id:=by
   have hkk:(s.l.set k (anewE c r f id x)).map (fun e=>(e.id,e.kind))=s.l.map fun e=>(e.id,e.kind):=by
    rw [List.map_set]
    apply List.ext_getElem?
    intro i
    rw [List.getElem?_set]
    split
    ·rename_i hik
     subst hik
     rw [List.length_map,if_pos k2,List.getElem?_map,AcJ k2,Option.map_some,k3]
     rfl
    ·rfl
   have e: ∀l:List Entity,(l.filter fun e=>decide (e.kind=1)).map Entity.id=((l.map fun e=>(e.id,e.kind)).filter fun p=>decide (p.2=1)).map Prod.fst:=fun l=>by
    rw [List.filter_map,List.map_map];rfl
   rw [e,e s.l,hkk]
  have:=ih (s:=⟨s.l.set k (anewE c r f id x),s.made,s.out++blastsAt c r f x⟩) ?_ ?_ ?_ ?_
  ·simp only at this
   rw [hpl] at this
   exact this
  ·refine ⟨AjD hids.symm hm.srt,by simp only;rw [hkinds];exact hm.things,fun e he=> ?_⟩
   rcases Ah2 he with rfl|he
   ·exact ⟨(AcN a1).1,by rw [a2];exact Ah6 hr⟩
   ·exact hm.ents e he
  ·intro id2 hid2
   obtain ⟨y,hy,hyi,hyk⟩:=hp id2 (List.mem_cons_of_mem _ hid2)
   by_cases hne:y.id=x.id
   ·have:y=x:=AhK hm.srt hy hx hne
    subst this
    exact ⟨anewE c r f id y,List.mem_set k2 _,hyi,hyk⟩
   ·have:=Abr (e:=anewE c r f id x) hm.srt hx hy hne
    rw [Ab1 (by rw [hxi];exact k1)] at this
    exact ⟨y,this,hyi,hyk⟩
  ·intro e he hle
   rcases Ah2 he with h|h
   ·subst h
    have:=(AcN a1).2
    omega
   ·have:=hh e h hle
    rcases List.mem_cons.1 this with h2|h2
    ·
     have:e=x:=AhK hm.srt h hx (by omega)
     subst this
     exfalso
     obtain ⟨j,hj⟩:=List.mem_iff_getElem?.1 he
     rw [List.getElem?_set] at hj
     split at hj
     ·rename_i hkj
      injection hj with hj
      have:=(AcN a1).2
      rw [hj] at this
      omega
     ·rename_i hkj
      have hj2:=(List.getElem?_eq_some_iff.1 hj).1
      have hg:gt s.l j=e:=by unfold gt;rw [hj];rfl
      have:=hm.srt
      rw [Srt,List.pairwise_iff_getElem] at this
      rw [gt_eq hj2] at hg
      rw [gt_eq k2] at k3
      rcases Nat.lt_or_gt_of_ne hkj with hlt|hlt
      ·have:=this k j k2 hj2 hlt
       rw [hg,k3] at this;omega
      ·have:=this j k hj2 k2 hlt
       rw [hg,k3] at this;omega
    ·exact h2
  ·intro m hm2
   rcases List.mem_append.1 hm2 with h|h
   ·exact ho m h
   ·unfold blastsAt at h
    obtain ⟨q,hq,rfl⟩:=List.mem_map.1 h
    exact Aoe wx hr hf hq
theorem AoO {c:Config} {r f:Int} (hr:c.is r=true) (hf:0≤f∧f<10000) {H:List Entity} {made:Int} (hm:Moved c r H):Still2 c r (fallS c r f ⟨H,made,[]⟩).l∧(∀m∈(fallS c r f ⟨H,made,[]⟩).out,blastOk c r f m)∧((fallS c r f ⟨H,made,[]⟩).l.filter fun e=>decide (e.kind=1)).map Entity.id=(H.filter fun e=>decide (e.kind=1)).map Entity.id:=by
 refine Anz (s:=⟨H,made,[]⟩) hr hf hm ?_ ?_ (by simp)
 ·intro id hid
  obtain ⟨x,h1,h2⟩:=List.mem_map.1 hid
  obtain ⟨h3,h4⟩:=List.mem_filter.1 h1
  simp only [fallenP,Bool.and_eq_true,decide_eq_true_eq] at h4
  exact ⟨x,h3,h2,h4.1⟩
 ·intro e he hle
  have hk:e.kind=1:=by
   by_cases q:e.kind=1
   ·exact q
   ·have:=(hm.ents e he).1.2.2 q;omega
  exact List.mem_map.2 ⟨e,List.mem_filter.2 ⟨he,by simp [fallenP,hk,hle]⟩,rfl⟩
theorem AfQ {c:Config} {e:Entity} (h:e.right c=true):0≤e.age∧e.age≤12:=by
 simp only [Entity.right,Bool.and_eq_true] at h
 have h2:=h.2
 by_cases k1:e.kind=1
 ·rw [if_pos k1] at h2
  simp only [Bool.and_eq_true,Aad,decide_eq_true_eq] at h2
  omega
 ·rw [if_neg k1] at h2
  by_cases k2:e.kind=2
  ·rw [if_pos k2] at h2
   simp only [Bool.and_eq_true,Aad] at h2
   omega
  ·rw [if_neg k2] at h2
   by_cases k3:e.kind=3
   ·rw [if_pos k3] at h2
    simp only [Bool.and_eq_true,decide_eq_true_eq] at h2
    omega
   ·rw [if_neg k3] at h2;contradiction
theorem Acl {c:Config} {r f:Int} {s:Stg}:(leaveS c r f s).out.length≤s.out.length+s.l.length:=by
 simp only [leaveS,List.length_append,List.length_map]
 have:=List.length_filter_le (fun e=> !decide (c.of e.x e.y=r)) s.l
 omega
theorem Ajj {c:Config} {r f:Int} {s:Stg} (h:(s.l.filter fun e=> !decide (c.of e.x e.y=r))= []):(leaveS c r f s).out=s.out:=by
 simp [leaveS,h]
end Go.Eva
namespace Go.Eva
theorem AiD {c:Config} {r f:Int} {s:Stg}:growS c r f s=s∨growS c r f s=⟨put1 s.l (gemE c r f s.made),s.made+1,s.out⟩:=by
 unfold growS
 split
 ·exact .inl rfl
 ·exact .inr rfl
theorem Apu {c:Config} {r f made:Int} (hr:c.is r=true):c.of (gemE c r f made).x (gemE c r f made).y=r:=(Ajq (o1:=r) (o2:=r) (a:=4) (b:=5) hr).2.2
theorem Anj {c:Config} {r:Int} {s:Region} {ins:List Input} {inbox:List Cross} (h:askedE c r s ins inbox=0):(stepS c r s ins inbox).l.length≤31:=by
 have hfine:=Agz h
 have hrc:=Config.is_right hfine.is
 obtain ⟨hst1,hst2⟩:=AfI hfine
 unfold stepS restS
 generalize steerS c r s.frame ins ⟨arriveL s.ents inbox,0,[]⟩=S at*
 obtain ⟨A,made,o⟩:=S
 simp only at hst1 hst2⊢
 have hM:=(AcK hst1.sane).1
 have hH:=((AcE (inbox:=inbox) hM).1).len hrc
 simp only at hH
 generalize blastsL (gemsL (shotsL (moveL c A))) inbox=H at*
 have hF:=(@AfP c r s.frame (fallenL H) ⟨H,made,o⟩).1
 change (fallS c r s.frame ⟨H,made,o⟩).l.length=H.length at hF
 have hG:(growS c r s.frame (fallS c r s.frame ⟨H,made,o⟩)).l.length≤31:=by
  rcases @AiD c r s.frame (fallS c r s.frame ⟨H,made,o⟩) with h|h
  ·rw [h];omega
  ·rw [h]
   have:=(@Abl (fallS c r s.frame ⟨H,made,o⟩).l (gemE c r s.frame (fallS c r s.frame ⟨H,made,o⟩).made)).2
   simp only;omega
 have:(leaveS c r s.frame (growS c r s.frame (fallS c r s.frame ⟨H,made,o⟩))).l.length≤(growS c r s.frame (fallS c r s.frame ⟨H,made,o⟩)).l.length:=List.length_filter_le ..
 omega
end Go.Eva
namespace Go.Eva
structure World where
 regions:List Region
 outs:List CrossL
deriving DecidableEq,Inhabited
def World.enc (w:World):T:= .agg [.sl 2 (w.regions.map zt),.sl 1 (w.outs.map encL)]
def playerP (cols n i:Int):Entity:=⟨i,1,((i-1).tmod n).tmod cols*1024+512,((i-1).tmod n).tdiv cols*1024+512,0,0,100,0,0⟩
def begin1 (cols n:Int) (rs:List Region) (i:Int):List Region:=rs.set ((i-1).tmod n).toNat ⟨(gt rs ((i-1).tmod n).toNat).frame,put1 (gt rs ((i-1).tmod n).toNat).ents (playerP cols n i)⟩
def beginP (cols n:Int):Nat→Int→List Region→List Region
 |0,_,rs=>rs
 |d+1,i,rs=>beginP cols n d (i+1) (begin1 cols n rs i)
def beginW (cols n:Int) (players:Nat):World:=⟨beginP cols n players 1 (zj n.toNat ⟨0,[]⟩),zj n.toNat []⟩
def handed (l:List Cross):List Entity:=(l.filter fun m=>decide (m.kind=1)).map Cross.ent
def entsAll (rs:List Region):List Entity:=(rs.map Region.ents).flatten
def handedAll (os:List CrossL):List Entity:=(os.map handed).flatten
def allL (w:World):List Entity:=sortS Entity.less (entsAll w.regions++handedAll w.outs)
theorem AiH {cols n:Int}: ∀ {d:Nat} {i:Int} {rs:List Region},(beginP cols n d i rs).length=rs.length
 |0,_,_=>rfl
 |d+1,i,rs=>by rw [beginP,AiH];simp [begin1]
def playersP (cols n:Int):Nat→Int→List Entity
 |0,_=> []
 |d+1,i=>playerP cols n i::playersP cols n d (i+1)
end Go.Eva
namespace Go.Eva
def long {α:Type} (l:List α):Prop:=l.length≤9223372036854775807
abbrev um (n k:Int):Int:=(IntKind.u64.wrap n).tmod k
theorem um_le {n k:Int} (h:0<k):0≤um n k∧um n k<k:=AbP h
def playInput (i:Input):Input:=if i.right=true then i else ⟨um i.dx 5-2,um i.dy 5-2,i.fire⟩
theorem Aia (i:Input):(playInput i).right=true:=by
 unfold playInput
 split
 ·assumption
 ·have h1:= @um_le i.dx 5 (by decide)
  have h2:= @um_le i.dy 5 (by decide)
  simp only [Input.right,Bool.and_eq_true,Aad];omega
def rowAt (n:Nat) (l:List Input) (k:Nat):List Input:=(l.take k).map playInput++zj (n-k) Input.zero
def playRow (n:Nat) (l:List Input):List Input:=rowAt n l (min n l.length)
abbrev InputL:=List Input
def encI (l:List Input):T:= .sl 3 (l.map zr)
def playFrames (n:Nat) (l:List InputL) (most:Nat):List InputL:=(l.take most).map (playRow n)
theorem Akz {n k:Nat} {l:List Input} (h:k≤n) (h2:k≤l.length):(rowAt n l k).length=n:=by simp [rowAt];omega
theorem Ak7 {n:Nat} {l:List Input}:(playRow n l).length=n:=Akz (by omega) (by omega)
theorem Ank {n k:Nat} {l:List Input} (h:k<n) (h2:k<l.length):(rowAt n l k).set k (playInput (gt l k))=rowAt n l (k+1):=by
 have e1:(l.take (k+1))=l.take k++ [gt l k]:=by rw [List.take_add_one,AcJ h2];rfl
 have e2:n-k=(n-(k+1))+1:=by omega
 unfold rowAt
 rw [e1,e2,List.replicate_succ,List.set_append,if_neg (by simp;omega),List.map_append]
 have e3:k-((l.take k).map playInput).length=0:=by simp;omega
 rw [e3]
 simp
theorem Ajs {n:Nat} {l:List Input}: ∀i∈playRow n l,i.right=true:=by
 intro i hi
 unfold playRow rowAt at hi
 rcases List.mem_append.1 hi with h|h
 ·obtain ⟨x,_,rfl⟩:=List.mem_map.1 h
  exact Aia x
 ·rw [List.eq_of_mem_replicate h];decide
theorem AfC {c:Config} {r:Int}:(0≤c.cornerX r∧c.cornerX r≤4096)∧(0≤c.cornerY r∧c.cornerY r≤4096):=by
 unfold Config.cornerX Config.cornerY
 cases hr:c.is r with
 |false=>simp
 |true=>
  have h:=Config.is_right hr
  have hi:=(Config.is_iff h).1 hr
  obtain ⟨hc,hrr,_⟩:=Config.right_iff.1 h
  have k1:=AaR (v:=r) (k:=c.cols) (m:=c.rows) (by omega) (by omega) (by omega)
  have k2:=AaE (v:=r) (k:=c.cols) (by omega) (by omega)
  simp only [if_true]
  omega
theorem AmJ {c:Config} {r x y:Int} (hr:c.is r=true) (hx:0≤x∧x<1024) (hy:0≤y∧y<1024):c.inside (c.cornerX r+x) (c.cornerY r+y)=true∧c.of (c.cornerX r+x) (c.cornerY r+y)=r:=by
 have h:=Config.is_right hr
 have hi:=(Config.is_iff h).1 hr
 obtain ⟨hc,hrr,_⟩:=Config.right_iff.1 h
 have hw:c.width=c.cols*1024:=by simp [Config.width,h]
 have hh:c.height=c.rows*1024:=by simp [Config.height,h]
 have k1:=AaR (v:=r) (k:=c.cols) (m:=c.rows) (by omega) (by omega) (by omega)
 have k2:=AaE (v:=r) (k:=c.cols) (by omega) (by omega)
 have e:=Int.tmod_add_tdiv_mul r c.cols
 have ex:c.cornerX r=r.tmod c.cols*1024:=by unfold Config.cornerX;rw [if_pos hr]
 have ey:c.cornerY r=r.tdiv c.cols*1024:=by unfold Config.cornerY;rw [if_pos hr]
 have hin:c.inside (c.cornerX r+x) (c.cornerY r+y)=true:=by
  simp only [Config.inside,Bool.and_eq_true,Aad];omega
 refine ⟨hin,?_⟩
 rw [(of_eq h (by omega) (by omega)).1,Int.tdiv_eq_ediv_of_nonneg (by omega),Int.tdiv_eq_ediv_of_nonneg (by omega),ex,ey]
 have d1:(r.tmod c.cols*1024+x)/1024=r.tmod c.cols:=by omega
 have d2:(r.tdiv c.cols*1024+y)/1024=r.tdiv c.cols:=by omega
 rw [d1,d2]
 omega
end Go.Eva
namespace Go.Eva
theorem An8 {c:Config} {r f made:Int} (hr:c.is r=true) (hf:0≤f∧f<10000) (hm:0≤made∧made≤8):(gemE c r f made).right c=true∧c.of (gemE c r f made).x (gemE c r f made).y=r:=by
 refine ⟨?_,Apu hr⟩
 obtain ⟨h1,h2,_⟩:=Ajq (c:=c) (r:=r) (f:=f) (o1:=r) (o2:=r) (a:=4) (b:=5) hr
 have hin:c.inside (placeX c r f 4 r) (placeY c r f 5 r)=true:=by simp only [Config.inside,Bool.and_eq_true,Aad];omega
 have hn:within (numI c r f made) 1000 2147483647=true:=Aad.2 (AmX (Config.is_le hr) hf hm)
 simp [Entity.right,gemE,hin,hn]
theorem AoC {c:Config} {r f:Int} {e:Entity} (h:e.right c=true) (hn:has (c.near r) (c.of e.x e.y)=true) (hne:c.of e.x e.y≠r) (hf:0≤f∧f<10000):blastOk c r f (handE c r f e):=by
 have hw:within f 0 9999=true:=Aad.2 (by omega)
 refine ⟨?_,rfl,rfl,hn⟩
 simp [Cross.right,handE,hn,hw,h,hne]
def plI (l:List Entity):List Int:=(l.filter fun e=>decide (e.kind=1)).map Entity.id
theorem Aly: ∀ {l m:List Entity},l.map (fun e=>(e.id,decide (e.kind=1)))=m.map (fun e=>(e.id,decide (e.kind=1)))→plI l=plI m
 | [],[],_=>rfl
 | [],_::_,h=>by simp at h
 |_::_,[],h=>by simp at h
 |a::l,b::m,h=>by
  simp only [List.map_cons,List.cons.injEq,Prod.mk.injEq] at h
  have:=Aly h.2
  unfold plI at*
  rw [List.filter_cons,List.filter_cons,←h.1.2]
  split
  ·rw [List.map_cons,List.map_cons,this,h.1.1]
  ·exact this
theorem Aid {l:List Entity} {p e:Entity} (hs:Srt l) (h:p∈l) (hi:e.id=p.id) (hk:e.kind=p.kind):plI (setId l p.id e)=plI l:=by
 obtain ⟨k,h1,h2,h3⟩:=Afq hs h
 rw [Ab1 h1]
 refine Aly ?_
 rw [List.map_set]
 apply List.ext_getElem?
 intro i
 rw [List.getElem?_set]
 split
 ·rename_i hik
  subst hik
  rw [List.length_map,if_pos h2,List.getElem?_map,AcJ h2,Option.map_some,h3,hi,hk]
 ·rfl
theorem Al8 {l:List Entity} {e:Entity} (hk:e.kind≠1):plI (put1 l e)=plI l:=by
 have hd:decide (e.kind=1)=false:=by simp [hk]
 have:plI (ins l e)=plI l:=by
  unfold ins plI
  split
  ·rename_i k hk2
   rw [List.filter_append,List.filter_cons,hd]
   conv=>rhs;rw [←List.take_append_drop k l,List.filter_append]
   rfl
  ·rw [List.filter_append,List.filter_cons,hd]
   simp
 unfold put1
 split
 ·rfl
 ·exact this
theorem Ai7 {c:Config} {r f:Int} {ins:List Input} {s:Stg} {p:Entity} (hs:Srt s.l) (hp:p∈s.l):plI (steer1 c r f ins s p).l=plI s.l:=by
 unfold steer1
 split
 ·rfl
 ·rename_i hk
  obtain ⟨i1,i2,_⟩:= @AcD p (inAt ins p.id)
  split
  ·split
   ·simp only
    rw [Aid (AaC hs) (Ac1 p hp) i1 i2,Al8 (by simp [shootE])]
   ·exact Aid hs hp i1 i2
  ·exact Aid hs hp i1 i2
theorem AfB {c:Config} {r f:Int} {ins:List Input} (hr:c.is r=true) (hf:0≤f∧f<10000) (hins:(ins.length:Int)=c.players) (hi: ∀i∈ins,i.right=true): ∀ {R:List Entity} {s:Stg},Steer c r s→Srt R→(∀p∈R,p∈s.l)→
  plI (R.foldl (steer1 c r f ins) s).l=plI s.l:=by
 intro R
 induction R with
 |nil=>intro s h _ _;rfl
 |cons p R ih=>
  intro s h hR hm
  have hp:=hm p (List.mem_cons_self ..)
  obtain ⟨h1,h2,h3⟩:=Ais (f:=f) (ins:=ins) h hr hf hp fun hk=>by
   have:=Entity.right_player (h.sane.ents p hp).1 hk
   unfold inAt
   exact hi _ (Aa3 (by omega))
  obtain ⟨hR1,hR2⟩:=List.pairwise_cons.1 hR
  have:=ih h1 hR2 fun q hq=>h2 q (hm q (List.mem_cons_of_mem _ hq)) (by have:=hR1 q hq;omega)
  rw [List.foldl_cons,this,Ai7 h.sane.srt hp]
theorem AnX {c:Config} {A:List Entity} (h: ∀e∈A,e.right c=true):plI (moveL c A)=plI A:=by
 induction A with
 |nil=>rfl
 |cons e A ih=>
  have ih:=ih fun x hx=>h x (List.mem_cons_of_mem _ hx)
  have he:=h e (List.mem_cons_self ..)
  unfold moveL plI at*
  by_cases hk:e.kind=1
  ·have hg:(goE c e).2=true∧(goE c e).1.id=e.id∧(goE c e).1.kind=1:=by
    unfold goE
    rw [if_neg (by simp [he]),if_neg (by omega)]
    exact ⟨rfl,rfl,hk⟩
   rw [List.filter_cons,if_pos hg.1,List.map_cons,List.filter_cons,if_pos (by simp [hg.2.2]),List.map_cons,hg.2.1,ih]
   rw [List.filter_cons,if_pos (by simp [hk]),List.map_cons]
  ·rw [List.filter_cons]
   conv=>rhs;rw [List.filter_cons,if_neg (by simp [hk])]
   split
   ·rename_i hg
    have:=(AlA hg).2.1
    rw [List.map_cons,List.filter_cons,if_neg (by simp [this,hk])]
    exact ih
   ·exact ih
theorem Akm {c:Config} {r f:Int}: ∀ {ids:List Int} {s:Stg},(∀m∈s.out,m.kind=2)→ ∀m∈(ids.foldl (fall1 c r f) s).out,m.kind=2
 | [],_,h=>h
 |id::ids,s,h=>by
  rw [List.foldl_cons]
  refine Akm fun m hm=> ?_
  rcases List.mem_append.1 hm with hm|hm
  ·exact h m hm
  ·obtain ⟨q,_,rfl⟩:=List.mem_map.1 hm
   rfl
theorem Ah8 {c:Config} {r:Int} {s:Region} {ins:List Input} {inbox:List Cross} (h:Fine c r s ins inbox):
  Sane c r (stepS c r s ins inbox).l∧(∀m∈(stepS c r s ins inbox).out,blastOk c r s.frame m)∧
  (plI (stepS c r s ins inbox).l++plI ((stepS c r s ins inbox).out.filter (fun m=>decide (m.kind=1))|>.map Cross.ent)).Perm (presentL s.ents inbox):=by
 have hrc:=Config.is_right h.is
 obtain ⟨hst1,hst2⟩:=AfI h
 have hpl:=AfB (ins:=ins) h.is h.frame h.len h.ins (R:=arriveL s.ents inbox) (s:=⟨arriveL s.ents inbox,0,[]⟩) ⟨h.sane,by simp⟩ h.sane.srt fun p hp=>hp
 change plI (steerS c r s.frame ins ⟨arriveL s.ents inbox,0,[]⟩).l=presentL s.ents inbox at hpl
 rw [←hpl]
 unfold stepS restS
 generalize steerS c r s.frame ins ⟨arriveL s.ents inbox,0,[]⟩=S at*
 obtain ⟨A,made,o⟩:=S
 simp only at hst1 hst2⊢
 subst hst2
 have hM:=(AcK hst1.sane).1
 have hpm:=AnX fun e he=>(hst1.sane.ents e he).1
 rw [←hpm]
 obtain ⟨hH,hph⟩:=AcE (inbox:=inbox) hM
 change plI _=plI _ at hph
 rw [←hph]
 generalize blastsL (gemsL (shotsL (moveL c A))) inbox=H at*
 obtain ⟨hF,hO,hpf⟩:=AoO (made:=made) h.is h.frame hH
 change plI _=plI _ at hpf
 rw [←hpf]
 have hmd:=(@AfP c r s.frame (fallenL H) ⟨H,made,[]⟩).2.1
 have hki: ∀m∈(fallS c r s.frame ⟨H,made,[]⟩).out,m.kind=2:=Akm (by simp)
 change (fallS c r s.frame ⟨H,made,[]⟩).made=made at hmd
 generalize fallS c r s.frame ⟨H,made,[]⟩=F at*
 have hG:Still2 c r (growS c r s.frame F).l∧(growS c r s.frame F).out=F.out∧plI (growS c r s.frame F).l=plI F.l:=by
  unfold growS
  split
  ·exact ⟨hF,rfl,rfl⟩
  ·rename_i hroom
   have hroom:F.room=true:=by
    cases hq:F.room with
    |true=>rfl
    |false=>exact absurd (.inr (.inr hq)) hroom
   have hroom:=Stg.room_iff.1 hroom
   obtain ⟨g1,g2⟩:=An8 (made:=F.made) h.is h.frame (by rw [hmd];exact hst1.made)
   have ht:= @Adl F.l (gemE c r s.frame F.made)
   refine ⟨⟨AaC hF.srt,?_,fun e he=> ?_⟩,rfl,Al8 (by simp [gemE])⟩
   ·simp only
    split at ht<;>omega
   ·rcases AaZ he with rfl|he
    ·exact ⟨g1,by rw [g2];exact Ah6 h.is⟩
    ·exact hF.ents e he
 obtain ⟨hG1,hG2,hG3⟩:=hG
 rw [←hG3]
 rw [←hG2] at hO hki
 generalize growS c r s.frame F=G at*
 refine ⟨⟨AeM hG1.srt,?_,fun e he=> ?_⟩,fun m hm=> ?_,?_⟩
 ·have:=AgJ (List.filter_sublist (p:=fun e=>decide (c.of e.x e.y=r)) (l:=G.l))
  have:=hG1.things
  show things (G.l.filter _)≤24
  omega
 ·obtain ⟨h1,h2⟩:=List.mem_filter.1 he
  exact ⟨(hG1.ents e h1).1,by simpa using h2⟩
 ·rcases List.mem_append.1 hm with hm|hm
  ·exact hO m hm
  ·obtain ⟨e,he,rfl⟩:=List.mem_map.1 hm
   obtain ⟨h1,h2⟩:=List.mem_filter.1 he
   exact AoC (hG1.ents e h1).1 (hG1.ents e h1).2 (by simpa using h2) h.frame
 ·have e1:(G.out++(G.l.filter fun e=> !decide (c.of e.x e.y=r)).map (handE c r s.frame)).filter (fun m=>decide (m.kind=1))=(G.l.filter fun e=> !decide (c.of e.x e.y=r)).map (handE c r s.frame):=by
   rw [List.filter_append,List.filter_eq_nil_iff.2 fun m hm=>by have:=hki m hm;simp;omega,List.nil_append,List.filter_eq_self]
   intro m hm
   obtain ⟨e,_,rfl⟩:=List.mem_map.1 hm
   rfl
  have e2:((G.l.filter fun e=> !decide (c.of e.x e.y=r)).map (handE c r s.frame)).map Cross.ent=G.l.filter fun e=> !decide (c.of e.x e.y=r):=by
   rw [List.map_map]
   exact List.map_id _
  show (plI (G.l.filter fun e=>decide (c.of e.x e.y=r))++plI (((G.out++(G.l.filter fun e=> !decide (c.of e.x e.y=r)).map (handE c r s.frame)).filter fun m=>decide (m.kind=1)).map Cross.ent)).Perm (plI G.l)
  rw [e1,e2]
  have hp:=((List.filter_append_perm (fun e:Entity=>decide (c.of e.x e.y=r)) G.l).filter (fun e:Entity=>decide (e.kind=1))).map Entity.id
  rw [List.filter_append,List.map_append] at hp
  exact hp
theorem AjJ {α:Type} {lt:α→α→Bool} {x:α}: ∀ {l:List α},(insS lt l x).Perm (x::l)
 | []=> .refl _
 |y::l=>by
  unfold insS
  split
  ·exact .refl _
  ·exact (List.Perm.cons y AjJ).trans (.swap x y l)
theorem Aku {α:Type} {lt:α→α→Bool}: ∀ {l acc:List α},(l.foldl (insS lt) acc).Perm (acc++l)
 | [],acc=>by simp
 |x::l,acc=>by
  rw [List.foldl_cons]
  refine Aku.trans ?_
  refine (AjJ.append_right l).trans ?_
  exact List.perm_middle.symm
theorem AhI {α:Type} {lt:α→α→Bool} {l:List α}:(sortS lt l).Perm l:=Aku
theorem Amm {c:Config} {r:Int} {s:Region} {ins:List Input} {inbox:List Cross} (h:Fine c r s ins inbox): ∀m∈sortS Cross.less (stepS c r s ins inbox).out,blastOk c r s.frame m:=fun m hm=>(Ah8 h).2.1 m (AhI.mem_iff.1 hm)
theorem AlW {c:Config} {r:Int} {s:Region} {ins:List Input} {inbox:List Cross} (h:Fine c r s ins inbox):(sortS Cross.less (stepS c r s ins inbox).out).length≤400:=by
 rw [AhI.length_eq]
 have hrc:=Config.is_right h.is
 obtain ⟨hst1,hst2⟩:=AfI h
 unfold stepS restS
 generalize steerS c r s.frame ins ⟨arriveL s.ents inbox,0,[]⟩=S at*
 obtain ⟨A,made,o⟩:=S
 simp only at hst1 hst2⊢
 subst hst2
 have hM:=(AcK hst1.sane).1
 have hH:=((AcE (inbox:=inbox) hM).1).len hrc
 simp only at hH
 generalize blastsL (gemsL (shotsL (moveL c A))) inbox=H at*
 obtain ⟨hF,_,hO⟩:= @AfP c r s.frame (fallenL H) ⟨H,made,[]⟩
 change (fallS c r s.frame ⟨H,made,[]⟩).l.length=H.length at hF
 change (fallS c r s.frame ⟨H,made,[]⟩).out.length=_ at hO
 have hids:(fallenL H).length≤30:=by
  unfold fallenL
  rw [List.length_map]
  exact Nat.le_trans (List.length_filter_le ..) hH
 have hns:(c.near r).length≤9:=Aa0
 have hmul:(fallenL H).length*(c.near r).length≤30*9:=Nat.mul_le_mul hids hns
 simp only [List.length_nil,Nat.zero_add] at hO
 have hG:(growS c r s.frame (fallS c r s.frame ⟨H,made,[]⟩)).l.length≤31∧(growS c r s.frame (fallS c r s.frame ⟨H,made,[]⟩)).out.length≤270:=by
  rcases @AiD c r s.frame (fallS c r s.frame ⟨H,made,[]⟩) with h|h
  ·rw [h];omega
  ·rw [h]
   have:=(@Abl (fallS c r s.frame ⟨H,made,[]⟩).l (gemE c r s.frame (fallS c r s.frame ⟨H,made,[]⟩).made)).2
   simp only;omega
 have:= @Acl c r s.frame (growS c r s.frame (fallS c r s.frame ⟨H,made,[]⟩))
 omega
end Go.Eva
namespace Go.Eva
def inboxL (c:Config) (outs:List CrossL) (r:Int):List Cross:=(((c.near r).filter fun q=>decide (q<(outs.length:Int))).map fun q=>toL (gt outs q.toNat) r).flatten
def stgW (c:Config) (w:World) (ins:List Input) (r:Nat):Stg:=stepS c r (gt w.regions r) ins (inboxL c w.outs r)
def nextR (c:Config) (w:World) (ins:List Input) (r:Nat):Region:=⟨(gt w.regions r).frame+1,(stgW c w ins r).l⟩
def nextO (c:Config) (w:World) (ins:List Input) (r:Nat):CrossL:=sortS Cross.less (stgW c w ins r).out
def nextW (c:Config) (w:World) (ins:List Input):World:=⟨(List.range w.regions.length).map (nextR c w ins),(List.range w.regions.length).map (nextO c w ins)⟩
structure WFine (c:Config) (w:World) (f:Int):Prop where
 right:c.right=true
 regs:(w.regions.length:Int)=c.regions
 outs:w.outs.length=w.regions.length
 sane: ∀r:Nat,r<w.regions.length→Sane c r (gt w.regions r).ents∧(gt w.regions r).frame=f∧(gt w.regions r).ents.length≤31
 sent: ∀q:Nat,q<w.outs.length→(∀m∈gt w.outs q,blastOk c q (f-1) m)∧(gt w.outs q).length≤400
theorem Ah5 {α β:Type} {g:α→List β} {n:Nat}: ∀ {l:List α},(∀x∈l,(g x).length≤n)→((l.map g).flatten).length≤l.length*n
 | [],_=>by simp
 |x::l,h=>by
  have h1:=h x (List.mem_cons_self ..)
  have h2:=Ah5 (l:=l) fun y hy=>h y (List.mem_cons_of_mem _ hy)
  have e:(l.length+1)*n=l.length*n+n:=Nat.succ_mul ..
  rw [List.map_cons,List.flatten_cons,List.length_append,List.length_cons]
  omega
theorem AhZ {c:Config} {r q:Int} (hr:c.is r=true) (h:q∈c.near r):0≤q∧q<c.regions:=by
 have:=((Aj8 hr).1 (AkU.2 h)).1
 have e:c.regions=c.cols*c.rows:=by simp [z0,Config.is_right hr]
 omega
theorem Ad5 {c:Config} {w:World} {f:Int} (h:WFine c w f) {r:Nat} (hr:r<w.regions.length):
  (∀m∈inboxL c w.outs r,m.right c=true∧m.to=r∧m.frame=f-1)∧(inboxL c w.outs r).length≤3600:=by
 have hreg:=h.regs
 have hlen:=h.outs
 have his:c.is r=true:=by
  have e:c.regions=c.cols*c.rows:=by simp [z0,h.right]
  rw [Config.is_iff h.right];omega
 refine ⟨fun m hm=> ?_,?_⟩
 ·unfold inboxL at hm
  obtain ⟨l,h1,h2⟩:=List.mem_flatten.1 hm
  obtain ⟨q,h3,rfl⟩:=List.mem_map.1 h1
  obtain ⟨h4,h5⟩:=List.mem_filter.1 h3
  have h6:=AhZ his h4
  obtain ⟨h7,h8⟩:=List.mem_filter.1 h2
  have h9:=(h.sent q.toNat (by omega)).1 m h7
  exact ⟨h9.1,by simpa using h8,h9.2.2.1⟩
 ·unfold inboxL
  have h1:=Ah5 (g:=fun q:Int=>toL (gt w.outs q.toNat) r) (n:=400) (l:=(c.near r).filter fun q=>decide (q<(w.outs.length:Int))) fun q hq=>by
   obtain ⟨h4,h5⟩:=List.mem_filter.1 hq
   have h6:=AhZ his h4
   exact Nat.le_trans AjE (h.sent q.toNat (by omega)).2
  have h2:((c.near r).filter fun q=>decide (q<(w.outs.length:Int))).length≤9:=Nat.le_trans (List.length_filter_le ..) Aa0
  have h3:((c.near r).filter fun q=>decide (q<(w.outs.length:Int))).length*400≤9*400:=Nat.mul_le_mul_right _ h2
  omega
theorem AeK {c:Config} {w:World} {f:Int} (h:WFine c w f) (hf:0≤f∧f<10000) {ins:List Input} (hl:(ins.length:Int)=c.players) (hi: ∀i∈ins,i.right=true) {r:Nat} (hr:r<w.regions.length):
  Fine c r (gt w.regions r) ins (inboxL c w.outs r):=by
 have hreg:=h.regs
 have his:c.is r=true:=by
  have e:c.regions=c.cols*c.rows:=by simp [z0,h.right]
  rw [Config.is_iff h.right];omega
 obtain ⟨h1,h2,h3⟩:=h.sane r hr
 exact ⟨his,by omega,h1.srt,h1.things,h1.ents,hl,hi,by rw [h2];exact (Ad5 h hr).1⟩
theorem AlI {α:Type} [Inhabited α] {g:Nat→α} {n r:Nat} (h:r<n):gt ((List.range n).map g) r=g r:=by
 simp [gt,h]
theorem Ah7 {c:Config} {w:World} {f:Int} (h:WFine c w f) (hf:0≤f∧f<10000) {ins:List Input} (hl:(ins.length:Int)=c.players) (hi: ∀i∈ins,i.right=true):WFine c (nextW c w ins) (f+1):=by
 have hlen:(nextW c w ins).regions.length=w.regions.length:=by simp [nextW]
 have hlen2:(nextW c w ins).outs.length=w.regions.length:=by simp [nextW]
 refine ⟨h.right,by rw [hlen];exact h.regs,by rw [hlen,hlen2],fun r hr=> ?_,fun q hq=> ?_⟩
 ·rw [hlen] at hr
  have hF:=AeK h hf hl hi hr
  have e:gt (nextW c w ins).regions r=nextR c w ins r:=AlI hr
  rw [e]
  refine ⟨(Ah8 hF).1,?_,Anj (Ag2 hF)⟩
  show (gt w.regions r).frame+1=f+1
  rw [(h.sane r hr).2.1]
 ·rw [hlen2] at hq
  have hF:=AeK h hf hl hi hq
  have e:gt (nextW c w ins).outs q=nextO c w ins q:=AlI hq
  rw [e,show f+1-1=f by omega]
  refine ⟨fun m hm=> ?_,AlW hF⟩
  have:=Amm hF m hm
  rwa [(h.sane q hq).2.1] at this
theorem AmV {c:Config} (hr:c.right=true) {i:Int} (hi:1≤i∧i≤c.players):(playerP c.cols c.regions i).right c=true∧c.of (playerP c.cols c.regions i).x (playerP c.cols c.regions i).y=(i-1).tmod c.regions:=by
 have hml:=Config.mul_le hr
 have hre:c.regions=c.cols*c.rows:=by simp [z0,hr]
 have hk:=AaE (v:=i-1) (k:=c.regions) (by omega) (by omega)
 have his:c.is ((i-1).tmod c.regions)=true:=by rw [Config.is_iff hr];omega
 obtain ⟨h1,h2⟩:=AmJ (x:=512) (y:=512) his (by omega) (by omega)
 simp only [Config.cornerX,Config.cornerY,his,if_true] at h1 h2
 have e1:within i 1 c.players=true:=Aad.2 hi
 have e2:within 0 (-64) 64=true:=by decide
 have e3:within 100 1 100=true:=by decide
 have e4:within 0 0 6=true:=by decide
 refine ⟨?_,h2⟩
 simp only [Entity.right,playerP,h1,e1,e2,e3,e4]
 simp
theorem AiP {c:Config} (hr:c.right=true): ∀ {d:Nat} {i:Int} {rs:List Region},1≤i→i+d=c.players+1→(rs.length:Int)=c.regions→(∀r:Nat,r<rs.length→Srt (gt rs r).ents∧things (gt rs r).ents=0∧(gt rs r).frame=0∧ ∀e∈(gt rs r).ents,e.right c=true∧c.of e.x e.y=r)→
  ∀r:Nat,r<rs.length→Srt (gt (beginP c.cols c.regions d i rs) r).ents∧things (gt (beginP c.cols c.regions d i rs) r).ents=0∧(gt (beginP c.cols c.regions d i rs) r).frame=0∧ ∀e∈(gt (beginP c.cols c.regions d i rs) r).ents,e.right c=true∧c.of e.x e.y=r
 |0,_,_,_,_,_,h=>h
 |d+1,i,rs,h1,h2,hl,h=>by
  have hml:=Config.mul_le hr
  have hre:c.regions=c.cols*c.rows:=by simp [z0,hr]
  have hk:=AaE (v:=i-1) (k:=c.regions) (by omega) (by omega)
  obtain ⟨p1,p2⟩:=AmV hr (i:=i) (by omega)
  have hkl:((i-1).tmod c.regions).toNat<rs.length:=by omega
  have hb:(begin1 c.cols c.regions rs i).length=rs.length:=by simp [begin1]
  rw [beginP]
  intro r hrr
  refine AiP hr (d:=d) (i:=i+1) (by omega) (by omega) (by rw [hb];exact hl) (fun q hq=> ?_) r (by rw [hb];exact hrr)
  rw [hb] at hq
  unfold begin1
  rw [AlQ hkl]
  split
  ·rename_i e
   obtain ⟨a1,a2,a3,a4⟩:=h _ hkl
   have ht:= @Adl (gt rs ((i-1).tmod c.regions).toNat).ents (playerP c.cols c.regions i)
   rw [show (playerP c.cols c.regions i).kind=1 from rfl,if_pos rfl] at ht
   have ht0:0≤things (put1 (gt rs ((i-1).tmod c.regions).toNat).ents (playerP c.cols c.regions i)):=by unfold things;omega
   refine ⟨AaC a1,by simp only;omega,a3,fun x hx=> ?_⟩
   rcases AaZ hx with rfl|hx
   ·exact ⟨p1,by rw [p2];omega⟩
   ·have:=a4 x hx
    exact ⟨this.1,by rw [this.2];omega⟩
  ·exact h q hq
theorem AeN {c:Config} (hr:c.right=true):WFine c (beginW c.cols c.regions c.players.toNat) 0:=by
 have hcr:=Config.right_iff.1 hr
 have hgl:= @Config.regions_le c
 have hl:(beginW c.cols c.regions c.players.toNat).regions.length=c.regions.toNat:=by simp [beginW,AiH]
 have hl2:(beginW c.cols c.regions c.players.toNat).outs.length=c.regions.toNat:=by simp [beginW]
 refine ⟨hr,by rw [hl];omega,by rw [hl,hl2],fun r h=> ?_,fun q h=> ?_⟩
 ·have key:=AiP hr (d:=c.players.toNat) (i:=1) (rs:=zj c.regions.toNat ⟨0,[]⟩) (by omega) (by omega) (by simp;omega) (fun r h=>by
   rw [show gt (zj c.regions.toNat (⟨0,[]⟩:Region)) r=⟨0,[]⟩ by
    unfold gt;rw [List.getElem?_replicate];simp at h;simp [h]]
   simp [Srt,things]) r (by simpa [hl] using h)
  obtain ⟨a1,a2,a3,a4⟩:=key
  have hlen:=An0 (n:=c.players) a1 (fun x hx hk=>Entity.right_player (a4 x hx).1 hk) (by omega)
  refine ⟨⟨a1,Int.le_trans (Int.le_of_eq a2) (by decide),a4⟩,a3,?_⟩
  show (gt (beginP c.cols c.regions c.players.toNat 1 (zj c.regions.toNat ⟨0,[]⟩)) r).ents.length≤31
  omega
 ·have e:gt (beginW c.cols c.regions c.players.toNat).outs q= []:=by
   show gt (zj c.regions.toNat ([]:CrossL)) q= []
   unfold gt;rw [List.getElem?_replicate];rw [hl2] at h;simp [h]
  rw [e]
  simp
end Go.Eva
namespace Go.Eva.S4
theorem AcP (inbox:List Cross) (hb:inbox.length≤100000): ∀(d i:Nat) (A:List Entity),i+d=inbox.length→A.length≤100000+i→
  Is cx (.loop 132 [0,1,0,1,1] 0 [.t (.sl 15 (inbox.map zn)),.all 0 none,vi i] [.arr 9 (A.map zm) none false])
   ⟨.exit 0,[.t (.sl 15 (inbox.map zn)),.all 0 none,vi inbox.length],[.arr 9 ((arriveL A (inbox.drop i)).map zm) none false]⟩:=by
 intro d
 induction d with
 |zero=>
  intro i A hi hA
  rw [Aac (by omega)]
  refine qq ?_
  refine gg [.n (zq (zz zn inbox)) (zq inbox),.b (decide ((i:Int)<(↑(zq inbox):Int))) false] ⟨o_n (by simp),fP,trivial⟩ ?_
  refine rT (a:=qz (qx 0) [V.t (qk 15 (zz zn inbox)),qy 0 none,vi (i:Int)] [qv 9 (zz zm A) none false]) ?_
  ((have:i=inbox.length:=by omega);subst this;rfl)
 |succ d ih=>
  intro i A hi hA
  have hlt:i<inbox.length:=by omega
  have hT:=AaU A (by unfold small;omega)
  have hpl:=(@Abl A (gt inbox i).ent).2
  have ih0:=ih (i+1) A (by omega) (by omega)
  have ih1:=ih (i+1) (put1 A (gt inbox i).ent) (by omega) (by omega)
  have e:arriveL A (inbox.drop i)=arriveL (arrive1 A (gt inbox i)) (inbox.drop (i+1)):=by rw [Aae hlt];rfl
  rw [e]
  clear ih e
  by_cases h1:(gt inbox i).kind=1
  ·by_cases h2:(gt inbox i).ent.kind=1
   ·rw [show arrive1 A (gt inbox i)=put1 A (gt inbox i).ent by unfold arrive1;rw [if_pos ⟨h1,.inl h2⟩]]
    generalize arriveL (put1 A (gt inbox i).ent) (inbox.drop (i+1))=Z at*
    clear ih0
    have hP:=AaD A (gt inbox i).ent (by unfold small;omega)
    generalize put1 A (gt inbox i).ent=B at*
    refine qq ?_
    refine gg [.n (zq (zz zn inbox)) (zq inbox),.b (decide ((i:Int)<(↑(zq inbox):Int))) true,.w (0≤(i:Int)),.n (zy (i:Int)) i,.g (zz zn inbox) i (zn (gt inbox i)),.w (0≤(i:Int)),.n (zy (i:Int)) i,.g (zz zn inbox) i (zn (gt inbox i)),.b ((gt inbox i).kind !=1) false,.ff,.ff,.ff,.b ((gt inbox i).ent.kind !=1) false,.ff,.ff,.ff] ⟨o_n (by simp),tP,oW,nK,o_gt rfl (by assumption) (by intro h;cases h),oW,nK,o_gt rfl (by assumption) (by intro h;cases h),f_brn (by assumption),f_brn (by assumption),trivial⟩ ?_
    refine gg [.ff,.ff,.ff,.a _ _,.i zd ((i:Int)+1) ((↑(i+1):Int)),.a _ _] ⟨o_a hP,oI,o_a ih1,trivial⟩ ?_
    exact ge
   ·by_cases h3:things A<24
    ·rw [show arrive1 A (gt inbox i)=put1 A (gt inbox i).ent by unfold arrive1;rw [if_pos ⟨h1,.inr h3⟩]]
     generalize arriveL (put1 A (gt inbox i).ent) (inbox.drop (i+1))=Z at*
     clear ih0
     have hP:=AaD A (gt inbox i).ent (by unfold small;omega)
     generalize put1 A (gt inbox i).ent=B at*
     refine qq ?_
     refine gg [.n (zq (zz zn inbox)) (zq inbox),.b (decide ((i:Int)<(↑(zq inbox):Int))) true,.w (0≤(i:Int)),.n (zy (i:Int)) i,.g (zz zn inbox) i (zn (gt inbox i)),.w (0≤(i:Int)),.n (zy (i:Int)) i,.g (zz zn inbox) i (zn (gt inbox i)),.b ((gt inbox i).kind !=1) false,.ff,.ff,.ff,.b ((gt inbox i).ent.kind !=1) true,.tt,.a _ _,.b (flats [ti (things A)]) true] ⟨o_n (by simp),tP,oW,nK,o_gt rfl (by assumption) (by intro h;cases h),oW,nK,o_gt rfl (by assumption) (by intro h;cases h),f_brn (by assumption),t_brn (by assumption),o_a hT,bK,trivial⟩ ?_
     refine gg [.tt,.ff,.tt,.ff,.b (decide (things A≥24)) false,.a _ _,.i zd ((i:Int)+1) ((↑(i+1):Int)),.a _ _] ⟨fP,o_a hP,oI,o_a ih1,trivial⟩ ?_
     exact ge
    ·rw [show arrive1 A (gt inbox i)=A by unfold arrive1;rw [if_neg (fun q=>q.2.elim h2 h3)]]
     clear ih1
     refine qq ?_
     refine gg [.n (zq (zz zn inbox)) (zq inbox),.b (decide ((i:Int)<(↑(zq inbox):Int))) true,.w (0≤(i:Int)),.n (zy (i:Int)) i,.g (zz zn inbox) i (zn (gt inbox i)),.w (0≤(i:Int)),.n (zy (i:Int)) i,.g (zz zn inbox) i (zn (gt inbox i)),.b ((gt inbox i).kind !=1) false,.ff,.ff,.ff,.b ((gt inbox i).ent.kind !=1) true,.tt,.a _ _,.b (flats [ti (things A)]) true] ⟨o_n (by simp),tP,oW,nK,o_gt rfl (by assumption) (by intro h;cases h),oW,nK,o_gt rfl (by assumption) (by intro h;cases h),f_brn (by assumption),t_brn (by assumption),o_a hT,bK,trivial⟩ ?_
     refine gg [.tt,.ff,.tt,.ff,.b (decide (things A≥24)) true,.i zd ((i:Int)+1) ((↑(i+1):Int)),.a _ _] ⟨tP,oI,o_a ih0,trivial⟩ ?_
     exact ge
  ·rw [show arrive1 A (gt inbox i)=A by unfold arrive1;rw [if_neg (fun q=>h1 q.1)]]
   clear ih1
   refine qq ?_
   refine gg [.n (zq (zz zn inbox)) (zq inbox),.b (decide ((i:Int)<(↑(zq inbox):Int))) true,.w (0≤(i:Int)),.n (zy (i:Int)) i,.g (zz zn inbox) i (zn (gt inbox i)),.w (0≤(i:Int)),.n (zy (i:Int)) i,.g (zz zn inbox) i (zn (gt inbox i)),.b ((gt inbox i).kind !=1) true,.tt,.tt,.tt,.tt,.tt,.tt,.i zd ((i:Int)+1) ((↑(i+1):Int))] ⟨o_n (by simp),tP,oW,nK,o_gt rfl (by assumption) (by intro h;cases h),oW,nK,o_gt rfl (by assumption) (by intro h;cases h),t_brn (by assumption),oI,trivial⟩ ?_
   refine gg [.a _ _] ⟨o_a ih0,trivial⟩ ?_
   exact ge
theorem Ach (s:Region) (inbox:List Cross) (hn:s.ents.length≤100000) (hb:inbox.length≤100000):
  Is cx (.call 132 [.t s.enc,.t (.sl 15 (inbox.map zn))] []) ⟨.ret,[.all 0 none],[.arr 9 ((arriveL s.ents inbox).map zm) none false]⟩:=by
 have h:=AcP inbox hb inbox.length 0 s.ents (by omega) (by omega)
 rw [List.drop_zero] at h
 generalize arriveL s.ents inbox=Z at*
 obtain ⟨f,l⟩:=s
 simp only at hn h⊢
 refine qq ?_
 refine gg [.w ((0:Nat)<(72:Nat)),.s (qk 0 (zz zm l)),.s (qk 0 (zz zm l)),.w (room (zq (zz zm l)) (72:Nat)),.a _ _] ⟨oW,o_w (by (simp [room,appendMax];omega)),o_a h,trivial⟩ ?_
 exact ge
end Go.Eva.S4
namespace Go.Eva.S4
theorem Ac9 (l:List Entity) (hn:small l): ∀(d i:Nat) (A:List Int),i+d=l.length→A.length≤i→
  Is cx (.loop 133 [0,1,0,1,1,1] 0 [.all 0 none,.all 1 none,vi i] [.arr 9 (l.map zm) none false,.arr 1 (A.map ti) none false])
   ⟨.exit 0,[.all 0 none,.all 1 none,vi l.length],[.arr 9 (l.map zm) none false,.arr 1 ((A++plI (l.drop i)).map ti) none false]⟩:=by
 unfold small at hn
 intro d
 induction d with
 |zero=>
  intro i A hi hA
  rw [Aac (by omega)]
  refine qq ?_
  refine gg [.n (zq (zz zm l)) (zq l),.b (decide ((i:Int)<(↑(zq l):Int))) false] ⟨o_n (by simp),fP,trivial⟩ ?_
  refine rT (a:=qz (qx 0) [qy 0 none,qy 1 none,vi (i:Int)] [qv 9 (zz zm l) none false,qv 1 (zz ti A) none false]) ?_
  ((have hq:i=l.length:=by omega);subst hq;simp [plI])
 |succ d ih=>
  intro i A hi hA
  have hlt:i<l.length:=by omega
  have ih0:=ih (i+1) A (by omega) (by omega)
  have ih1:=ih (i+1) (A++ [(gt l i).id]) (by omega) (by simp;omega)
  rw [Aae hlt]
  have e:plI (gt l i::l.drop (i+1))=if (gt l i).kind=1 then (gt l i).id::plI (l.drop (i+1)) else plI (l.drop (i+1)):=by
   unfold plI
   rw [List.filter_cons]
   by_cases h:(gt l i).kind=1<;>simp [h]
  rw [e]
  clear ih e
  by_cases h:(gt l i).kind=1
  ·rw [if_pos h]
   rw [List.append_assoc,List.singleton_append] at ih1
   generalize plI (l.drop (i+1))=X at*
   refine qq ?_
   refine gg [.n (zq (zz zm l)) (zq l),.b (decide ((i:Int)<(↑(zq l):Int))) true,.w (0≤(i:Int)),.n (zy (i:Int)) i,.w (i<zq (zz zm l)),.g (zz zm l) i (zm (gt l i)),.b ((gt l i).kind==1) true,.w (0≤(i:Int)),.n (zy (i:Int)) i,.w (i<zq (zz zm l)),.g (zz zm l) i (zm (gt l i)),.w ((0:Nat)<(8:Nat)),.t (qk 0 [ti (gt l i).id]) (qk 0 (zz (T.int zd) [(gt l i).id])),.t (qk 0 (zz ti A++zz (T.int zd) [(gt l i).id])) (qk 0 (zz ti (A++ [(gt l i).id]))),.w (room (zq (zz ti (A++ [(gt l i).id]))) (8:Nat)),.i zd ((i:Int)+1) ((↑(i+1):Int))] ⟨o_n (by simp),tP,oW,nK,o_w (by (simp;omega)),o_gt rfl (by assumption) (by intro h;cases h),t_bre (by assumption),oW,nK,o_w (by (simp;omega)),o_gt rfl (by assumption) (by intro h;cases h),oW,o_l (Aaf rfl Aap),o_l (Aam rfl rfl),o_w (by (simp [room,appendMax];omega)),oI,trivial⟩ ?_
   refine gg [.a _ _] ⟨o_a ih1,trivial⟩ ?_
   exact ge
  ·rw [if_neg h]
   generalize plI (l.drop (i+1))=X at*
   refine qq ?_
   refine gg [.n (zq (zz zm l)) (zq l),.b (decide ((i:Int)<(↑(zq l):Int))) true,.w (0≤(i:Int)),.n (zy (i:Int)) i,.w (i<zq (zz zm l)),.g (zz zm l) i (zm (gt l i)),.b ((gt l i).kind==1) false,.i zd ((i:Int)+1) ((↑(i+1):Int)),.a _ _] ⟨o_n (by simp),tP,oW,nK,o_w (by (simp;omega)),o_gt rfl (by assumption) (by intro h;cases h),f_bre (by assumption),oI,o_a ih0,trivial⟩ ?_
   exact ge
theorem AeX (s:Region) (inbox:List Cross) (hn:s.ents.length≤100000) (hb:inbox.length≤100000) (hl:(arriveL s.ents inbox).length≤300000):
  Fn cx 133 [s.enc,.sl 15 (inbox.map zn)] (.sl 1 ((presentL s.ents inbox).map ti)):=by
 have hA:=Ach s inbox hn hb
 have h:=Ac9 (arriveL s.ents inbox) (by unfold small;omega) (arriveL s.ents inbox).length 0 [] (by omega) (by simp)
 rw [List.drop_zero,List.nil_append] at h
 change Is cx _ ⟨_,_,[_,.arr 1 ((presentL s.ents inbox).map ti) _ _]⟩ at h
 generalize presentL s.ents inbox=P at*
 generalize arriveL s.ents inbox=Z at*
 obtain ⟨f,l⟩:=s
 simp only at hn hA⊢
 refine qq ?_
 refine gg [.a _ _,.a _ _] ⟨o_a hA,o_a h,trivial⟩ ?_
 exact ge
end Go.Eva.S4
namespace Go.Eva.S4
theorem AcH (l:List Entity) (hn:small l): ∀(d i:Nat) (A:List Int),i+d=l.length→A.length≤i→
  Is cx (.loop 142 [0,1,0,1,1] 1 [.all 0 none,.all 1 none,vi i] [.arr 9 (l.map zm) none false,.arr 1 (A.map ti) none false])
   ⟨.exit 0,[.all 0 none,.all 1 none,vi l.length],[.arr 9 (l.map zm) none false,.arr 1 ((A++fallenL (l.drop i)).map ti) none false]⟩:=by
 unfold small at hn
 intro d
 induction d with
 |zero=>
  intro i A hi hA
  rw [Aac (by omega)]
  refine qq ?_
  refine gg [.n (zq (zz zm l)) (zq l),.b (decide ((i:Int)<(↑(zq l):Int))) false] ⟨o_n (by simp),fP,trivial⟩ ?_
  refine rT (a:=qz (qx 0) [qy 0 none,qy 1 none,vi (i:Int)] [qv 9 (zz zm l) none false,qv 1 (zz ti A) none false]) ?_
  ((have hq:i=l.length:=by omega);subst hq;simp [fallenL])
 |succ d ih=>
  intro i A hi hA
  have hlt:i<l.length:=by omega
  have ih0:=ih (i+1) A (by omega) (by omega)
  have ih1:=ih (i+1) (A++ [(gt l i).id]) (by omega) (by simp;omega)
  rw [Aae hlt]
  have e:fallenL (gt l i::l.drop (i+1))=if (gt l i).kind=1∧(gt l i).health≤0 then (gt l i).id::fallenL (l.drop (i+1)) else fallenL (l.drop (i+1)):=by
   unfold fallenL fallenP
   rw [List.filter_cons]
   by_cases h:(gt l i).kind=1<;>by_cases h2:(gt l i).health≤0<;>simp [h,h2]
  rw [e]
  clear ih e
  generalize fallenL (l.drop (i+1))=X at*
  rw [List.append_assoc,List.singleton_append] at ih1
  by_cases h:(gt l i).kind=1
  ·by_cases h2:(gt l i).health≤0
   ·rw [if_pos ⟨h,h2⟩]
    refine qq ?_
    refine gg [.n (zq (zz zm l)) (zq l),.b (decide ((i:Int)<(↑(zq l):Int))) true,.w (0≤(i:Int)),.n (zy (i:Int)) i,.w (i<zq (zz zm l)),.g (zz zm l) i (zm (gt l i)),.b ((gt l i).kind==1) true,.tt,.tt,.w (0≤(i:Int)),.n (zy (i:Int)) i,.w (i<zq (zz zm l)),.tt,.tt,.g (zz zm l) i (zm (gt l i)),.tt] ⟨o_n (by simp),tP,oW,nK,o_w (by (simp;omega)),o_gt rfl (by assumption) (by intro h;cases h),t_bre (by assumption),oW,nK,o_w (by (simp;omega)),o_gt rfl (by assumption) (by intro h;cases h),trivial⟩ ?_
    refine gg [.tt,.b (decide ((gt l i).health≤0)) true,.w (0≤(i:Int)),.n (zy (i:Int)) i,.w (i<zq (zz zm l)),.g (zz zm l) i (zm (gt l i)),.w ((0:Nat)<(8:Nat)),.t (qk 0 [ti (gt l i).id]) (qk 0 (zz (T.int zd) [(gt l i).id])),.t (qk 0 (zz ti A++zz (T.int zd) [(gt l i).id])) (qk 0 (zz ti (A++ [(gt l i).id]))),.w (room (zq (zz ti (A++ [(gt l i).id]))) (8:Nat)),.i zd ((i:Int)+1) ((↑(i+1):Int)),.a _ _] ⟨t_brp (by assumption),oW,nK,o_w (by (simp;omega)),o_gt rfl (by assumption) (by intro h;cases h),oW,o_l (Aaf rfl Aap),o_l (Aam rfl rfl),o_w (by (simp [room,appendMax];omega)),oI,o_a ih1,trivial⟩ ?_
    exact ge
   ·rw [if_neg (fun q=>h2 q.2)]
    refine qq ?_
    refine gg [.n (zq (zz zm l)) (zq l),.b (decide ((i:Int)<(↑(zq l):Int))) true,.w (0≤(i:Int)),.n (zy (i:Int)) i,.w (i<zq (zz zm l)),.g (zz zm l) i (zm (gt l i)),.b ((gt l i).kind==1) true,.tt,.tt,.w (0≤(i:Int)),.n (zy (i:Int)) i,.w (i<zq (zz zm l)),.tt,.tt,.g (zz zm l) i (zm (gt l i)),.tt] ⟨o_n (by simp),tP,oW,nK,o_w (by (simp;omega)),o_gt rfl (by assumption) (by intro h;cases h),t_bre (by assumption),oW,nK,o_w (by (simp;omega)),o_gt rfl (by assumption) (by intro h;cases h),trivial⟩ ?_
    refine gg [.tt,.b (decide ((gt l i).health≤0)) false,.i zd ((i:Int)+1) ((↑(i+1):Int)),.a _ _] ⟨f_brp (by assumption),oI,o_a ih0,trivial⟩ ?_
    exact ge
  ·rw [if_neg (fun q=>h q.1)]
   refine qq ?_
   refine gg [.n (zq (zz zm l)) (zq l),.b (decide ((i:Int)<(↑(zq l):Int))) true,.w (0≤(i:Int)),.n (zy (i:Int)) i,.w (i<zq (zz zm l)),.g (zz zm l) i (zm (gt l i)),.b ((gt l i).kind==1) false,.ff,.ff,.ff,.ff,.ff,.ff,.ff,.i zd ((i:Int)+1) ((↑(i+1):Int)),.a _ _] ⟨o_n (by simp),tP,oW,nK,o_w (by (simp;omega)),o_gt rfl (by assumption) (by intro h;cases h),f_bre (by assumption),oI,o_a ih0,trivial⟩ ?_
   exact ge
theorem Af4 (l:List Entity) (hn:small l):Is cx (.call 142 [.all 0 none] [.arr 9 (l.map zm) none false]) ⟨.ret,[.all 1 none],[.arr 9 (l.map zm) none false,.arr 1 ((fallenL l).map ti) none false]⟩:=by
 have h:=AcH l hn l.length 0 [] (by omega) (by simp)
 rw [List.drop_zero,List.nil_append] at h
 refine qq ?_
 refine gg [.a _ _] ⟨o_a h,trivial⟩ ?_
 exact ge
end Go.Eva.S4
namespace Go.Eva.S4
theorem AfV (c:Config):Fn cx 16 [c.enc] c.play.enc:=by
 have k1:= @AbP c.cols 3 (by decide)
 have k2:= @AbP c.rows 3 (by decide)
 have k3:= @AbP c.players 4 (by decide)
 have k4:= @AbP c.window 8 (by decide)
 refine qq ?_
 refine gg [.a _ _] ⟨o_a (Aag c),trivial⟩ ?_
 refine br (b:=Config.right c) (by kernel_rfl) (fun h1=> ?_) (fun h1=> ?_)
 ·refine gg [.tt,.tt,.tt] trivial ?_
  refine brp (p:=c.cols≤3) (by kernel_rfl) (fun h2=> ?_) (fun h2=> ?_)
  ·refine gg [.tt,.tt,.tt] trivial ?_
   refine brp (p:=c.rows≤3) (by kernel_rfl) (fun h3=> ?_) (fun h3=> ?_)
   ·refine gg [.tt,.tt,.tt] trivial ?_
    refine brp (p:=c.players≤4) (by kernel_rfl) (fun h4=> ?_) (fun h4=> ?_)
    ·refine rT (a:=qz qj [V.t (Config.enc c)] []) ?_
     (unfold Config.play;first|(rw [if_pos (by simp_all)];done)|(rw [if_pos (by simp_all)];rfl)|(rw [if_neg (by rintro ⟨q1,q2,q3,q4⟩;simp_all;try omega)];simp [Config.enc,u1];done))
    ·refine gg [.i zf c.cols (zp zf c.cols),.w ((3:Int)≠(0:Int)),.s (T.int zf (zg (zp zf c.cols) 3)),.i zd (zg (zp zf c.cols) 3) (zg (zp zf c.cols) 3),.i zd (1+zg (zp zf c.cols) 3) (1+zg (zp zf c.cols) 3),.i zf c.rows (zp zf c.rows),.w ((3:Int)≠(0:Int)),.s (T.int zf (zg (zp zf c.rows) 3)),.i zd (zg (zp zf c.rows) 3) (zg (zp zf c.rows) 3),.i zd (1+zg (zp zf c.rows) 3) (1+zg (zp zf c.rows) 3),.i zf c.players (zp zf c.players),.w ((4:Int)≠(0:Int)),.s (T.int zf (zg (zp zf c.players) 4)),.i zd (zg (zp zf c.players) 4) (zg (zp zf c.players) 4),.i zd (1+zg (zp zf c.players) 4) (1+zg (zp zf c.players) 4),.i zf c.window (zp zf c.window)] ⟨o_i rfl,o_w (by intro h;cases h),oI,oI,o_i rfl,o_w (by intro h;cases h),oI,oI,o_i rfl,o_w (by intro h;cases h),oI,oI,o_i rfl,trivial⟩ ?_
     refine gg [.w ((8:Int)≠(0:Int)),.s (T.int zf (zg (zp zf c.window) 8)),.i zd (zg (zp zf c.window) 8) (zg (zp zf c.window) 8),.i zd (1+zg (zp zf c.window) 8) (1+zg (zp zf c.window) 8)] ⟨o_w (by intro h;cases h),oI,oI,trivial⟩ ?_
     refine rT (a:=qz qj [V.t (T.agg [ti (1+zg (zp zf c.cols) 3),ti (1+zg (zp zf c.rows) 3),ti (1+zg (zp zf c.players) 4),ti (1+zg (zp zf c.window) 8),T.int zf c.seed])] []) ?_
     (unfold Config.play;first|(rw [if_pos (by simp_all)];done)|(rw [if_pos (by simp_all)];rfl)|(rw [if_neg (by rintro ⟨q1,q2,q3,q4⟩;simp_all;try omega)];simp [Config.enc,u1];done))
   ·refine gg [.ff,.ff,.ff,.ff,.i zf c.cols (zp zf c.cols),.w ((3:Int)≠(0:Int)),.s (T.int zf (zg (zp zf c.cols) 3)),.i zd (zg (zp zf c.cols) 3) (zg (zp zf c.cols) 3),.i zd (1+zg (zp zf c.cols) 3) (1+zg (zp zf c.cols) 3),.i zf c.rows (zp zf c.rows),.w ((3:Int)≠(0:Int)),.s (T.int zf (zg (zp zf c.rows) 3)),.i zd (zg (zp zf c.rows) 3) (zg (zp zf c.rows) 3),.i zd (1+zg (zp zf c.rows) 3) (1+zg (zp zf c.rows) 3),.i zf c.players (zp zf c.players),.w ((4:Int)≠(0:Int))] ⟨o_i rfl,o_w (by intro h;cases h),oI,oI,o_i rfl,o_w (by intro h;cases h),oI,oI,o_i rfl,o_w (by intro h;cases h),trivial⟩ ?_
    refine gg [.s (T.int zf (zg (zp zf c.players) 4)),.i zd (zg (zp zf c.players) 4) (zg (zp zf c.players) 4),.i zd (1+zg (zp zf c.players) 4) (1+zg (zp zf c.players) 4),.i zf c.window (zp zf c.window),.w ((8:Int)≠(0:Int)),.s (T.int zf (zg (zp zf c.window) 8)),.i zd (zg (zp zf c.window) 8) (zg (zp zf c.window) 8),.i zd (1+zg (zp zf c.window) 8) (1+zg (zp zf c.window) 8)] ⟨oI,oI,o_i rfl,o_w (by intro h;cases h),oI,oI,trivial⟩ ?_
    refine rT (a:=qz qj [V.t (T.agg [ti (1+zg (zp zf c.cols) 3),ti (1+zg (zp zf c.rows) 3),ti (1+zg (zp zf c.players) 4),ti (1+zg (zp zf c.window) 8),T.int zf c.seed])] []) ?_
    (unfold Config.play;first|(rw [if_pos (by simp_all)];done)|(rw [if_pos (by simp_all)];rfl)|(rw [if_neg (by rintro ⟨q1,q2,q3,q4⟩;simp_all;try omega)];simp [Config.enc,u1];done))
  ·refine gg [.ff,.ff,.ff,.ff,.ff,.ff,.ff,.ff,.i zf c.cols (zp zf c.cols),.w ((3:Int)≠(0:Int)),.s (T.int zf (zg (zp zf c.cols) 3)),.i zd (zg (zp zf c.cols) 3) (zg (zp zf c.cols) 3),.i zd (1+zg (zp zf c.cols) 3) (1+zg (zp zf c.cols) 3),.i zf c.rows (zp zf c.rows),.w ((3:Int)≠(0:Int)),.s (T.int zf (zg (zp zf c.rows) 3))] ⟨o_i rfl,o_w (by intro h;cases h),oI,oI,o_i rfl,o_w (by intro h;cases h),trivial⟩ ?_
   refine gg [.i zd (zg (zp zf c.rows) 3) (zg (zp zf c.rows) 3),.i zd (1+zg (zp zf c.rows) 3) (1+zg (zp zf c.rows) 3),.i zf c.players (zp zf c.players),.w ((4:Int)≠(0:Int)),.s (T.int zf (zg (zp zf c.players) 4)),.i zd (zg (zp zf c.players) 4) (zg (zp zf c.players) 4),.i zd (1+zg (zp zf c.players) 4) (1+zg (zp zf c.players) 4),.i zf c.window (zp zf c.window),.w ((8:Int)≠(0:Int)),.s (T.int zf (zg (zp zf c.window) 8)),.i zd (zg (zp zf c.window) 8) (zg (zp zf c.window) 8),.i zd (1+zg (zp zf c.window) 8) (1+zg (zp zf c.window) 8)] ⟨oI,oI,o_i rfl,o_w (by intro h;cases h),oI,oI,o_i rfl,o_w (by intro h;cases h),oI,oI,trivial⟩ ?_
   refine rT (a:=qz qj [V.t (T.agg [ti (1+zg (zp zf c.cols) 3),ti (1+zg (zp zf c.rows) 3),ti (1+zg (zp zf c.players) 4),ti (1+zg (zp zf c.window) 8),T.int zf c.seed])] []) ?_
   (unfold Config.play;first|(rw [if_pos (by simp_all)];done)|(rw [if_pos (by simp_all)];rfl)|(rw [if_neg (by rintro ⟨q1,q2,q3,q4⟩;simp_all;try omega)];simp [Config.enc,u1];done))
 ·refine gg [.ff,.ff,.ff,.ff,.ff,.ff,.ff,.ff,.ff,.ff,.ff,.ff,.i zf c.cols (zp zf c.cols),.w ((3:Int)≠(0:Int)),.s (T.int zf (zg (zp zf c.cols) 3)),.i zd (zg (zp zf c.cols) 3) (zg (zp zf c.cols) 3)] ⟨o_i rfl,o_w (by intro h;cases h),oI,trivial⟩ ?_
  refine gg [.i zd (1+zg (zp zf c.cols) 3) (1+zg (zp zf c.cols) 3),.i zf c.rows (zp zf c.rows),.w ((3:Int)≠(0:Int)),.s (T.int zf (zg (zp zf c.rows) 3)),.i zd (zg (zp zf c.rows) 3) (zg (zp zf c.rows) 3),.i zd (1+zg (zp zf c.rows) 3) (1+zg (zp zf c.rows) 3),.i zf c.players (zp zf c.players),.w ((4:Int)≠(0:Int)),.s (T.int zf (zg (zp zf c.players) 4)),.i zd (zg (zp zf c.players) 4) (zg (zp zf c.players) 4),.i zd (1+zg (zp zf c.players) 4) (1+zg (zp zf c.players) 4),.i zf c.window (zp zf c.window),.w ((8:Int)≠(0:Int)),.s (T.int zf (zg (zp zf c.window) 8)),.i zd (zg (zp zf c.window) 8) (zg (zp zf c.window) 8),.i zd (1+zg (zp zf c.window) 8) (1+zg (zp zf c.window) 8)] ⟨oI,o_i rfl,o_w (by intro h;cases h),oI,oI,o_i rfl,o_w (by intro h;cases h),oI,oI,o_i rfl,o_w (by intro h;cases h),oI,oI,trivial⟩ ?_
  refine rT (a:=qz qj [V.t (T.agg [ti (1+zg (zp zf c.cols) 3),ti (1+zg (zp zf c.rows) 3),ti (1+zg (zp zf c.players) 4),ti (1+zg (zp zf c.window) 8),T.int zf c.seed])] []) ?_
  (unfold Config.play;first|(rw [if_pos (by simp_all)];done)|(rw [if_pos (by simp_all)];rfl)|(rw [if_neg (by rintro ⟨q1,q2,q3,q4⟩;simp_all;try omega)];simp [Config.enc,u1];done))
theorem Aev (x:Int):Fn cx 154 [ti x] (.bool false):=by
 refine qq ?_
 refine rT (a:=qz qj [vb (x !=x)] []) ?_
 simp
theorem Aa4 (x y:Int):Fn cx 89 [ti x,ti y] (ti (cmpI x y)):=by
 refine qq ?_
 refine gg [.a _ _,.a _ _,.ff,.ff] ⟨o_a (Aev x),o_a (Aev y),trivial⟩ ?_
 refine brp (p:=x<y) (by kernel_rfl) (fun h1=> ?_) (fun h1=> ?_)
 ·refine rT (a:=qz qj [vi (-1)] []) ?_
  (simp_all [cmpI];try omega)
 ·refine brp (p:=x>y) (by kernel_rfl) (fun h2=> ?_) (fun h2=> ?_)
  ·refine rT (a:=qz qj [vi 1] []) ?_
   (simp_all [cmpI];try omega)
  ·refine rT (a:=qz qj [vi 0] []) ?_
   (simp_all [cmpI];try omega)
theorem AgV (x y:Int):Fn cx 173 [.sl 1 [ti x,ti y]] (ti (orI [x,y])):=by
 by_cases hx:x=0
 ·subst hx
  by_cases hy:y=0
  ·subst hy
   have h2:Is cx (.loop 173 [0,1,0,1,1] 0 [vi 0,vi 0,.t (.sl 1 [ti 0,ti 0]),vi 2,vi 2] []) ⟨.exit 0,[vi 0,vi 0,.t (.sl 1 [ti 0,ti 0]),vi 2,vi 2],[]⟩:=by
    refine qq ?_
    refine gg [.b (decide (2<2)) false] ⟨bK,trivial⟩ ?_
    exact ge
   have h1:Is cx (.loop 173 [0,1,0,1,1] 0 [vi 0,vi 0,.t (.sl 1 [ti 0,ti 0]),vi 2,vi 1] []) ⟨.exit 0,[vi 0,vi 0,.t (.sl 1 [ti 0,ti 0]),vi 2,vi 2],[]⟩:=by
    refine qq ?_
    refine gg [.b (decide (1<2)) true,.w (0≤(1:Int)),.l 1,.g [ti 0,ti 0] 1 (ti 0),.b (0 !=0) false,.i zd 2 2,.a _ _] ⟨bK,oW,oG,bK,oK,o_a h2,trivial⟩ ?_
    exact ge
   have h0:Is cx (.loop 173 [0,1,0,1,1] 0 [vi 0,vi 0,.t (.sl 1 [ti 0,ti 0]),vi 2,vi 0] []) ⟨.exit 0,[vi 0,vi 0,.t (.sl 1 [ti 0,ti 0]),vi 2,vi 2],[]⟩:=by
    refine qq ?_
    refine gg [.b (decide (0<2)) true,.w (0≤(0:Int)),.l 0,.g [ti 0,ti 0] 0 (ti 0),.b (0 !=0) false,.i zd 1 1,.a _ _] ⟨bK,oW,oG,bK,oK,o_a h1,trivial⟩ ?_
    exact ge
   refine qq ?_
   refine gg [.l 2,.a _ _] ⟨o_a h0,trivial⟩ ?_
   exact ge
  ·have h1:Is cx (.loop 173 [0,1,0,1,1] 0 [vi 0,vi 0,.t (.sl 1 [ti 0,ti y]),vi 2,vi 1] []) ⟨.ret,[vi y,vi 0,.t (.sl 1 [ti 0,ti y]),vi 2,vi 1],[]⟩:=by
    refine qq ?_
    refine gg [.b (decide (1<2)) true,.w (0≤(1:Int)),.l 1,.g [ti 0,ti y] 1 (ti y),.b (y !=0) true] ⟨bK,oW,oG,t_brn (by assumption),trivial⟩ ?_
    exact ge
   have h0:Is cx (.loop 173 [0,1,0,1,1] 0 [vi 0,vi 0,.t (.sl 1 [ti 0,ti y]),vi 2,vi 0] []) ⟨.ret,[vi y,vi 0,.t (.sl 1 [ti 0,ti y]),vi 2,vi 1],[]⟩:=by
    refine qq ?_
    refine gg [.b (decide (0<2)) true,.w (0≤(0:Int)),.l 0,.g [ti 0,ti y] 0 (ti 0),.b (0 !=0) false,.i zd 1 1,.a _ _] ⟨bK,oW,oG,bK,oK,o_a h1,trivial⟩ ?_
    exact ge
   refine qq ?_
   refine gg [.n (zq [ti 0,ti y]) 2,.a _ _] ⟨nK,o_a h0,trivial⟩ ?_
   refine rT (a:=qz qj [vi y] []) ?_
   simp [orI,hy]
 ·have h0:Is cx (.loop 173 [0,1,0,1,1] 0 [vi 0,vi 0,.t (.sl 1 [ti x,ti y]),vi 2,vi 0] []) ⟨.ret,[vi x,vi 0,.t (.sl 1 [ti x,ti y]),vi 2,vi 0],[]⟩:=by
   refine qq ?_
   refine gg [.b (decide (0<2)) true,.w (0≤(0:Int)),.l 0,.g [ti x,ti y] 0 (ti x),.b (x !=0) true] ⟨bK,oW,oG,t_brn (by assumption),trivial⟩ ?_
   exact ge
  refine qq ?_
  refine gg [.n (zq [ti x,ti y]) 2,.a _ _] ⟨nK,o_a h0,trivial⟩ ?_
  refine rT (a:=qz qj [vi x] []) ?_
  simp [orI,hx]
theorem Aax (a b:Cross):Fn cx 129 [a.enc,b.enc] (ti (a.cmp b)):=by
 refine qq ?_
 refine gg [.a _ _,.a _ _,.a _ _] ⟨o_a (Aa4 a.to b.to),o_a (Aa4 a.kind b.kind),o_a (AgV (cmpI a.to b.to) (cmpI a.kind b.kind)),trivial⟩ ?_
 refine brn (x:=orI [cmpI a.to b.to,cmpI a.kind b.kind]) (y:=0) (by kernel_rfl) (fun h1=> ?_) (fun h1=> ?_)
 ·refine rT (a:=qz qj [vi (orI [cmpI a.to b.to,cmpI a.kind b.kind])] []) ?_
  simp_all [Cross.cmp]
 ·refine bre (x:=a.kind) (y:=1) (by kernel_rfl) (fun h2=> ?_) (fun h2=> ?_)
  ·refine gg [.a _ _] ⟨o_a (Aa4 a.ent.id b.ent.id),trivial⟩ ?_
   refine rT (a:=qz qj [vi (cmpI a.ent.id b.ent.id)] []) ?_
   simp_all [Cross.cmp]
  ·refine gg [.a _ _,.a _ _,.a _ _] ⟨o_a (Aa4 a.x b.x),o_a (Aa4 a.y b.y),o_a (AgV (cmpI a.x b.x) (cmpI a.y b.y)),trivial⟩ ?_
   refine rT (a:=qz qj [vi (orI [cmpI a.x b.x,cmpI a.y b.y])] []) ?_
   simp_all [Cross.cmp]
theorem Aa9 (a b:Entity):Fn cx 88 [a.enc,b.enc] (ti (a.cmp b)):=by
 refine qq ?_
 refine gg [.a _ _] ⟨o_a (Aa4 a.id b.id),trivial⟩ ?_
 exact ge
theorem AcR (a b:Cross):Fn cx 28 [a.enc,b.enc] (.bool (a.less b)):=by
 refine qq ?_
 refine brn (x:=a.to) (y:=b.to) (by kernel_rfl) (fun h1=> ?_) (fun h1=> ?_)
 ·refine rT (a:=qz qj [vb (decide (a.to<b.to))] []) ?_
  (congr 3;rw [Bool.eq_iff_iff,Acv];simp;omega)
 ·refine brn (x:=a.kind) (y:=b.kind) (by kernel_rfl) (fun h2=> ?_) (fun h2=> ?_)
  ·refine rT (a:=qz qj [vb (decide (a.kind<b.kind))] []) ?_
   (congr 3;rw [Bool.eq_iff_iff,Acv];simp;omega)
  ·refine bre (x:=a.kind) (y:=1) (by kernel_rfl) (fun h3=> ?_) (fun h3=> ?_)
   ·refine rT (a:=qz qj [vb (decide (a.ent.id<b.ent.id))] []) ?_
    (congr 3;rw [Bool.eq_iff_iff,Acv];simp;omega)
   ·refine brn (x:=a.x) (y:=b.x) (by kernel_rfl) (fun h4=> ?_) (fun h4=> ?_)
    ·refine rT (a:=qz qj [vb (decide (a.x<b.x))] []) ?_
     (congr 3;rw [Bool.eq_iff_iff,Acv];simp;omega)
    ·refine rT (a:=qz qj [vb (decide (a.y<b.y))] []) ?_
     (congr 3;rw [Bool.eq_iff_iff,Acv];simp;omega)
theorem Aky (c:Cross) (r:Int):Fn cx 152 [c.enc,.ip 1 (ti r) 0] (.bool (c.to !=r)):=by
 refine qq ?_
 exact ge
theorem Amx (l:List Cross) (r:Int) (hl:small l):Is cx (.call 84 [.t (.sl 15 (l.map zn)),.t (ti r)] []) ⟨.ret,[.all 0 none],[.arr 15 ((toL l r).map zn) none false]⟩:=by
 have h:=Ac8 l 152 [.ip 1 (ti r) 0] (fun c=>c.to !=r) (by kernel_rfl) hl (fun c _=>Aky c r)
 have e:(l.filter fun c=> !(c.to !=r))=toL l r:=by
  unfold toL
  congr 1
  funext c
  rw [bned];simp
 rw [e] at h
 refine qq ?_
 refine gg [.a _ _,.s (T.clo 152 [T.ip 1 (ti r) 0]),.a _ _] ⟨o_a (Afc l (by assumption)),o_a h,trivial⟩ ?_
 exact ge
theorem Aff (l:List Cross) (r:Int) (hn:small l): ∀(d i:Nat) (A:List Cross),i+d=l.length→A.length≤i→
  Is cx (.loop 90 [0,1,0,1,1] 0 [.t (.sl 15 (l.map zn)),vi r,.all 0 none,vi i] [.arr 15 (A.map zn) none false])
   ⟨.exit 0,[.t (.sl 15 (l.map zn)),vi r,.all 0 none,vi l.length],[.arr 15 ((A++toL (l.drop i) r).map zn) none false]⟩:=by
 unfold small at hn
 intro d
 induction d with
 |zero=>
  intro i A hi hA
  rw [Aac (by omega)]
  refine qq ?_
  refine gg [.n (zq (zz zn l)) (zq l),.b (decide ((i:Int)<(↑(zq l):Int))) false] ⟨o_n (by simp),fP,trivial⟩ ?_
  refine rT (a:=qz (qx 0) [V.t (qk 15 (zz zn l)),vi r,qy 0 none,vi (i:Int)] [qv 15 (zz zn A) none false]) ?_
  ((have hq:i=l.length:=by omega);subst hq;simp [toL])
 |succ d ih=>
  intro i A hi hA
  have hlt:i<l.length:=by omega
  have ih1:=ih (i+1) A (by omega) (by omega)
  have ih2:=ih (i+1) (A++ [gt l i]) (by omega) (by simp;omega)
  clear ih
  unfold toL at*
  rw [Ae9 _ hlt]
  refine qq ?_
  refine gg [.n (zq (zz zn l)) (zq l),.b (decide ((i:Int)<(↑(zq l):Int))) true,.w (0≤(i:Int)),.n (zy (i:Int)) i,.g (zz zn l) i (zn (gt l i))] ⟨o_n (by simp),tP,oW,nK,o_gt rfl (by assumption) (by intro h;cases h),trivial⟩ ?_
  refine bre (x:=(gt l i).to) (y:=r) (by kernel_rfl) (fun h1=> ?_) (fun h1=> ?_)
  ·refine gg [.w (0≤(i:Int)),.n (zy (i:Int)) i,.g (zz zn l) i (zn (gt l i)),.w ((0:Nat)<(120:Nat)),.t (qk 0 [zn (gt l i)]) (qk 0 (zz zn [gt l i])),.t (qk 0 (zz zn A++zz zn [gt l i])) (qk 0 (zz zn (A++ [gt l i]))),.w (room (zq (zz zn (A++ [gt l i]))) (120:Nat)),.i zd ((i:Int)+1) ((↑(i+1):Int)),.a _ _] ⟨oW,nK,o_gt rfl (by assumption) (by intro h;cases h),oW,o_l (Aaf rfl Aap),o_l (Aam rfl rfl),o_w (by (simp [room,appendMax];omega)),o_i (w64 (by (simp [room,appendMax];omega))),o_a ih2,trivial⟩ ?_
   refine rT (a:=qz (qx 0) [V.t (qk 15 (zz zn l)),vi r,qy 0 none,vi (↑(zq l):Int)] [qv 15 (zz zn (A++ [gt l i]++List.filter (fun (c:Cross)↦decide (c.to=r)) (zk (i+1) l))) none false]) ?_
   simp_all
  ·refine gg [.i zd ((i:Int)+1) ((↑(i+1):Int)),.a _ _] ⟨o_i (w64 (by (simp [room,appendMax];omega))),o_a ih1,trivial⟩ ?_
   refine rT (a:=qz (qx 0) [V.t (qk 15 (zz zn l)),vi r,qy 0 none,vi (↑(zq l):Int)] [qv 15 (zz zn (A++List.filter (fun (c:Cross)↦decide (c.to=r)) (zk (i+1) l))) none false]) ?_
   simp_all
theorem AhU (l:List Cross) (r:Int) (hn:small l):Fn cx 90 [.sl 15 (l.map zn),ti r] (.sl 15 ((toL l r).map zn)):=by
 have h:=Aff l r hn l.length 0 [] (by omega) (by simp)
 rw [List.drop_zero,List.nil_append] at h
 refine qq ?_
 refine gg [.a _ _] ⟨o_a h,trivial⟩ ?_
 exact ge
end Go.Eva.S4
namespace Go.Eva.S4
theorem Agw (c:Config) (r q H row:Int) (hc:1≤c.cols∧c.cols≤4) (hq:r.tmod c.cols=q) (hH:minI (q+1) (c.cols-1)=H) (hq1:0≤q∧q≤3) (hH1:H≤3) (hrow:0≤row∧row≤3) (hm:0≤row*c.cols∧row*c.cols≤16):
  ∀(d:Nat) (col:Int) (A:List Int),0≤col→col+d=H+1→A.length+d≤1000→
  Is cx (.loop 83 [0,1,0,0,1,0,0,1,0,1,1,1] 0 [vi r,.ptr 0 0 0,.all 1 none,vi row,vi col] [.one 5 (.t c.enc) false,.arr 1 (A.map ti) none false])
   ⟨.exit 2,[vi r,.ptr 0 0 0,.all 1 none,vi row,vi (H+1)],[.one 5 (.t c.enc) false,.arr 1 ((A++colsL (row*c.cols) col d).map ti) none false]⟩:=by
 intro d
 induction d with
 |zero=>
  intro col A h0 h1 h2
  refine qq ?_
  refine gg [.w (c.cols≠(0:Int)),.t (ti (zg r c.cols)) (ti q),.i zd (q+1) (q+1),.i zd (c.cols-1) (c.cols-1),.t (ti (minI (q+1) (c.cols-1))) (ti H),.b (decide (col≤H)) false] ⟨oW,o_t (by rw [hq]),oI,oI,o_t (by rw [hH]),fP,trivial⟩ ?_
  refine rT (a:=qz (qx 2) [vi r,V.ptr 0 0 0,qy 1 none,vi row,vi col] [qg 5 (V.t (Config.enc c)) false,qv 1 (zz ti A) none false]) ?_
  ((have e:col=H+1:=by omega);subst e;simp [colsL])
 |succ d ih=>
  intro col A h0 h1 h2
  have ih1:=ih (col+1) (A++ [row*c.cols+col]) (by omega) (by omega) (by simp;omega)
  clear ih
  refine qq ?_
  refine gg [.w (c.cols≠(0:Int)),.t (ti (zg r c.cols)) (ti q),.i zd (q+1) (q+1),.i zd (c.cols-1) (c.cols-1),.t (ti (minI (q+1) (c.cols-1))) (ti H),.b (decide (col≤H)) true,.i zd (row*c.cols) (row*c.cols),.i zd (row*c.cols+col) (row*c.cols+col),.w ((0:Nat)<(8:Nat)),.t (qk 0 [ti (row*c.cols+col)]) (qk 0 (zz (T.int zd) [row*c.cols+col])),.t (qk 0 (zz ti A++zz (T.int zd) [row*c.cols+col])) (qk 0 (zz ti (A++ [row*c.cols+col]))),.w (room (zq (zz ti (A++ [row*c.cols+col]))) (8:Nat)),.i zd (col+1) (col+1),.a _ _] ⟨o_w (by (simp [room,appendMax];omega)),o_t (by rw [hq]),o_i (w64 (by (simp [room,appendMax];omega))),o_i (w64 (by (simp [room,appendMax];omega))),o_t (by rw [hH]),tP,o_i (w64 (by (simp [room,appendMax];omega))),o_i (w64 (by (simp [room,appendMax];omega))),oW,o_l (Aaf rfl Aap),o_l (Aam rfl rfl),o_w (by (simp [room,appendMax];omega)),o_i (w64 (by (simp [room,appendMax];omega))),o_a ih1,trivial⟩ ?_
  refine rT (a:=qz (qx 2) [vi r,V.ptr 0 0 0,qy 1 none,vi row,vi (H+1)] [qg 5 (V.t (Config.enc c)) false,qv 1 (zz ti (A++ [row*c.cols+col]++colsL (row*c.cols) (col+1) d)) none false]) ?_
  simp [colsL]
theorem Aki (b:Int): ∀(d:Nat) (c:Int),(colsL b c d).length=d
 |0,_=>rfl
 |d+1,c=>by simp [colsL,Aki b d]
theorem AgP (c:Config) (r q H p G:Int) (w:Nat) (hc:1≤c.cols∧c.cols≤4) (hr0:1≤c.rows∧c.rows≤4) (hq:r.tmod c.cols=q) (hp:r.tdiv c.cols=p) (hH:minI (q+1) (c.cols-1)=H) (hG:minI (p+1) (c.rows-1)=G) (hq1:0≤q∧q≤3) (hp1:0≤p∧p≤3) (hH1:H≤3) (hG1:G≤3) (hw:maxI (q-1) 0+w=H+1) (hl:0≤maxI (q-1) 0):
  ∀(d:Nat) (row:Int) (A:List Int),0≤row→row+d=G+1→A.length+d*100≤900→
  Is cx (.loop 83 [0,1,0,1,1,1] 0 [vi r,.ptr 0 0 0,.all 1 none,vi row] [.one 5 (.t c.enc) false,.arr 1 (A.map ti) none false])
   ⟨.exit 0,[vi r,.ptr 0 0 0,.all 1 none,vi (G+1)],[.one 5 (.t c.enc) false,.arr 1 ((A++rowsL c.cols (maxI (q-1) 0) w row d).map ti) none false]⟩:=by
 intro d
 induction d with
 |zero=>
  intro row A h0 h1 h2
  refine qq ?_
  refine gg [.w (c.cols≠(0:Int)),.i zd (Int.tdiv r c.cols) p,.i zd (p+1) (p+1),.i zd (c.rows-1) (c.rows-1),.t (ti (minI (p+1) (c.rows-1))) (ti G),.b (decide (row≤G)) false] ⟨oW,oI,oI,oI,o_t (by rw [hG]),fP,trivial⟩ ?_
  refine rT (a:=qz (qx 0) [vi r,V.ptr 0 0 0,qy 1 none,vi row] [qg 5 (V.t (Config.enc c)) false,qv 1 (zz ti A) none false]) ?_
  ((have e:row=G+1:=by omega);subst e;simp [rowsL])
 |succ d ih=>
  intro row A h0 h1 h2
  have hm:=mul4 (a:=row) (b:=c.cols) (by omega) (by omega)
  have hi:=Agw c r q H row hc hq hH hq1 hH1 (by omega) hm w (maxI (q-1) 0) A hl hw (by omega)
  have ih1:=ih (row+1) (A++colsL (row*c.cols) (maxI (q-1) 0) w) (by omega) (by omega) (by simp [Aki];omega)
  clear ih
  refine qq ?_
  refine gg [.w (c.cols≠(0:Int)),.i zd (Int.tdiv r c.cols) p,.i zd (p+1) (p+1),.i zd (c.rows-1) (c.rows-1),.t (ti (minI (p+1) (c.rows-1))) (ti G),.b (decide (row≤G)) true,.w (c.cols≠(0:Int)),.t (ti (zg r c.cols)) (ti q),.i zd (q-1) (q-1),.s (ti (maxI (q-1) 0)),.a _ _,.i zd (row+1) (row+1),.a _ _] ⟨oW,oI,oI,oI,o_t (by rw [hG]),tP,oW,o_t (by rw [hq]),oI,o_a hi,oI,o_a ih1,trivial⟩ ?_
  refine rT (a:=qz (qx 0) [vi r,V.ptr 0 0 0,qy 1 none,vi (G+1)] [qg 5 (V.t (Config.enc c)) false,qv 1 (zz ti (A++colsL (row*c.cols) (maxI (q-1) 0) w++rowsL c.cols (maxI (q-1) 0) w (row+1) d)) none false]) ?_
  simp [rowsL]
theorem AbY (c:Config) (r:Int):Fn cx 83 [c.enc,ti r] (.sl 1 ((c.near r).map ti)):=by
 cases h:c.is r with
 |false=>
  have hN:c.near r= []:=by simp [Config.near,h]
  rw [hN]
  refine qq ?_
  refine gg [.a _ _,.b (!Config.is c r) true] ⟨o_a (AhP c r),AhL (by assumption),trivial⟩ ?_
  exact ge
 |true=>
  have hr:=Config.is_right h
  have hi:=(Config.is_iff hr).1 h
  obtain ⟨hc,hrr,_⟩:=Config.right_iff.1 hr
  have hml:=Config.mul_le hr
  have hN:c.near r=nearP c.cols c.rows r:=by simp [Config.near,h]
  rw [hN]
  have k1:=AaR (v:=r) (k:=c.cols) (m:=c.rows) (by omega) (by omega) (by omega)
  have k2:=AaE (v:=r) (k:=c.cols) (by omega) (by omega)
  have hH1:minI (r.tmod c.cols+1) (c.cols-1)≤3∧maxI (r.tmod c.cols-1) 0≤minI (r.tmod c.cols+1) (c.cols-1)∧0≤maxI (r.tmod c.cols-1) 0:=by unfold minI maxI;split<;>split<;>omega
  have hG1:minI (r.tdiv c.cols+1) (c.rows-1)≤3∧maxI (r.tdiv c.cols-1) 0≤minI (r.tdiv c.cols+1) (c.rows-1)∧0≤maxI (r.tdiv c.cols-1) 0:=by unfold minI maxI;split<;>split<;>omega
  have hO:=AgP c r _ _ _ _ (minI (r.tmod c.cols+1) (c.cols-1)+1-maxI (r.tmod c.cols-1) 0).toNat hc hrr rfl rfl rfl rfl (by omega) (by omega) hH1.1 hG1.1 (by omega) hH1.2.2
   (minI (r.tdiv c.cols+1) (c.rows-1)+1-maxI (r.tdiv c.cols-1) 0).toNat (maxI (r.tdiv c.cols-1) 0) [] (by omega) (by omega) (by simp;omega)
  rw [List.nil_append] at hO
  refine qq ?_
  refine gg [.a _ _,.b (!Config.is c r) false,.w (c.cols≠(0:Int)),.i zd (Int.tdiv r c.cols) (Int.tdiv r c.cols),.i zd (Int.tdiv r c.cols-1) (Int.tdiv r c.cols-1),.s (ti (maxI (Int.tdiv r c.cols-1) 0)),.a _ _] ⟨o_a (AhP c r),AhJ (by assumption),oW,oI,oI,o_a hO,trivial⟩ ?_
  exact ge
end Go.Eva.S4
namespace Go.Eva.S4
theorem AdN (c:Config) (r q p:Int) (hr:c.right=true) (his:c.is r=true) (hq:r.tmod c.cols=q) (hp:r.tdiv c.cols=p) (hq1:0≤q∧q≤3) (hp1:0≤p∧p≤3):
  ∀(d:Nat) (n:Int) (A:List Int),0≤n→n+d=c.regions→A.length+d≤1000→
  Is cx (.loop 27 [0,1,0,1,1] 0 [vi r,.ptr 0 0 0,.all 1 none,vi n] [.one 5 (.t c.enc) false,.arr 1 (A.map ti) none false])
   ⟨.exit 0,[vi r,.ptr 0 0 0,.all 1 none,vi c.regions],[.one 5 (.t c.enc) false,.arr 1 ((A++nearR c.cols r n d).map ti) none false]⟩:=by
 obtain ⟨hc,hrr,_⟩:=Config.right_iff.1 hr
 have hml:= @Config.regions_le c
 have hrg:c.regions=c.cols*c.rows:=by simp [z0,hr]
 intro d
 induction d with
 |zero=>
  intro n A h0 h1 h2
  refine qq ?_
  refine gg [.a _ _,.b (decide (n<z0 c)) false,.ff,.ff,.ff,.ff] ⟨o_a (Aaj c),fP,trivial⟩ ?_
  refine rT (a:=qz (qx 0) [vi r,V.ptr 0 0 0,qy 1 none,vi n] [qg 5 (V.t (Config.enc c)) false,qv 1 (zz ti A) none false]) ?_
  ((have e:n=c.regions:=by omega);subst e;simp [nearR])
 |succ d ih=>
  intro n A h0 h1 h2
  have ih1:=ih (n+1) A (by omega) (by omega) (by omega)
  have ih2:=ih (n+1) (A++ [n]) (by omega) (by omega) (by simp;omega)
  clear ih
  have k1:=AaR (v:=n) (k:=c.cols) (m:=c.rows) (by omega) h0 (by omega)
  have k2:=AaE (v:=n) (k:=c.cols) (by omega) h0
  cases hn:isNear c.cols r n with
  |true=>
   have hn': -1≤n.tmod c.cols-q∧n.tmod c.cols-q≤1∧ -1≤n.tdiv c.cols-p∧n.tdiv c.cols-p≤1:=by rw [←hq,←hp];simpa [isNear] using hn
   refine qq ?_
   refine gg [.a _ _,.b (decide (n<z0 c)) true,.tt,.tt,.a _ _,.tt,.b (Config.is c r) true,.w (c.cols≠(0:Int)),.s (ti (zg n c.cols)),.w (c.cols≠(0:Int)),.t (ti (zg r c.cols)) (ti q),.i zd (zg n c.cols-q) (zg n c.cols-q),.w (c.cols≠(0:Int)),.i zd (Int.tdiv n c.cols) (Int.tdiv n c.cols),.w (c.cols≠(0:Int)),.i zd (Int.tdiv r c.cols) p] ⟨o_a (Aaj c),tP,o_a (Aay c r),tB,o_w (by (simp [room,appendMax];omega)),o_w (by (simp [room,appendMax];omega)),o_t (by rw [hq]),o_i (w64 (by (simp [room,appendMax];omega))),o_w (by (simp [room,appendMax];omega)),o_i (w64 (by (simp [room,appendMax];omega))),o_w (by (simp [room,appendMax];omega)),oI,trivial⟩ ?_
   refine gg [.i zd (Int.tdiv n c.cols-p) (Int.tdiv n c.cols-p),.b (decide (zg n c.cols-q≥ -1)) true,.tt,.tt,.b (decide (zg n c.cols-q≤1)) true,.tt,.tt,.b (decide (Int.tdiv n c.cols-p≥ -1)) true,.tt,.tt,.b (decide (Int.tdiv n c.cols-p≤1)) true,.w ((0:Nat)<(8:Nat)),.t (qk 0 [ti n]) (qk 0 (zz (T.int zd) [n])),.t (qk 0 (zz ti A++zz (T.int zd) [n])) (qk 0 (zz ti (A++ [n]))),.w (room (zq (zz ti (A++ [n]))) (8:Nat)),.i zd (n+1) (n+1)] ⟨o_i (w64 (by (simp [room,appendMax];omega))),tP,tP,tP,tP,oW,o_l (Aaf rfl Aap),o_l (Aam rfl rfl),o_w (by (simp [room,appendMax];omega)),o_i (w64 (by (simp [room,appendMax];omega))),trivial⟩ ?_
   refine gg [.a _ _] ⟨o_a ih2,trivial⟩ ?_
   refine rT (a:=qz (qx 0) [vi r,V.ptr 0 0 0,qy 1 none,vi (z0 c)] [qg 5 (V.t (Config.enc c)) false,qv 1 (zz ti (A++ [n]++nearR c.cols r (n+1) d)) none false]) ?_
   simp [nearR,hn]
  |false=>
   have hn': ¬(-1≤n.tmod c.cols-q∧n.tmod c.cols-q≤1∧ -1≤n.tdiv c.cols-p∧n.tdiv c.cols-p≤1):=by rw [←hq,←hp];simpa [isNear] using hn
   refine qq ?_
   refine gg [.a _ _,.b (decide (n<z0 c)) true,.tt,.tt,.a _ _,.tt,.b (Config.is c r) true,.w (c.cols≠(0:Int)),.s (ti (zg n c.cols)),.w (c.cols≠(0:Int)),.t (ti (zg r c.cols)) (ti q),.i zd (zg n c.cols-q) (zg n c.cols-q),.w (c.cols≠(0:Int)),.i zd (Int.tdiv n c.cols) (Int.tdiv n c.cols),.w (c.cols≠(0:Int)),.i zd (Int.tdiv r c.cols) p] ⟨o_a (Aaj c),tP,o_a (Aay c r),tB,o_w (by (simp [room,appendMax];omega)),o_w (by (simp [room,appendMax];omega)),o_t (by rw [hq]),o_i (w64 (by (simp [room,appendMax];omega))),o_w (by (simp [room,appendMax];omega)),o_i (w64 (by (simp [room,appendMax];omega))),o_w (by (simp [room,appendMax];omega)),oI,trivial⟩ ?_
   refine gg [.i zd (Int.tdiv n c.cols-p) (Int.tdiv n c.cols-p)] ⟨o_i (w64 (by (simp [room,appendMax];omega))),trivial⟩ ?_
   refine brp (p:=zg n c.cols-q≥ -1) (by kernel_rfl) (fun h1=> ?_) (fun h1=> ?_)
   ·refine gg [.tt,.tt] trivial ?_
    refine brp (p:=zg n c.cols-q≤1) (by kernel_rfl) (fun h2=> ?_) (fun h2=> ?_)
    ·refine gg [.tt,.tt] trivial ?_
     refine brp (p:=Int.tdiv n c.cols-p≥ -1) (by kernel_rfl) (fun h3=> ?_) (fun h3=> ?_)
     ·refine gg [.tt,.tt,.b (decide (Int.tdiv n c.cols-p≤1)) false,.i zd (n+1) (n+1),.a _ _] ⟨fP,o_i (w64 (by (simp [room,appendMax];omega))),o_a ih1,trivial⟩ ?_
      refine rT (a:=qz (qx 0) [vi r,V.ptr 0 0 0,qy 1 none,vi (z0 c)] [qg 5 (V.t (Config.enc c)) false,qv 1 (zz ti (A++nearR c.cols r (n+1) d)) none false]) ?_
      simp [nearR,hn]
     ·refine gg [.ff,.ff,.ff,.i zd (n+1) (n+1),.a _ _] ⟨o_i (w64 (by (simp [room,appendMax];omega))),o_a ih1,trivial⟩ ?_
      refine rT (a:=qz (qx 0) [vi r,V.ptr 0 0 0,qy 1 none,vi (z0 c)] [qg 5 (V.t (Config.enc c)) false,qv 1 (zz ti (A++nearR c.cols r (n+1) d)) none false]) ?_
      simp [nearR,hn]
    ·refine gg [.ff,.ff,.ff,.ff,.ff,.ff,.i zd (n+1) (n+1),.a _ _] ⟨o_i (w64 (by (simp [room,appendMax];omega))),o_a ih1,trivial⟩ ?_
     refine rT (a:=qz (qx 0) [vi r,V.ptr 0 0 0,qy 1 none,vi (z0 c)] [qg 5 (V.t (Config.enc c)) false,qv 1 (zz ti (A++nearR c.cols r (n+1) d)) none false]) ?_
     simp [nearR,hn]
   ·refine gg [.ff,.ff,.ff,.ff,.ff,.ff,.ff,.ff,.ff,.i zd (n+1) (n+1),.a _ _] ⟨o_i (w64 (by (simp [room,appendMax];omega))),o_a ih1,trivial⟩ ?_
    refine rT (a:=qz (qx 0) [vi r,V.ptr 0 0 0,qy 1 none,vi (z0 c)] [qg 5 (V.t (Config.enc c)) false,qv 1 (zz ti (A++nearR c.cols r (n+1) d)) none false]) ?_
    simp [nearR,hn]
theorem AaP (c:Config) (r:Int):Fn cx 27 [c.enc,ti r] (.sl 1 ((c.near r).map ti)):=by
 cases h:c.is r with
 |false=>
  have hN:c.near r= []:=by simp [Config.near,h]
  rw [hN]
  have hl:Is cx (.loop 27 [0,1,0,1,1] 0 [vi r,.ptr 0 0 0,.all 1 none,vi 0] [.one 5 (.t c.enc) false,.arr 1 [] none false]) ⟨.exit 0,[vi r,.ptr 0 0 0,.all 1 none,vi 0],[.one 5 (.t c.enc) false,.arr 1 [] none false]⟩:=by
   refine qq ?_
   refine gg [.a _ _] ⟨o_a (Aaj c),trivial⟩ ?_
   refine brp (p:=0<z0 c) (by kernel_rfl) (fun h1=> ?_) (fun h1=> ?_)
   ·refine gg [.tt,.tt,.a _ _,.tt,.b (Config.is c r) false] ⟨o_a (Aay c r),fB,trivial⟩ ?_
    exact ge
   ·refine gg [.ff,.ff,.ff,.ff] trivial ?_
    exact ge
  refine qq ?_
  refine gg [.a _ _] ⟨o_a hl,trivial⟩ ?_
  exact ge
 |true=>
  have hr:=Config.is_right h
  have hi:=(Config.is_iff hr).1 h
  obtain ⟨hc,hrr,_⟩:=Config.right_iff.1 hr
  have hml:=Config.mul_le hr
  have hrg:c.regions=c.cols*c.rows:=by simp [z0,hr]
  have k1:=AaR (v:=r) (k:=c.cols) (m:=c.rows) (by omega) (by omega) (by omega)
  have k2:=AaE (v:=r) (k:=c.cols) (by omega) (by omega)
  have hN:c.near r=nearR c.cols r 0 (c.cols*c.rows).toNat:=by rw [An3 hc hrr hi];simp [Config.near,h]
  rw [hN]
  have hL:=AdN c r _ _ hr h rfl rfl (by omega) (by omega) (c.cols*c.rows).toNat 0 [] (by omega) (by omega) (by simp;omega)
  rw [List.nil_append] at hL
  refine qq ?_
  refine gg [.a _ _] ⟨o_a hL,trivial⟩ ?_
  exact ge
theorem AjF (c:Config) (m:Cross):Fn cx 107 [c.enc,m.enc] (.bool (m.right c)):=by
 have hn:= @Aa0 c m.frm
 have hs:small (c.near m.frm):=by unfold small;omega
 refine qq ?_
 refine gg [.a _ _,.a _ _] ⟨o_a (AbY c m.frm),o_a (Aej (Config.near c m.frm) m.to (by assumption)),trivial⟩ ?_
 refine brnot (b:=has (Config.near c m.frm) m.to) (by kernel_rfl) (fun h1=> ?_) (fun h1=> ?_)
 ·refine gg [.tt,.tt,.tt,.tt,.tt,.tt,.tt,.tt] trivial ?_
  refine rT (a:=qz qj [vb false] []) ?_
  (simp_all [Cross.right,within,beqd,bned,Aau,teq_zero'];try omega)
 ·refine gg [.ff,.ff,.ff] trivial ?_
  refine brp (p:=m.frame<0) (by kernel_rfl) (fun h2=> ?_) (fun h2=> ?_)
  ·refine gg [.tt,.tt,.tt,.tt] trivial ?_
   refine rT (a:=qz qj [vb false] []) ?_
   (simp_all [Cross.right,within,beqd,bned,Aau,teq_zero'];try omega)
  ·refine gg [.ff,.ff,.ff] trivial ?_
   refine brp (p:=m.frame≥10000) (by kernel_rfl) (fun h3=> ?_) (fun h3=> ?_)
   ·refine rT (a:=qz qj [vb false] []) ?_
    (simp_all [Cross.right,within,beqd,bned,Aau,teq_zero'];try omega)
   ·refine bre (x:=m.kind) (y:=1) (by kernel_rfl) (fun h4=> ?_) (fun h4=> ?_)
    ·refine gg [.a _ _] ⟨o_a (Ac6 c m.ent),trivial⟩ ?_
     refine br (b:=Entity.right c m.ent) (by kernel_rfl) (fun h5=> ?_) (fun h5=> ?_)
     ·refine gg [.tt,.tt,.tt,.tt,.tt,.tt,.tt,.tt,.tt,.a _ _,.tt,.tt] ⟨o_a (AcU c m.ent.x m.ent.y),trivial⟩ ?_
      refine bre (x:=Config.of c m.ent.x m.ent.y) (y:=m.to) (by kernel_rfl) (fun h6=> ?_) (fun h6=> ?_)
      ·refine gg [.tt,.tt,.tt] trivial ?_
       refine bre (x:=m.x) (y:=0) (by kernel_rfl) (fun h7=> ?_) (fun h7=> ?_)
       ·refine gg [.tt,.tt,.tt] trivial ?_
        refine bre (x:=m.y) (y:=0) (by kernel_rfl) (fun h8=> ?_) (fun h8=> ?_)
        ·refine gg [.tt,.tt,.tt,.tt,.tt] trivial ?_
         refine rT (a:=qz qj [vb (m.to !=m.frm)] []) ?_
         (simp_all [Cross.right,within,beqd,bned,Aau,teq_zero'];try omega)
        ·refine gg [.ff,.ff,.ff,.ff,.ff] trivial ?_
         refine rT (a:=qz qj [vb false] []) ?_
         (simp_all [Cross.right,within,beqd,bned,Aau,teq_zero'];try omega)
       ·refine gg [.ff,.ff,.ff,.ff,.ff,.ff,.ff,.ff,.ff] trivial ?_
        refine rT (a:=qz qj [vb false] []) ?_
        (simp_all [Cross.right,within,beqd,bned,Aau,teq_zero'];try omega)
      ·refine gg [.ff,.ff,.ff,.ff,.ff,.ff,.ff,.ff,.ff,.ff,.ff,.ff,.ff] trivial ?_
       refine rT (a:=qz qj [vb false] []) ?_
       (simp_all [Cross.right,within,beqd,bned,Aau,teq_zero'];try omega)
     ·refine gg [.ff,.ff,.ff,.ff,.ff,.ff,.ff,.ff,.ff,.ff,.ff,.ff,.ff,.ff,.ff,.ff] trivial ?_
      refine gg [.ff,.ff,.ff,.ff,.ff,.ff,.ff,.ff,.ff] trivial ?_
      refine rT (a:=qz qj [vb false] []) ?_
      (simp_all [Cross.right,within,beqd,bned,Aau,teq_zero'];try omega)
    ·refine bre (x:=m.kind) (y:=2) (by kernel_rfl) (fun h5=> ?_) (fun h5=> ?_)
     ·refine gg [.a _ _] ⟨o_a (Adn c m.x m.y),trivial⟩ ?_
      refine br (b:=Config.inside c m.x m.y) (by kernel_rfl) (fun h6=> ?_) (fun h6=> ?_)
      ·refine gg [.tt,.tt,.tt,.w (conform cx (40:Nat) (48:Nat) (T.agg [ti m.ent.id,ti m.ent.kind,ti m.ent.x,ti m.ent.y,ti m.ent.vx,ti m.ent.vy,ti m.ent.health,ti m.ent.age,ti m.ent.owner])=true∧conform cx (40:Nat) (48:Nat) (T.agg [ti (0:Int),ti (0:Int),ti (0:Int),ti (0:Int),ti (0:Int),ti (0:Int),ti (0:Int),ti (0:Int),ti (0:Int)])=true),.tt] ⟨o_w ⟨(by kernel_rfl),(by kernel_rfl)⟩,trivial⟩ ?_
       refine rT (a:=qz qj [vb (teq (T.agg [ti m.ent.id,ti m.ent.kind,ti m.ent.x,ti m.ent.y,ti m.ent.vx,ti m.ent.vy,ti m.ent.health,ti m.ent.age,ti m.ent.owner]) (T.agg [ti 0,ti 0,ti 0,ti 0,ti 0,ti 0,ti 0,ti 0,ti 0]))] []) ?_
       (simp_all [Cross.right,within,beqd,bned,Aau,teq_zero'];try omega)
      ·refine gg [.ff,.ff,.ff,.ff] trivial ?_
       refine rT (a:=qz qj [vb false] []) ?_
       (simp_all [Cross.right,within,beqd,bned,Aau,teq_zero'];try omega)
     ·refine rT (a:=qz qj [vb false] []) ?_
      (simp_all [Cross.right,within,beqd,bned,Aau,teq_zero'];try omega)
theorem AfW (c:Config) (m:Cross):Fn cx 25 [c.enc,m.enc] (.bool (m.right c)):=by
 have hn:= @Aa0 c m.frm
 have hs:small (c.near m.frm):=by unfold small;omega
 refine qq ?_
 refine gg [.a _ _] ⟨o_a (Aay c m.frm),trivial⟩ ?_
 refine brnot (b:=Config.is c m.frm) (by kernel_rfl) (fun h1=> ?_) (fun h1=> ?_)
 ·refine gg [.tt,.tt,.tt,.tt,.tt,.tt,.tt,.tt,.tt,.tt,.tt,.tt,.tt,.tt] trivial ?_
  refine rT (a:=qz qj [vb false] []) ?_
  (first|((have hnn:c.near m.frm= []:=by simp [Config.near,h1]);simp [Cross.right,hnn,has];done)|(simp_all [Cross.right,within,beqd,bned,Aau,teq_zero'];try omega))
 ·refine gg [.ff,.ff,.ff,.ff,.ff,.a _ _,.ff,.a _ _,.ff,.ff] ⟨o_a (AaP c m.frm),o_a (Agj (Config.near c m.frm) m.to (by assumption)),trivial⟩ ?_
  refine brnot (b:=has (Config.near c m.frm) m.to) (by kernel_rfl) (fun h2=> ?_) (fun h2=> ?_)
  ·refine gg [.tt,.tt,.tt,.tt,.tt] trivial ?_
   refine rT (a:=qz qj [vb false] []) ?_
   (first|((have hnn:c.near m.frm= []:=by simp [Config.near,h1]);simp [Cross.right,hnn,has];done)|(simp_all [Cross.right,within,beqd,bned,Aau,teq_zero'];try omega))
  ·refine gg [.ff,.ff,.a _ _,.ff,.ff] ⟨o_a (Aah m.frame 0 9999),trivial⟩ ?_
   refine brnot (b:=within m.frame 0 9999) (by kernel_rfl) (fun h3=> ?_) (fun h3=> ?_)
   ·refine rT (a:=qz qj [vb false] []) ?_
    (first|((have hnn:c.near m.frm= []:=by simp [Config.near,h1]);simp [Cross.right,hnn,has];done)|(simp_all [Cross.right,within,beqd,bned,Aau,teq_zero'];try omega))
   ·refine bre (x:=m.kind) (y:=1) (by kernel_rfl) (fun h4=> ?_) (fun h4=> ?_)
    ·refine gg [.a _ _] ⟨o_a (Abh c m.ent),trivial⟩ ?_
     refine br (b:=Entity.right c m.ent) (by kernel_rfl) (fun h5=> ?_) (fun h5=> ?_)
     ·refine gg [.tt,.tt,.tt,.tt,.tt,.tt,.tt,.tt,.tt,.a _ _,.tt,.tt] ⟨o_a (AbU c m.ent.x m.ent.y),trivial⟩ ?_
      refine bre (x:=Config.of c m.ent.x m.ent.y) (y:=m.to) (by kernel_rfl) (fun h6=> ?_) (fun h6=> ?_)
      ·refine gg [.tt,.tt,.tt] trivial ?_
       refine bre (x:=m.x) (y:=0) (by kernel_rfl) (fun h7=> ?_) (fun h7=> ?_)
       ·refine gg [.tt,.tt,.tt] trivial ?_
        refine bre (x:=m.y) (y:=0) (by kernel_rfl) (fun h8=> ?_) (fun h8=> ?_)
        ·refine gg [.tt,.tt,.tt,.tt,.tt] trivial ?_
         refine rT (a:=qz qj [vb (m.to !=m.frm)] []) ?_
         (first|((have hnn:c.near m.frm= []:=by simp [Config.near,h1]);simp [Cross.right,hnn,has];done)|(simp_all [Cross.right,within,beqd,bned,Aau,teq_zero'];try omega))
        ·refine gg [.ff,.ff,.ff,.ff,.ff] trivial ?_
         refine rT (a:=qz qj [vb false] []) ?_
         (first|((have hnn:c.near m.frm= []:=by simp [Config.near,h1]);simp [Cross.right,hnn,has];done)|(simp_all [Cross.right,within,beqd,bned,Aau,teq_zero'];try omega))
       ·refine gg [.ff,.ff,.ff,.ff,.ff,.ff,.ff,.ff,.ff] trivial ?_
        refine rT (a:=qz qj [vb false] []) ?_
        (first|((have hnn:c.near m.frm= []:=by simp [Config.near,h1]);simp [Cross.right,hnn,has];done)|(simp_all [Cross.right,within,beqd,bned,Aau,teq_zero'];try omega))
      ·refine gg [.ff,.ff,.ff,.ff,.ff,.ff,.ff,.ff,.ff,.ff,.ff,.ff,.ff] trivial ?_
       refine rT (a:=qz qj [vb false] []) ?_
       (first|((have hnn:c.near m.frm= []:=by simp [Config.near,h1]);simp [Cross.right,hnn,has];done)|(simp_all [Cross.right,within,beqd,bned,Aau,teq_zero'];try omega))
     ·refine gg [.ff,.ff,.ff,.ff,.ff,.ff,.ff,.ff,.ff,.ff,.ff,.ff,.ff,.ff,.ff,.ff] trivial ?_
      refine gg [.ff,.ff,.ff,.ff,.ff,.ff,.ff,.ff,.ff] trivial ?_
      refine rT (a:=qz qj [vb false] []) ?_
      (first|((have hnn:c.near m.frm= []:=by simp [Config.near,h1]);simp [Cross.right,hnn,has];done)|(simp_all [Cross.right,within,beqd,bned,Aau,teq_zero'];try omega))
    ·refine bre (x:=m.kind) (y:=2) (by kernel_rfl) (fun h5=> ?_) (fun h5=> ?_)
     ·refine gg [.a _ _] ⟨o_a (AaT c m.x m.y),trivial⟩ ?_
      refine br (b:=Config.inside c m.x m.y) (by kernel_rfl) (fun h6=> ?_) (fun h6=> ?_)
      ·refine gg [.tt,.tt,.tt,.w (conform cx (40:Nat) (48:Nat) (T.agg [ti m.ent.id,ti m.ent.kind,ti m.ent.x,ti m.ent.y,ti m.ent.vx,ti m.ent.vy,ti m.ent.health,ti m.ent.age,ti m.ent.owner])=true∧conform cx (40:Nat) (48:Nat) (T.agg [ti (0:Int),ti (0:Int),ti (0:Int),ti (0:Int),ti (0:Int),ti (0:Int),ti (0:Int),ti (0:Int),ti (0:Int)])=true),.tt] ⟨o_w ⟨(by kernel_rfl),(by kernel_rfl)⟩,trivial⟩ ?_
       refine rT (a:=qz qj [vb (teq (T.agg [ti m.ent.id,ti m.ent.kind,ti m.ent.x,ti m.ent.y,ti m.ent.vx,ti m.ent.vy,ti m.ent.health,ti m.ent.age,ti m.ent.owner]) (T.agg [ti 0,ti 0,ti 0,ti 0,ti 0,ti 0,ti 0,ti 0,ti 0]))] []) ?_
       (first|((have hnn:c.near m.frm= []:=by simp [Config.near,h1]);simp [Cross.right,hnn,has];done)|(simp_all [Cross.right,within,beqd,bned,Aau,teq_zero'];try omega))
      ·refine gg [.ff,.ff,.ff,.ff] trivial ?_
       refine rT (a:=qz qj [vb false] []) ?_
       (first|((have hnn:c.near m.frm= []:=by simp [Config.near,h1]);simp [Cross.right,hnn,has];done)|(simp_all [Cross.right,within,beqd,bned,Aau,teq_zero'];try omega))
     ·refine rT (a:=qz qj [vb false] []) ?_
      (first|((have hnn:c.near m.frm= []:=by simp [Config.near,h1]);simp [Cross.right,hnn,has];done)|(simp_all [Cross.right,within,beqd,bned,Aau,teq_zero'];try omega))
end Go.Eva.S4