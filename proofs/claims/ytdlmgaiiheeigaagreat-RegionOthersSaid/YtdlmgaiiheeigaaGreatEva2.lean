/- A reading of the program, proved sound against the model, and what its functions answer by it: part 2. -/
import Derived.Test.YtdlmgaiiheeigaaGreatEva1
set_option linter.unusedSimpArgs false
set_option linter.unusedVariables false
open List renaming length → zq, map → zz, replicate → zj, set → zx, take → zw, drop → zk
open Int renaming toNat → zy, tmod → zg, fdiv → zh
open Go.IntKind renaming i64 → zd, u64 → zf, wrap → zp
open BitVec renaming ofInt → zb
open Go.Eva.Entity renaming enc → zm, mk → qw
open Go.Eva.Cross renaming enc → zn
open Go.Eva.Input renaming enc → zr
open Go.Eva.Region renaming enc → zt
open Go.Eva.Config renaming regions → z0
open Go.Eva.Wp renaming ev → qq
open Go.Eva.Res renaming mk → qz
open Go.Eva.Ex renaming ret → qj, exit → qx
open Go.Eva.Ob renaming arr → qv, one → qg
open Go.Eva.T renaming sl → qk
open Go.Eva.V renaming all → qy
namespace Go.Eva.S5
theorem AeQ (e:Entity) (id:Int):Fn cx 165 [e.enc,.ip 1 (ti id) 0] (.bool (e.id==id)):=by
 refine qq ?_
 exact ge
theorem Afq (e x:Entity):Fn cx 148 [x.enc,.ip 9 e.enc 0] (.bool (decide (x.id≥e.id))):=by
 refine qq ?_
 exact ge
theorem Aap (l:List Entity) (id:Int) (hl:small l):Fn cx 113 [.sl 9 (l.map zm),ti id] (ti (find l id)):=by
 have h:=Aam l 165 [.ip 1 (ti id) 0] (fun e=>e.id==id) (by kernel_rfl) hl (fun e _=>AeQ e id)
 refine qq ?_
 refine gg [.a _ _,.b (flats [ti (pos (fun (e:Entity)↦e.id==id) l)]) true] ⟨o_a h,bK,trivial⟩ ?_
 exact ge
theorem AdK (m:List Entity) (hm:m.length≤400000): ∀(d i:Nat) (A:List Entity),i+d=m.length→A.length≤400000+i→
  Is cx (.loop 82 [0,1,0,1,1] 0 [.all 0 none,.t (.sl 9 (m.map zm)),vi m.length,vi i] [.arr 9 (A.map zm) none false])
   ⟨.exit 0,[.all 0 none,.t (.sl 9 (m.map zm)),vi m.length,vi m.length],[.arr 9 ((puts A (m.drop i)).map zm) none false]⟩:=by
 intro d
 induction d with
 |zero=>
  intro i A hi hA
  rw [Aaf (by omega)]
  refine qq ?_
  refine gg [.b (decide ((i:Int)<(↑(zq m):Int))) false] ⟨fP,trivial⟩ ?_
  refine rT (a:=qz (qx 0) [qy 0 none,V.t (qk 9 (zz zm m)),vi (↑(zq m):Int),vi (i:Int)] [qv 9 (zz zm A) none false]) ?_
  ((have hq:i=m.length:=by omega);subst hq;rfl)
 |succ d ih=>
  intro i A hi hA
  have hlt:i<m.length:=by omega
  rw [Aah hlt]
  show Is cx _ ⟨_,_,[.arr 9 ((puts (put1 A (gt m i)) (m.drop (i+1))).map zm) none false]⟩
  have hl:= @Aa6 A (gt m i)
  have ih1:=ih (i+1) (put1 A (gt m i)) (by omega) (by omega)
  clear ih
  have hs:small A:=by unfold small;omega
  have hF:=Aap A (gt m i).id hs
  have hG:=Aam A 148 [.ip 9 (gt m i).enc 0] (fun x=>decide (x.id≥(gt m i).id)) (by kernel_rfl) hs (fun x _=>Afq (gt m i) x)
  clear hl
  unfold find at hF
  unfold put1 at*
  cases hq:A.findIdx? fun x=>x.id==(gt m i).id with
  |some k=>
   rw [hq] at ih1
   rw [AaX hq] at hF
   simp only at ih1⊢
   refine qq ?_
   refine gg [.b (decide ((i:Int)<(↑(zq m):Int))) true,.w (0≤(i:Int)),.n (zy (i:Int)) i,.g (zz zm m) i (zm (gt m i)),.a _ _,.b (flats [ti (k:Int)]) true,.b (decide ((k:Int)≥0)) true,.i zd ((i:Int)+1) ((↑(i+1):Int)),.a _ _] ⟨tP,oW,nK,o_gt rfl (by assumption) (by intro h;cases h),o_a hF,bK,bK,oI,o_a ih1,trivial⟩ ?_
   exact ge
  |none=>
   rw [hq] at ih1
   rw [Abr hq] at hF
   simp only at ih1⊢
   unfold ins at*
   cases hp:A.findIdx? fun x=>decide (x.id≥(gt m i).id) with
   |some k=>
    rw [hp] at ih1
    rw [AaX hp] at hG
    simp only at ih1⊢
    have hk:=(List.findIdx?_eq_some_iff_getElem.1 hp).1
    refine qq ?_
    refine gg [.b (decide ((i:Int)<(↑(zq m):Int))) true,.w (0≤(i:Int)),.n (zy (i:Int)) i,.g (zz zm m) i (zm (gt m i)),.a _ _,.b (flats [ti (-1)]) true,.b (decide (-1≥0)) false,.a _ _,.b (flats [ti (k:Int)]) true,.b (decide ((k:Int)<0)) false,.a _ _,.i zd ((i:Int)+1) ((↑(i+1):Int)),.a _ _] ⟨tP,oW,nK,o_gt rfl (by assumption) (by intro h;cases h),o_a hF,bK,bK,o_a hG,bK,bK,o_a (AaE A (gt m i) k (by assumption) (by omega)),oI,o_a ih1,trivial⟩ ?_
    exact ge
   |none=>
    rw [hp] at ih1
    rw [Abr hp] at hG
    simp only at ih1⊢
    have hI:=AaE A (gt m i) A.length hs (Nat.le_refl _)
    rw [List.take_length,List.drop_length] at hI
    refine qq ?_
    refine gg [.b (decide ((i:Int)<(↑(zq m):Int))) true,.w (0≤(i:Int)),.n (zy (i:Int)) i,.g (zz zm m) i (zm (gt m i)),.a _ _,.b (flats [ti (-1)]) true,.b (decide (-1≥0)) false,.a _ _,.b (flats [ti (-1)]) true,.b (decide (-1<0)) true,.n (zq (zz zm A)) (zq A),.a _ _,.i zd ((i:Int)+1) ((↑(i+1):Int)),.a _ _] ⟨tP,oW,nK,o_gt rfl (by assumption) (by intro h;cases h),o_a hF,bK,bK,o_a hG,bK,bK,o_n (by simp),o_a hI,oI,o_a ih1,trivial⟩ ?_
    exact ge
theorem AaR (l m:List Entity) (hl:l.length≤400000) (hm:m.length≤400000):Is cx (.call 82 [.t (.sl 9 (l.map zm)),.t (.sl 9 (m.map zm))] []) ⟨.ret,[.all 0 none],[.arr 9 ((puts l m).map zm) none false]⟩:=by
 have hs:small l:=by unfold small;omega
 have h:=AdK m hm m.length 0 l (by omega) (by omega)
 rw [List.drop_zero] at h
 refine qq ?_
 refine gg [.a _ _,.n (zq (zz zm m)) (zq m),.a _ _] ⟨o_a (Aaq l (by assumption)),o_n (by simp),o_a h,trivial⟩ ?_
 exact ge
theorem AcD (l:List Entity) (hn:small l): ∀(d i:Nat),i+d=l.length→1≤i→
  ∃k:Nat,Is cx (.loop 93 [0,1,0,1] 0 [.t (.sl 9 (l.map zm)),vb false,vi l.length,vi i] []) (match sortedL (l.drop (i-1)) with
    |true=>⟨.exit 0,[.t (.sl 9 (l.map zm)),vb false,vi l.length,vi l.length],[]⟩
    |false=>⟨.ret,[.t (.sl 9 (l.map zm)),vb false,vi l.length,vi k],[]⟩):=by
 unfold small at hn
 intro d
 induction d with
 |zero=>
  intro i hi h1
  refine ⟨0,?_⟩
  rw [AiA (by omega)]
  refine qq ?_
  refine gg [.b (decide ((i:Int)<(↑(zq l):Int))) false] ⟨fP,trivial⟩ ?_
  refine rT (a:=qz (qx 0) [V.t (qk 9 (zz zm l)),vb false,vi (↑(zq l):Int),vi (i:Int)] []) ?_
  ((have hq:i=l.length:=by omega);subst hq;rfl)
 |succ d ih=>
  intro i hi h1
  have hlt:i<l.length:=by omega
  obtain ⟨k,ih1⟩:=ih (i+1) (by omega) (by omega)
  clear ih
  obtain ⟨j,rfl⟩: ∃j,i=j+1:=⟨i-1,by omega⟩
  simp only [Nat.add_sub_cancel] at*
  rw [Ajg hlt]
  by_cases hp:(gt l j).id<(gt l (j+1)).id
  ·simp only [hp,decide_true,Bool.true_and]
   refine ⟨k,?_⟩
   cases hq:sortedL (l.drop (j+1)) with
   |true=>
    rw [hq] at ih1
    refine qq ?_
    refine gg [.b (decide ((↑(j+1):Int)<(↑(zq l):Int))) true,.b (decide ((↑(j+1):Int)>0)) true,.tt,.tt,.w (0≤(↑(j+(1:Nat)):Int)),.n (zy (↑(j+1):Int)) (j+1),.g (zz zm l) (j+1) (zm (gt l (j+1))),.tt,.tt,.tt,.tt,.i zd ((↑(j+1):Int)-1) ((↑(j+1):Int)-1),.tt,.w (0≤(↑(j+(1:Nat)):Int)-(1:Int)),.n (zy ((↑(j+1):Int)-1)) j,.g (zz zm l) j (zm (gt l j))] ⟨tP,tP,oW,nK,o_gt rfl (by assumption) (by intro h;cases h),oI,oW,oN,oT,trivial⟩ ?_
    refine gg [.tt,.tt,.tt,.tt,.tt,.b (decide ((gt l (j+1)).id≤(gt l j).id)) false,.i zd ((↑(j+1):Int)+1) ((↑(j+1+1):Int)),.a _ _] ⟨fP,oI,o_a ih1,trivial⟩ ?_
    exact ge
   |false=>
    rw [hq] at ih1
    refine qq ?_
    refine gg [.b (decide ((↑(j+1):Int)<(↑(zq l):Int))) true,.b (decide ((↑(j+1):Int)>0)) true,.tt,.tt,.w (0≤(↑(j+(1:Nat)):Int)),.n (zy (↑(j+1):Int)) (j+1),.g (zz zm l) (j+1) (zm (gt l (j+1))),.tt,.tt,.tt,.tt,.i zd ((↑(j+1):Int)-1) ((↑(j+1):Int)-1),.tt,.w (0≤(↑(j+(1:Nat)):Int)-(1:Int)),.n (zy ((↑(j+1):Int)-1)) j,.g (zz zm l) j (zm (gt l j))] ⟨tP,tP,oW,nK,o_gt rfl (by assumption) (by intro h;cases h),oI,oW,oN,oT,trivial⟩ ?_
    refine gg [.tt,.tt,.tt,.tt,.tt,.b (decide ((gt l (j+1)).id≤(gt l j).id)) false,.i zd ((↑(j+1):Int)+1) ((↑(j+1+1):Int)),.a _ _] ⟨fP,oI,o_a ih1,trivial⟩ ?_
    exact ge
  ·simp only [hp,decide_false,Bool.false_and]
   refine ⟨j+1,?_⟩
   refine qq ?_
   refine gg [.b (decide ((↑(j+1):Int)<(↑(zq l):Int))) true,.b (decide ((↑(j+1):Int)>0)) true,.tt,.tt,.w (0≤(↑(j+(1:Nat)):Int)),.n (zy (↑(j+1):Int)) (j+1),.g (zz zm l) (j+1) (zm (gt l (j+1))),.tt,.tt,.tt,.tt,.i zd ((↑(j+1):Int)-1) ((↑(j+1):Int)-1),.tt,.w (0≤(↑(j+(1:Nat)):Int)-(1:Int)),.n (zy ((↑(j+1):Int)-1)) j,.g (zz zm l) j (zm (gt l j))] ⟨tP,tP,oW,nK,o_gt rfl (by assumption) (by intro h;cases h),oI,oW,oN,oT,trivial⟩ ?_
   refine gg [.tt,.tt,.tt,.tt,.tt,.b (decide ((gt l (j+1)).id≤(gt l j).id)) true] ⟨tP,trivial⟩ ?_
   exact ge
theorem AeY (l:List Entity) (hn:small l):Fn cx 93 [.sl 9 (l.map zm)] (.bool (sortedL l)):=by
 have hn':l.length≤1000000:=hn
 have hz:l.length=0→Is cx (.loop 93 [0,1,0,1] 0 [.t (.sl 9 (l.map zm)),vb false,vi l.length,vi 0] []) ⟨.exit 0,[.t (.sl 9 (l.map zm)),vb false,vi l.length,vi l.length],[]⟩:=by
  intro h0
  rw [h0]
  refine qq ?_
  refine gg [.b (decide (0<0)) false] ⟨bK,trivial⟩ ?_
  exact ge
 by_cases h0:l.length=0
 ·have h:=hz h0
  have:l= []:=List.length_eq_zero_iff.1 h0
  subst this
  refine qq ?_
  refine gg [.l 0,.a _ _] ⟨o_a (hz (by kernel_rfl)),trivial⟩ ?_
  exact ge
 ·clear hz
  obtain ⟨k,h⟩:=AcD l hn (l.length-1) 1 (by omega) (by omega)
  simp only [Nat.sub_self,List.drop_zero] at h
  have hz:Is cx (.loop 93 [0,1,0,1] 0 [.t (.sl 9 (l.map zm)),vb false,vi l.length,vi 0] []) (match sortedL l with
    |true=>⟨.exit 0,[.t (.sl 9 (l.map zm)),vb false,vi l.length,vi l.length],[]⟩
    |false=>⟨.ret,[.t (.sl 9 (l.map zm)),vb false,vi l.length,vi k],[]⟩):=by
   cases hq:sortedL l with
   |true=>
    rw [hq] at h
    refine qq ?_
    refine gg [.b (decide (0<(↑(zq l):Int))) true,.b (decide (0>0)) false,.ff,.ff,.ff,.ff,.ff,.ff,.ff,.ff,.ff,.ff,.ff,.ff,.ff,.i zd 1 1] ⟨tP,bK,oK,trivial⟩ ?_
    refine gg [.a _ _] ⟨o_a h,trivial⟩ ?_
    exact ge
   |false=>
    rw [hq] at h
    refine qq ?_
    refine gg [.b (decide (0<(↑(zq l):Int))) true,.b (decide (0>0)) false,.ff,.ff,.ff,.ff,.ff,.ff,.ff,.ff,.ff,.ff,.ff,.ff,.ff,.i zd 1 1] ⟨tP,bK,oK,trivial⟩ ?_
    refine gg [.a _ _] ⟨o_a h,trivial⟩ ?_
    exact ge
  clear h
  cases hq:sortedL l with
  |true=>
   rw [hq] at hz
   refine qq ?_
   refine gg [.n (zq (zz zm l)) (zq l),.a _ _] ⟨o_n (by simp),o_a hz,trivial⟩ ?_
   exact ge
  |false=>
   rw [hq] at hz
   refine qq ?_
   refine gg [.n (zq (zz zm l)) (zq l),.a _ _] ⟨o_n (by simp),o_a hz,trivial⟩ ?_
   exact ge
theorem AbN (l:List Int) (x:Int) (hn:small l): ∀(d i:Nat),i+d=l.length→
  Is cx (.loop 183 [0,1,0,1] 0 [.t (.sl 1 (l.map ti)),vi x,vi 0,vi l.length,vi i] [])
   (match (l.drop i).findIdx? fun y=>x==y with
    |some j=>⟨.ret,[.t (.sl 1 (l.map ti)),vi x,vi (i+j:Nat),vi l.length,vi (i+j:Nat)],[]⟩
    |none=>⟨.exit 0,[.t (.sl 1 (l.map ti)),vi x,vi 0,vi l.length,vi l.length],[]⟩):=by
 unfold small at hn
 intro d
 induction d with
 |zero=>
  intro i hi
  refine qq ?_
  refine gg [.b (decide ((i:Int)<(↑(zq l):Int))) false] ⟨fP,trivial⟩ ?_
  refine rT (a:=qz (qx 0) [V.t (qk 1 (zz ti l)),vi x,vi 0,vi (↑(zq l):Int),vi (i:Int)] []) ?_
  ((have:i=l.length:=by omega);subst this;rw [Aaf (Nat.le_refl _)];rfl)
 |succ d ih=>
  intro i hi
  have hlt:i<l.length:=by omega
  have ih1:=ih (i+1) (by omega)
  clear ih
  rw [Aah hlt,List.findIdx?_cons]
  by_cases hp:x=gt l i
  ·simp only [show (x==gt l i)=true by simpa using hp,if_true]
   refine qq ?_
   refine gg [.b (decide ((i:Int)<(↑(zq l):Int))) true,.w (0≤(i:Int)),.n (zy (i:Int)) i,.g (zz ti l) i (ti (gt l i)),.b (x==gt l i) true] ⟨tP,oW,nK,o_gt rfl (by assumption) (by intro h;cases h),t_bre (by assumption),trivial⟩ ?_
   exact ge
  ·simp only [show (x==gt l i)=false by simpa using hp,Bool.false_eq_true,if_false]
   cases hq:(l.drop (i+1)).findIdx? fun y=>x==y with
   |none=>
    rw [hq] at ih1
    refine qq ?_
    refine gg [.b (decide ((i:Int)<(↑(zq l):Int))) true,.w (0≤(i:Int)),.n (zy (i:Int)) i,.g (zz ti l) i (ti (gt l i)),.b (x==gt l i) false,.i zd ((i:Int)+1) ((↑(i+1):Int)),.a _ _] ⟨tP,oW,nK,o_gt rfl (by assumption) (by intro h;cases h),f_bre (by assumption),oI,o_a ih1,trivial⟩ ?_
    exact ge
   |some j=>
    rw [hq] at ih1
    refine qq ?_
    refine gg [.b (decide ((i:Int)<(↑(zq l):Int))) true,.w (0≤(i:Int)),.n (zy (i:Int)) i,.g (zz ti l) i (ti (gt l i)),.b (x==gt l i) false,.i zd ((i:Int)+1) ((↑(i+1):Int)),.a _ _] ⟨tP,oW,nK,o_gt rfl (by assumption) (by intro h;cases h),f_bre (by assumption),oI,o_a ih1,trivial⟩ ?_
    refine rT (a:=qz qj [V.t (qk 1 (zz ti l)),vi x,vi (↑(i+1+j):Int),vi (↑(zq l):Int),vi (↑(i+1+j):Int)] []) ?_
    simp [Nat.add_assoc,Nat.add_comm 1 j]
theorem AdF (l:List Int) (x:Int) (hn:small l):Fn cx 183 [.sl 1 (l.map ti),ti x] (ti (pos (fun y=>x==y) l)):=by
 have h:=AbN l x hn l.length 0 (by omega)
 rw [List.drop_zero] at h
 unfold pos
 cases hq:l.findIdx? fun y=>x==y with
 |none=>
  rw [hq] at h
  refine qq ?_
  refine gg [.n (zq (zz ti l)) (zq l),.a _ _] ⟨o_n (by simp),o_a h,trivial⟩ ?_
  exact ge
 |some j=>
  rw [hq] at h
  refine qq ?_
  refine gg [.n (zq (zz ti l)) (zq l),.a _ _] ⟨o_n (by simp),o_a h,trivial⟩ ?_
  refine rT (a:=qz qj [vi (↑(0+j):Int)] []) ?_
  simp
theorem Acx (l:List Int) (x:Int) (hn:small l):Fn cx 163 [.sl 1 (l.map ti),ti x] (.bool (has l x)):=by
 have h:=AdF l x hn
 rw [←AkI]
 generalize pos (fun y=>x==y) l=k at*
 refine qq ?_
 refine gg [.a _ _] ⟨o_a h,trivial⟩ ?_
 exact ge
theorem AcE (l:List Entity) (hn:small l): ∀(d i n:Nat),i+d=l.length→n≤i→
  Is cx (.loop 94 [0,1,0,1,1] 0 [vi n,.t (.sl 9 (l.map zm)),vi l.length,vi i] []) ⟨.exit 0,[vi (n+(l.drop i).countP fun e=>e.kind !=1:Nat),.t (.sl 9 (l.map zm)),vi l.length,vi l.length],[]⟩:=by
 unfold small at hn
 intro d
 induction d with
 |zero=>
  intro i n hi hm
  rw [Aaf (by omega)]
  refine qq ?_
  refine gg [.b (decide ((i:Int)<(↑(zq l):Int))) false] ⟨fP,trivial⟩ ?_
  refine rT (a:=qz (qx 0) [vi (n:Int),V.t (qk 9 (zz zm l)),vi (↑(zq l):Int),vi (i:Int)] []) ?_
  ((have hq:i=l.length:=by omega);subst hq;rfl)
 |succ d ih=>
  intro i n hi hm
  have hlt:i<l.length:=by omega
  have ih1:=ih (i+1) n (by omega) (by omega)
  have ih2:=ih (i+1) (n+1) (by omega) (by omega)
  clear ih
  rw [Afc _ hlt]
  refine qq ?_
  refine gg [.b (decide ((i:Int)<(↑(zq l):Int))) true,.w (0≤(i:Int)),.n (zy (i:Int)) i,.g (zz zm l) i (zm (gt l i))] ⟨tP,oW,nK,o_gt rfl (by assumption) (by intro h;cases h),trivial⟩ ?_
  refine brn (x:=(gt l i).kind) (y:=1) (by kernel_rfl) (fun h1=> ?_) (fun h1=> ?_)
  ·refine gg [.i zd ((n:Int)+1) ((↑(n+1):Int)),.i zd ((i:Int)+1) ((↑(i+1):Int)),.a _ _] ⟨oI,oI,o_a ih2,trivial⟩ ?_
   refine rT (a:=qz (qx 0) [vi (↑(n+1+List.countP (fun (e:Entity)↦e.kind !=1) (zk (i+1) l)):Int),V.t (qk 9 (zz zm l)),vi (↑(zq l):Int),vi (↑(zq l):Int)] []) ?_
   (simp_all;try omega)
  ·refine gg [.i zd ((i:Int)+1) ((↑(i+1):Int)),.a _ _] ⟨oI,o_a ih1,trivial⟩ ?_
   refine rT (a:=qz (qx 0) [vi (↑(n+List.countP (fun (e:Entity)↦e.kind !=1) (zk (i+1) l)):Int),V.t (qk 9 (zz zm l)),vi (↑(zq l):Int),vi (↑(zq l):Int)] []) ?_
   (simp_all;try omega)
theorem Abm (l:List Entity) (hn:small l):Fn cx 94 [.sl 9 (l.map zm)] (ti (things l)):=by
 have h:=AcE l hn l.length 0 0 (by omega) (by omega)
 rw [List.drop_zero,Nat.zero_add] at h
 refine qq ?_
 refine gg [.n (zq (zz zm l)) (zq l),.a _ _] ⟨o_n (by simp),o_a h,trivial⟩ ?_
 exact ge
theorem Ace (l:List Entity) (id:Int) (hn:small l): ∀(d i:Nat),i+d=l.length→
  Is cx (.loop 100 [0,1,0,1] 0 [.t (.sl 9 (l.map zm)),vi id,vi 0,vi i] [])
   (match (l.drop i).findIdx? fun e=>e.id==id with
    |some j=>⟨.ret,[.t (.sl 9 (l.map zm)),vi id,vi (i+j:Nat),vi (i+j:Nat)],[]⟩
    |none=>⟨.exit 0,[.t (.sl 9 (l.map zm)),vi id,vi 0,vi l.length],[]⟩):=by
 unfold small at hn
 intro d
 induction d with
 |zero=>
  intro i hi
  refine qq ?_
  refine gg [.n (zq (zz zm l)) (zq l),.b (decide ((i:Int)<(↑(zq l):Int))) false] ⟨o_n (by simp),fP,trivial⟩ ?_
  refine rT (a:=qz (qx 0) [V.t (qk 9 (zz zm l)),vi id,vi 0,vi (i:Int)] []) ?_
  ((have:i=l.length:=by omega);subst this;rw [Aaf (Nat.le_refl _)];rfl)
 |succ d ih=>
  intro i hi
  have hlt:i<l.length:=by omega
  have ih1:=ih (i+1) (by omega)
  clear ih
  rw [Aah hlt,List.findIdx?_cons]
  by_cases hp:(gt l i).id=id
  ·simp only [show ((gt l i).id==id)=true by simpa using hp,if_true]
   refine qq ?_
   refine gg [.n (zq (zz zm l)) (zq l),.b (decide ((i:Int)<(↑(zq l):Int))) true,.w (0≤(i:Int)),.n (zy (i:Int)) i,.g (zz zm l) i (zm (gt l i)),.b ((gt l i).id==id) true] ⟨o_n (by simp),tP,oW,nK,o_gt rfl (by assumption) (by intro h;cases h),t_bre (by assumption),trivial⟩ ?_
   exact ge
  ·simp only [show ((gt l i).id==id)=false by simpa using hp,Bool.false_eq_true,if_false]
   cases hq:(l.drop (i+1)).findIdx? fun e=>e.id==id with
   |none=>
    rw [hq] at ih1
    refine qq ?_
    refine gg [.n (zq (zz zm l)) (zq l),.b (decide ((i:Int)<(↑(zq l):Int))) true,.w (0≤(i:Int)),.n (zy (i:Int)) i,.g (zz zm l) i (zm (gt l i)),.b ((gt l i).id==id) false,.i zd ((i:Int)+1) ((↑(i+1):Int)),.a _ _] ⟨o_n (by simp),tP,oW,nK,o_gt rfl (by assumption) (by intro h;cases h),f_bre (by assumption),oI,o_a ih1,trivial⟩ ?_
    exact ge
   |some j=>
    rw [hq] at ih1
    refine qq ?_
    refine gg [.n (zq (zz zm l)) (zq l),.b (decide ((i:Int)<(↑(zq l):Int))) true,.w (0≤(i:Int)),.n (zy (i:Int)) i,.g (zz zm l) i (zm (gt l i)),.b ((gt l i).id==id) false,.i zd ((i:Int)+1) ((↑(i+1):Int)),.a _ _] ⟨o_n (by simp),tP,oW,nK,o_gt rfl (by assumption) (by intro h;cases h),f_bre (by assumption),oI,o_a ih1,trivial⟩ ?_
    refine rT (a:=qz qj [V.t (qk 9 (zz zm l)),vi id,vi (↑(i+1+j):Int),vi (↑(i+1+j):Int)] []) ?_
    simp [Nat.add_assoc,Nat.add_comm 1 j]
theorem AdP (l:List Entity) (id:Int) (hn:small l):Fn cx 100 [.sl 9 (l.map zm),ti id] (ti (find l id)):=by
 have h:=Ace l id hn l.length 0 (by omega)
 rw [List.drop_zero] at h
 unfold find pos
 cases hq:l.findIdx? fun e=>e.id==id with
 |none=>
  rw [hq] at h
  refine qq ?_
  refine gg [.a _ _] ⟨o_a h,trivial⟩ ?_
  exact ge
 |some j=>
  rw [hq] at h
  refine qq ?_
  refine gg [.a _ _] ⟨o_a h,trivial⟩ ?_
  refine rT (a:=qz qj [vi (↑(0+j):Int)] []) ?_
  simp
end Go.Eva.S5
namespace Go.Eva
def pace (v:Int):Bool:=decide (v=0)||decide (v=160)||decide (v= -160)
def Entity.right (c:Config) (e:Entity):Bool:=c.inside e.x e.y&&
 (if e.kind=1 then within e.id 1 c.players&&within e.vx (-64) 64&&within e.vy (-64) 64&&within e.health 1 100&&within e.age 0 6&&decide (e.owner=0)
  else if e.kind=2 then within e.id 1000 2147483647&&decide (e.health=1)&&pace e.vx&&pace e.vy&&(!decide (e.vx=0)|| !decide (e.vy=0))&&within e.age 0 12&&within e.owner 1 c.players
  else if e.kind=3 then within e.id 1000 2147483647&&decide (e.health=1)&&decide (e.vx=0)&&decide (e.vy=0)&&decide (e.age=0)&&decide (e.owner=0)
  else false)
theorem beqd (a b:Int):(a==b)=decide (a=b):=by rw [Bool.eq_iff_iff];simp
theorem bned (a b:Int):(a !=b)= !decide (a=b):=by rw [Bool.eq_iff_iff];simp
theorem Ahn {a b:Entity}:teq a.enc b.enc=decide (a=b):=by rw [Bool.eq_iff_iff,teqIff,Entity.enc_inj,decide_eq_true_eq]
theorem AjA {a b:Cross}:teq a.enc b.enc=decide (a=b):=by rw [Bool.eq_iff_iff,teqIff,Cross.enc_inj,decide_eq_true_eq]
theorem Config.inside_false {c:Config} {x y:Int} (h:c.right=false):c.inside x y=false:=by
 cases hi:c.inside x y with
 |false=>rfl
 |true=>
  simp only [Config.inside,Config.width,h,Aad,Bool.and_eq_true,Bool.false_eq_true,if_false] at hi
  omega
theorem Config.inside_right {c:Config} {x y:Int} (h:c.inside x y=true):c.right=true:=by
 cases hr:c.right with
 |true=>rfl
 |false=>rw [Config.inside_false hr] at h;contradiction
end Go.Eva
namespace Go.Eva.S5
theorem Abq (a b:Entity):Fn cx 86 [a.enc,b.enc] (.bool (decide (a=b))):=by
 rw [←Ahn]
 refine qq ?_
 refine gg [.w (conform cx (40:Nat) (48:Nat) (T.agg [ti a.id,ti a.kind,ti a.x,ti a.y,ti a.vx,ti a.vy,ti a.health,ti a.age,ti a.owner])=true∧conform cx (40:Nat) (48:Nat) (T.agg [ti b.id,ti b.kind,ti b.x,ti b.y,ti b.vx,ti b.vy,ti b.health,ti b.age,ti b.owner])=true)] ⟨o_w ⟨(by kernel_rfl),(by kernel_rfl)⟩,trivial⟩ ?_
 exact ge
theorem Abx (a b:Cross):Fn cx 79 [a.enc,b.enc] (.bool (decide (a=b))):=by
 rw [←AjA]
 refine qq ?_
 refine gg [.w (conform cx (40:Nat) (50:Nat) (T.agg [ti a.kind,ti a.frm,ti a.to,ti a.frame,ti a.ent.id,ti a.ent.kind,ti a.ent.x,ti a.ent.y,ti a.ent.vx,ti a.ent.vy,ti a.ent.health,ti a.ent.age,ti a.ent.owner,ti a.x,ti a.y])=true∧conform cx (40:Nat) (50:Nat) (T.agg [ti b.kind,ti b.frm,ti b.to,ti b.frame,ti b.ent.id,ti b.ent.kind,ti b.ent.x,ti b.ent.y,ti b.ent.vx,ti b.ent.vy,ti b.ent.health,ti b.ent.age,ti b.ent.owner,ti b.x,ti b.y])=true)] ⟨o_w ⟨(by kernel_rfl),(by kernel_rfl)⟩,trivial⟩ ?_
 exact ge
theorem Aba (a b:List Entity) (g:Nat) (p:Entity→Entity→Bool) (hb:isFnB cx g=true) (hn:small a) (hl:a.length=b.length)
  (hg: ∀x y,Fn cx g [zm x,zm y] (.bool (p x y))): ∀(d i:Nat),i+d=a.length→
  ∃k:Nat,Is cx (.loop 85 [0,1,0,1,1] 0 [.t (.sl 9 (a.map zm)),.t (.sl 9 (b.map zm)),.t (.clo g []),vb false,vi i] [])
   (match sameL p (a.drop i) (b.drop i) with
    |true=>⟨.exit 0,[.t (.sl 9 (a.map zm)),.t (.sl 9 (b.map zm)),.t (.clo g []),vb false,vi a.length],[]⟩
    |false=>⟨.ret,[.t (.sl 9 (a.map zm)),.t (.sl 9 (b.map zm)),.t (.clo g []),vb false,vi k],[]⟩):=by
 unfold small at hn
 intro d
 induction d with
 |zero=>
  intro i hi
  refine ⟨0,?_⟩
  rw [Aaf (by omega),Aaf (by omega)]
  refine qq ?_
  refine gg [.n (zq (zz zm a)) (zq a),.b (decide ((i:Int)<(↑(zq a):Int))) false] ⟨o_n (by simp),fP,trivial⟩ ?_
  refine rT (a:=qz (qx 0) [V.t (qk 9 (zz zm a)),V.t (qk 9 (zz zm b)),V.t (T.clo g []),vb false,vi (i:Int)] []) ?_
  ((have hq:i=a.length:=by omega);subst hq;rfl)
 |succ d ih=>
  intro i hi
  have hlt:i<a.length:=by omega
  have hlt':i<b.length:=by omega
  obtain ⟨k,ih1⟩:=ih (i+1) (by omega)
  have hy:=hg (gt a i) (gt b i)
  clear ih hg
  rw [AiB hlt hlt']
  cases hp:p (gt a i) (gt b i) with
  |true=>
   rw [hp] at hy
   refine ⟨k,?_⟩
   rw [Bool.true_and]
   cases hq:sameL p (a.drop (i+1)) (b.drop (i+1)) with
   |true=>
    rw [hq] at ih1
    refine qq ?_
    refine gg [.n (zq (zz zm a)) (zq a),.b (decide ((i:Int)<(↑(zq a):Int))) true,.w (0≤(i:Int)),.n (zy (i:Int)) i,.g (zz zm a) i (zm (gt a i)),.w (0≤(i:Int)),.n (zy (i:Int)) i,.g (zz zm b) i (zm (gt b i)),.w (isFnB cx g=true),.a _ _,.b (!true) false,.i zd ((i:Int)+1) ((↑(i+1):Int)),.a _ _] ⟨o_n (by simp),tP,oW,nK,o_gt rfl (by assumption) (by intro h;cases h),oW,nK,o_gt rfl (by assumption) (by intro h;cases h),oA,o_a hy,bK,oI,o_a ih1,trivial⟩ ?_
    exact ge
   |false=>
    rw [hq] at ih1
    refine qq ?_
    refine gg [.n (zq (zz zm a)) (zq a),.b (decide ((i:Int)<(↑(zq a):Int))) true,.w (0≤(i:Int)),.n (zy (i:Int)) i,.g (zz zm a) i (zm (gt a i)),.w (0≤(i:Int)),.n (zy (i:Int)) i,.g (zz zm b) i (zm (gt b i)),.w (isFnB cx g=true),.a _ _,.b (!true) false,.i zd ((i:Int)+1) ((↑(i+1):Int)),.a _ _] ⟨o_n (by simp),tP,oW,nK,o_gt rfl (by assumption) (by intro h;cases h),oW,nK,o_gt rfl (by assumption) (by intro h;cases h),oA,o_a hy,bK,oI,o_a ih1,trivial⟩ ?_
    exact ge
  |false=>
   rw [hp] at hy
   refine ⟨i,?_⟩
   rw [Bool.false_and]
   refine qq ?_
   refine gg [.n (zq (zz zm a)) (zq a),.b (decide ((i:Int)<(↑(zq a):Int))) true,.w (0≤(i:Int)),.n (zy (i:Int)) i,.g (zz zm a) i (zm (gt a i)),.w (0≤(i:Int)),.n (zy (i:Int)) i,.g (zz zm b) i (zm (gt b i)),.w (isFnB cx g=true),.a _ _,.b (!false) true] ⟨o_n (by simp),tP,oW,nK,o_gt rfl (by assumption) (by intro h;cases h),oW,nK,o_gt rfl (by assumption) (by intro h;cases h),oA,o_a hy,bK,trivial⟩ ?_
   exact ge
theorem AbR (a b:List Entity) (g:Nat) (p:Entity→Entity→Bool) (hb:isFnB cx g=true) (hn:small a)
  (hg: ∀x y,Fn cx g [zm x,zm y] (.bool (p x y))):Fn cx 85 [.sl 9 (a.map zm),.sl 9 (b.map zm),.clo g []] (.bool (decide (a.length=b.length)&&sameL p a b)):=by
 by_cases hl:a.length=b.length
 ·obtain ⟨k,h⟩:=Aba a b g p hb hn hl hg a.length 0 (by omega)
  clear hg
  rw [List.drop_zero,List.drop_zero] at h
  rw [show decide (a.length=b.length)=true by simpa using hl,Bool.true_and]
  cases hq:sameL p a b with
  |true=>
   rw [hq] at h
   refine qq ?_
   refine gg [.n (zq (zz zm a)) (zq a),.n (zq (zz zm b)) (zq b),.b ((↑(zq a):Int) !=(↑(zq b):Int)) false,.a _ _] ⟨o_n (by simp),o_n (by simp),fN,o_a h,trivial⟩ ?_
   exact ge
  |false=>
   rw [hq] at h
   refine qq ?_
   refine gg [.n (zq (zz zm a)) (zq a),.n (zq (zz zm b)) (zq b),.b ((↑(zq a):Int) !=(↑(zq b):Int)) false,.a _ _] ⟨o_n (by simp),o_n (by simp),fN,o_a h,trivial⟩ ?_
   exact ge
 ·clear hg
  simp only [hl,decide_false,Bool.false_and]
  refine qq ?_
  refine gg [.n (zq (zz zm a)) (zq a),.n (zq (zz zm b)) (zq b),.b ((↑(zq a):Int) !=(↑(zq b):Int)) true] ⟨o_n (by simp),o_n (by simp),tN,trivial⟩ ?_
  exact ge
theorem Abh (a b:List Cross) (g:Nat) (p:Cross→Cross→Bool) (hb:isFnB cx g=true) (hn:small a) (hl:a.length=b.length)
  (hg: ∀x y,Fn cx g [zn x,zn y] (.bool (p x y))): ∀(d i:Nat),i+d=a.length→
  ∃k:Nat,Is cx (.loop 78 [0,1,0,1,1] 0 [.t (.sl 15 (a.map zn)),.t (.sl 15 (b.map zn)),.t (.clo g []),vb false,vi i] [])
   (match sameL p (a.drop i) (b.drop i) with
    |true=>⟨.exit 0,[.t (.sl 15 (a.map zn)),.t (.sl 15 (b.map zn)),.t (.clo g []),vb false,vi a.length],[]⟩
    |false=>⟨.ret,[.t (.sl 15 (a.map zn)),.t (.sl 15 (b.map zn)),.t (.clo g []),vb false,vi k],[]⟩):=by
 unfold small at hn
 intro d
 induction d with
 |zero=>
  intro i hi
  refine ⟨0,?_⟩
  rw [Aaf (by omega),Aaf (by omega)]
  refine qq ?_
  refine gg [.n (zq (zz zn a)) (zq a),.b (decide ((i:Int)<(↑(zq a):Int))) false] ⟨o_n (by simp),fP,trivial⟩ ?_
  refine rT (a:=qz (qx 0) [V.t (qk 15 (zz zn a)),V.t (qk 15 (zz zn b)),V.t (T.clo g []),vb false,vi (i:Int)] []) ?_
  ((have hq:i=a.length:=by omega);subst hq;rfl)
 |succ d ih=>
  intro i hi
  have hlt:i<a.length:=by omega
  have hlt':i<b.length:=by omega
  obtain ⟨k,ih1⟩:=ih (i+1) (by omega)
  have hy:=hg (gt a i) (gt b i)
  clear ih hg
  rw [AiB hlt hlt']
  cases hp:p (gt a i) (gt b i) with
  |true=>
   rw [hp] at hy
   refine ⟨k,?_⟩
   rw [Bool.true_and]
   cases hq:sameL p (a.drop (i+1)) (b.drop (i+1)) with
   |true=>
    rw [hq] at ih1
    refine qq ?_
    refine gg [.n (zq (zz zn a)) (zq a),.b (decide ((i:Int)<(↑(zq a):Int))) true,.w (0≤(i:Int)),.n (zy (i:Int)) i,.g (zz zn a) i (zn (gt a i)),.w (0≤(i:Int)),.n (zy (i:Int)) i,.g (zz zn b) i (zn (gt b i)),.w (isFnB cx g=true),.a _ _,.b (!true) false,.i zd ((i:Int)+1) ((↑(i+1):Int)),.a _ _] ⟨o_n (by simp),tP,oW,nK,o_gt rfl (by assumption) (by intro h;cases h),oW,nK,o_gt rfl (by assumption) (by intro h;cases h),oA,o_a hy,bK,oI,o_a ih1,trivial⟩ ?_
    exact ge
   |false=>
    rw [hq] at ih1
    refine qq ?_
    refine gg [.n (zq (zz zn a)) (zq a),.b (decide ((i:Int)<(↑(zq a):Int))) true,.w (0≤(i:Int)),.n (zy (i:Int)) i,.g (zz zn a) i (zn (gt a i)),.w (0≤(i:Int)),.n (zy (i:Int)) i,.g (zz zn b) i (zn (gt b i)),.w (isFnB cx g=true),.a _ _,.b (!true) false,.i zd ((i:Int)+1) ((↑(i+1):Int)),.a _ _] ⟨o_n (by simp),tP,oW,nK,o_gt rfl (by assumption) (by intro h;cases h),oW,nK,o_gt rfl (by assumption) (by intro h;cases h),oA,o_a hy,bK,oI,o_a ih1,trivial⟩ ?_
    exact ge
  |false=>
   rw [hp] at hy
   refine ⟨i,?_⟩
   rw [Bool.false_and]
   refine qq ?_
   refine gg [.n (zq (zz zn a)) (zq a),.b (decide ((i:Int)<(↑(zq a):Int))) true,.w (0≤(i:Int)),.n (zy (i:Int)) i,.g (zz zn a) i (zn (gt a i)),.w (0≤(i:Int)),.n (zy (i:Int)) i,.g (zz zn b) i (zn (gt b i)),.w (isFnB cx g=true),.a _ _,.b (!false) true] ⟨o_n (by simp),tP,oW,nK,o_gt rfl (by assumption) (by intro h;cases h),oW,nK,o_gt rfl (by assumption) (by intro h;cases h),oA,o_a hy,bK,trivial⟩ ?_
   exact ge
theorem Aci (a b:List Cross) (g:Nat) (p:Cross→Cross→Bool) (hb:isFnB cx g=true) (hn:small a)
  (hg: ∀x y,Fn cx g [zn x,zn y] (.bool (p x y))):Fn cx 78 [.sl 15 (a.map zn),.sl 15 (b.map zn),.clo g []] (.bool (decide (a.length=b.length)&&sameL p a b)):=by
 by_cases hl:a.length=b.length
 ·obtain ⟨k,h⟩:=Abh a b g p hb hn hl hg a.length 0 (by omega)
  clear hg
  rw [List.drop_zero,List.drop_zero] at h
  rw [show decide (a.length=b.length)=true by simpa using hl,Bool.true_and]
  cases hq:sameL p a b with
  |true=>
   rw [hq] at h
   refine qq ?_
   refine gg [.n (zq (zz zn a)) (zq a),.n (zq (zz zn b)) (zq b),.b ((↑(zq a):Int) !=(↑(zq b):Int)) false,.a _ _] ⟨o_n (by simp),o_n (by simp),fN,o_a h,trivial⟩ ?_
   exact ge
  |false=>
   rw [hq] at h
   refine qq ?_
   refine gg [.n (zq (zz zn a)) (zq a),.n (zq (zz zn b)) (zq b),.b ((↑(zq a):Int) !=(↑(zq b):Int)) false,.a _ _] ⟨o_n (by simp),o_n (by simp),fN,o_a h,trivial⟩ ?_
   exact ge
 ·clear hg
  simp only [hl,decide_false,Bool.false_and]
  refine qq ?_
  refine gg [.n (zq (zz zn a)) (zq a),.n (zq (zz zn b)) (zq b),.b ((↑(zq a):Int) !=(↑(zq b):Int)) true] ⟨o_n (by simp),o_n (by simp),tN,trivial⟩ ?_
  exact ge
theorem Ab6 (a b:List Entity) (hn:small a):Fn cx 45 [.sl 9 (a.map zm),.sl 9 (b.map zm)] (.bool (plain a b)):=by
 have h:=AbR a b 86 (fun x y=>decide (x=y)) (by kernel_rfl) hn Abq
 have e:(decide (a.length=b.length)&&sameL (fun x y=>decide (x=y)) a b)=plain a b:=by
  by_cases hl:a.length=b.length
  ·rw [AgV hl];simp [hl,plain]
  ·have:a≠b:=fun h=>hl (by rw [h])
   simp [hl,plain,this]
 rw [e] at h
 refine qq ?_
 refine gg [.a _ _] ⟨o_a h,trivial⟩ ?_
 exact ge
theorem AbQ (a b:List Cross) (hn:small a):Fn cx 30 [.sl 15 (a.map zn),.sl 15 (b.map zn)] (.bool (plain a b)):=by
 have h:=Aci a b 79 (fun x y=>decide (x=y)) (by kernel_rfl) hn Abx
 have e:(decide (a.length=b.length)&&sameL (fun x y=>decide (x=y)) a b)=plain a b:=by
  by_cases hl:a.length=b.length
  ·rw [AgV hl];simp [hl,plain]
  ·have:a≠b:=fun h=>hl (by rw [h])
   simp [hl,plain,this]
 rw [e] at h
 refine qq ?_
 refine gg [.a _ _] ⟨o_a h,trivial⟩ ?_
 exact ge
end Go.Eva.S5
namespace Go.Eva.S5
theorem Adt (v:Int):Fn cx 157 [ti v] (.bool (pace v)):=by
 refine qq ?_
 refine bre (x:=v) (y:=0) (by kernel_rfl) (fun h1=> ?_) (fun h1=> ?_)
 ·refine gg [.tt,.tt,.tt,.tt,.tt] trivial ?_
  refine rT (a:=qz qj [vb true] []) ?_
  simp_all [pace,beqd]
 ·refine gg [.ff,.ff] trivial ?_
  refine bre (x:=v) (y:=160) (by kernel_rfl) (fun h2=> ?_) (fun h2=> ?_)
  ·refine gg [.tt,.tt] trivial ?_
   refine rT (a:=qz qj [vb true] []) ?_
   simp_all [pace,beqd]
  ·refine gg [.ff,.ff] trivial ?_
   refine rT (a:=qz qj [vb (v== -160)] []) ?_
   simp_all [pace,beqd]
theorem AbD (v:Int):Fn cx 99 [ti v] (.bool (pace v)):=by
 refine qq ?_
 refine bre (x:=v) (y:= -160) (by kernel_rfl) (fun h1=> ?_) (fun h1=> ?_)
 ·refine gg [.tt,.tt,.tt,.tt,.tt] trivial ?_
  refine rT (a:=qz qj [vb true] []) ?_
  (simp_all [pace,beqd])
 ·refine gg [.ff,.ff] trivial ?_
  refine bre (x:=v) (y:=0) (by kernel_rfl) (fun h2=> ?_) (fun h2=> ?_)
  ·refine gg [.tt,.tt] trivial ?_
   refine rT (a:=qz qj [vb true] []) ?_
   (simp_all [pace,beqd])
  ·refine gg [.ff,.ff] trivial ?_
   refine rT (a:=qz qj [vb (v==160)] []) ?_
   (simp_all [pace,beqd])
theorem Ab0 (c:Config) (e:Entity):Fn cx 97 [c.enc,e.enc] (.bool (e.right c)):=by
 refine qq ?_
 refine gg [.a _ _] ⟨o_a (AbO c e.x e.y),trivial⟩ ?_
 refine brnot (b:=Config.inside c e.x e.y) (by kernel_rfl) (fun h1=> ?_) (fun h1=> ?_)
 ·refine rT (a:=qz qj [vb false] []) ?_
  simp_all [Entity.right,beqd,bned]
 ·refine gg [.a _ _] ⟨o_a (Aae e.id 1000 2147483647),trivial⟩ ?_
  refine br (b:=within e.id 1000 2147483647) (by kernel_rfl) (fun h2=> ?_) (fun h2=> ?_)
  ·refine gg [.tt,.tt,.tt] trivial ?_
   refine bre (x:=e.kind) (y:=1) (by kernel_rfl) (fun h3=> ?_) (fun h3=> ?_)
   ·refine gg [.a _ _] ⟨o_a (Aae e.id 1 c.players),trivial⟩ ?_
    refine br (b:=within e.id 1 c.players) (by kernel_rfl) (fun h4=> ?_) (fun h4=> ?_)
    ·refine gg [.tt,.tt,.a _ _,.tt] ⟨o_a (Aae e.vx (-64) 64),trivial⟩ ?_
     refine br (b:=within e.vx (-64) 64) (by kernel_rfl) (fun h5=> ?_) (fun h5=> ?_)
     ·refine gg [.tt,.tt,.a _ _,.tt] ⟨o_a (Aae e.vy (-64) 64),trivial⟩ ?_
      refine br (b:=within e.vy (-64) 64) (by kernel_rfl) (fun h6=> ?_) (fun h6=> ?_)
      ·refine gg [.tt,.tt,.a _ _,.tt] ⟨o_a (Aae e.health 1 100),trivial⟩ ?_
       refine br (b:=within e.health 1 100) (by kernel_rfl) (fun h7=> ?_) (fun h7=> ?_)
       ·refine gg [.tt,.tt,.a _ _,.tt] ⟨o_a (Aae e.age 0 6),trivial⟩ ?_
        refine br (b:=within e.age 0 6) (by kernel_rfl) (fun h8=> ?_) (fun h8=> ?_)
        ·refine gg [.tt,.tt,.tt] trivial ?_
         refine rT (a:=qz qj [vb (e.owner==0)] []) ?_
         simp_all [Entity.right,beqd,bned]
        ·refine gg [.ff,.ff,.ff] trivial ?_
         refine rT (a:=qz qj [vb false] []) ?_
         simp_all [Entity.right,beqd,bned]
       ·refine gg [.ff,.ff,.ff,.ff,.ff,.ff,.ff] trivial ?_
        refine rT (a:=qz qj [vb false] []) ?_
        simp_all [Entity.right,beqd,bned]
      ·refine gg [.ff,.ff,.ff,.ff,.ff,.ff,.ff,.ff,.ff,.ff,.ff] trivial ?_
       refine rT (a:=qz qj [vb false] []) ?_
       simp_all [Entity.right,beqd,bned]
     ·refine gg [.ff,.ff,.ff,.ff,.ff,.ff,.ff,.ff,.ff,.ff,.ff,.ff,.ff,.ff,.ff] trivial ?_
      refine rT (a:=qz qj [vb false] []) ?_
      simp_all [Entity.right,beqd,bned]
    ·refine gg [.ff,.ff,.ff,.ff,.ff,.ff,.ff,.ff,.ff,.ff,.ff,.ff,.ff,.ff,.ff,.ff] trivial ?_
     refine gg [.ff,.ff,.ff] trivial ?_
     refine rT (a:=qz qj [vb false] []) ?_
     simp_all [Entity.right,beqd,bned]
   ·refine bre (x:=e.kind) (y:=2) (by kernel_rfl) (fun h4=> ?_) (fun h4=> ?_)
    ·refine bre (x:=e.health) (y:=1) (by kernel_rfl) (fun h5=> ?_) (fun h5=> ?_)
     ·refine gg [.tt,.tt,.a _ _,.tt] ⟨o_a (Adt e.vx),trivial⟩ ?_
      refine br (b:=pace e.vx) (by kernel_rfl) (fun h6=> ?_) (fun h6=> ?_)
      ·refine gg [.tt,.tt,.a _ _,.tt] ⟨o_a (Adt e.vy),trivial⟩ ?_
       refine br (b:=pace e.vy) (by kernel_rfl) (fun h7=> ?_) (fun h7=> ?_)
       ·refine gg [.tt,.tt,.tt] trivial ?_
        refine brn (x:=e.vx) (y:=0) (by kernel_rfl) (fun h8=> ?_) (fun h8=> ?_)
        ·refine gg [.tt,.tt,.tt,.tt,.tt,.tt,.tt,.tt,.a _ _,.tt] ⟨o_a (Aae e.age 0 12),trivial⟩ ?_
         refine br (b:=within e.age 0 12) (by kernel_rfl) (fun h9=> ?_) (fun h9=> ?_)
         ·refine gg [.tt,.tt,.tt,.tt,.tt,.a _ _,.tt] ⟨o_a (Aae e.owner 1 c.players),trivial⟩ ?_
          refine rT (a:=qz qj [vb (within e.owner 1 c.players)] []) ?_
          simp_all [Entity.right,beqd,bned]
         ·refine gg [.ff,.ff,.ff,.ff,.ff,.ff] trivial ?_
          refine rT (a:=qz qj [vb false] []) ?_
          simp_all [Entity.right,beqd,bned]
        ·refine gg [.ff,.ff,.tt,.ff,.tt] trivial ?_
         refine brn (x:=e.vy) (y:=0) (by kernel_rfl) (fun h9=> ?_) (fun h9=> ?_)
         ·refine gg [.tt,.tt,.a _ _,.tt] ⟨o_a (Aae e.age 0 12),trivial⟩ ?_
          refine br (b:=within e.age 0 12) (by kernel_rfl) (fun h10=> ?_) (fun h10=> ?_)
          ·refine gg [.tt,.tt,.tt,.tt,.tt,.a _ _,.tt] ⟨o_a (Aae e.owner 1 c.players),trivial⟩ ?_
           refine rT (a:=qz qj [vb (within e.owner 1 c.players)] []) ?_
           simp_all [Entity.right,beqd,bned]
          ·refine gg [.ff,.ff,.ff,.ff,.ff,.ff] trivial ?_
           refine rT (a:=qz qj [vb false] []) ?_
           simp_all [Entity.right,beqd,bned]
         ·refine gg [.ff,.ff,.ff,.ff,.ff,.ff,.ff,.ff,.ff,.ff] trivial ?_
          refine rT (a:=qz qj [vb false] []) ?_
          simp_all [Entity.right,beqd,bned]
       ·refine gg [.ff,.ff,.ff,.ff,.ff,.ff,.ff,.ff,.ff,.ff,.ff,.ff,.ff,.ff,.ff,.ff] trivial ?_
        refine rT (a:=qz qj [vb false] []) ?_
        simp_all [Entity.right,beqd,bned]
      ·refine gg [.ff,.ff,.ff,.ff,.ff,.ff,.ff,.ff,.ff,.ff,.ff,.ff,.ff,.ff,.ff,.ff] trivial ?_
       refine gg [.ff,.ff,.ff,.ff] trivial ?_
       refine rT (a:=qz qj [vb false] []) ?_
       simp_all [Entity.right,beqd,bned]
     ·refine gg [.ff,.ff,.ff,.ff,.ff,.ff,.ff,.ff,.ff,.ff,.ff,.ff,.ff,.ff,.ff,.ff] trivial ?_
      refine gg [.ff,.ff,.ff,.ff,.ff,.ff,.ff,.ff] trivial ?_
      refine rT (a:=qz qj [vb false] []) ?_
      simp_all [Entity.right,beqd,bned]
    ·refine bre (x:=e.kind) (y:=3) (by kernel_rfl) (fun h5=> ?_) (fun h5=> ?_)
     ·refine bre (x:=e.health) (y:=1) (by kernel_rfl) (fun h6=> ?_) (fun h6=> ?_)
      ·refine gg [.tt,.tt,.tt] trivial ?_
       refine bre (x:=e.vx) (y:=0) (by kernel_rfl) (fun h7=> ?_) (fun h7=> ?_)
       ·refine gg [.tt,.tt,.tt] trivial ?_
        refine bre (x:=e.vy) (y:=0) (by kernel_rfl) (fun h8=> ?_) (fun h8=> ?_)
        ·refine gg [.tt,.tt,.tt] trivial ?_
         refine bre (x:=e.age) (y:=0) (by kernel_rfl) (fun h9=> ?_) (fun h9=> ?_)
         ·refine gg [.tt,.tt,.tt] trivial ?_
          refine rT (a:=qz qj [vb (e.owner==0)] []) ?_
          simp_all [Entity.right,beqd,bned]
         ·refine gg [.ff,.ff,.ff] trivial ?_
          refine rT (a:=qz qj [vb false] []) ?_
          simp_all [Entity.right,beqd,bned]
        ·refine gg [.ff,.ff,.ff,.ff,.ff,.ff,.ff] trivial ?_
         refine rT (a:=qz qj [vb false] []) ?_
         simp_all [Entity.right,beqd,bned]
       ·refine gg [.ff,.ff,.ff,.ff,.ff,.ff,.ff,.ff,.ff,.ff,.ff] trivial ?_
        refine rT (a:=qz qj [vb false] []) ?_
        simp_all [Entity.right,beqd,bned]
      ·refine gg [.ff,.ff,.ff,.ff,.ff,.ff,.ff,.ff,.ff,.ff,.ff,.ff,.ff,.ff,.ff] trivial ?_
       refine rT (a:=qz qj [vb false] []) ?_
       simp_all [Entity.right,beqd,bned]
     ·refine rT (a:=qz qj [vb false] []) ?_
      simp_all [Entity.right,beqd,bned]
  ·refine gg [.ff,.ff,.ff] trivial ?_
   refine bre (x:=e.kind) (y:=1) (by kernel_rfl) (fun h3=> ?_) (fun h3=> ?_)
   ·refine gg [.a _ _] ⟨o_a (Aae e.id 1 c.players),trivial⟩ ?_
    refine br (b:=within e.id 1 c.players) (by kernel_rfl) (fun h4=> ?_) (fun h4=> ?_)
    ·refine gg [.tt,.tt,.a _ _,.tt] ⟨o_a (Aae e.vx (-64) 64),trivial⟩ ?_
     refine br (b:=within e.vx (-64) 64) (by kernel_rfl) (fun h5=> ?_) (fun h5=> ?_)
     ·refine gg [.tt,.tt,.a _ _,.tt] ⟨o_a (Aae e.vy (-64) 64),trivial⟩ ?_
      refine br (b:=within e.vy (-64) 64) (by kernel_rfl) (fun h6=> ?_) (fun h6=> ?_)
      ·refine gg [.tt,.tt,.a _ _,.tt] ⟨o_a (Aae e.health 1 100),trivial⟩ ?_
       refine br (b:=within e.health 1 100) (by kernel_rfl) (fun h7=> ?_) (fun h7=> ?_)
       ·refine gg [.tt,.tt,.a _ _,.tt] ⟨o_a (Aae e.age 0 6),trivial⟩ ?_
        refine br (b:=within e.age 0 6) (by kernel_rfl) (fun h8=> ?_) (fun h8=> ?_)
        ·refine gg [.tt,.tt,.tt] trivial ?_
         refine rT (a:=qz qj [vb (e.owner==0)] []) ?_
         simp_all [Entity.right,beqd,bned]
        ·refine gg [.ff,.ff,.ff] trivial ?_
         refine rT (a:=qz qj [vb false] []) ?_
         simp_all [Entity.right,beqd,bned]
       ·refine gg [.ff,.ff,.ff,.ff,.ff,.ff,.ff] trivial ?_
        refine rT (a:=qz qj [vb false] []) ?_
        simp_all [Entity.right,beqd,bned]
      ·refine gg [.ff,.ff,.ff,.ff,.ff,.ff,.ff,.ff,.ff,.ff,.ff] trivial ?_
       refine rT (a:=qz qj [vb false] []) ?_
       simp_all [Entity.right,beqd,bned]
     ·refine gg [.ff,.ff,.ff,.ff,.ff,.ff,.ff,.ff,.ff,.ff,.ff,.ff,.ff,.ff,.ff] trivial ?_
      refine rT (a:=qz qj [vb false] []) ?_
      simp_all [Entity.right,beqd,bned]
    ·refine gg [.ff,.ff,.ff,.ff,.ff,.ff,.ff,.ff,.ff,.ff,.ff,.ff,.ff,.ff,.ff,.ff] trivial ?_
     refine gg [.ff,.ff,.ff] trivial ?_
     refine rT (a:=qz qj [vb false] []) ?_
     simp_all [Entity.right,beqd,bned]
   ·refine bre (x:=e.kind) (y:=2) (by kernel_rfl) (fun h4=> ?_) (fun h4=> ?_)
    ·refine gg [.ff,.ff,.ff,.ff,.ff,.ff,.ff,.ff,.ff,.ff,.ff,.ff,.ff,.ff,.ff,.ff] trivial ?_
     refine gg [.ff,.ff,.ff,.ff,.ff,.ff,.ff,.ff,.ff] trivial ?_
     refine rT (a:=qz qj [vb false] []) ?_
     simp_all [Entity.right,beqd,bned]
    ·refine bre (x:=e.kind) (y:=3) (by kernel_rfl) (fun h5=> ?_) (fun h5=> ?_)
     ·refine gg [.ff,.ff,.ff,.ff,.ff,.ff,.ff,.ff,.ff,.ff,.ff,.ff,.ff,.ff,.ff,.ff] trivial ?_
      refine rT (a:=qz qj [vb false] []) ?_
      simp_all [Entity.right,beqd,bned]
     ·refine rT (a:=qz qj [vb false] []) ?_
      simp_all [Entity.right,beqd,bned]
theorem Abs (c:Config) (e:Entity):Fn cx 57 [c.enc,e.enc] (.bool (e.right c)):=by
 refine qq ?_
 refine gg [.a _ _] ⟨o_a (Adi c e.x e.y),trivial⟩ ?_
 refine brnot (b:=Config.inside c e.x e.y) (by kernel_rfl) (fun h1=> ?_) (fun h1=> ?_)
 ·refine rT (a:=qz qj [vb false] []) ?_
  simp_all [Entity.right,beqd,bned]
 ·refine gg [.a _ _] ⟨o_a (Aag e.id 1000 2147483647),trivial⟩ ?_
  refine bre (x:=e.kind) (y:=1) (by kernel_rfl) (fun h2=> ?_) (fun h2=> ?_)
  ·refine gg [.a _ _] ⟨o_a (Aag e.id 1 c.players),trivial⟩ ?_
   refine br (b:=within e.id 1 c.players) (by kernel_rfl) (fun h3=> ?_) (fun h3=> ?_)
   ·refine gg [.tt,.tt,.a _ _,.tt] ⟨o_a (Aag e.vx (-64) 64),trivial⟩ ?_
    refine br (b:=within e.vx (-64) 64) (by kernel_rfl) (fun h4=> ?_) (fun h4=> ?_)
    ·refine gg [.tt,.tt,.a _ _,.tt] ⟨o_a (Aag e.vy (-64) 64),trivial⟩ ?_
     refine br (b:=within e.vy (-64) 64) (by kernel_rfl) (fun h5=> ?_) (fun h5=> ?_)
     ·refine gg [.tt,.tt,.a _ _,.tt] ⟨o_a (Aag e.health 1 100),trivial⟩ ?_
      refine br (b:=within e.health 1 100) (by kernel_rfl) (fun h6=> ?_) (fun h6=> ?_)
      ·refine gg [.tt,.tt,.a _ _,.tt] ⟨o_a (Aag e.age 0 6),trivial⟩ ?_
       refine br (b:=within e.age 0 6) (by kernel_rfl) (fun h7=> ?_) (fun h7=> ?_)
       ·refine gg [.tt,.tt,.tt] trivial ?_
        refine rT (a:=qz qj [vb (e.owner==0)] []) ?_
        simp_all [Entity.right,beqd,bned]
       ·refine gg [.ff,.ff,.ff] trivial ?_
        refine rT (a:=qz qj [vb false] []) ?_
        simp_all [Entity.right,beqd,bned]
      ·refine gg [.ff,.ff,.ff,.ff,.ff,.ff,.ff] trivial ?_
       refine rT (a:=qz qj [vb false] []) ?_
       simp_all [Entity.right,beqd,bned]
     ·refine gg [.ff,.ff,.ff,.ff,.ff,.ff,.ff,.ff,.ff,.ff,.ff] trivial ?_
      refine rT (a:=qz qj [vb false] []) ?_
      simp_all [Entity.right,beqd,bned]
    ·refine gg [.ff,.ff,.ff,.ff,.ff,.ff,.ff,.ff,.ff,.ff,.ff,.ff,.ff,.ff,.ff] trivial ?_
     refine rT (a:=qz qj [vb false] []) ?_
     simp_all [Entity.right,beqd,bned]
   ·refine gg [.ff,.ff,.ff,.ff,.ff,.ff,.ff,.ff,.ff,.ff,.ff,.ff,.ff,.ff,.ff,.ff] trivial ?_
    refine gg [.ff,.ff,.ff] trivial ?_
    refine rT (a:=qz qj [vb false] []) ?_
    simp_all [Entity.right,beqd,bned]
  ·refine bre (x:=e.kind) (y:=2) (by kernel_rfl) (fun h3=> ?_) (fun h3=> ?_)
   ·refine br (b:=within e.id 1000 2147483647) (by kernel_rfl) (fun h4=> ?_) (fun h4=> ?_)
    ·refine gg [.tt,.tt,.a _ _,.tt] ⟨o_a (AbD e.vx),trivial⟩ ?_
     refine br (b:=pace e.vx) (by kernel_rfl) (fun h5=> ?_) (fun h5=> ?_)
     ·refine gg [.tt,.tt,.a _ _,.tt] ⟨o_a (AbD e.vy),trivial⟩ ?_
      refine br (b:=pace e.vy) (by kernel_rfl) (fun h6=> ?_) (fun h6=> ?_)
      ·refine gg [.tt,.tt,.tt] trivial ?_
       refine brn (x:=e.vx) (y:=0) (by kernel_rfl) (fun h7=> ?_) (fun h7=> ?_)
       ·refine gg [.tt,.tt,.tt,.tt,.tt,.tt,.tt,.tt,.tt] trivial ?_
        refine bre (x:=e.health) (y:=1) (by kernel_rfl) (fun h8=> ?_) (fun h8=> ?_)
        ·refine gg [.tt,.tt,.a _ _,.tt] ⟨o_a (Aag e.age 0 12),trivial⟩ ?_
         refine br (b:=within e.age 0 12) (by kernel_rfl) (fun h9=> ?_) (fun h9=> ?_)
         ·refine gg [.tt,.tt,.tt,.tt,.a _ _,.tt] ⟨o_a (Aag e.owner 1 c.players),trivial⟩ ?_
          refine rT (a:=qz qj [vb (within e.owner 1 c.players)] []) ?_
          simp_all [Entity.right,beqd,bned]
         ·refine gg [.ff,.ff,.ff,.ff,.ff] trivial ?_
          refine rT (a:=qz qj [vb false] []) ?_
          simp_all [Entity.right,beqd,bned]
        ·refine gg [.ff,.ff,.ff,.ff,.ff,.ff,.ff,.ff,.ff] trivial ?_
         refine rT (a:=qz qj [vb false] []) ?_
         simp_all [Entity.right,beqd,bned]
       ·refine gg [.ff,.ff,.tt,.ff,.tt] trivial ?_
        refine brn (x:=e.vy) (y:=0) (by kernel_rfl) (fun h8=> ?_) (fun h8=> ?_)
        ·refine gg [.tt,.tt,.tt] trivial ?_
         refine bre (x:=e.health) (y:=1) (by kernel_rfl) (fun h9=> ?_) (fun h9=> ?_)
         ·refine gg [.tt,.tt,.a _ _,.tt] ⟨o_a (Aag e.age 0 12),trivial⟩ ?_
          refine br (b:=within e.age 0 12) (by kernel_rfl) (fun h10=> ?_) (fun h10=> ?_)
          ·refine gg [.tt,.tt,.tt,.tt,.a _ _,.tt] ⟨o_a (Aag e.owner 1 c.players),trivial⟩ ?_
           refine rT (a:=qz qj [vb (within e.owner 1 c.players)] []) ?_
           simp_all [Entity.right,beqd,bned]
          ·refine gg [.ff,.ff,.ff,.ff,.ff] trivial ?_
           refine rT (a:=qz qj [vb false] []) ?_
           simp_all [Entity.right,beqd,bned]
         ·refine gg [.ff,.ff,.ff,.ff,.ff,.ff,.ff,.ff,.ff] trivial ?_
          refine rT (a:=qz qj [vb false] []) ?_
          simp_all [Entity.right,beqd,bned]
        ·refine gg [.ff,.ff,.ff,.ff,.ff,.ff,.ff,.ff,.ff,.ff,.ff,.ff,.ff] trivial ?_
         refine rT (a:=qz qj [vb false] []) ?_
         simp_all [Entity.right,beqd,bned]
      ·refine gg [.ff,.ff,.ff,.ff,.ff,.ff,.ff,.ff,.ff,.ff,.ff,.ff,.ff,.ff,.ff,.ff] trivial ?_
       refine gg [.ff,.ff,.ff] trivial ?_
       refine rT (a:=qz qj [vb false] []) ?_
       simp_all [Entity.right,beqd,bned]
     ·refine gg [.ff,.ff,.ff,.ff,.ff,.ff,.ff,.ff,.ff,.ff,.ff,.ff,.ff,.ff,.ff,.ff] trivial ?_
      refine gg [.ff,.ff,.ff,.ff,.ff,.ff,.ff] trivial ?_
      refine rT (a:=qz qj [vb false] []) ?_
      simp_all [Entity.right,beqd,bned]
    ·refine gg [.ff,.ff,.ff,.ff,.ff,.ff,.ff,.ff,.ff,.ff,.ff,.ff,.ff,.ff,.ff,.ff] trivial ?_
     refine gg [.ff,.ff,.ff,.ff,.ff,.ff,.ff,.ff,.ff,.ff,.ff] trivial ?_
     refine rT (a:=qz qj [vb false] []) ?_
     simp_all [Entity.right,beqd,bned]
   ·refine bre (x:=e.kind) (y:=3) (by kernel_rfl) (fun h4=> ?_) (fun h4=> ?_)
    ·refine br (b:=within e.id 1000 2147483647) (by kernel_rfl) (fun h5=> ?_) (fun h5=> ?_)
     ·refine gg [.tt,.tt,.tt] trivial ?_
      refine bre (x:=e.vx) (y:=0) (by kernel_rfl) (fun h6=> ?_) (fun h6=> ?_)
      ·refine gg [.tt,.tt,.tt] trivial ?_
       refine bre (x:=e.vy) (y:=0) (by kernel_rfl) (fun h7=> ?_) (fun h7=> ?_)
       ·refine gg [.tt,.tt,.tt] trivial ?_
        refine bre (x:=e.age) (y:=0) (by kernel_rfl) (fun h8=> ?_) (fun h8=> ?_)
        ·refine gg [.tt,.tt,.tt] trivial ?_
         refine bre (x:=e.owner) (y:=0) (by kernel_rfl) (fun h9=> ?_) (fun h9=> ?_)
         ·refine gg [.tt,.tt,.tt] trivial ?_
          refine rT (a:=qz qj [vb (e.health==1)] []) ?_
          simp_all [Entity.right,beqd,bned]
         ·refine gg [.ff,.ff,.ff] trivial ?_
          refine rT (a:=qz qj [vb false] []) ?_
          simp_all [Entity.right,beqd,bned]
        ·refine gg [.ff,.ff,.ff,.ff,.ff,.ff,.ff] trivial ?_
         refine rT (a:=qz qj [vb false] []) ?_
         simp_all [Entity.right,beqd,bned]
       ·refine gg [.ff,.ff,.ff,.ff,.ff,.ff,.ff,.ff,.ff,.ff,.ff] trivial ?_
        refine rT (a:=qz qj [vb false] []) ?_
        simp_all [Entity.right,beqd,bned]
      ·refine gg [.ff,.ff,.ff,.ff,.ff,.ff,.ff,.ff,.ff,.ff,.ff,.ff,.ff,.ff,.ff] trivial ?_
       refine rT (a:=qz qj [vb false] []) ?_
       simp_all [Entity.right,beqd,bned]
     ·refine gg [.ff,.ff,.ff,.ff,.ff,.ff,.ff,.ff,.ff,.ff,.ff,.ff,.ff,.ff,.ff,.ff] trivial ?_
      refine gg [.ff,.ff,.ff] trivial ?_
      refine rT (a:=qz qj [vb false] []) ?_
      simp_all [Entity.right,beqd,bned]
    ·refine rT (a:=qz qj [vb false] []) ?_
     simp_all [Entity.right,beqd,bned]
end Go.Eva.S5
namespace Go.Eva
abbrev Srt (l:List Entity):Prop:=l.Pairwise fun a b=>a.id<b.id
theorem AfL: ∀ {l:List Entity},sortedL l=true↔Srt l
 | []=>by simp [sortedL]
 | [a]=>by simp [sortedL]
 |a::b::r=>by
  rw [sortedL,Bool.and_eq_true,decide_eq_true_eq,@AfL (b::r),Srt,Srt,List.pairwise_cons (a:=a)]
  constructor
  ·rintro ⟨h1,h2⟩
   refine ⟨fun x hx=> ?_,h2⟩
   rcases List.mem_cons.1 hx with rfl|hx
   ·exact h1
   ·have:=(List.pairwise_cons.1 h2).1 x hx;omega
  ·rintro ⟨h1,h2⟩
   exact ⟨h1 b (List.mem_cons_self ..),h2⟩
theorem AiX {e:Entity}:ins [] e= [e]:=rfl
theorem Ak3 {y e:Entity} {l:List Entity} (h:e.id≤y.id):ins (y::l) e=e::y::l:=by
 unfold ins
 rw [List.findIdx?_cons,show decide (y.id≥e.id)=true by simpa using h]
 rfl
theorem Akv {y e:Entity} {l:List Entity} (h:y.id<e.id):ins (y::l) e=y::ins l e:=by
 unfold ins
 rw [List.findIdx?_cons,show decide (y.id≥e.id)=false by simpa using h]
 cases l.findIdx? fun x=>decide (x.id≥e.id)<;>simp
theorem Agk {e x:Entity}: ∀ {l:List Entity},x∈ins l e↔x=e∨x∈l
 | []=>by simp [AiX]
 |y::l=>by
  rcases Int.lt_or_le y.id e.id with h|h
  ·rw [Akv h,List.mem_cons,Agk,List.mem_cons]
   constructor<;>(intro h;rcases h with h|h|h<;>simp [h])
  ·rw [Ak3 h];simp
theorem AfP {e:Entity}: ∀ {l:List Entity},Srt l→(∀x∈l,x.id≠e.id)→Srt (ins l e)
 | [],_,_=>by simp [AiX,Srt]
 |y::l,h,hne=>by
  obtain ⟨h1,h2⟩:=List.pairwise_cons.1 h
  rcases Int.lt_or_le y.id e.id with hy|hy
  ·rw [Akv hy]
   refine List.pairwise_cons.2 ⟨fun x hx=> ?_,AfP h2 fun x hx=>hne x (List.mem_cons_of_mem _ hx)⟩
   rcases Agk.1 hx with rfl|hx
   ·exact hy
   ·exact h1 x hx
  ·rw [Ak3 hy]
   have hyy:=hne y (List.mem_cons_self ..)
   refine List.pairwise_cons.2 ⟨fun x hx=> ?_,h⟩
   rcases List.mem_cons.1 hx with rfl|hx
   ·omega
   ·have:=h1 x hx;omega
theorem no_id {l:List Entity} {id:Int} (h:l.findIdx? (fun x=>x.id==id)=none): ∀x∈l,x.id≠id:=by
 intro x hx
 have:=List.findIdx?_eq_none_iff.1 h x hx
 simpa using this
theorem an_id [Inhabited Entity] {l:List Entity} {id:Int} {k:Nat} (h:l.findIdx? (fun x=>x.id==id)=some k):k<l.length∧(gt l k).id=id∧gt l k∈l:=by
 obtain ⟨hk,h1,_⟩:=List.findIdx?_eq_some_iff_getElem.1 h
 exact ⟨hk,by rw [gt_eq hk];simpa using h1,Abu hk⟩
theorem AcZ {l:List Entity} {e:Entity} (h:Srt l):Srt (put1 l e):=by
 unfold put1
 split
 ·exact h
 ·rename_i hq;exact AfP h (no_id hq)
theorem AgY {m:List Entity}: ∀ {l:List Entity},Srt l→Srt (puts l m):=by
 induction m with
 |nil=>intro l h;exact h
 |cons e m ih=>intro l h;exact ih (AcZ h)
theorem Aga {l:List Entity} {e:Entity}: ∀x∈l,x∈put1 l e:=by
 intro x hx
 unfold put1
 split
 ·exact hx
 ·exact Agk.2 (.inr hx)
theorem Akj {l:List Entity} {id:Int} (h: ∃x∈l,x.id=id): ∃k:Nat,l.findIdx? (fun x=>x.id==id)=some k:=by
 cases hq:l.findIdx? fun x=>x.id==id with
 |some k=>exact ⟨k,rfl⟩
 |none=>
  obtain ⟨x,hx,he⟩:=h
  exact absurd he (no_id hq x hx)
theorem Afr {l:List Entity}:(l.countP fun e=>e.kind !=1)+(l.countP fun e=>e.kind==1)=l.length:=by
 induction l with
 |nil=>rfl
 |cons e l ih=>
  simp only [List.countP_cons,List.length_cons]
  by_cases h:e.kind=1
  ·simp [h];omega
  ·simp [h];omega
theorem drop_drop {l:List Entity} {id:Int}:drops (drops l [id]) [id,id]=drops l [id]:=by
 unfold drops
 rw [List.filter_filter]
 congr 1
 funext x
 simp [has]
end Go.Eva
namespace Go.Eva
def u1 (n k:Int):Int:=1+(IntKind.u64.wrap n).tmod k
def Config.play (c:Config):Config:=if c.right=true∧c.cols≤3∧c.rows≤3∧c.players≤4 then c else ⟨u1 c.cols 3,u1 c.rows 3,u1 c.players 4,u1 c.window 8,c.seed⟩
theorem Ai6 {n:Int}:0≤IntKind.u64.wrap n:=by simp [zp,IntKind.bits,IntKind.signed];omega
theorem AaK {n k:Int} (hk:0<k):0≤(IntKind.u64.wrap n).tmod k∧(IntKind.u64.wrap n).tmod k<k:=Aco hk Ai6
theorem Config.play_ok {c:Config}:c.play.right=true∧(1≤c.play.cols∧c.play.cols≤3)∧(1≤c.play.rows∧c.play.rows≤3)∧(1≤c.play.players∧c.play.players≤4)∧1≤c.play.window∧c.play.window≤16:=by
 unfold Config.play
 split
 ·rename_i h
  have:=Config.right_iff.1 h.1
  exact ⟨h.1,by omega,by omega,by omega,by omega⟩
 ·have h1:= @AaK c.cols 3 (by decide)
  have h2:= @AaK c.rows 3 (by decide)
  have h3:= @AaK c.players 4 (by decide)
  have h4:= @AaK c.window 8 (by decide)
  simp only [Config.right_iff,u1]
  omega
theorem Config.grid_of {c:Config} (h:c.right=true):c.grid=c:=by simp [Config.grid,h]
theorem Config.err_of {c:Config} (h:c.right=true):c.err=0:=by simp [Config.err,h]
end Go.Eva
namespace Go.Eva
def cmpI (x y:Int):Int:=if x<y then-1 else if x>y then 1 else 0
def orI:List Int→Int
 | []=>0
 |x::r=>if x≠0 then x else orI r
def Cross.cmp (a b:Cross):Int:=
 if orI [cmpI a.to b.to,cmpI a.kind b.kind]≠0 then orI [cmpI a.to b.to,cmpI a.kind b.kind]
 else if a.kind=1 then cmpI a.ent.id b.ent.id
 else orI [cmpI a.x b.x,cmpI a.y b.y]
def Cross.less (a b:Cross):Bool:=decide (a.cmp b<0)
def toL (l:List Cross) (r:Int):List Cross:=l.filter fun c=>decide (c.to=r)
theorem Ady {x y:Int}:cmpI x y<0↔x<y:=by unfold cmpI;split<;>(try split)<;>omega
theorem AbI {x y:Int}:cmpI x y=0↔x=y:=by unfold cmpI;split<;>(try split)<;>omega
theorem AiS {x y:Int}:orI [x,y]<0↔x<0∨x=0∧y<0:=by unfold orI orI orI;split<;>(try split)<;>omega
theorem Ah5 {x y:Int}:orI [x,y]=0↔x=0∧y=0:=by unfold orI orI orI;split<;>(try split)<;>omega
theorem Agf {a b:Cross}:a.less b=true↔(a.to<b.to∨a.to=b.to∧(a.kind<b.kind∨a.kind=b.kind∧(a.kind=1∧a.ent.id<b.ent.id∨a.kind≠1∧(a.x<b.x∨a.x=b.x∧a.y<b.y)))):=by
 unfold Cross.less Cross.cmp
 rw [decide_eq_true_eq]
 split
 ·rename_i h
  rw [Ne,Ah5,AbI,AbI] at h
  rw [AiS,Ady,Ady,AbI]
  omega
 ·rename_i h
  rw [Ne,Ah5,AbI,AbI] at h
  split
  ·rw [Ady];omega
  ·rw [AiS,Ady,Ady,AbI];omega
end Go.Eva
namespace Go.Eva
structure Swo {α:Type} (lt:α→α→Bool):Prop where
 asymm: ∀ {x y},lt x y=true→lt y x=false
 ntrans: ∀ {x y z},lt x y=false→lt y z=false→lt x z=false
section
variable {α:Type} {lt:α→α→Bool}
abbrev Sd (lt:α→α→Bool) (l:List α):Prop:=l.Pairwise fun a b=>lt b a=false
def eqv (lt:α→α→Bool) (x y:α):Bool:= !lt x y&& !lt y x
def StEq (lt:α→α→Bool) (s l:List α):Prop:= ∀x,s.filter (eqv lt x)=l.filter (eqv lt x)
theorem Swo.irr (h:Swo lt) (x:α):lt x x=false:=by
 cases hx:lt x x with
 |false=>rfl
 |true=>exact absurd (h.asymm hx) (by rw [hx];simp)
theorem Swo.trans (h:Swo lt) {x y z:α} (h1:lt x y=true) (h2:lt y z=true):lt x z=true:=by
 cases hx:lt x z with
 |true=>rfl
 |false=>
  have:=h.ntrans hx (h.asymm h2)
  rw [h1] at this
  contradiction
theorem Swo.lt_le (h:Swo lt) {x y z:α} (h1:lt x y=true) (h2:lt z y=false):lt x z=true:=by
 cases hx:lt x z with
 |true=>rfl
 |false=>exact absurd (h.ntrans hx h2) (by rw [h1];simp)
theorem Swo.le_lt (h:Swo lt) {x y z:α} (h1:lt y x=false) (h2:lt y z=true):lt x z=true:=by
 cases hx:lt x z with
 |true=>rfl
 |false=>exact absurd (h.ntrans h1 hx) (by rw [h2];simp)
theorem Agp (h:Swo lt) (x:α):eqv lt x x=true:=by simp [eqv,h.irr x]
theorem StEq.refl (l:List α):StEq lt l l:=fun _=>rfl
theorem StEq.symm {s l:List α} (h:StEq lt s l):StEq lt l s:=fun x=>(h x).symm
theorem StEq.trans {s l m:List α} (h:StEq lt s l) (k:StEq lt l m):StEq lt s m:=fun x=>(h x).trans (k x)
theorem StEq.append {s l s' l':List α} (h:StEq lt s l) (k:StEq lt s' l'):StEq lt (s++s') (l++l'):=fun x=>by rw [List.filter_append,List.filter_append,h x,k x]
theorem StEq.nil {s:List α} (hw:Swo lt) (h:StEq lt s []):s= []:=by
 cases s with
 |nil=>rfl
 |cons x s=>
  have:=h x
  rw [List.filter_cons,if_pos (Agp hw x)] at this
  simp at this
theorem StEq.mem {s l:List α} (hw:Swo lt) (h:StEq lt s l) {x:α} (hx:x∈s):x∈l:=by
 have:x∈s.filter (eqv lt x):=List.mem_filter.2 ⟨hx,Agp hw x⟩
 rw [h x] at this
 exact (List.mem_filter.1 this).1
theorem uniq (hw:Swo lt): ∀ {s t:List α},Sd lt s→Sd lt t→StEq lt s t→s=t
 | [],t,_,_,h=>(h.symm.nil hw).symm
 |x::s,[],_,_,h=>h.nil hw
 |x::s,y::t,hs,ht,h=>by
  have hx:x∈y::t:=h.mem hw (List.mem_cons_self ..)
  have hy:y∈x::s:=h.symm.mem hw (List.mem_cons_self ..)
  obtain ⟨h1,h2⟩:=List.pairwise_cons.1 hs
  obtain ⟨h3,h4⟩:=List.pairwise_cons.1 ht
  have e1:lt x y=false:=by
   rcases List.mem_cons.1 hx with rfl|hx
   ·exact hw.irr _
   ·exact h3 x hx
  have e2:lt y x=false:=by
   rcases List.mem_cons.1 hy with rfl|hy
   ·exact hw.irr _
   ·exact h1 y hy
  have e3:eqv lt x y=true:=by simp [eqv,e1,e2]
  have:=h x
  rw [List.filter_cons,if_pos (Agp hw x),List.filter_cons,if_pos e3] at this
  obtain ⟨rfl,_⟩:=List.cons.inj this
  have h5:StEq lt s t:=by
   intro z
   have:=h z
   rw [List.filter_cons,List.filter_cons] at this
   split at this
   ·exact (List.cons.inj this).2
   ·exact this
  rw [uniq hw h2 h4 h5]
theorem StEq.swap (hw:Swo lt) {u v:List α} (h: ∀x∈v,∀y∈u,lt x y=true):StEq lt (u++v) (v++u):=by
 intro z
 rw [List.filter_append,List.filter_append]
 by_cases hu: ∃y∈u,eqv lt z y=true
 ·obtain ⟨y,hy,hzy⟩:=hu
  have:v.filter (eqv lt z)= []:=by
   rw [List.filter_eq_nil_iff]
   intro x hx hzx
   have hxy:=h x hx y hy
   simp only [eqv,Bool.and_eq_true,Bool.not_eq_true'] at hzy hzx
   have:=hw.ntrans hzx.2 hzy.1
   rw [hxy] at this
   contradiction
  rw [this];simp
 ·have:u.filter (eqv lt z)= []:=by
   rw [List.filter_eq_nil_iff]
   intro y hy hzy
   exact hu ⟨y,hy,hzy⟩
  rw [this];simp
def insS (lt:α→α→Bool):List α→α→List α
 | [],x=> [x]
 |y::l,x=>match lt x y with
  |true=>x::y::l
  |false=>y::insS lt l x
def sortS (lt:α→α→Bool) (l:List α):List α:=l.foldl (insS lt) []
theorem Aib {x z:α}: ∀ {l:List α},z∈insS lt l x↔z=x∨z∈l
 | []=>by simp [insS]
 |y::l=>by
  simp only [insS]
  cases lt x y with
  |true=>simp
  |false=>
   simp only [List.mem_cons,Aib]
   constructor<;>(intro h;rcases h with h|h|h<;>simp [h])
theorem Aji (hw:Swo lt) {x:α}: ∀ {l:List α},Sd lt l→Sd lt (insS lt l x)
 | [],_=>by simp [insS,Sd]
 |y::l,h=>by
  obtain ⟨h1,h2⟩:=List.pairwise_cons.1 h
  simp only [insS]
  cases hxy:lt x y with
  |true=>
   refine List.pairwise_cons.2 ⟨fun z hz=> ?_,h⟩
   rcases List.mem_cons.1 hz with rfl|hz
   ·exact hw.asymm hxy
   ·exact hw.ntrans (h1 z hz) (hw.asymm hxy)
  |false=>
   refine List.pairwise_cons.2 ⟨fun z hz=> ?_,Aji hw h2⟩
   rcases Aib.1 hz with rfl|hz
   ·exact hxy
   ·exact h1 z hz
theorem AiZ (hw:Swo lt) {x:α}: ∀ {l:List α},Sd lt l→StEq lt (insS lt l x) (l++ [x])
 | [],_=> .refl _
 |y::l,h=>by
  obtain ⟨h1,h2⟩:=List.pairwise_cons.1 h
  simp only [insS]
  cases hxy:lt x y with
  |true=>
   have:StEq lt ((y::l)++ [x]) ([x]++(y::l)):= .swap hw fun a ha b hb=>by
    simp at ha;subst ha
    rcases List.mem_cons.1 hb with rfl|hb
    ·exact hxy
    ·exact hw.lt_le hxy (h1 b hb)
   exact this.symm
  |false=>exact StEq.append (s:= [y]) (l:= [y]) (.refl _) (AiZ hw h2)
theorem Agm (hw:Swo lt): ∀ {l acc:List α},Sd lt acc→Sd lt (l.foldl (insS lt) acc)∧StEq lt (l.foldl (insS lt) acc) (acc++l)
 | [],acc,h=>⟨h,by simpa using StEq.refl acc⟩
 |x::l,acc,h=>by
  obtain ⟨h1,h2⟩:=Agm hw (l:=l) (Aji hw (x:=x) h)
  refine ⟨h1,h2.trans ?_⟩
  have:=StEq.append (AiZ hw (x:=x) h) (StEq.refl (lt:=lt) l)
  simpa using this
theorem Abc (hw:Swo lt) (l:List α):Sd lt (sortS lt l):=(Agm hw (by simp [Sd])).1
theorem AaN (hw:Swo lt) (l:List α):StEq lt (sortS lt l) l:=by
 have:=(Agm hw (l:=l) (acc:= []) (by simp [Sd])).2
 simpa [sortS] using this
theorem Ae4 (hw:Swo lt) {s l:List α} (h:Sd lt s) (k:StEq lt s l):s=sortS lt l:=uniq hw h (Abc hw l) (k.trans (AaN hw l).symm)
theorem StEq.len (hw:Swo lt): ∀ {s l:List α},Sd lt s→StEq lt s l→s.length=l.length:=by
 intro s l hs h
 rw [Ae4 hw hs h]
 have: ∀(l acc:List α),(l.foldl (insS lt) acc).length=acc.length+l.length:=by
  intro l
  induction l with
  |nil=>simp
  |cons x l ih=>
   intro acc
   have: ∀acc:List α,(insS lt acc x).length=acc.length+1:=by
    intro acc
    induction acc with
    |nil=>rfl
    |cons y acc ih=>simp only [insS];cases lt x y<;>simp [ih]
   simp [ih,this];omega
 simpa [sortS] using this l []
theorem AbF (hw:Swo lt) (l:List α):(sortS lt l).length=l.length:=StEq.len hw (Abc hw l) (AaN hw l)
theorem Aa3 (hw:Swo lt) {l:List α} (h:Sd lt l):sortS lt l=l:=(Ae4 hw h (.refl l)).symm
theorem Ahl (hw:Swo lt) {u1 u2 v1 v2:List α} (h1: ∀x∈v1,∀y∈u2,lt x y=true) (h2: ∀x∈u1++v1,∀y∈u2++v2,lt y x=false):
  sortS lt (u1++v1)++sortS lt (u2++v2)=sortS lt ((u1++u2)++(v1++v2)):=by
 refine Ae4 hw ?_ ?_
 ·refine List.pairwise_append.2 ⟨Abc hw _,Abc hw _,fun x hx y hy=> ?_⟩
  exact h2 x ((AaN hw _).mem hw hx) y ((AaN hw _).mem hw hy)
 ·refine ((AaN hw _).append (AaN hw _)).trans ?_
  have h3:StEq lt (v1++u2) (u2++v1):=(StEq.swap hw h1).symm
  have:=((StEq.refl (lt:=lt) u1).append h3).append (StEq.refl v2)
  simpa [List.append_assoc] using this
end
end Go.Eva
namespace Go.Eva
theorem AjN:Swo Cross.less:=by
 refine ⟨fun {x y} h=> ?_,fun {x y z} h k=> ?_⟩
 ·rw [Agf] at h
  rw [←Bool.not_eq_true,Agf]
  omega
 ·rw [←Bool.not_eq_true,Agf] at*
  omega
theorem Aai:Swo Cross.less:=AjN
def Entity.cmp (a b:Entity):Int:=cmpI a.id b.id
def Entity.less (a b:Entity):Bool:=decide (a.cmp b<0)
def bs (P:Nat→Bool):Nat→Nat→Nat→Nat
 |0,i,_=>i
 |d+1,i,j=>if i<j then (match P ((i+j)/2) with|true=>bs P d ((i+j)/2+1) j|false=>bs P d i ((i+j)/2)) else i
theorem bs_ok {P:Nat→Bool}: ∀ {d i j:Nat},i≤j→j≤i+d→(∀h h',i≤h→h≤h'→h'<j→P h'=true→P h=true)→
  i≤bs P d i j∧bs P d i j≤j∧(∀h,i≤h→h<bs P d i j→P h=true)∧(∀h,bs P d i j≤h→h<j→P h=false)
 |0,i,j,h1,h2,_=>by
  simp only [bs]
  exact ⟨Nat.le_refl _,h1,fun h a b=>by omega,fun h a b=>by omega⟩
 |d+1,i,j,h1,h2,hm=>by
  simp only [bs]
  by_cases hij:i<j
  ·rw [if_pos hij]
   have hh:i≤(i+j)/2∧(i+j)/2<j:=by omega
   cases hp:P ((i+j)/2) with
   |true=>
    simp only
    obtain ⟨k1,k2,k3,k4⟩:=bs_ok (P:=P) (d:=d) (i:=(i+j)/2+1) (j:=j) (by omega) (by omega) (fun h h' a b c e=>hm h h' (by omega) b c e)
    refine ⟨by omega,k2,fun h a b=> ?_,k4⟩
    by_cases hc:h≤(i+j)/2
    ·exact hm h _ a hc hh.2 hp
    ·exact k3 h (by omega) b
   |false=>
    simp only
    obtain ⟨k1,k2,k3,k4⟩:=bs_ok (P:=P) (d:=d) (i:=i) (j:=(i+j)/2) (by omega) (by omega) (fun h h' a b c e=>hm h h' a b (by omega) e)
    refine ⟨k1,by omega,k3,fun h a b=> ?_⟩
    by_cases hc:h<(i+j)/2
    ·exact k4 h a hc
    ·cases hq:P h with
     |false=>rfl
     |true=>
      have:=hm _ h hh.1 (by omega) b hq
      rw [hp] at this
      contradiction
  ·rw [if_neg hij]
   exact ⟨Nat.le_refl _,h1,fun h a b=>by omega,fun h a b=>by omega⟩
section
variable {α:Type} [Inhabited α]
def sw (A:List α) (i j:Nat):List α:=(A.set i (gt A j)).set j (gt A i)
theorem AbV (A:List α) (i j:Nat):(sw A i j).length=A.length:=by simp [sw]
theorem Ajv {A:List α} {i k:Nat} {x:α} (h:i<A.length):gt (A.set i x) k=if k=i then x else gt A k:=by
 unfold gt
 rw [List.getElem?_set]
 by_cases hk:i=k
 ·subst hk;simp [h]
 ·simp [hk,show¬k=i by omega]
theorem gt_sw {A:List α} {i j k:Nat} (hi:i<A.length) (hj:j<A.length):gt (sw A i j) k=if k=j then gt A i else if k=i then gt A j else gt A k:=by
 unfold sw
 rw [Ajv (by simpa using hj),Ajv hi]
theorem Ahf {A B:List α} (h:A.length=B.length) (k: ∀i,i<A.length→gt A i=gt B i):A=B:=by
 apply List.ext_getElem h
 intro i h1 h2
 have:=k i h1
 rwa [gt_eq h1,gt_eq h2] at this
theorem AgI {A B:List α} {i:Nat}:gt (A++B) i=if i<A.length then gt A i else gt B (i-A.length):=by
 unfold gt
 rw [List.getElem?_append]
 split<;>rfl
def swR:Nat→List α→Nat→Nat→List α
 |0,A,_,_=>A
 |n+1,A,a,b=>swR n (sw A a b) (a+1) (b+1)
theorem Ab3: ∀(n:Nat) (A:List α) (a b:Nat),(swR n A a b).length=A.length
 |0,_,_,_=>rfl
 |n+1,A,a,b=>by rw [swR,Ab3,AbV]
theorem Ak6: ∀ {n:Nat} {A:List α} {a b k:Nat},a+n≤b→b+n≤A.length→
  gt (swR n A a b) k=if a≤k∧k<a+n then gt A (b+(k-a)) else if b≤k∧k<b+n then gt A (a+(k-b)) else gt A k
 |0,A,a,b,k,_,_=>by
  simp only [swR]
  rw [if_neg (by omega),if_neg (by omega)]
 |n+1,A,a,b,k,h1,h2=>by
  rw [swR,Ak6 (by omega) (by rw [AbV];omega)]
  have g:=fun k=>gt_sw (A:=A) (i:=a) (j:=b) (k:=k) (by omega) (by omega)
  rw [g,g,g]
  repeat' split
  all_goals first|omega|rfl|(congr 1<;>omega)
theorem Aj2 {P X M Y Q:List α} (h:X.length=Y.length):swR X.length (P++X++M++Y++Q) P.length (P.length+X.length+M.length)=P++Y++M++X++Q:=by
 refine Ahf (by rw [Ab3];simp;omega) fun k hk=> ?_
 rw [Ak6 (by omega) (by simp;omega)]
 simp only [AgI,List.length_append]
 repeat' split
 all_goals first|omega|rfl|(congr 1<;>omega)
def up:Nat→List α→Nat→List α
 |0,A,_=>A
 |n+1,A,k=>up n (sw A k (k+1)) (k+1)
theorem up_eq {Q:List α} {x:α}: ∀ {V:List α} {P:List α},up V.length (P++x::V++Q) P.length=P++V++x::Q
 | [],P=>by simp [up]
 |y::V,P=>by
  rw [List.length_cons,up]
  have e:sw (P++x::y::V++Q) P.length (P.length+1)=(P++ [y])++x::V++Q:=by
   refine Ahf (by rw [AbV];simp) fun k hk=> ?_
   rw [gt_sw (by simp) (by simp)]
   have g0:gt (P++x::y::V++Q) P.length=x:=by unfold gt;simp
   have g1:gt (P++x::y::V++Q) (P.length+1)=y:=by unfold gt;simp
   rw [g0,g1]
   unfold gt
   rcases Nat.lt_trichotomy k P.length with h|h|h
   ·rw [if_neg (by omega),if_neg (by omega)]
    rw [List.append_assoc,List.append_assoc,List.append_assoc,List.getElem?_append_left h,List.getElem?_append_left h]
   ·subst h;simp
   ·by_cases h1:k=P.length+1
    ·subst h1;simp
    ·rw [if_neg h1,if_neg (by omega)]
     obtain ⟨j,rfl⟩: ∃j,k=P.length+(j+2):=⟨k-P.length-2,by omega⟩
     simp [List.getElem?_append_right]
  rw [e]
  have:=up_eq (Q:=Q) (x:=x) (V:=V) (P:=P++ [y])
  simp only [List.length_append,List.length_cons,List.length_nil,Nat.zero_add] at this
  exact this.trans (by simp)
def down:Nat→List α→Nat→List α
 |0,A,_=>A
 |n+1,A,k=>down n (sw A k (k-1)) (k-1)
end
end Go.Eva
namespace Go.Eva.S5
theorem Ad2 (c:Config):Fn cx 16 [c.enc] c.play.enc:=by
 have k1:= @AaK c.cols 3 (by decide)
 have k2:= @AaK c.rows 3 (by decide)
 have k3:= @AaK c.players 4 (by decide)
 have k4:= @AaK c.window 8 (by decide)
 refine qq ?_
 refine gg [.a _ _] ⟨o_a (Aas c),trivial⟩ ?_
 refine br (b:=Config.right c) (by kernel_rfl) (fun h1=> ?_) (fun h1=> ?_)
 ·refine gg [.tt,.tt,.tt] trivial ?_
  refine brp (p:=c.cols≤3) (by kernel_rfl) (fun h2=> ?_) (fun h2=> ?_)
  ·refine gg [.tt,.tt,.tt] trivial ?_
   refine brp (p:=c.rows≤3) (by kernel_rfl) (fun h3=> ?_) (fun h3=> ?_)
   ·refine gg [.tt,.tt,.tt] trivial ?_
    refine brp (p:=c.players≤4) (by kernel_rfl) (fun h4=> ?_) (fun h4=> ?_)
    ·refine rT (a:=qz qj [V.t (Config.enc c)] []) ?_
     (unfold Config.play;first|(rw [if_pos (by simp_all)];done)|(rw [if_pos (by simp_all)];rfl)|(rw [if_neg (by rintro ⟨q1,q2,q3,q4⟩;simp_all;try omega)];simp [Config.enc,u1];done))
    ·refine gg [.i zf c.cols (zp zf c.cols),.w ((3:Int)≠(0:Int)),.s (T.int zf (zg (zp zf c.cols) 3)),.i zd (zg (zp zf c.cols) 3) (zg (zp zf c.cols) 3),.i zd (1+zg (zp zf c.cols) 3) (1+zg (zp zf c.cols) 3),.i zf c.rows (zp zf c.rows),.w ((3:Int)≠(0:Int)),.s (T.int zf (zg (zp zf c.rows) 3)),.i zd (zg (zp zf c.rows) 3) (zg (zp zf c.rows) 3),.i zd (1+zg (zp zf c.rows) 3) (1+zg (zp zf c.rows) 3),.i zf c.players (zp zf c.players),.w ((4:Int)≠(0:Int)),.s (T.int zf (zg (zp zf c.players) 4)),.i zd (zg (zp zf c.players) 4) (zg (zp zf c.players) 4),.i zd (1+zg (zp zf c.players) 4) (1+zg (zp zf c.players) 4),.i zf c.window (zp zf c.window)] ⟨o_i rfl,o_w (by intro h;cases h),oI,oI,o_i rfl,o_w (by intro h;cases h),oI,oI,o_i rfl,o_w (by intro h;cases h),oI,oI,o_i rfl,trivial⟩ ?_
     refine gg [.w ((8:Int)≠(0:Int)),.s (T.int zf (zg (zp zf c.window) 8)),.i zd (zg (zp zf c.window) 8) (zg (zp zf c.window) 8),.i zd (1+zg (zp zf c.window) 8) (1+zg (zp zf c.window) 8)] ⟨o_w (by intro h;cases h),oI,oI,trivial⟩ ?_
     refine rT (a:=qz qj [V.t (T.agg [ti (1+zg (zp zf c.cols) 3),ti (1+zg (zp zf c.rows) 3),ti (1+zg (zp zf c.players) 4),ti (1+zg (zp zf c.window) 8),T.int zf c.seed])] []) ?_
     (unfold Config.play;first|(rw [if_pos (by simp_all)];done)|(rw [if_pos (by simp_all)];rfl)|(rw [if_neg (by rintro ⟨q1,q2,q3,q4⟩;simp_all;try omega)];simp [Config.enc,u1];done))
   ·refine gg [.ff,.ff,.ff,.ff,.i zf c.cols (zp zf c.cols),.w ((3:Int)≠(0:Int)),.s (T.int zf (zg (zp zf c.cols) 3)),.i zd (zg (zp zf c.cols) 3) (zg (zp zf c.cols) 3),.i zd (1+zg (zp zf c.cols) 3) (1+zg (zp zf c.cols) 3),.i zf c.rows (zp zf c.rows),.w ((3:Int)≠(0:Int)),.s (T.int zf (zg (zp zf c.rows) 3)),.i zd (zg (zp zf c.rows) 3) (zg (zp zf c.rows) 3),.i zd (1+zg (zp zf c.rows) 3) (1+zg (zp zf c.rows) 3),.i zf c.players (zp zf c.players),.w ((4:Int)≠(0:Int))] ⟨o_i rfl,o_w (by intro h;cases h),oI,oI,o_i rfl,o_w (by intro h;cases h),oI,oI,o_i rfl,o_w (by intro h;cases h),trivial⟩ ?_
    refine gg [.s (T.int zf (zg (zp zf c.players) 4)),.i zd (zg (zp zf c.players) 4) (zg (zp zf c.players) 4),.i zd (1+zg (zp zf c.players) 4) (1+zg (zp zf c.players) 4),.i zf c.window (zp zf c.window),.w ((8:Int)≠(0:Int)),.s (T.int zf (zg (zp zf c.window) 8)),.i zd (zg (zp zf c.window) 8) (zg (zp zf c.window) 8),.i zd (1+zg (zp zf c.window) 8) (1+zg (zp zf c.window) 8)] ⟨oI,oI,o_i rfl,o_w (by intro h;cases h),oI,oI,trivial⟩ ?_
    refine rT (a:=qz qj [V.t (T.agg [ti (1+zg (zp zf c.cols) 3),ti (1+zg (zp zf c.rows) 3),ti (1+zg (zp zf c.players) 4),ti (1+zg (zp zf c.window) 8),T.int zf c.seed])] []) ?_
    (unfold Config.play;first|(rw [if_pos (by simp_all)];done)|(rw [if_pos (by simp_all)];rfl)|(rw [if_neg (by rintro ⟨q1,q2,q3,q4⟩;simp_all;try omega)];simp [Config.enc,u1];done))
  ·refine gg [.ff,.ff,.ff,.ff,.ff,.ff,.ff,.ff,.i zf c.cols (zp zf c.cols),.w ((3:Int)≠(0:Int)),.s (T.int zf (zg (zp zf c.cols) 3)),.i zd (zg (zp zf c.cols) 3) (zg (zp zf c.cols) 3),.i zd (1+zg (zp zf c.cols) 3) (1+zg (zp zf c.cols) 3),.i zf c.rows (zp zf c.rows),.w ((3:Int)≠(0:Int)),.s (T.int zf (zg (zp zf c.rows) 3))] ⟨o_i rfl,o_w (by intro h;cases h),oI,oI,o_i rfl,o_w (by intro h;cases h),trivial⟩ ?_
   refine gg [.i zd (zg (zp zf c.rows) 3) (zg (zp zf c.rows) 3),.i zd (1+zg (zp zf c.rows) 3) (1+zg (zp zf c.rows) 3),.i zf c.players (zp zf c.players),.w ((4:Int)≠(0:Int)),.s (T.int zf (zg (zp zf c.players) 4)),.i zd (zg (zp zf c.players) 4) (zg (zp zf c.players) 4),.i zd (1+zg (zp zf c.players) 4) (1+zg (zp zf c.players) 4),.i zf c.window (zp zf c.window),.w ((8:Int)≠(0:Int)),.s (T.int zf (zg (zp zf c.window) 8)),.i zd (zg (zp zf c.window) 8) (zg (zp zf c.window) 8),.i zd (1+zg (zp zf c.window) 8) (1+zg (zp zf c.window) 8)] ⟨oI,oI,o_i rfl,o_w (by intro h;cases h),oI,oI,o_i rfl,o_w (by intro h;cases h),oI,oI,trivial⟩ ?_
   refine rT (a:=qz qj [V.t (T.agg [ti (1+zg (zp zf c.cols) 3),ti (1+zg (zp zf c.rows) 3),ti (1+zg (zp zf c.players) 4),ti (1+zg (zp zf c.window) 8),T.int zf c.seed])] []) ?_
   (unfold Config.play;first|(rw [if_pos (by simp_all)];done)|(rw [if_pos (by simp_all)];rfl)|(rw [if_neg (by rintro ⟨q1,q2,q3,q4⟩;simp_all;try omega)];simp [Config.enc,u1];done))
 ·refine gg [.ff,.ff,.ff,.ff,.ff,.ff,.ff,.ff,.ff,.ff,.ff,.ff,.i zf c.cols (zp zf c.cols),.w ((3:Int)≠(0:Int)),.s (T.int zf (zg (zp zf c.cols) 3)),.i zd (zg (zp zf c.cols) 3) (zg (zp zf c.cols) 3)] ⟨o_i rfl,o_w (by intro h;cases h),oI,trivial⟩ ?_
  refine gg [.i zd (1+zg (zp zf c.cols) 3) (1+zg (zp zf c.cols) 3),.i zf c.rows (zp zf c.rows),.w ((3:Int)≠(0:Int)),.s (T.int zf (zg (zp zf c.rows) 3)),.i zd (zg (zp zf c.rows) 3) (zg (zp zf c.rows) 3),.i zd (1+zg (zp zf c.rows) 3) (1+zg (zp zf c.rows) 3),.i zf c.players (zp zf c.players),.w ((4:Int)≠(0:Int)),.s (T.int zf (zg (zp zf c.players) 4)),.i zd (zg (zp zf c.players) 4) (zg (zp zf c.players) 4),.i zd (1+zg (zp zf c.players) 4) (1+zg (zp zf c.players) 4),.i zf c.window (zp zf c.window),.w ((8:Int)≠(0:Int)),.s (T.int zf (zg (zp zf c.window) 8)),.i zd (zg (zp zf c.window) 8) (zg (zp zf c.window) 8),.i zd (1+zg (zp zf c.window) 8) (1+zg (zp zf c.window) 8)] ⟨oI,o_i rfl,o_w (by intro h;cases h),oI,oI,o_i rfl,o_w (by intro h;cases h),oI,oI,o_i rfl,o_w (by intro h;cases h),oI,oI,trivial⟩ ?_
  refine rT (a:=qz qj [V.t (T.agg [ti (1+zg (zp zf c.cols) 3),ti (1+zg (zp zf c.rows) 3),ti (1+zg (zp zf c.players) 4),ti (1+zg (zp zf c.window) 8),T.int zf c.seed])] []) ?_
  (unfold Config.play;first|(rw [if_pos (by simp_all)];done)|(rw [if_pos (by simp_all)];rfl)|(rw [if_neg (by rintro ⟨q1,q2,q3,q4⟩;simp_all;try omega)];simp [Config.enc,u1];done))
theorem Acz (x:Int):Fn cx 154 [ti x] (.bool false):=by
 refine qq ?_
 refine rT (a:=qz qj [vb (x !=x)] []) ?_
 simp
theorem Aaw (x y:Int):Fn cx 89 [ti x,ti y] (ti (cmpI x y)):=by
 refine qq ?_
 refine gg [.a _ _,.a _ _,.ff,.ff] ⟨o_a (Acz x),o_a (Acz y),trivial⟩ ?_
 refine brp (p:=x<y) (by kernel_rfl) (fun h1=> ?_) (fun h1=> ?_)
 ·refine rT (a:=qz qj [vi (-1)] []) ?_
  (simp_all [cmpI];try omega)
 ·refine brp (p:=x>y) (by kernel_rfl) (fun h2=> ?_) (fun h2=> ?_)
  ·refine rT (a:=qz qj [vi 1] []) ?_
   (simp_all [cmpI];try omega)
  ·refine rT (a:=qz qj [vi 0] []) ?_
   (simp_all [cmpI];try omega)
theorem Ael (x y:Int):Fn cx 173 [.sl 1 [ti x,ti y]] (ti (orI [x,y])):=by
 by_cases hx:x=0
 ·subst hx
  by_cases hy:y=0
  ·subst hy
   have h2:Is cx (.loop 173 [0,1,0,1,1] 0 [vi 0,vi 0,.t (.sl 1 [ti 0,ti 0]),vi 2,vi 2] []) ⟨.exit 0,[vi 0,vi 0,.t (.sl 1 [ti 0,ti 0]),vi 2,vi 2],[]⟩:=by
    refine qq ?_
    refine gg [.b (decide (2<2)) false] ⟨bK,trivial⟩ ?_
    exact ge
   have h1:Is cx (.loop 173 [0,1,0,1,1] 0 [vi 0,vi 0,.t (.sl 1 [ti 0,ti 0]),vi 2,vi 1] []) ⟨.exit 0,[vi 0,vi 0,.t (.sl 1 [ti 0,ti 0]),vi 2,vi 2],[]⟩:=by
    refine qq ?_
    refine gg [.b (decide (1<2)) true,.w (0≤(1:Int)),.l 1,.g [ti 0,ti 0] 1 (ti 0),.b (0 !=0) false,.i zd 2 2,.a _ _] ⟨bK,oW,oG,bK,oK,o_a h2,trivial⟩ ?_
    exact ge
   have h0:Is cx (.loop 173 [0,1,0,1,1] 0 [vi 0,vi 0,.t (.sl 1 [ti 0,ti 0]),vi 2,vi 0] []) ⟨.exit 0,[vi 0,vi 0,.t (.sl 1 [ti 0,ti 0]),vi 2,vi 2],[]⟩:=by
    refine qq ?_
    refine gg [.b (decide (0<2)) true,.w (0≤(0:Int)),.l 0,.g [ti 0,ti 0] 0 (ti 0),.b (0 !=0) false,.i zd 1 1,.a _ _] ⟨bK,oW,oG,bK,oK,o_a h1,trivial⟩ ?_
    exact ge
   refine qq ?_
   refine gg [.l 2,.a _ _] ⟨o_a h0,trivial⟩ ?_
   exact ge
  ·have h1:Is cx (.loop 173 [0,1,0,1,1] 0 [vi 0,vi 0,.t (.sl 1 [ti 0,ti y]),vi 2,vi 1] []) ⟨.ret,[vi y,vi 0,.t (.sl 1 [ti 0,ti y]),vi 2,vi 1],[]⟩:=by
    refine qq ?_
    refine gg [.b (decide (1<2)) true,.w (0≤(1:Int)),.l 1,.g [ti 0,ti y] 1 (ti y),.b (y !=0) true] ⟨bK,oW,oG,t_brn (by assumption),trivial⟩ ?_
    exact ge
   have h0:Is cx (.loop 173 [0,1,0,1,1] 0 [vi 0,vi 0,.t (.sl 1 [ti 0,ti y]),vi 2,vi 0] []) ⟨.ret,[vi y,vi 0,.t (.sl 1 [ti 0,ti y]),vi 2,vi 1],[]⟩:=by
    refine qq ?_
    refine gg [.b (decide (0<2)) true,.w (0≤(0:Int)),.l 0,.g [ti 0,ti y] 0 (ti 0),.b (0 !=0) false,.i zd 1 1,.a _ _] ⟨bK,oW,oG,bK,oK,o_a h1,trivial⟩ ?_
    exact ge
   refine qq ?_
   refine gg [.n (zq [ti 0,ti y]) 2,.a _ _] ⟨nK,o_a h0,trivial⟩ ?_
   refine rT (a:=qz qj [vi y] []) ?_
   simp [orI,hy]
 ·have h0:Is cx (.loop 173 [0,1,0,1,1] 0 [vi 0,vi 0,.t (.sl 1 [ti x,ti y]),vi 2,vi 0] []) ⟨.ret,[vi x,vi 0,.t (.sl 1 [ti x,ti y]),vi 2,vi 0],[]⟩:=by
   refine qq ?_
   refine gg [.b (decide (0<2)) true,.w (0≤(0:Int)),.l 0,.g [ti x,ti y] 0 (ti x),.b (x !=0) true] ⟨bK,oW,oG,t_brn (by assumption),trivial⟩ ?_
   exact ge
  refine qq ?_
  refine gg [.n (zq [ti x,ti y]) 2,.a _ _] ⟨nK,o_a h0,trivial⟩ ?_
  refine rT (a:=qz qj [vi x] []) ?_
  simp [orI,hx]
theorem Aan (a b:Cross):Fn cx 129 [a.enc,b.enc] (ti (a.cmp b)):=by
 refine qq ?_
 refine gg [.a _ _,.a _ _,.a _ _] ⟨o_a (Aaw a.to b.to),o_a (Aaw a.kind b.kind),o_a (Ael (cmpI a.to b.to) (cmpI a.kind b.kind)),trivial⟩ ?_
 refine brn (x:=orI [cmpI a.to b.to,cmpI a.kind b.kind]) (y:=0) (by kernel_rfl) (fun h1=> ?_) (fun h1=> ?_)
 ·refine rT (a:=qz qj [vi (orI [cmpI a.to b.to,cmpI a.kind b.kind])] []) ?_
  simp_all [Cross.cmp]
 ·refine bre (x:=a.kind) (y:=1) (by kernel_rfl) (fun h2=> ?_) (fun h2=> ?_)
  ·refine gg [.a _ _] ⟨o_a (Aaw a.ent.id b.ent.id),trivial⟩ ?_
   refine rT (a:=qz qj [vi (cmpI a.ent.id b.ent.id)] []) ?_
   simp_all [Cross.cmp]
  ·refine gg [.a _ _,.a _ _,.a _ _] ⟨o_a (Aaw a.x b.x),o_a (Aaw a.y b.y),o_a (Ael (cmpI a.x b.x) (cmpI a.y b.y)),trivial⟩ ?_
   refine rT (a:=qz qj [vi (orI [cmpI a.x b.x,cmpI a.y b.y])] []) ?_
   simp_all [Cross.cmp]
end Go.Eva.S5
namespace Go.Eva
def colsL (base col:Int):Nat→List Int
 |0=> []
 |d+1=>(base+col)::colsL base (col+1) d
def rowsL (cols lo:Int) (w:Nat) (row:Int):Nat→List Int
 |0=> []
 |d+1=>colsL (row*cols) lo w++rowsL cols lo w (row+1) d
def loI (q:Int):Int:=maxI (q-1) 0
def hiI (q n:Int):Int:=minI (q+1) (n-1)
def nearP (cols rows r:Int):List Int:=
 rowsL cols (loI (r.tmod cols)) (hiI (r.tmod cols) cols+1-loI (r.tmod cols)).toNat (loI (r.tdiv cols)) (hiI (r.tdiv cols) rows+1-loI (r.tdiv cols)).toNat
def isNear (cols r n:Int):Bool:=decide (-1≤n.tmod cols-r.tmod cols∧n.tmod cols-r.tmod cols≤1∧ -1≤n.tdiv cols-r.tdiv cols∧n.tdiv cols-r.tdiv cols≤1)
def nearR (cols r:Int) (n:Int):Nat→List Int
 |0=> []
 |d+1=>(if isNear cols r n=true then [n] else [])++nearR cols r (n+1) d
def Config.near (c:Config) (r:Int):List Int:=if c.is r=true then nearP c.cols c.rows r else []
theorem AkK {cols rows r:Int} (hc:1≤cols∧cols≤4) (hr:1≤rows∧rows≤4) (h:0≤r∧r<cols*rows):nearR cols r 0 (cols*rows).toNat=nearP cols rows r:=by
 have key: ∀a∈ [1,2,3,4],∀b∈ [1,2,3,4],∀k∈List.range (a*b),nearR (a:Nat) (k:Nat) 0 ((a:Int)*(b:Nat)).toNat=nearP (a:Nat) (b:Nat) (k:Nat):=by decide+kernel
 obtain ⟨a,rfl⟩: ∃a:Nat,cols=a:=⟨cols.toNat,by omega⟩
 obtain ⟨b,rfl⟩: ∃b:Nat,rows=b:=⟨rows.toNat,by omega⟩
 obtain ⟨k,rfl⟩: ∃k:Nat,r=k:=⟨r.toNat,by omega⟩
 refine key a ?_ b ?_ k ?_
 ·have:a=1∨a=2∨a=3∨a=4:=by omega
  simpa using this
 ·have:b=1∨b=2∨b=3∨b=4:=by omega
  simpa using this
 ·rw [List.mem_range]
  have:=h.2
  exact_mod_cast this
theorem AjO {cols rows r:Int} (hc:1≤cols∧cols≤4) (hr:1≤rows∧rows≤4) (h:0≤r∧r<cols*rows):(nearP cols rows r).length≤9:=by
 have key: ∀a∈ [1,2,3,4],∀b∈ [1,2,3,4],∀k∈List.range (a*b),(nearP (a:Nat) (b:Nat) (k:Nat)).length≤9:=by decide+kernel
 obtain ⟨a,rfl⟩: ∃a:Nat,cols=a:=⟨cols.toNat,by omega⟩
 obtain ⟨b,rfl⟩: ∃b:Nat,rows=b:=⟨rows.toNat,by omega⟩
 obtain ⟨k,rfl⟩: ∃k:Nat,r=k:=⟨r.toNat,by omega⟩
 refine key a ?_ b ?_ k ?_
 ·have:a=1∨a=2∨a=3∨a=4:=by omega
  simpa using this
 ·have:b=1∨b=2∨b=3∨b=4:=by omega
  simpa using this
 ·rw [List.mem_range]
  have:=h.2
  exact_mod_cast this
theorem Config.is_iff {c:Config} {r:Int} (h:c.right=true):c.is r=true↔0≤r∧r<c.cols*c.rows:=by
 simp only [Config.is,Aad,z0,h,if_true];omega
theorem Config.is_right {c:Config} {r:Int} (h:c.is r=true):c.right=true:=by
 cases hr:c.right with
 |true=>rfl
 |false=>
  exfalso
  simp only [Config.is,Aad,z0,hr,Bool.false_eq_true,if_false] at h
  omega
theorem AbH {c:Config} {r:Int}:(c.near r).length≤9:=by
 unfold Config.near
 split
 ·rename_i h
  have hr:=Config.is_right h
  obtain ⟨hc,hrr,_⟩:=Config.right_iff.1 hr
  exact AjO hc hrr ((Config.is_iff hr).1 h)
 ·simp
def Entity.zero:Entity:=⟨0,0,0,0,0,0,0,0,0⟩
def Cross.right (c:Config) (m:Cross):Bool:=has (c.near m.frm) m.to&&within m.frame 0 9999&&
 (if m.kind=1 then m.ent.right c&&decide (c.of m.ent.x m.ent.y=m.to)&&decide (m.x=0)&&decide (m.y=0)&& !decide (m.to=m.frm)
  else if m.kind=2 then c.inside m.x m.y&&decide (m.ent=Entity.zero) else false)
theorem AaC {e:Entity}:teq e.enc (.agg [ti 0,ti 0,ti 0,ti 0,ti 0,ti 0,ti 0,ti 0,ti 0])=decide (e=Entity.zero):=Ahn (b:=Entity.zero)
theorem teq_zero' {e:Entity}:teq (.agg [ti e.id,ti e.kind,ti e.x,ti e.y,ti e.vx,ti e.vy,ti e.health,ti e.age,ti e.owner]) (.agg [ti 0,ti 0,ti 0,ti 0,ti 0,ti 0,ti 0,ti 0,ti 0])=decide (e=Entity.zero):=Ahn (b:=Entity.zero)
end Go.Eva
namespace Go.Eva.S5
theorem AdZ (c:Config) (r q H row:Int) (hc:1≤c.cols∧c.cols≤4) (hq:r.tmod c.cols=q) (hH:minI (q+1) (c.cols-1)=H) (hq1:0≤q∧q≤3) (hH1:H≤3) (hrow:0≤row∧row≤3) (hm:0≤row*c.cols∧row*c.cols≤16):
  ∀(d:Nat) (col:Int) (A:List Int),0≤col→col+d=H+1→A.length+d≤1000→
  Is cx (.loop 83 [0,1,0,0,1,0,0,1,0,1,1,1] 0 [vi r,.ptr 0 0 0,.all 1 none,vi row,vi col] [.one 5 (.t c.enc) false,.arr 1 (A.map ti) none false])
   ⟨.exit 2,[vi r,.ptr 0 0 0,.all 1 none,vi row,vi (H+1)],[.one 5 (.t c.enc) false,.arr 1 ((A++colsL (row*c.cols) col d).map ti) none false]⟩:=by
 intro d
 induction d with
 |zero=>
  intro col A h0 h1 h2
  refine qq ?_
  refine gg [.w (c.cols≠(0:Int)),.t (ti (zg r c.cols)) (ti q),.i zd (q+1) (q+1),.i zd (c.cols-1) (c.cols-1),.t (ti (minI (q+1) (c.cols-1))) (ti H),.b (decide (col≤H)) false] ⟨oW,o_t (by rw [hq]),oI,oI,o_t (by rw [hH]),fP,trivial⟩ ?_
  refine rT (a:=qz (qx 2) [vi r,V.ptr 0 0 0,qy 1 none,vi row,vi col] [qg 5 (V.t (Config.enc c)) false,qv 1 (zz ti A) none false]) ?_
  ((have e:col=H+1:=by omega);subst e;simp [colsL])
 |succ d ih=>
  intro col A h0 h1 h2
  have ih1:=ih (col+1) (A++ [row*c.cols+col]) (by omega) (by omega) (by simp;omega)
  clear ih
  refine qq ?_
  refine gg [.w (c.cols≠(0:Int)),.t (ti (zg r c.cols)) (ti q),.i zd (q+1) (q+1),.i zd (c.cols-1) (c.cols-1),.t (ti (minI (q+1) (c.cols-1))) (ti H),.b (decide (col≤H)) true,.i zd (row*c.cols) (row*c.cols),.i zd (row*c.cols+col) (row*c.cols+col),.w ((0:Nat)<(8:Nat)),.t (qk 0 [ti (row*c.cols+col)]) (qk 0 (zz (T.int zd) [row*c.cols+col])),.t (qk 0 (zz ti A++zz (T.int zd) [row*c.cols+col])) (qk 0 (zz ti (A++ [row*c.cols+col]))),.w (room (zq (zz ti (A++ [row*c.cols+col]))) (8:Nat)),.i zd (col+1) (col+1),.a _ _] ⟨o_w (by (simp [room,appendMax];omega)),o_t (by rw [hq]),o_i (w64 (by (simp [room,appendMax];omega))),o_i (w64 (by (simp [room,appendMax];omega))),o_t (by rw [hH]),tP,o_i (w64 (by (simp [room,appendMax];omega))),o_i (w64 (by (simp [room,appendMax];omega))),oW,o_l (Aa8 rfl AaV),o_l (Aa1 rfl rfl),o_w (by (simp [room,appendMax];omega)),o_i (w64 (by (simp [room,appendMax];omega))),o_a ih1,trivial⟩ ?_
  refine rT (a:=qz (qx 2) [vi r,V.ptr 0 0 0,qy 1 none,vi row,vi (H+1)] [qg 5 (V.t (Config.enc c)) false,qv 1 (zz ti (A++ [row*c.cols+col]++colsL (row*c.cols) (col+1) d)) none false]) ?_
  simp [colsL]
theorem AgB (b:Int): ∀(d:Nat) (c:Int),(colsL b c d).length=d
 |0,_=>rfl
 |d+1,c=>by simp [colsL,AgB b d]
theorem AdY (c:Config) (r q H p G:Int) (w:Nat) (hc:1≤c.cols∧c.cols≤4) (hr0:1≤c.rows∧c.rows≤4) (hq:r.tmod c.cols=q) (hp:r.tdiv c.cols=p) (hH:minI (q+1) (c.cols-1)=H) (hG:minI (p+1) (c.rows-1)=G) (hq1:0≤q∧q≤3) (hp1:0≤p∧p≤3) (hH1:H≤3) (hG1:G≤3) (hw:maxI (q-1) 0+w=H+1) (hl:0≤maxI (q-1) 0):
  ∀(d:Nat) (row:Int) (A:List Int),0≤row→row+d=G+1→A.length+d*100≤900→
  Is cx (.loop 83 [0,1,0,1,1,1] 0 [vi r,.ptr 0 0 0,.all 1 none,vi row] [.one 5 (.t c.enc) false,.arr 1 (A.map ti) none false])
   ⟨.exit 0,[vi r,.ptr 0 0 0,.all 1 none,vi (G+1)],[.one 5 (.t c.enc) false,.arr 1 ((A++rowsL c.cols (maxI (q-1) 0) w row d).map ti) none false]⟩:=by
 intro d
 induction d with
 |zero=>
  intro row A h0 h1 h2
  refine qq ?_
  refine gg [.w (c.cols≠(0:Int)),.i zd (Int.tdiv r c.cols) p,.i zd (p+1) (p+1),.i zd (c.rows-1) (c.rows-1),.t (ti (minI (p+1) (c.rows-1))) (ti G),.b (decide (row≤G)) false] ⟨oW,oI,oI,oI,o_t (by rw [hG]),fP,trivial⟩ ?_
  refine rT (a:=qz (qx 0) [vi r,V.ptr 0 0 0,qy 1 none,vi row] [qg 5 (V.t (Config.enc c)) false,qv 1 (zz ti A) none false]) ?_
  ((have e:row=G+1:=by omega);subst e;simp [rowsL])
 |succ d ih=>
  intro row A h0 h1 h2
  have hm:=mul4 (a:=row) (b:=c.cols) (by omega) (by omega)
  have hi:=AdZ c r q H row hc hq hH hq1 hH1 (by omega) hm w (maxI (q-1) 0) A hl hw (by omega)
  have ih1:=ih (row+1) (A++colsL (row*c.cols) (maxI (q-1) 0) w) (by omega) (by omega) (by simp [AgB];omega)
  clear ih
  refine qq ?_
  refine gg [.w (c.cols≠(0:Int)),.i zd (Int.tdiv r c.cols) p,.i zd (p+1) (p+1),.i zd (c.rows-1) (c.rows-1),.t (ti (minI (p+1) (c.rows-1))) (ti G),.b (decide (row≤G)) true,.w (c.cols≠(0:Int)),.t (ti (zg r c.cols)) (ti q),.i zd (q-1) (q-1),.s (ti (maxI (q-1) 0)),.a _ _,.i zd (row+1) (row+1),.a _ _] ⟨oW,oI,oI,oI,o_t (by rw [hG]),tP,oW,o_t (by rw [hq]),oI,o_a hi,oI,o_a ih1,trivial⟩ ?_
  refine rT (a:=qz (qx 0) [vi r,V.ptr 0 0 0,qy 1 none,vi (G+1)] [qg 5 (V.t (Config.enc c)) false,qv 1 (zz ti (A++colsL (row*c.cols) (maxI (q-1) 0) w++rowsL c.cols (maxI (q-1) 0) w (row+1) d)) none false]) ?_
  simp [rowsL]
theorem AcY (c:Config) (r:Int):Fn cx 83 [c.enc,ti r] (.sl 1 ((c.near r).map ti)):=by
 cases h:c.is r with
 |false=>
  have hN:c.near r= []:=by simp [Config.near,h]
  rw [hN]
  refine qq ?_
  refine gg [.a _ _,.b (!Config.is c r) true] ⟨o_a (AeF c r),AfT (by assumption),trivial⟩ ?_
  exact ge
 |true=>
  have hr:=Config.is_right h
  have hi:=(Config.is_iff hr).1 h
  obtain ⟨hc,hrr,_⟩:=Config.right_iff.1 hr
  have hml:=Config.mul_le hr
  have hN:c.near r=nearP c.cols c.rows r:=by simp [Config.near,h]
  rw [hN]
  have k1:=Aby (v:=r) (k:=c.cols) (m:=c.rows) (by omega) (by omega) (by omega)
  have k2:=Aco (v:=r) (k:=c.cols) (by omega) (by omega)
  have hH1:minI (r.tmod c.cols+1) (c.cols-1)≤3∧maxI (r.tmod c.cols-1) 0≤minI (r.tmod c.cols+1) (c.cols-1)∧0≤maxI (r.tmod c.cols-1) 0:=by unfold minI maxI;split<;>split<;>omega
  have hG1:minI (r.tdiv c.cols+1) (c.rows-1)≤3∧maxI (r.tdiv c.cols-1) 0≤minI (r.tdiv c.cols+1) (c.rows-1)∧0≤maxI (r.tdiv c.cols-1) 0:=by unfold minI maxI;split<;>split<;>omega
  have hO:=AdY c r _ _ _ _ (minI (r.tmod c.cols+1) (c.cols-1)+1-maxI (r.tmod c.cols-1) 0).toNat hc hrr rfl rfl rfl rfl (by omega) (by omega) hH1.1 hG1.1 (by omega) hH1.2.2
   (minI (r.tdiv c.cols+1) (c.rows-1)+1-maxI (r.tdiv c.cols-1) 0).toNat (maxI (r.tdiv c.cols-1) 0) [] (by omega) (by omega) (by simp;omega)
  rw [List.nil_append] at hO
  refine qq ?_
  refine gg [.a _ _,.b (!Config.is c r) false,.w (c.cols≠(0:Int)),.i zd (Int.tdiv r c.cols) (Int.tdiv r c.cols),.i zd (Int.tdiv r c.cols-1) (Int.tdiv r c.cols-1),.s (ti (maxI (Int.tdiv r c.cols-1) 0)),.a _ _] ⟨o_a (AeF c r),Agd (by assumption),oW,oI,oI,o_a hO,trivial⟩ ?_
  exact ge
end Go.Eva.S5
namespace Go.Eva.S5
theorem AfS (c:Config) (m:Cross):Fn cx 107 [c.enc,m.enc] (.bool (m.right c)):=by
 have hn:= @AbH c m.frm
 have hs:small (c.near m.frm):=by unfold small;omega
 refine qq ?_
 refine gg [.a _ _,.a _ _] ⟨o_a (AcY c m.frm),o_a (Acx (Config.near c m.frm) m.to (by assumption)),trivial⟩ ?_
 refine brnot (b:=has (Config.near c m.frm) m.to) (by kernel_rfl) (fun h1=> ?_) (fun h1=> ?_)
 ·refine gg [.tt,.tt,.tt,.tt,.tt,.tt,.tt,.tt] trivial ?_
  refine rT (a:=qz qj [vb false] []) ?_
  (simp_all [Cross.right,within,beqd,bned,AaC,teq_zero'];try omega)
 ·refine gg [.ff,.ff,.ff] trivial ?_
  refine brp (p:=m.frame<0) (by kernel_rfl) (fun h2=> ?_) (fun h2=> ?_)
  ·refine gg [.tt,.tt,.tt,.tt] trivial ?_
   refine rT (a:=qz qj [vb false] []) ?_
   (simp_all [Cross.right,within,beqd,bned,AaC,teq_zero'];try omega)
  ·refine gg [.ff,.ff,.ff] trivial ?_
   refine brp (p:=m.frame≥10000) (by kernel_rfl) (fun h3=> ?_) (fun h3=> ?_)
   ·refine rT (a:=qz qj [vb false] []) ?_
    (simp_all [Cross.right,within,beqd,bned,AaC,teq_zero'];try omega)
   ·refine bre (x:=m.kind) (y:=1) (by kernel_rfl) (fun h4=> ?_) (fun h4=> ?_)
    ·refine gg [.a _ _] ⟨o_a (Ab0 c m.ent),trivial⟩ ?_
     refine br (b:=Entity.right c m.ent) (by kernel_rfl) (fun h5=> ?_) (fun h5=> ?_)
     ·refine gg [.tt,.tt,.tt,.tt,.tt,.tt,.tt,.tt,.tt,.a _ _,.tt,.tt] ⟨o_a (AbJ c m.ent.x m.ent.y),trivial⟩ ?_
      refine bre (x:=Config.of c m.ent.x m.ent.y) (y:=m.to) (by kernel_rfl) (fun h6=> ?_) (fun h6=> ?_)
      ·refine gg [.tt,.tt,.tt] trivial ?_
       refine bre (x:=m.x) (y:=0) (by kernel_rfl) (fun h7=> ?_) (fun h7=> ?_)
       ·refine gg [.tt,.tt,.tt] trivial ?_
        refine bre (x:=m.y) (y:=0) (by kernel_rfl) (fun h8=> ?_) (fun h8=> ?_)
        ·refine gg [.tt,.tt,.tt,.tt,.tt] trivial ?_
         refine rT (a:=qz qj [vb (m.to !=m.frm)] []) ?_
         (simp_all [Cross.right,within,beqd,bned,AaC,teq_zero'];try omega)
        ·refine gg [.ff,.ff,.ff,.ff,.ff] trivial ?_
         refine rT (a:=qz qj [vb false] []) ?_
         (simp_all [Cross.right,within,beqd,bned,AaC,teq_zero'];try omega)
       ·refine gg [.ff,.ff,.ff,.ff,.ff,.ff,.ff,.ff,.ff] trivial ?_
        refine rT (a:=qz qj [vb false] []) ?_
        (simp_all [Cross.right,within,beqd,bned,AaC,teq_zero'];try omega)
      ·refine gg [.ff,.ff,.ff,.ff,.ff,.ff,.ff,.ff,.ff,.ff,.ff,.ff,.ff] trivial ?_
       refine rT (a:=qz qj [vb false] []) ?_
       (simp_all [Cross.right,within,beqd,bned,AaC,teq_zero'];try omega)
     ·refine gg [.ff,.ff,.ff,.ff,.ff,.ff,.ff,.ff,.ff,.ff,.ff,.ff,.ff,.ff,.ff,.ff] trivial ?_
      refine gg [.ff,.ff,.ff,.ff,.ff,.ff,.ff,.ff,.ff] trivial ?_
      refine rT (a:=qz qj [vb false] []) ?_
      (simp_all [Cross.right,within,beqd,bned,AaC,teq_zero'];try omega)
    ·refine bre (x:=m.kind) (y:=2) (by kernel_rfl) (fun h5=> ?_) (fun h5=> ?_)
     ·refine gg [.a _ _] ⟨o_a (AbO c m.x m.y),trivial⟩ ?_
      refine br (b:=Config.inside c m.x m.y) (by kernel_rfl) (fun h6=> ?_) (fun h6=> ?_)
      ·refine gg [.tt,.tt,.tt,.w (conform cx (40:Nat) (48:Nat) (T.agg [ti m.ent.id,ti m.ent.kind,ti m.ent.x,ti m.ent.y,ti m.ent.vx,ti m.ent.vy,ti m.ent.health,ti m.ent.age,ti m.ent.owner])=true∧conform cx (40:Nat) (48:Nat) (T.agg [ti (0:Int),ti (0:Int),ti (0:Int),ti (0:Int),ti (0:Int),ti (0:Int),ti (0:Int),ti (0:Int),ti (0:Int)])=true),.tt] ⟨o_w ⟨(by kernel_rfl),(by kernel_rfl)⟩,trivial⟩ ?_
       refine rT (a:=qz qj [vb (teq (T.agg [ti m.ent.id,ti m.ent.kind,ti m.ent.x,ti m.ent.y,ti m.ent.vx,ti m.ent.vy,ti m.ent.health,ti m.ent.age,ti m.ent.owner]) (T.agg [ti 0,ti 0,ti 0,ti 0,ti 0,ti 0,ti 0,ti 0,ti 0]))] []) ?_
       (simp_all [Cross.right,within,beqd,bned,AaC,teq_zero'];try omega)
      ·refine gg [.ff,.ff,.ff,.ff] trivial ?_
       refine rT (a:=qz qj [vb false] []) ?_
       (simp_all [Cross.right,within,beqd,bned,AaC,teq_zero'];try omega)
     ·refine rT (a:=qz qj [vb false] []) ?_
      (simp_all [Cross.right,within,beqd,bned,AaC,teq_zero'];try omega)
end Go.Eva.S5
namespace Go.Eva
abbrev w64u (n:Int):Int:=IntKind.u64.wrap n
def x33 (x:Int):Int:=w64u ((zb 64 x^^^zb 64 (x.fdiv 8589934592)).toNat:Nat)
def mix (x:Int):Int:=x33 (w64u (x33 (w64u (x33 x*18397679294719823053))*14181476777654086739))
def atStep (h v:Int):Int:=mix (w64u (w64u (h+w64u v)+11400714819323198485))
def chanceAt (seed:Int) (l:List Int):Int:=l.foldl atStep (mix seed)
def below (n seed:Int) (l:List Int):Int:=if n<1 then 0 else (chanceAt seed l).tmod n
theorem Alg {x:Int}:0≤x33 x∧x33 x≤18446744073709551615:=by
 unfold x33 w64u
 simp [zp,IntKind.bits,IntKind.signed];omega
theorem Akx {x:Int}:0≤mix x∧mix x≤18446744073709551615:=Alg
theorem at_le {seed:Int} {l:List Int}:0≤chanceAt seed l∧chanceAt seed l≤18446744073709551615:=by
 unfold chanceAt
 rcases List.eq_nil_or_concat l with rfl|⟨l',v,rfl⟩
 ·exact Akx
 ·rw [List.concat_eq_append,List.foldl_append];exact Akx
theorem AfY {n seed:Int} {l:List Int} (h:1≤n):0≤below n seed l∧below n seed l<n:=by
 unfold below
 rw [if_neg (by omega)]
 exact Aco (by omega) at_le.1
def held (v:Int):Int:=clamp v (-2147483647) 2147483647
def subH (a b:Int):Int:=held (held a-held b)
def sumStep (s v:Int):Int:=held (s+held v)
def sumH (l:List Int):Int:=l.foldl sumStep 0
def sizeI (v:Int):Int:=maxI v (0-v)
def farI (ax ay bx y:Int):Int:=maxI (sizeI (subH ax bx)) (sizeI (subH ay y))
theorem Aec {v:Int}: -2147483647≤held v∧held v≤2147483647:=Ac7 (by decide)
theorem Agn {v:Int} (h: -2147483647≤v∧v≤2147483647):held v=v:=by unfold held clamp;rw [if_neg (by omega),if_neg (by omega)]
theorem AjC {x v:Int} (hx: -1000000000≤x∧x≤1000000000) (hv: -1000000000≤v∧v≤1000000000):sumH [x,v]=x+v:=by
 simp only [sumH,sumStep,List.foldl_cons,List.foldl_nil]
 rw [Agn (v:=x) (by omega),Agn (v:=v) (by omega),Agn (v:=0+x) (by omega),Agn (by omega)]
 omega
def Input.right (i:Input):Bool:=within i.dx (-2) 2&&within i.dy (-2) 2
def Input.zero:Input:=⟨0,0,false⟩
def steerE (e:Entity) (i:Input):Entity×Bool:=
 if e.kind≠1∨i.right=false then (e,false)
 else if i.fire=true∧e.age=0 then ({e with vx:=i.dx*32,vy:=i.dy*32,age:=6},true)
 else ({e with vx:=i.dx*32,vy:=i.dy*32,age:=maxI e.age 1-1},false)
def paceD (d:Int):Int:=clamp d (-1) 1*160
def shootE (e:Entity) (i:Input) (id:Int):Entity:=⟨id,2,e.x,e.y,if paceD i.dx=0∧paceD i.dy=0 then 160 else paceD i.dx,paceD i.dy,1,0,e.id⟩
def goE (c:Config) (e:Entity):Entity×Bool:=
 if e.right c=false then (Entity.zero,false)
 else if e.kind=2 then
  (if e.age+1>12∨c.inside (sumH [e.x,e.vx]) (sumH [e.y,e.vy])=false then (Entity.zero,false)
   else ({e with x:=clamp (sumH [e.x,e.vx]) 0 (c.width-1),y:=clamp (sumH [e.y,e.vy]) 0 (c.height-1),age:=e.age+1},true))
 else ({e with x:=clamp (sumH [e.x,e.vx]) 0 (c.width-1),y:=clamp (sumH [e.y,e.vy]) 0 (c.height-1)},true)
def nearE (e:Entity) (x y far:Int):Bool:=decide (farI e.x e.y x y≤far)
section
variable (kind far:Int) (other:Entity→Entity→Bool) (turn:Int→Int)
def meetP (t p:Entity):Bool:=decide (p.kind=1)&&(other t p&&nearE p t.x t.y far)
def meet1 (out:List Entity) (gone:List Bool) (i:Nat):List Entity×List Bool:=
 if (gt out i).kind=kind then (match out.findIdx? (meetP far other (gt out i)) with
  |some k=>(out.set k {gt out k with health:=turn (gt out k).health},gone.set i true)
  |none=>(out,gone))
 else (out,gone)
def meetN:Nat→Nat→List Entity→List Bool→List Entity×List Bool
 |0,_,out,gone=>(out,gone)
 |d+1,i,out,gone=>meetN d (i+1) (meet1 kind far other turn out gone i).1 (meet1 kind far other turn out gone i).2
end
def keepL:List Entity→List Bool→List Entity
 |e::l,b::g=>(if b=true then [] else [e])++keepL l g
 |_,_=> []
def meetL (kind far:Int) (other:Entity→Entity→Bool) (turn:Int→Int) (l:List Entity):List Entity:=
 keepL (meetN kind far other turn l.length 0 l (zj l.length false)).1 (meetN kind far other turn l.length 0 l (zj l.length false)).2
def shotsL (l:List Entity):List Entity:=meetL 2 24 (fun s p=>decide (p.id≠s.owner)) (fun h=>subH h 20) l
def gemsL (l:List Entity):List Entity:=meetL 3 32 (fun _ _=>true) (fun h=>minI (sumH [h,25]) 100) l
def hurtE (b:Cross) (e:Entity):Entity:=if b.kind=2∧e.kind=1∧nearE e b.x b.y 128=true then {e with health:=subH e.health 10} else e
def blastsL (l:List Entity) (bs:List Cross):List Entity:=bs.foldl (fun l b=>l.map (hurtE b)) l
def fallenP (e:Entity):Bool:=decide (e.kind=1)&&decide (e.health≤0)
def fallenL (l:List Entity):List Int:=(l.filter fallenP).map Entity.id
def regionRight (c:Config) (r:Int) (s:Region):Bool:=
 c.is r&&within s.frame 0 10000&&sortedL s.ents&&decide (things s.ents≤24)&&s.ents.all fun e=>e.right c&&decide (c.of e.x e.y=r)
def arrive1 (l:List Entity) (m:Cross):List Entity:=if m.kind=1∧(m.ent.kind=1∨things l<24) then put1 l m.ent else l
def arriveL (l:List Entity) (inbox:List Cross):List Entity:=inbox.foldl arrive1 l
def presentL (l:List Entity) (inbox:List Cross):List Int:=((arriveL l inbox).filter fun e=>decide (e.kind=1)).map Entity.id
def askedE (c:Config) (r:Int) (s:Region) (ins:List Input) (inbox:List Cross):Int:=
 if c.is r=false then 13
 else if regionRight c r s=false then 4
 else if (ins.length:Int)≠c.players∨(ins.any fun i=> !i.right)=true then 11
 else if (inbox.any fun m=> !(m.right c&&decide (m.to=r)&&decide (m.frame=s.frame-1)))=true then 1
 else if s.frame=10000 then 16
 else 0
end Go.Eva
namespace Go.Eva
set_option linter.unusedSectionVars false
section
variable {α:Type} [Inhabited α]
theorem Afg {P Q:List α} {x:α} {k:Nat} (h:k=P.length):gt (P++x::Q) k=x:=by subst h;unfold gt;simp
theorem Akw {P Q:List α} {x y:α} {i j:Nat} (hi:i=P.length+1) (hj:j=P.length):sw (P++x::y::Q) i j=P++y::x::Q:=by
 subst hi hj
 have g0:gt (P++x::y::Q) P.length=x:=Afg rfl
 have g1:gt (P++x::y::Q) (P.length+1)=y:=by unfold gt;simp
 unfold sw
 rw [g0,g1]
 have e1:(P++x::y::Q).set (P.length+1) x=P++x::x::Q:=by
  rw [List.set_append,if_neg (by omega)];simp
 rw [e1,List.set_append,if_neg (by omega)];simp
theorem AkG {Q:List α} {x:α}: ∀ {n:Nat} {V P:List α} {k:Nat},n=V.length→k=P.length+V.length→down n (P++V++x::Q) k=P++x::V++Q:=by
 intro n
 induction n generalizing Q with
 |zero=>
  intro V P k h1 h2
  have:V= []:=List.eq_nil_of_length_eq_zero h1.symm
  subst this
  simp [down]
 |succ n ih=>
  intro V P k h1 h2
  obtain ⟨V',y,rfl⟩: ∃V' y,V=V'++ [y]:=⟨V.dropLast,V.getLast (by intro h;subst h;simp at h1),(List.dropLast_concat_getLast _).symm⟩
  simp only [List.length_append,List.length_cons,List.length_nil] at h1 h2
  rw [down]
  have e:sw (P++(V'++ [y])++x::Q) k (k-1)=P++V'++x::(y::Q):=by
   have:=Akw (P:=P++V') (Q:=Q) (x:=y) (y:=x) (i:=k) (j:=k-1) (by simp;omega) (by simp;omega)
   simpa using this
  rw [e,ih (V:=V') (P:=P) (by omega) (by omega)]
  simp
variable (lt:α→α→Bool)
def insIn (a:Nat):Nat→List α→List α
 |0,A=>A
 |j+1,A=>if a<j+1 then (match lt (gt A (j+1)) (gt A j) with|true=>insIn a j (sw A (j+1) j)|false=>A) else A
def insOut (a:Nat):Nat→Nat→List α→List α
 |0,_,A=>A
 |d+1,i,A=>insOut a d (i+1) (insIn lt a i A)
variable {lt}
theorem Adn (a:Nat): ∀(j:Nat) (A:List α),(insIn lt a j A).length=A.length
 |0,_=>rfl
 |j+1,A=>by
  rw [insIn]
  split
  ·split
   ·rw [Adn,AbV]
   ·rfl
  ·rfl
theorem Ai2 (S:List α) (x:α):sortS lt (S++ [x])=insS lt (sortS lt S) x:=by simp [sortS]
theorem AfF {x y:α} (h:lt x y=true): ∀(S:List α),insS lt (S++ [y]) x=insS lt S x++ [y]
 | []=>by simp [insS,h]
 |z::S=>by
  simp only [List.cons_append,insS]
  cases lt x z with
  |true=>simp
  |false=>simp [AfF h S]
theorem AhZ {x:α}: ∀ {S:List α},(∀z∈S,lt x z=false)→insS lt S x=S++ [x]
 | [],_=>rfl
 |z::S,h=>by
  simp only [insS,h z (List.mem_cons_self ..),AhZ fun w hw=>h w (List.mem_cons_of_mem _ hw),List.cons_append]
theorem AjP (hw:Swo lt) {P:List α} {x:α}: ∀ {n:Nat} {S Q:List α} {j:Nat},n=S.length→Sd lt S→j=P.length+S.length→insIn lt P.length j (P++S++x::Q)=P++insS lt S x++Q:=by
 intro n
 induction n with
 |zero=>
  intro S Q j h1 _ h2
  have:S= []:=List.eq_nil_of_length_eq_zero h1.symm
  subst this
  simp only [List.length_nil,Nat.add_zero] at h2
  subst h2
  have: ∀A:List α,insIn lt P.length P.length A=A:=by
   intro A
   cases hp:P.length with
   |zero=>rfl
   |succ k=>simp [insIn]
  rw [this];simp [insS]
 |succ n ih=>
  intro S Q j h1 hs h2
  obtain ⟨S',y,rfl⟩: ∃S' y,S=S'++ [y]:=⟨S.dropLast,S.getLast (by intro h;subst h;simp at h1),(List.dropLast_concat_getLast _).symm⟩
  simp only [List.length_append,List.length_cons,List.length_nil] at h1 h2
  obtain ⟨k,rfl⟩: ∃k,j=k+1:=⟨j-1,by omega⟩
  obtain ⟨hs1,_,hs3⟩:=List.pairwise_append.1 hs
  rw [insIn,if_pos (by omega)]
  have g1:gt (P++(S'++ [y])++x::Q) (k+1)=x:=Afg (by simp;omega)
  have g0:gt (P++(S'++ [y])++x::Q) k=y:=by
   have:=Afg (P:=P++S') (Q:=x::Q) (x:=y) (k:=k) (by simp;omega)
   simpa using this
  rw [g1,g0]
  cases h:lt x y with
  |true=>
   have e:sw (P++(S'++ [y])++x::Q) (k+1) k=P++S'++x::(y::Q):=by
    have:=Akw (P:=P++S') (Q:=Q) (x:=y) (y:=x) (i:=k+1) (j:=k) (by simp;omega) (by simp;omega)
    simpa using this
   simp only
   rw [e,ih (by omega) hs1 (by omega),AfF h]
   simp
  |false=>
   simp only
   rw [AhZ]
   ·simp
   ·intro z hz
    rcases List.mem_append.1 hz with hz|hz
    ·exact hw.ntrans h (hs3 z hz y (by simp))
    ·simp at hz;subst hz;exact h
theorem Aje (hw:Swo lt) {P Q:List α}: ∀ {T S:List α} {d i:Nat},d=T.length→i=P.length+S.length→insOut lt P.length d i (P++sortS lt S++(T++Q))=P++sortS lt (S++T)++Q:=by
 intro T
 induction T with
 |nil=>intro S d i h1 _;subst h1;simp [insOut]
 |cons x T ih=>
  intro S d i h1 h2
  simp only [List.length_cons] at h1
  subst h1
  rw [insOut]
  have:=AjP hw (P:=P) (x:=x) (n:=(sortS lt S).length) (S:=sortS lt S) (Q:=T++Q) (j:=i) rfl (Abc hw S) (by rw [AbF hw];omega)
  rw [List.cons_append,this,←Ai2,ih rfl (by simp;omega)]
  simp
abbrev seg (A:List α) (a b:Nat):List α:=(A.drop a).take (b-a)
def srt (lt:α→α→Bool) (A:List α) (a b:Nat):List α:=A.take a++sortS lt (seg A a b)++A.drop b
theorem Adl {A:List α} {a b:Nat} (h:a≤b):A=A.take a++seg A a b++A.drop b:=by
 have:A.drop b=(A.drop a).drop (b-a):=by rw [List.drop_drop];congr 1;omega
 rw [this,List.append_assoc,List.take_append_drop,List.take_append_drop]
theorem Ajt (P S Q:List α) {a b:Nat} (ha:a=P.length) (hb:b=P.length+S.length):srt lt (P++S++Q) a b=P++sortS lt S++Q:=by
 subst ha hb
 unfold srt seg
 simp
theorem AiT (hw:Swo lt) {A:List α} {a b:Nat} (h:b≤a+1) (h2:a≤b):srt lt A a b=A:=by
 have e:sortS lt (seg A a b)=seg A a b:=Aa3 hw (by
  have:(seg A a b).length≤1:=by simp;omega
  match seg A a b,this with
  | [],_=>exact .nil
  | [x],_=>exact List.pairwise_singleton ..)
 unfold srt
 rw [e,←Adl h2]
theorem Aiw (hw:Swo lt) {A:List α} {a b:Nat} (h1:a<b) (h2:b≤A.length):insOut lt a (b-a-1) (a+1) A=srt lt A a b:=by
 have hs:=Adl (A:=A) (a:=a) (b:=b) (by omega)
 have hp:(A.take a).length=a:=by simp;omega
 have hl:(seg A a b).length=b-a:=by simp;omega
 obtain ⟨x,T,hT⟩: ∃x T,seg A a b=x::T:=by
  cases h:seg A a b with
  |nil=>rw [h] at hl;simp at hl;omega
  |cons x T=>exact ⟨x,T,rfl⟩
 have hd:b-a-1=T.length:=by rw [hT] at hl;simp at hl;omega
 have:=Aje hw (P:=A.take a) (Q:=A.drop b) (T:=T) (S:= [x]) (d:=b-a-1) (i:=a+1) hd (by rw [hp];simp)
 rw [hp] at this
 unfold srt
 rw [hT]
 conv=>lhs;rw [hs,hT]
 simpa [sortS,insS] using this
def rotL:Nat→List α→Nat→Nat→Nat→List α
 |0,A,_,_,_=>A
 |d+1,A,m,i,j=>if i=j then swR i A (m-i) m else if j<i then rotL d (swR j A (m-i) m) m (i-j) j else rotL d (swR i A (m-i) (m+j-i)) m i (j-i)
theorem AkS: ∀ {d:Nat} {P X Y Q:List α} {m i j:Nat},i=X.length→j=Y.length→m=P.length+i→0<i→0<j→i+j≤d→
  rotL d (P++X++Y++Q) m i j=P++Y++X++Q:=by
 intro d
 induction d with
 |zero=>intros;omega
 |succ d ih=>
  intro P X Y Q m i j h1 h2 h3 h4 h5 h6
  rw [rotL]
  by_cases hij:i=j
  ·rw [if_pos hij]
   have:=Aj2 (P:=P) (X:=X) (M:= []) (Y:=Y) (Q:=Q) (by omega)
   simp only [List.append_nil,List.length_nil,Nat.add_zero] at this
   rw [show m-i=P.length by omega,show m=P.length+X.length by omega,h1]
   exact this
  ·rw [if_neg hij]
   by_cases hj:j<i
   ·rw [if_pos hj]
    have hX:X=X.take j++X.drop j:=(List.take_append_drop ..).symm
    have l1:(X.take j).length=j:=by simp;omega
    have l2:(X.drop j).length=i-j:=by simp;omega
    have:=Aj2 (P:=P) (X:=X.take j) (M:=X.drop j) (Y:=Y) (Q:=Q) (by omega)
    rw [l1,l2] at this
    have e:swR j (P++X++Y++Q) (m-i) m=(P++Y)++X.drop j++X.take j++Q:=by
     rw [show m-i=P.length by omega,show m=P.length+j+(i-j) by omega]
     conv=>lhs;rw [hX]
     rw [←this]
     simp
    rw [e,ih (by omega) (by omega) (by simp;omega) (by omega) h5 (by omega)]
    conv=>rhs;rw [hX]
    simp
   ·rw [if_neg hj]
    have hY:Y=Y.take (j-i)++Y.drop (j-i):=(List.take_append_drop ..).symm
    have l1:(Y.take (j-i)).length=j-i:=by simp;omega
    have l2:(Y.drop (j-i)).length=i:=by simp;omega
    have:=Aj2 (P:=P) (X:=X) (M:=Y.take (j-i)) (Y:=Y.drop (j-i)) (Q:=Q) (by omega)
    rw [l1,←h1] at this
    have e:swR i (P++X++Y++Q) (m-i) (m+j-i)=P++Y.drop (j-i)++Y.take (j-i)++(X++Q):=by
     rw [show m-i=P.length by omega,show m+j-i=P.length+i+(j-i) by omega]
     conv=>lhs;rw [hY]
     have:=this.trans (b:=_) rfl
     simp only [List.append_assoc] at this⊢
     exact this
    rw [e,ih (by omega) (by omega) (by omega) h4 (by omega) (by omega)]
    conv=>rhs;rw [hY]
    simp
theorem Akp {A:List α} {a m b d:Nat} (h1:a<m) (h2:m<b) (h3:b≤A.length) (h4:b-a≤d):rotL d A m (m-a) (b-m)=A.take a++seg A m b++seg A a m++A.drop b:=by
 have hs:A=A.take a++seg A a m++seg A m b++A.drop b:=by
  conv=>lhs;rw [Adl (A:=A) (a:=m) (b:=b) (by omega)]
  congr 2
  have:=Adl (A:=A.take m) (a:=a) (b:=m) (by omega)
  rw [List.take_take,Nat.min_eq_left (by omega)] at this
  rw [this]
  unfold seg
  simp [List.drop_take,List.take_take]
 have:=AkS (d:=d) (P:=A.take a) (X:=seg A a m) (Y:=seg A m b) (Q:=A.drop b) (m:=m) (i:=m-a) (j:=b-m) (by simp;omega) (by simp;omega) (by simp;omega) (by omega) (by omega) (by omega)
 rw [←this,←hs]
end
end Go.Eva
namespace Go.Eva
set_option linter.unusedSectionVars false
theorem bs_t {P:Nat→Bool} {d i j h:Nat} (h1:i<j) (h2:(i+j)/2=h) (h3:P h=true):bs P (d+1) i j=bs P d (h+1) j:=by rw [bs,if_pos h1,h2,h3]
theorem bs_f {P:Nat→Bool} {d i j h:Nat} (h1:i<j) (h2:(i+j)/2=h) (h3:P h=false):bs P (d+1) i j=bs P d i h:=by rw [bs,if_pos h1,h2,h3]
section
variable {α:Type} [Inhabited α] {lt:α→α→Bool}
theorem Adf (hw:Swo lt) {U1 U2 V1 V2:List α} (hU:Sd lt (U1++U2)) (hV:Sd lt (V1++V2)) (h1: ∀x∈V1,∀y∈U2,lt x y=true) (h2: ∀x∈U1,∀y∈V2,lt y x=false):
  sortS lt (U1++V1)++sortS lt (U2++V2)=sortS lt ((U1++U2)++(V1++V2)):=by
 refine Ahl hw h1 fun x hx y hy=> ?_
 rcases List.mem_append.1 hx with hx|hx<;>rcases List.mem_append.1 hy with hy|hy
 ·exact (List.pairwise_append.1 hU).2.2 x hx y hy
 ·exact h2 x hx y hy
 ·exact hw.asymm (h1 x hx y hy)
 ·exact (List.pairwise_append.1 hV).2.2 x hx y hy
theorem sd_gt {P U Q:List α} (hU:Sd lt U) (hw:Swo lt) {p q:Nat} (h1:P.length≤p) (h2:p≤q) (h3:q<P.length+U.length):lt (gt (P++U++Q) q) (gt (P++U++Q) p)=false:=by
 by_cases hpq:p=q
 ·subst hpq;exact hw.irr _
 ·have e: ∀k,P.length≤k→k<P.length+U.length→ ∃h:k-P.length<U.length,gt (P++U++Q) k=U[k-P.length]:=by
   intro k h h'
   refine ⟨by omega,?_⟩
   rw [List.append_assoc,AgI,if_neg (by omega),AgI,if_pos (by omega),gt_eq (by omega)]
  obtain ⟨b1,e1⟩:=e p h1 (by omega)
  obtain ⟨b2,e2⟩:=e q (by omega) h3
  rw [e1,e2]
  exact List.pairwise_iff_getElem.1 hU _ _ b1 b2 (by omega)
theorem AiO {U:List α} {x y:α} (hU:Sd lt (U++ [y])) (hw:Swo lt) (hx:x∈U++ [y]):lt y x=false:=by
 rcases List.mem_append.1 hx with h|h
 ·exact (List.pairwise_append.1 hU).2.2 x h y (by simp)
 ·simp at h;subst h;exact hw.irr _
theorem AiQ {U:List α} {x y:α} (hU:Sd lt (y::U)) (hw:Swo lt) (hx:x∈y::U):lt x y=false:=by
 rcases List.mem_cons.1 hx with h|h
 ·subst h;exact hw.irr _
 ·exact (List.pairwise_cons.1 hU).1 x h
theorem Ajh {U:List α} (h:U≠ []): ∃U' y,U=U'++ [y]:=⟨U.dropLast,U.getLast h,(List.dropLast_concat_getLast _).symm⟩
theorem cross1 (hw:Swo lt) {V1 U2:List α} (hV:Sd lt V1) (hU:Sd lt U2) (h:V1≠ []→U2≠ []→lt (gt V1 (V1.length-1)) (gt U2 0)=true): ∀x∈V1,∀y∈U2,lt x y=true:=by
 intro x hx y hy
 have hV1:V1≠ []:=by intro e;subst e;simp at hx
 have hU2:U2≠ []:=by intro e;subst e;simp at hy
 have h:=h hV1 hU2
 obtain ⟨V',v,rfl⟩:=Ajh hV1
 obtain ⟨u,U',rfl⟩: ∃u U',U2=u::U':=by
  cases U2 with
  |nil=>exact absurd rfl hU2
  |cons u U'=>exact ⟨u,U',rfl⟩
 have g1:gt (V'++ [v]) ((V'++ [v]).length-1)=v:=Afg (Q:= []) (by simp)
 have g2:gt (u::U') 0=u:=rfl
 rw [g1,g2] at h
 exact hw.le_lt (AiO hV hw hx) (hw.lt_le h (AiQ hU hw hy))
theorem cross2 (hw:Swo lt) {U1 V2:List α} (hU:Sd lt U1) (hV:Sd lt V2) (h:U1≠ []→V2≠ []→lt (gt V2 0) (gt U1 (U1.length-1))=false): ∀x∈U1,∀y∈V2,lt y x=false:=by
 intro x hx y hy
 have hU1:U1≠ []:=by intro e;subst e;simp at hx
 have hV2:V2≠ []:=by intro e;subst e;simp at hy
 have h:=h hU1 hV2
 obtain ⟨U',u,rfl⟩:=Ajh hU1
 obtain ⟨v,V',rfl⟩: ∃v V',V2=v::V':=by
  cases V2 with
  |nil=>exact absurd rfl hV2
  |cons v V'=>exact ⟨v,V',rfl⟩
 have g1:gt (U'++ [u]) ((U'++ [u]).length-1)=u:=Afg (Q:= []) (by simp)
 have g2:gt (v::V') 0=v:=rfl
 rw [g1,g2] at h
 exact hw.ntrans (AiQ hV hw hy) (hw.ntrans h (AiO hU hw hx))
end
end Go.Eva
namespace Go.Eva
set_option linter.unusedSectionVars false
section
variable {α:Type} [Inhabited α] {lt:α→α→Bool}
theorem gt_in {P U Q:List α} {k:Nat} (h:P.length≤k) (h':k<P.length+U.length):gt (P++U++Q) k=gt U (k-P.length):=by
 rw [List.append_assoc,AgI,if_neg (by omega),AgI,if_pos (by omega)]
theorem Ahr (hw:Swo lt) {P V Q:List α} {x:α} {a m b d s:Nat} (ha:a=P.length) (hm:m=a+1) (hb:b=m+V.length) (hd:b≤m+d) (hV:Sd lt V)
  (hs:s=bs (fun h=>lt (gt (P++ [x]++V++Q) h) (gt (P++ [x]++V++Q) a)) d m b):
  m≤s∧s≤b∧up (s-1-a) (P++ [x]++V++Q) a=P++sortS lt ([x]++V)++Q:=by
 have ga:gt (P++ [x]++V++Q) a=x:=by
  have:=Afg (P:=P) (Q:=V++Q) (x:=x) (k:=a) ha
  simpa using this
 rw [ga] at hs
 have hg: ∀h,m≤h→h<b→gt (P++ [x]++V++Q) h=gt V (h-m):=by
  intro h h1 h2
  rw [gt_in (P:=P++ [x]) (U:=V) (by simp;omega) (by simp;omega)]
  congr 1;simp;omega
 have hsd: ∀h h',m≤h→h≤h'→h'<b→lt (gt (P++ [x]++V++Q) h') (gt (P++ [x]++V++Q) h)=false:=by
  intro h h' h1 h2 h3
  exact sd_gt (P:=P++ [x]) hV hw (by simp;omega) h2 (by simp;omega)
 obtain ⟨k1,k2,k3,k4⟩:=bs_ok (P:=fun h=>lt (gt (P++ [x]++V++Q) h) x) (d:=d) (i:=m) (j:=b) (by omega) (by omega)
  (fun h h' c1 c2 c3 c4=>hw.le_lt (hsd h h' c1 c2 c3) c4)
 rw [←hs] at k1 k2 k3 k4
 refine ⟨k1,k2,?_⟩
 have hVs:V=V.take (s-m)++V.drop (s-m):=(List.take_append_drop ..).symm
 have l1:(V.take (s-m)).length=s-m:=by simp;omega
 have hV':=hV
 rw [hVs] at hV'
 have c1: ∀y∈V.take (s-m),lt y x=true:=by
  intro y hy
  obtain ⟨i,hi,rfl⟩:=List.getElem_of_mem hy
  have:=k3 (m+i) (by omega) (by omega)
  rw [hg _ (by omega) (by omega),Nat.add_sub_cancel_left] at this
  rw [List.getElem_take,←gt_eq];exact this
 have c2: ∀y∈V.drop (s-m),lt y x=false:=by
  intro y hy
  obtain ⟨i,hi,rfl⟩:=List.getElem_of_mem hy
  rw [List.length_drop] at hi
  have:=k4 (s+i) (by omega) (by omega)
  rw [hg _ (by omega) (by omega)] at this
  rw [List.getElem_drop,←gt_eq,show s-m+i=s+i-m by omega];exact this
 have hxV:Sd lt (x::V.drop (s-m)):=List.pairwise_cons.2 ⟨c2,(List.pairwise_append.1 hV').2.1⟩
 have e:=Adf hw (U1:= []) (U2:= [x]) (V1:=V.take (s-m)) (V2:=V.drop (s-m)) (by simp [Sd]) hV' (fun y hy z hz=>by simp at hz;subst hz;exact c1 y hy) (fun _ h=>by simp at h)
 rw [List.take_append_drop,List.nil_append,List.nil_append,Aa3 hw (List.pairwise_append.1 hV').1,List.singleton_append,Aa3 hw hxV] at e
 rw [←e]
 have:=up_eq (Q:=V.drop (s-m)++Q) (x:=x) (V:=V.take (s-m)) (P:=P)
 rw [l1,←ha] at this
 rw [show s-1-a=s-m by omega]
 have e2:P++ [x]++V++Q=P++x::V.take (s-m)++(V.drop (s-m)++Q):=by
  simp only [List.append_assoc,List.cons_append,List.nil_append]
  rw [←List.append_assoc (V.take _),List.take_append_drop]
 rw [e2,this]
 simp
theorem Ais (hw:Swo lt) {P U Q:List α} {y:α} {a m d s:Nat} (ha:a=P.length) (hm:m=a+U.length) (hd:m≤a+d) (hU:Sd lt U)
  (hs:s=bs (fun h=> !lt (gt (P++U++ [y]++Q) m) (gt (P++U++ [y]++Q) h)) d a m):
  a≤s∧s≤m∧down (m-s) (P++U++ [y]++Q) m=P++sortS lt (U++ [y])++Q:=by
 have gm:gt (P++U++ [y]++Q) m=y:=by
  have:=Afg (P:=P++U) (Q:=Q) (x:=y) (k:=m) (by simp;omega)
  simpa using this
 rw [gm] at hs
 have hg: ∀h,a≤h→h<m→gt (P++U++ [y]++Q) h=gt U (h-a):=by
  intro h h1 h2
  rw [List.append_assoc (P++U),gt_in (by omega) (by omega),ha]
 have hsd: ∀h h',a≤h→h≤h'→h'<m→lt (gt (P++U++ [y]++Q) h') (gt (P++U++ [y]++Q) h)=false:=by
  intro h h' h1 h2 h3
  rw [List.append_assoc (P++U)]
  exact sd_gt hU hw (by omega) h2 (by omega)
 obtain ⟨k1,k2,k3,k4⟩:=bs_ok (P:=fun h=> !lt y (gt (P++U++ [y]++Q) h)) (d:=d) (i:=a) (j:=m) (by omega) (by omega)
  (fun h h' c1 c2 c3 c4=>by
   simp only [Bool.not_eq_true'] at c4⊢
   exact hw.ntrans c4 (hsd h h' c1 c2 c3))
 rw [←hs] at k1 k2 k3 k4
 refine ⟨k1,k2,?_⟩
 have hUs:U=U.take (s-a)++U.drop (s-a):=(List.take_append_drop ..).symm
 have l1:(U.take (s-a)).length=s-a:=by simp;omega
 have l2:(U.drop (s-a)).length=m-s:=by simp;omega
 have hU':=hU
 rw [hUs] at hU'
 have c1: ∀z∈U.take (s-a),lt y z=false:=by
  intro z hz
  obtain ⟨i,hi,rfl⟩:=List.getElem_of_mem hz
  have:=k3 (a+i) (by omega) (by omega)
  rw [hg _ (by omega) (by omega),Nat.add_sub_cancel_left] at this
  rw [List.getElem_take,←gt_eq];simpa using this
 have c2: ∀z∈U.drop (s-a),lt y z=true:=by
  intro z hz
  obtain ⟨i,hi,rfl⟩:=List.getElem_of_mem hz
  rw [List.length_drop] at hi
  have:=k4 (s+i) (by omega) (by omega)
  rw [hg _ (by omega) (by omega)] at this
  rw [List.getElem_drop,←gt_eq,show s-a+i=s+i-a by omega];simpa using this
 have hUy:Sd lt (U.take (s-a)++ [y]):=List.pairwise_append.2 ⟨(List.pairwise_append.1 hU').1,by simp,fun z hz w hw'=>by simp at hw';subst hw';exact c1 z hz⟩
 have e:=Adf hw (U1:=U.take (s-a)) (U2:=U.drop (s-a)) (V1:= [y]) (V2:= []) hU' (by simp [Sd]) (fun w hw' z hz=>by simp at hw';subst hw';exact c2 z hz) (fun _ _ _ h=>by simp at h)
 rw [List.take_append_drop,List.append_nil,List.append_nil,Aa3 hw (List.pairwise_append.1 hU').2.1,Aa3 hw hUy] at e
 rw [←e]
 have:=AkG (Q:=Q) (x:=y) (n:=m-s) (V:=U.drop (s-a)) (P:=P++U.take (s-a)) (k:=m) (by omega) (by simp;omega)
 have e2:P++U++ [y]++Q=P++U.take (s-a)++U.drop (s-a)++y::Q:=by
  simp only [List.append_assoc,List.cons_append,List.nil_append]
  rw [←List.append_assoc (U.take _),List.take_append_drop]
 rw [e2,this]
 simp
end
end Go.Eva
namespace Go.Eva
set_option linter.unusedSectionVars false
section
variable {α:Type} [Inhabited α] {lt:α→α→Bool}
theorem Ajd (hw:Swo lt) {P U V Q:List α} {a m b mid s0 r0 d s:Nat} (ha:a=P.length) (hm:m=a+U.length) (hb:b=m+V.length) (hU:Sd lt U) (hV:Sd lt V)
  (h1:0<U.length) (h2:0<V.length) (hmid:(a+b)/2=mid) (hs0:m≤mid∧s0=a∧r0=m∨mid<m∧s0=mid+m-b∧r0=mid) (hd:r0≤s0+d)
  (hs:s=bs (fun c=> !lt (gt (P++U++V++Q) (mid+m-1-c)) (gt (P++U++V++Q) c)) d s0 r0):
  s0≤s∧s≤r0∧ ∃U1 U2 V1 V2,U=U1++U2∧V=V1++V2∧U1.length=s-a∧V1.length=mid-s∧sortS lt (U1++V1)++sortS lt (U2++V2)=sortS lt (U++V)∧
   Sd lt U1∧Sd lt U2∧Sd lt V1∧Sd lt V2:=by
 have hgU: ∀h,a≤h→h<m→gt (P++U++V++Q) h=gt U (h-a):=by
  intro h c1 c2
  rw [List.append_assoc (P++U),gt_in (by omega) (by omega),ha]
 have hgV: ∀h,m≤h→h<b→gt (P++U++V++Q) h=gt V (h-m):=by
  intro h c1 c2
  rw [gt_in (P:=P++U) (U:=V) (by simp;omega) (by simp;omega)]
  congr 1;simp;omega
 have hsU: ∀h h',a≤h→h≤h'→h'<m→lt (gt (P++U++V++Q) h') (gt (P++U++V++Q) h)=false:=by
  intro h h' c1 c2 c3
  rw [List.append_assoc (P++U)]
  exact sd_gt hU hw (by omega) c2 (by omega)
 have hsV: ∀h h',m≤h→h≤h'→h'<b→lt (gt (P++U++V++Q) h') (gt (P++U++V++Q) h)=false:=by
  intro h h' c1 c2 c3
  exact sd_gt (P:=P++U) hV hw (by simp;omega) c2 (by simp;omega)
 obtain ⟨k1,k2,k3,k4⟩:=bs_ok (P:=fun c=> !lt (gt (P++U++V++Q) (mid+m-1-c)) (gt (P++U++V++Q) c)) (d:=d) (i:=s0) (j:=r0) (by omega) (by omega)
  (fun h h' c1 c2 c3 c4=>by
   simp only [Bool.not_eq_true'] at c4⊢
   exact hw.ntrans (hw.ntrans (hsV (mid+m-1-h') (mid+m-1-h) (by omega) (by omega) (by omega)) c4) (hsU h h' (by omega) c2 (by omega)))
 rw [←hs] at k1 k2 k3 k4
 refine ⟨k1,k2,U.take (s-a),U.drop (s-a),V.take (mid-s),V.drop (mid-s),(List.take_append_drop ..).symm,(List.take_append_drop ..).symm,by simp;omega,by simp;omega,?_⟩
 have hUs:U=U.take (s-a)++U.drop (s-a):=(List.take_append_drop ..).symm
 have hVs:V=V.take (mid-s)++V.drop (mid-s):=(List.take_append_drop ..).symm
 have hU':=hU
 rw [hUs] at hU'
 have hV':=hV
 rw [hVs] at hV'
 obtain ⟨u1,u2,_⟩:=List.pairwise_append.1 hU'
 obtain ⟨v1,v2,_⟩:=List.pairwise_append.1 hV'
 refine ⟨?_,u1,u2,v1,v2⟩
 have lu1:(U.take (s-a)).length=s-a:=by simp;omega
 have lu2:(U.drop (s-a)).length=m-s:=by simp;omega
 have lv1:(V.take (mid-s)).length=mid-s:=by simp;omega
 have lv2:(V.drop (mid-s)).length=b-(mid+m-s):=by simp;omega
 have gtk: ∀ {L:List α} {n i:Nat},i<n→gt (L.take n) i=gt L i:=by
  intro L n i h
  unfold gt
  rw [List.getElem?_take,if_pos h]
 have gdr: ∀ {L:List α} {n i:Nat},gt (L.drop n) i=gt L (n+i):=by
  intro L n i
  unfold gt
  rw [List.getElem?_drop]
 have:=Adf hw hU' hV' (cross1 hw v1 u2 fun c1 c2=> ?_) (cross2 hw u1 v2 fun c1 c2=> ?_)
 ·rw [List.take_append_drop,List.take_append_drop] at this
  exact this
 ·have n1:0<mid-s:=by rw [←lv1];exact List.length_pos_iff.2 c1
  have n2:0<m-s:=by rw [←lu2];exact List.length_pos_iff.2 c2
  have:=k4 s (Nat.le_refl _) (by omega)
  simp only [Bool.not_eq_false'] at this
  rw [hgV _ (by omega) (by omega),hgU _ (by omega) (by omega)] at this
  rw [gtk (by omega),gdr,lv1,show mid-s-1=mid+m-1-s-m by omega]
  exact this
 ·have n1:0<s-a:=by rw [←lu1];exact List.length_pos_iff.2 c1
  have n2:0<b-(mid+m-s):=by rw [←lv2];exact List.length_pos_iff.2 c2
  have:=k3 (s-1) (by omega) (by omega)
  simp only [Bool.not_eq_true'] at this
  rw [hgV _ (by omega) (by omega),hgU _ (by omega) (by omega)] at this
  rw [gtk (by omega),gdr,lu1,show mid-s+0=mid+m-1-(s-1)-m by omega,show s-a-1=s-1-a by omega]
  exact this
end
end Go.Eva
namespace Go.Eva
set_option linter.unusedSectionVars false
section
variable {α:Type} [Inhabited α] {lt:α→α→Bool}
inductive Blks (lt:α→α→Bool) (n:Nat):List α→Prop
 |last {R:List α}:R.length≤n→Sd lt R→Blks lt n R
 |cons {S R:List α}:S.length=n→Sd lt S→Blks lt n R→Blks lt n (S++R)
inductive Full (lt:α→α→Bool) (n:Nat):List α→Prop
 |nil:Full lt n []
 |snoc {P S:List α}:Full lt n P→S.length=n→Sd lt S→Full lt n (P++S)
theorem Full.blks {n:Nat} {P:List α} (h:Full lt n P): ∀ {R:List α},Blks lt n R→Blks lt n (P++R):=by
 induction h with
 |nil=>intro R h;exact h
 |snoc _ h2 h3 ih=>intro R h;rw [List.append_assoc];exact ih (.cons h2 h3 h)
theorem Blks.more {n:Nat} {R:List α} (h:Blks lt n R) (hl:n<R.length): ∃S R',R=S++R'∧S.length=n∧Sd lt S∧Blks lt n R':=by
 cases h with
 |last h _=>omega
 |cons h1 h2 h3=>exact ⟨_,_,rfl,h1,h2,h3⟩
theorem Blks.more' {n:Nat} {R:List α} (h:Blks lt n R) (hl:n≤R.length): ∃S R',R=S++R'∧S.length=n∧Sd lt S∧Blks lt n R':=by
 by_cases hx:n<R.length
 ·exact h.more hx
 ·cases h with
  |last h2 h3=>exact ⟨R,[],by simp,by omega,h3,.last (by simp) (by simp [Sd])⟩
  |cons h1 h2 h3=>exact ⟨_,_,rfl,h1,h2,h3⟩
theorem Blks.sd {n:Nat} {R:List α} (h:Blks lt n R) (hl:R.length≤n):Sd lt R:=by
 cases h with
 |last _ h=>exact h
 | @cons S R' h1 h2 h3=>
  have:R'= []:=by
   rw [List.length_append] at hl
   exact List.eq_nil_of_length_eq_zero (by omega)
  subst this
  simpa using h2
theorem Blks.two {n:Nat} {R:List α} (h:Blks lt n R) (hn:0<n) (hl:2*n≤R.length): ∃S1 S2 R',R=S1++S2++R'∧S1.length=n∧S2.length=n∧Sd lt S1∧Sd lt S2∧Blks lt n R':=by
 obtain ⟨S1,R1,rfl,h1,h2,h3⟩:=h.more (by omega)
 rw [List.length_append] at hl
 obtain ⟨S2,R2,rfl,h4,h5,h6⟩:=h3.more' (by omega)
 exact ⟨S1,S2,R2,by simp,h1,h4,h2,h5,h6⟩
theorem Blks.one {n:Nat} {R:List α} (h:Blks lt n R) (hl:n<R.length) (h2:R.length<2*n): ∃S1 S2,R=S1++S2∧S1.length=n∧Sd lt S1∧Sd lt S2∧0<S2.length:=by
 obtain ⟨S1,R1,rfl,h3,h4,h5⟩:=h.more hl
 rw [List.length_append] at hl h2
 exact ⟨S1,R1,rfl,h3,h4,h5.sd (by omega),by omega⟩
theorem StEq.mid {P S S' Q:List α} (h:StEq lt S' S):StEq lt (P++S'++Q) (P++S++Q):=((StEq.refl _).append h).append (.refl _)
theorem Akl (R:List α) {n:Nat} (h:n≤R.length): ∃S R',R=S++R'∧S.length=n:=⟨R.take n,R.drop n,(List.take_append_drop ..).symm,by simp;omega⟩
end
end Go.Eva
namespace Go.Eva
def total (ls:List (List Cross)):Nat:=(ls.map zq).sum
theorem Ail {ls:List (List Cross)} {i:Nat} (h:i<ls.length):total (ls.drop i)=(gt ls i).length+total (ls.drop (i+1)):=by
 unfold total;rw [Aah h];simp
theorem AiR {ls:List (List Cross)} {i:Nat} (h:ls.length≤i):total (ls.drop i)=0:=by
 unfold total;rw [Aaf h];rfl
theorem Ak7 {ls:List (List Cross)} {i:Nat} (h:i<ls.length):(ls.drop i).flatten=gt ls i++(ls.drop (i+1)).flatten:=by
 rw [Aah h];simp
theorem Aka {ls:List (List Cross)}:ls.flatten.length=total ls:=by
 unfold total;simp [List.length_flatten]
def parts (s:List Cross) (r:Int):Nat→List Cross
 |0=> []
 |d+1=>toL s r++parts s (r+1) d
def alike (l:List Cross) (x:Cross):Nat→List Cross
 |0=> []
 |d+1=>alike l x d++ [{x with frame:=(d:Int),frm:=(gt l d).frm}]
end Go.Eva
namespace Go.Eva
structure Stg where
 l:List Entity
 made:Int
 out:List Cross
def Stg.room (s:Stg):Bool:=decide (s.made<8)&&decide (things s.l<24)
section
variable (c:Config) (r f:Int)
def numI (made:Int):Int:=1000+(f*c.regions+r)*8+(made+1)-1
def placeX (a o:Int):Int:=c.cornerX r+below 1024 c.seed [a,f,o]
def placeY (b o:Int):Int:=c.cornerY r+below 1024 c.seed [b,f,o]
def setId (l:List Entity) (id:Int) (e:Entity):List Entity:=l.set (find l id).toNat e
def inAt (ins:List Input) (id:Int):Input:=gt ins (id-1).toNat
def steer1 (ins:List Input) (s:Stg) (p:Entity):Stg:=
 if p.kind≠1 then s
 else if (steerE p (inAt ins p.id)).2=true then
  (if s.room=true then {s with l:=setId (put1 s.l (shootE (steerE p (inAt ins p.id)).1 (inAt ins p.id) (numI c r f s.made))) p.id (steerE p (inAt ins p.id)).1,made:=s.made+1}
   else {s with l:=setId s.l p.id {(steerE p (inAt ins p.id)).1 with age:=0}})
 else {s with l:=setId s.l p.id (steerE p (inAt ins p.id)).1}
def steerS (ins:List Input) (s:Stg):Stg:=s.l.foldl (steer1 c r f ins) s
def moveL (l:List Entity):List Entity:=(l.filter fun e=>(goE c e).2).map fun e=>(goE c e).1
def blastsAt (e:Entity):List Cross:=(c.near r).map fun q=>⟨2,r,q,f,Entity.zero,e.x,e.y⟩
def anewE (id:Int) (e:Entity):Entity:= {e with health:=100,vx:=0,vy:=0,age:=0,x:=placeX c r f 1 id,y:=placeY c r f 2 id}
def fall1 (s:Stg) (id:Int):Stg:= {s with l:=s.l.set (find s.l id).toNat (anewE c r f id (gt s.l (find s.l id).toNat)),out:=s.out++blastsAt c r f (gt s.l (find s.l id).toNat)}
def fallS (s:Stg):Stg:=(fallenL s.l).foldl (fall1 c r f) s
def gemE (made:Int):Entity:=⟨numI c r f made,3,placeX c r f 4 r,placeY c r f 5 r,0,0,1,0,0⟩
def growS (s:Stg):Stg:=
 if below 8 c.seed [3,f,r]≠0∨3≤(s.l.countP fun e=>e.kind==3)∨s.room=false then s
 else {s with l:=put1 s.l (gemE c r f s.made),made:=s.made+1}
def handE (e:Entity):Cross:=⟨1,r,c.of e.x e.y,f,e,0,0⟩
def leaveS (s:Stg):Stg:= {s with l:=s.l.filter fun e=>decide (c.of e.x e.y=r),out:=s.out++(s.l.filter fun e=> !decide (c.of e.x e.y=r)).map (handE c r f)}
def restS (inbox:List Cross) (s:Stg):Stg:=leaveS c r f (growS c r f (fallS c r f {s with l:=blastsL (gemsL (shotsL (moveL c s.l))) inbox}))
end
def stepS (c:Config) (r:Int) (s:Region) (ins:List Input) (inbox:List Cross):Stg:=
 restS c r s.frame inbox (steerS c r s.frame ins ⟨arriveL s.ents inbox,0,[]⟩)
def Region.zero:Region:=⟨0,[]⟩
end Go.Eva
namespace Go.Eva
theorem Ab1 {l:List Entity} {id:Int} (h: ∃x∈l,x.id=id): ∃k:Nat,find l id=k∧k<l.length∧(gt l k).id=id:=by
 obtain ⟨k,hk⟩:=Akj h
 obtain ⟨h1,h2,_⟩:=an_id hk
 exact ⟨k,AaX hk,h1,h2⟩
theorem AdH {l:List Entity} {k:Nat} {e:Entity} (hk:k<l.length) (h:(gt l k).id=e.id):(l.set k e).map Entity.id=l.map Entity.id:=by
 rw [List.map_set]
 apply List.ext_getElem?
 intro i
 rw [List.getElem?_set]
 split
 ·rename_i hik
  subst hik
  rw [List.length_map,if_pos hk,List.getElem?_map,AdE hk,Option.map_some,h]
 ·rfl
theorem Ag4 {l:List Entity} {e:Entity} (h: ∃x∈l,x.id=e.id):(setId l e.id e).map Entity.id=l.map Entity.id:=by
 obtain ⟨k,h1,h2,h3⟩:=Ab1 h
 unfold setId
 rw [h1]
 exact AdH h2 h3
theorem Ad7 {l:List Entity} {id:Int} {e:Entity}:(setId l id e).length=l.length:=by simp [setId]
theorem Ahd {l m:List Entity} (h:l.map Entity.id=m.map Entity.id) (hs:Srt l):Srt m:=by
 have:(l.map Entity.id).Pairwise (· < ·):=List.pairwise_map.2 hs
 rw [h] at this
 exact List.pairwise_map.1 this
theorem Ahu {l m:List Entity} (h:l.map Entity.id=m.map Entity.id) {id:Int} (hx: ∃x∈l,x.id=id): ∃x∈m,x.id=id:=by
 obtain ⟨x,h1,h2⟩:=hx
 have:id∈l.map Entity.id:=List.mem_map.2 ⟨x,h1,h2⟩
 rw [h] at this
 obtain ⟨y,h3,h4⟩:=List.mem_map.1 this
 exact ⟨y,h3,h4⟩
theorem AjD {α:Type} {l:List α} {k:Nat} {e x:α} (h:x∈l.set k e):x=e∨x∈l:=by
 rcases List.mem_or_eq_of_mem_set h with h|h
 ·exact .inr h
 ·exact .inl h
theorem AeL {l:List Entity} {id:Int} {e x:Entity} (h:x∈setId l id e):x=e∨x∈l:=AjD h
theorem Acv {l:List Entity} {e x:Entity} (h:x∈put1 l e):x=e∨x∈l:=by
 unfold put1 at h
 split at h
 ·exact .inr h
 ·exact Agk.1 h
theorem AkD {l:List Entity}: ∀ {a b:Int},Srt l→(∀x∈l,a≤x.id∧x.id≤b)→(l.length:Int)≤max 0 (b-a+1):=by
 induction l with
 |nil=>intro a b _ _;simp;omega
 |cons e l ih=>
  intro a b hs h
  obtain ⟨h1,h2⟩:=List.pairwise_cons.1 hs
  have:=ih (a:=a+1) (b:=b) h2 fun x hx=>by
   have k1:=h1 x hx
   have k2:=h e (List.mem_cons_self ..)
   have k3:=h x (List.mem_cons_of_mem _ hx)
   omega
  have k2:=h e (List.mem_cons_self ..)
  simp only [List.length_cons]
  omega
theorem AfC {l:List Entity} {p:Entity→Bool} (h:Srt l):Srt (l.filter p):=List.Pairwise.filter _ h
theorem Aiu {l:List Entity} {n:Int} (hs:Srt l) (h: ∀x∈l,x.kind=1→1≤x.id∧x.id≤n) (hn:0≤n):((l.countP fun e=>e.kind==1:Nat):Int)≤n:=by
 rw [List.countP_eq_length_filter]
 have:=AkD (a:=1) (b:=n) (AfC (p:=fun e=>e.kind==1) hs) fun x hx=>by
  obtain ⟨h1,h2⟩:=List.mem_filter.1 hx
  exact h x h1 (by simpa using h2)
 omega
theorem Ak0 {l:List Entity} {n:Int} (hs:Srt l) (h: ∀x∈l,x.kind=1→1≤x.id∧x.id≤n) (hn:0≤n):(l.length:Int)≤things l+n:=by
 have h1:=Aiu hs h hn
 have h2:= @Afr l
 unfold things
 omega
theorem Entity.right_player {c:Config} {e:Entity} (h:e.right c=true) (hk:e.kind=1):1≤e.id∧e.id≤c.players:=by
 simp only [Entity.right,hk,if_true,Bool.and_eq_true,Aad] at h
 omega
theorem Abg {c:Config} {r:Int} {s:Region}:regionRight c r s=true↔c.is r=true∧(0≤s.frame∧s.frame≤10000)∧Srt s.ents∧things s.ents≤24∧ ∀e∈s.ents,e.right c=true∧c.of e.x e.y=r:=by
 simp only [regionRight,Bool.and_eq_true,Aad,AfL,decide_eq_true_eq,List.all_eq_true]
 constructor
 ·rintro ⟨⟨⟨⟨h1,h2⟩,h3⟩,h4⟩,h5⟩;exact ⟨h1,h2,h3,h4,h5⟩
 ·rintro ⟨h1,h2,h3,h4,h5⟩;exact ⟨⟨⟨⟨h1,h2⟩,h3⟩,h4⟩,h5⟩
structure Fine (c:Config) (r:Int) (s:Region) (ins:List Input) (inbox:List Cross):Prop where
 is:c.is r=true
 frame:0≤s.frame∧s.frame<10000
 srt:Srt s.ents
 things:things s.ents≤24
 ents: ∀e∈s.ents,e.right c=true∧c.of e.x e.y=r
 len:(ins.length:Int)=c.players
 ins: ∀i∈ins,i.right=true
 box: ∀m∈inbox,m.right c=true∧m.to=r∧m.frame=s.frame-1
theorem Afx {c:Config} {r:Int} {s:Region} {ins:List Input} {inbox:List Cross} (h:askedE c r s ins inbox=0):Fine c r s ins inbox:=by
 unfold askedE at h
 split at h
 ·omega
 ·rename_i h1
  split at h
  ·omega
  ·rename_i h2
   split at h
   ·omega
   ·rename_i h3
    split at h
    ·omega
    ·rename_i h4
     split at h
     ·omega
     ·rename_i h5
      obtain ⟨k1,k2,k3,k4,k5⟩:=Abg.1 (by simpa using h2)
      refine ⟨k1,by omega,k3,k4,k5,by omega,fun i hi=> ?_,fun m hm=> ?_⟩
      ·have h3: ¬(ins.any fun i=> !i.right)=true:=fun e=>h3 (.inr e)
       cases hr:i.right with
       |true=>rfl
       |false=>exact absurd (List.any_eq_true.2 ⟨i,hi,by simp [hr]⟩) h3
      ·have:(m.right c&&decide (m.to=r)&&decide (m.frame=s.frame-1))=true:=by
        cases hr:(m.right c&&decide (m.to=r)&&decide (m.frame=s.frame-1)) with
        |true=>rfl
        |false=>exact absurd (List.any_eq_true.2 ⟨m,hm,by simp [hr]⟩) h4
       simp only [Bool.and_eq_true,decide_eq_true_eq] at this
       exact ⟨this.1.1,this.1.2,this.2⟩
theorem AdJ {c:Config} {r:Int} {s:Region} {ins:List Input} {inbox:List Cross} (h:Fine c r s ins inbox):askedE c r s ins inbox=0:=by
 have h1:regionRight c r s=true:=Abg.2 ⟨h.is,by have:=h.frame;omega,h.srt,h.things,h.ents⟩
 have h2:(ins.any fun i=> !i.right)=false:=by rw [List.any_eq_false];intro i hi;simp [h.ins i hi]
 have h3:(inbox.any fun m=> !(m.right c&&decide (m.to=r)&&decide (m.frame=s.frame-1)))=false:=by
  rw [List.any_eq_false];intro m hm
  obtain ⟨k1,k2,k3⟩:=h.box m hm
  simp [k1,k2,k3]
 have h4:=h.frame
 unfold askedE
 rw [if_neg (by simp [h.is]),if_neg (by simp [h1]),if_neg (by simp [h.len,h2]),if_neg (by rw [h3];simp),if_neg (by omega)]
structure Sane (c:Config) (r:Int) (l:List Entity):Prop where
 srt:Srt l
 things:things l≤24
 ents: ∀e∈l,e.right c=true∧c.of e.x e.y=r
theorem AeN {l:List Entity} {e:Entity}:things (put1 l e)≤things l+(if e.kind=1 then 0 else 1):=by
 have ins_things: ∀l:List Entity,things (ins l e)=things l+(if e.kind=1 then 0 else 1):=by
  intro l
  unfold ins things
  split
  ·rename_i k hk
   have:(l.take k++e::l.drop k).countP (fun e=>e.kind !=1)=l.countP (fun e=>e.kind !=1)+(if e.kind=1 then 0 else 1):=by
    rw [List.countP_append,List.countP_cons]
    conv=>rhs;rw [←List.take_append_drop k l,List.countP_append]
    by_cases h:e.kind=1<;>simp [h]<;>omega
   rw [this]
   split<;>simp
  ·rw [List.countP_append,List.countP_cons,List.countP_nil]
   by_cases h:e.kind=1<;>simp [h]
 unfold put1
 split
 ·split<;>omega
 ·rw [ins_things];omega
theorem AgP {c:Config} {r:Int} {l:List Entity} {m:Cross} (h:Sane c r l) (hm:m.right c=true) (ht:m.to=r):Sane c r (arrive1 l m):=by
 unfold arrive1
 split
 ·rename_i hk
  have hp:= @AeN l m.ent
  have ht2:=h.things
  simp only [Cross.right,hk.1,if_true,Bool.and_eq_true,decide_eq_true_eq] at hm
  refine ⟨AcZ h.srt,by split at hp<;>omega,fun e he=> ?_⟩
  rcases Acv he with rfl|he
  ·exact ⟨hm.2.1.1.1.1,by omega⟩
  ·exact h.ents e he
 ·exact h
theorem AgZ {c:Config} {r:Int} {inbox:List Cross}: ∀ {l:List Entity},Sane c r l→(∀m∈inbox,m.right c=true∧m.to=r)→Sane c r (arriveL l inbox):=by
 induction inbox with
 |nil=>intro l h _;exact h
 |cons m inbox ih=>
  intro l h hm
  have h1:=hm m (List.mem_cons_self ..)
  exact ih (AgP h h1.1 h1.2) fun x hx=>hm x (List.mem_cons_of_mem _ hx)
theorem Fine.sane {c:Config} {r:Int} {s:Region} {ins:List Input} {inbox:List Cross} (h:Fine c r s ins inbox):Sane c r (arriveL s.ents inbox):=
 AgZ ⟨h.srt,h.things,h.ents⟩ fun m hm=>⟨(h.box m hm).1,(h.box m hm).2.1⟩
theorem Sane.len {c:Config} {r:Int} {l:List Entity} (h:Sane c r l) (hc:c.right=true):l.length≤30:=by
 have h1:=Ak0 (n:=c.players) h.srt (fun x hx hk=>Entity.right_player (h.ents x hx).1 hk) (by have:=Config.right_iff.1 hc;omega)
 have h2:=h.things
 have h3:=Config.right_iff.1 hc
 omega
end Go.Eva
namespace Go.Eva
theorem AkP {l:List Entity} (h:Srt l): ∀ {x y:Entity},x∈l→y∈l→x.id=y.id→x=y:=by
 induction l with
 |nil=>intro x y hx;simp at hx
 |cons a l ih=>
  intro x y hx hy e
  obtain ⟨h1,h2⟩:=List.pairwise_cons.1 h
  rcases List.mem_cons.1 hx with kx|kx<;>rcases List.mem_cons.1 hy with ky|ky
  ·rw [kx,ky]
  ·have:=h1 y ky;rw [kx] at e;omega
  ·have:=h1 x kx;rw [ky] at e;omega
  ·exact ih h2 kx ky e
theorem Ahx {l:List Entity} {p:Entity} (hs:Srt l) (h:p∈l): ∃k:Nat,find l p.id=k∧k<l.length∧gt l k=p:=by
 obtain ⟨k,h1,h2,h3⟩:=Ab1 (l:=l) (id:=p.id) ⟨p,h,rfl⟩
 exact ⟨k,h1,h2,AkP hs (Abu h2) h h3⟩
theorem AeX {l:List Entity} {p e:Entity} (hs:Srt l) (h:p∈l) (he:e.id=p.id):Srt (setId l p.id e):=by
 rw [←he]
 exact Ahd (Ag4 ⟨p,h,he.symm⟩).symm hs
theorem Ac2 {l:List Entity} {p e:Entity} (hs:Srt l) (h:p∈l) (hk:e.kind=p.kind):things (setId l p.id e)=things l:=by
 obtain ⟨k,h1,h2,h3⟩:=Ahx hs h
 unfold setId things
 rw [h1,Int.toNat_natCast,List.countP_set h2,hk]
 rw [gt_eq h2] at h3
 rw [h3]
 have:(if (p.kind !=1)=true then 1 else 0)≤l.countP fun e=>e.kind !=1:=by
  split
  ·rename_i hp
   exact List.countP_pos_iff.2 ⟨p,h,hp⟩
  ·omega
 omega
theorem AdI {l:List Entity} {p e x:Entity} (hs:Srt l) (h:p∈l) (hx:x∈l) (hne:x.id≠p.id):x∈setId l p.id e:=by
 obtain ⟨k,h1,h2,h3⟩:=Ahx hs h
 obtain ⟨j,j1,j2,j3⟩:=Ahx hs hx
 unfold setId
 rw [h1,Int.toNat_natCast]
 have hjk:j≠k:=fun e=>hne (by rw [←j3,←h3,e])
 rw [List.mem_iff_getElem?]
 refine ⟨j,?_⟩
 rw [List.getElem?_set_ne (by omega),AdE j2,j3]
theorem Afe {p:Entity} {i:Input}:(steerE p i).1.id=p.id∧(steerE p i).1.kind=p.kind∧(steerE p i).1.x=p.x∧(steerE p i).1.y=p.y∧(steerE p i).1.health=p.health:=by
 unfold steerE
 split
 ·simp
 ·split<;>simp
theorem Ahy {a b:Int}:a≤maxI a b∧b≤maxI a b∧(maxI a b=a∨maxI a b=b):=by unfold maxI;split<;>omega
theorem Ag0 {c:Config} {p:Entity} {i:Input} (h:p.right c=true) (hk:p.kind=1) (hi:i.right=true):(steerE p i).1.right c=true∧({(steerE p i).1 with age:=0}:Entity).right c=true:=by
 simp only [Input.right,Bool.and_eq_true,Aad] at hi
 simp only [Entity.right,hk,if_true,Bool.and_eq_true,Aad,decide_eq_true_eq] at h
 have hm:= @Ahy p.age 1
 unfold steerE
 split
 ·simp only [Entity.right,hk,if_true,Bool.and_eq_true,Aad,decide_eq_true_eq]
  refine ⟨⟨h.1,?_⟩,⟨h.1,?_⟩⟩<;>omega
 ·split
  ·simp only [Entity.right,hk,if_true,Bool.and_eq_true,Aad,decide_eq_true_eq]
   refine ⟨⟨h.1,?_⟩,⟨h.1,?_⟩⟩<;>omega
  ·simp only [Entity.right,hk,if_true,Bool.and_eq_true,Aad,decide_eq_true_eq]
   refine ⟨⟨h.1,?_⟩,⟨h.1,?_⟩⟩<;>omega
theorem AgQ (d:Int):clamp d (-1) 1= -1∨clamp d (-1) 1=0∨clamp d (-1) 1=1:=by unfold clamp;split<;>(try split)<;>omega
theorem AgJ {c:Config} {p:Entity} {i:Input} {id:Int} (h:p.right c=true) (hk:p.kind=1) (hid:1000≤id∧id≤2147483647):(shootE p i id).right c=true:=by
 have hp:=Entity.right_player h hk
 simp only [Entity.right,Bool.and_eq_true] at h
 have h1:=AgQ i.dx
 have h2:=AgQ i.dy
 have hh:within id 1000 2147483647=true:=Aad.2 hid
 have ho:within p.id 1 c.players=true:=Aad.2 hp
 have h0:within 0 0 12=true:=by decide
 unfold shootE paceD
 simp only [Entity.right,h.1,hh,ho,h0,pace]
 rcases h1 with h1|h1|h1<;>rcases h2 with h2|h2|h2<;>simp [h1,h2]
structure Steer (c:Config) (r:Int) (s:Stg):Prop where
 sane:Sane c r s.l
 made:0≤s.made∧s.made≤8
theorem Ala {c:Config} {r f made:Int} (hr:0≤r∧r<c.regions) (hf:0≤f∧f<10000) (hm:0≤made∧made≤8):1000≤numI c r f made∧numI c r f made≤2147483647:=by
 have h:= @Config.regions_le c
 have h1:0≤f*c.regions:=Int.mul_nonneg hf.1 h.1
 have h2:f*c.regions≤10000*16:=Int.mul_le_mul (by omega) h.2 h.1 (by omega)
 unfold numI
 omega
theorem Config.is_le {c:Config} {r:Int} (h:c.is r=true):0≤r∧r<c.regions:=by
 simp only [Config.is,Aad] at h;omega
theorem Stg.room_iff {s:Stg}:s.room=true↔s.made<8∧things s.l<24:=by simp [Stg.room]
theorem Aj7 {c:Config} {r f:Int} {ins:List Input} {s:Stg} {p:Entity} (hs:Steer c r s) (hr:c.is r=true) (hf:0≤f∧f<10000) (hp:p∈s.l) (hi:p.kind=1→(inAt ins p.id).right=true):
  Steer c r (steer1 c r f ins s p)∧(∀x∈s.l,x.id≠p.id→x∈(steer1 c r f ins s p).l)∧(steer1 c r f ins s p).out=s.out:=by
 unfold steer1
 split
 ·exact ⟨hs,fun x hx _=>hx,rfl⟩
 ·rename_i hk
  have hk:p.kind=1:=by omega
  obtain ⟨hpr,hpo⟩:=hs.sane.ents p hp
  have hi:=hi hk
  obtain ⟨e1,e2⟩:=Ag0 hpr hk hi
  obtain ⟨i1,i2,i3,i4,i5⟩:= @Afe p (inAt ins p.id)
  split
  ·split
   ·rename_i hroom
    have hroom:=Stg.room_iff.1 hroom
    have hn:=Ala (made:=s.made) (Config.is_le hr) hf hs.made
    have hsh:=AgJ (i:=inAt ins p.id) e1 (by omega) hn
    have hs1:Srt (put1 s.l (shootE (steerE p (inAt ins p.id)).1 (inAt ins p.id) (numI c r f s.made))):=AcZ hs.sane.srt
    have hp1:p∈put1 s.l (shootE (steerE p (inAt ins p.id)).1 (inAt ins p.id) (numI c r f s.made)):=Aga p hp
    have ht:= @AeN s.l (shootE (steerE p (inAt ins p.id)).1 (inAt ins p.id) (numI c r f s.made))
    refine ⟨⟨⟨AeX hs1 hp1 i1,?_,fun e he=> ?_⟩,by have:=hs.made;simp only;omega⟩,fun x hx hne=>AdI hs1 hp1 (Aga x hx) hne,rfl⟩
    ·simp only
     rw [Ac2 hs1 hp1 i2]
     have:=hs.sane.things
     split at ht<;>omega
    ·rcases AeL he with rfl|he
     ·exact ⟨e1,by rw [i3,i4];exact hpo⟩
     ·rcases Acv he with rfl|he
      ·refine ⟨hsh,?_⟩
       show c.of (steerE p (inAt ins p.id)).1.x (steerE p (inAt ins p.id)).1.y=r
       rw [i3,i4];exact hpo
      ·exact hs.sane.ents e he
   ·refine ⟨⟨⟨AeX hs.sane.srt hp i1,?_,fun e he=> ?_⟩,hs.made⟩,fun x hx hne=>AdI hs.sane.srt hp hx hne,rfl⟩
    ·simp only
     rw [Ac2 hs.sane.srt hp (by exact i2)]
     exact hs.sane.things
    ·rcases AeL he with rfl|he
     ·refine ⟨e2,?_⟩
      show c.of (steerE p (inAt ins p.id)).1.x (steerE p (inAt ins p.id)).1.y=r
      rw [i3,i4];exact hpo
     ·exact hs.sane.ents e he
  ·refine ⟨⟨⟨AeX hs.sane.srt hp i1,?_,fun e he=> ?_⟩,hs.made⟩,fun x hx hne=>AdI hs.sane.srt hp hx hne,rfl⟩
   ·simp only
    rw [Ac2 hs.sane.srt hp i2]
    exact hs.sane.things
   ·rcases AeL he with rfl|he
    ·exact ⟨e1,by rw [i3,i4];exact hpo⟩
    ·exact hs.sane.ents e he
theorem Ai0 {c:Config} {r f:Int} {ins:List Input} (hr:c.is r=true) (hf:0≤f∧f<10000) (hins:(ins.length:Int)=c.players) (hi: ∀i∈ins,i.right=true): ∀ {R:List Entity} {s:Stg},Steer c r s→Srt R→(∀p∈R,p∈s.l)→
  Steer c r (R.foldl (steer1 c r f ins) s)∧(R.foldl (steer1 c r f ins) s).out=s.out:=by
 intro R
 induction R with
 |nil=>intro s h _ _;exact ⟨h,rfl⟩
 |cons p R ih=>
  intro s h hR hm
  have hp:=hm p (List.mem_cons_self ..)
  obtain ⟨h1,h2,h3⟩:=Aj7 (f:=f) (ins:=ins) h hr hf hp fun hk=>by
   have:=Entity.right_player (h.sane.ents p hp).1 hk
   unfold inAt
   exact hi _ (Abu (by omega))
  obtain ⟨hR1,hR2⟩:=List.pairwise_cons.1 hR
  have:=ih h1 hR2 fun q hq=>h2 q (hm q (List.mem_cons_of_mem _ hq)) (by have:=hR1 q hq;omega)
  exact ⟨this.1,by rw [List.foldl_cons,this.2,h3]⟩
theorem Agt {c:Config} {r:Int} {s:Region} {ins:List Input} {inbox:List Cross} (h:Fine c r s ins inbox):
  Steer c r (steerS c r s.frame ins ⟨arriveL s.ents inbox,0,[]⟩)∧(steerS c r s.frame ins ⟨arriveL s.ents inbox,0,[]⟩).out= []:=
 Ai0 (ins:=ins) h.is h.frame h.len h.ins ⟨h.sane,by simp⟩ h.sane.srt fun p hp=>hp
end Go.Eva
namespace Go.Eva.S5
theorem Aeo (x:Int):Fn cx 185 [.int .u64 x] (.int .u64 (mix x)):=by
 refine qq ?_
 refine gg [.w (0≤(33:Int)),.s (T.int zf (zh x 8589934592)),.i zf ((↑(BitVec.toNat (zb 64 x^^^zb 64 (zh x 8589934592))):Int)) (zp zf (↑(BitVec.toNat (zb 64 x^^^zb 64 (zh x 8589934592))):Int)),.i zf (zp zf (↑(BitVec.toNat (zb 64 x^^^zb 64 (zh x 8589934592))):Int)*18397679294719823053) (zp zf (zp zf (↑(BitVec.toNat (zb 64 x^^^zb 64 (zh x 8589934592))):Int)*18397679294719823053)),.w (0≤(33:Int)),.s (T.int zf (zh (zp zf (zp zf (↑(BitVec.toNat (zb 64 x^^^zb 64 (zh x 8589934592))):Int)*18397679294719823053)) 8589934592)),.i zf ((↑(BitVec.toNat (zb 64 (zp zf (zp zf (↑(BitVec.toNat (zb 64 x^^^zb 64 (zh x 8589934592))):Int)*18397679294719823053))^^^zb 64 (zh (zp zf (zp zf (↑(BitVec.toNat (zb 64 x^^^zb 64 (zh x 8589934592))):Int)*18397679294719823053)) 8589934592))):Int)) (zp zf (↑(BitVec.toNat (zb 64 (zp zf (zp zf (↑(BitVec.toNat (zb 64 x^^^zb 64 (zh x 8589934592))):Int)*18397679294719823053))^^^zb 64 (zh (zp zf (zp zf (↑(BitVec.toNat (zb 64 x^^^zb 64 (zh x 8589934592))):Int)*18397679294719823053)) 8589934592))):Int)),.i zf (zp zf (↑(BitVec.toNat (zb 64 (zp zf (zp zf (↑(BitVec.toNat (zb 64 x^^^zb 64 (zh x 8589934592))):Int)*18397679294719823053))^^^zb 64 (zh (zp zf (zp zf (↑(BitVec.toNat (zb 64 x^^^zb 64 (zh x 8589934592))):Int)*18397679294719823053)) 8589934592))):Int)*14181476777654086739) (zp zf (zp zf (↑(BitVec.toNat (zb 64 (zp zf (zp zf (↑(BitVec.toNat (zb 64 x^^^zb 64 (zh x 8589934592))):Int)*18397679294719823053))^^^zb 64 (zh (zp zf (zp zf (↑(BitVec.toNat (zb 64 x^^^zb 64 (zh x 8589934592))):Int)*18397679294719823053)) 8589934592))):Int)*14181476777654086739)),.w (0≤(33:Int)),.s (T.int zf (zh (zp zf (zp zf (↑(BitVec.toNat (zb 64 (zp zf (zp zf (↑(BitVec.toNat (zb 64 x^^^zb 64 (zh x 8589934592))):Int)*18397679294719823053))^^^zb 64 (zh (zp zf (zp zf (↑(BitVec.toNat (zb 64 x^^^zb 64 (zh x 8589934592))):Int)*18397679294719823053)) 8589934592))):Int)*14181476777654086739)) 8589934592))] ⟨oW,o_i rfl,o_i rfl,oW,o_i rfl,o_i rfl,oW,trivial⟩ ?_
 refine gg [.i zf ((↑(BitVec.toNat (zb 64 (zp zf (zp zf (↑(BitVec.toNat (zb 64 (zp zf (zp zf (↑(BitVec.toNat (zb 64 x^^^zb 64 (zh x 8589934592))):Int)*18397679294719823053))^^^zb 64 (zh (zp zf (zp zf (↑(BitVec.toNat (zb 64 x^^^zb 64 (zh x 8589934592))):Int)*18397679294719823053)) 8589934592))):Int)*14181476777654086739))^^^zb 64 (zh (zp zf (zp zf (↑(BitVec.toNat (zb 64 (zp zf (zp zf (↑(BitVec.toNat (zb 64 x^^^zb 64 (zh x 8589934592))):Int)*18397679294719823053))^^^zb 64 (zh (zp zf (zp zf (↑(BitVec.toNat (zb 64 x^^^zb 64 (zh x 8589934592))):Int)*18397679294719823053)) 8589934592))):Int)*14181476777654086739)) 8589934592))):Int)) (zp zf (↑(BitVec.toNat (zb 64 (zp zf (zp zf (↑(BitVec.toNat (zb 64 (zp zf (zp zf (↑(BitVec.toNat (zb 64 x^^^zb 64 (zh x 8589934592))):Int)*18397679294719823053))^^^zb 64 (zh (zp zf (zp zf (↑(BitVec.toNat (zb 64 x^^^zb 64 (zh x 8589934592))):Int)*18397679294719823053)) 8589934592))):Int)*14181476777654086739))^^^zb 64 (zh (zp zf (zp zf (↑(BitVec.toNat (zb 64 (zp zf (zp zf (↑(BitVec.toNat (zb 64 x^^^zb 64 (zh x 8589934592))):Int)*18397679294719823053))^^^zb 64 (zh (zp zf (zp zf (↑(BitVec.toNat (zb 64 x^^^zb 64 (zh x 8589934592))):Int)*18397679294719823053)) 8589934592))):Int)*14181476777654086739)) 8589934592))):Int))] ⟨o_i rfl,trivial⟩ ?_
 exact ge
theorem Aev (l:List Int) (hn:small l): ∀(d i:Nat) (h:Int),i+d=l.length→
  Is cx (.loop 170 [0,1,0,1,1] 0 [.t (.int .u64 h),.t (.sl 1 (l.map ti)),vi l.length,vi i] [])
   ⟨.exit 0,[.t (.int .u64 ((l.drop i).foldl atStep h)),.t (.sl 1 (l.map ti)),vi l.length,vi l.length],[]⟩:=by
 unfold small at hn
 intro d
 induction d with
 |zero=>
  intro i h hi
  rw [Aaf (by omega)]
  refine qq ?_
  refine gg [.b (decide ((i:Int)<(↑(zq l):Int))) false] ⟨fP,trivial⟩ ?_
  refine rT (a:=qz (qx 0) [V.t (T.int zf h),V.t (qk 1 (zz ti l)),vi (↑(zq l):Int),vi (i:Int)] []) ?_
  ((have hq:i=l.length:=by omega);subst hq;rfl)
 |succ d ih=>
  intro i h hi
  have hlt:i<l.length:=by omega
  have ih1:=ih (i+1) (atStep h (gt l i)) (by omega)
  clear ih
  rw [Aah hlt,List.foldl_cons]
  unfold atStep at ih1⊢
  refine qq ?_
  refine gg [.b (decide ((i:Int)<(↑(zq l):Int))) true,.w (0≤(i:Int)),.n (zy (i:Int)) i,.g (zz ti l) i (ti (gt l i)),.i zf (gt l i) (zp zf (gt l i)),.i zf (h+zp zf (gt l i)) (zp zf (h+zp zf (gt l i))),.i zf (zp zf (h+zp zf (gt l i))+11400714819323198485) (zp zf (zp zf (h+zp zf (gt l i))+11400714819323198485)),.a _ _,.i zd ((i:Int)+1) ((↑(i+1):Int)),.a _ _] ⟨tP,oW,nK,o_gt rfl (by assumption) (by intro h;cases h),o_i rfl,o_i rfl,o_i rfl,o_a (Aeo (zp zf (zp zf (h+zp zf (gt l i))+11400714819323198485))),oI,o_a ih1,trivial⟩ ?_
  exact ge
theorem Ahb (seed:Int) (l:List Int) (hn:small l):Fn cx 170 [.int .u64 seed,.sl 1 (l.map ti)] (.int .u64 (chanceAt seed l)):=by
 have h:=Aev l hn l.length 0 (mix seed) (by omega)
 rw [List.drop_zero] at h
 refine qq ?_
 refine gg [.a _ _,.n (zq (zz ti l)) (zq l),.a _ _] ⟨o_a (Aeo seed),o_n (by simp),o_a h,trivial⟩ ?_
 exact ge
theorem Aa0 (n seed:Int) (l:List Int) (hn:n≤1000000) (hl:small l):Fn cx 126 [ti n,.int .u64 seed,.sl 1 (l.map ti)] (ti (below n seed l)):=by
 by_cases h:n<1
 ·have e:below n seed l=0:=by simp [below,h]
  rw [e]
  refine qq ?_
  refine gg [.b (decide (n<1)) true] ⟨t_brp (by assumption),trivial⟩ ?_
  exact ge
 ·have e:below n seed l=(chanceAt seed l).tmod n:=by simp [below,h]
  have hle:= @AfY n seed l (by omega)
  rw [e] at hle⊢
  refine qq ?_
  refine gg [.b (decide (n<1)) false,.a _ _,.i zf n n,.w (n≠(0:Int)),.s (T.int zf (zg (chanceAt seed l) n)),.i zd (zg (chanceAt seed l) n) (zg (chanceAt seed l) n)] ⟨f_brp (by assumption),o_a (Ahb seed l (by assumption)),oU,oW,oI,trivial⟩ ?_
  exact ge
theorem AaQ (v:Int):Fn cx 168 [ti v] (ti (held v)):=by
 refine qq ?_
 refine gg [.a _ _] ⟨o_a (Aar v (-2147483647) 2147483647),trivial⟩ ?_
 exact ge
theorem AbP (a b:Int):Fn cx 116 [ti a,ti b] (ti (subH a b)):=by
 have h1:= @Aec a
 have h2:= @Aec b
 refine qq ?_
 refine gg [.a _ _,.a _ _,.i zd (held a-held b) (held a-held b),.a _ _] ⟨o_a (AaQ a),o_a (AaQ b),oI,o_a (AaQ (held a-held b)),trivial⟩ ?_
 exact ge
theorem Aej (v:Int) (h: -2147483647≤v∧v≤2147483647):Fn cx 184 [ti v] (ti (sizeI v)):=by
 refine qq ?_
 refine gg [.i zd (0-v) (0-v),.s (ti (maxI v (0-v)))] ⟨oI,trivial⟩ ?_
 exact ge
theorem AgS (ax ay bx y:Int):Fn cx 167 [ti ax,ti ay,ti bx,ti y] (ti (farI ax ay bx y)):=by
 have h1: -2147483647≤subH ax bx∧subH ax bx≤2147483647:=Aec
 have h2: -2147483647≤subH ay y∧subH ay y≤2147483647:=Aec
 refine qq ?_
 refine gg [.a _ _,.a _ _,.a _ _,.a _ _,.s (ti (maxI (sizeI (subH ax bx)) (sizeI (subH ay y))))] ⟨o_a (AbP ax bx),o_a (Aej (subH ax bx) ⟨(by omega),(by omega)⟩),o_a (AbP ay y),o_a (Aej (subH ay y) ⟨(by omega),(by omega)⟩),trivial⟩ ?_
 exact ge
theorem Aez (l:List Int) (hn:small l): ∀(d i:Nat) (s:Int),i+d=l.length→ -2147483647≤s∧s≤2147483647→
  Is cx (.loop 120 [0,1,0,1,1] 0 [vi s,.t (.sl 1 (l.map ti)),vi l.length,vi i] [])
   ⟨.exit 0,[vi ((l.drop i).foldl sumStep s),.t (.sl 1 (l.map ti)),vi l.length,vi l.length],[]⟩:=by
 unfold small at hn
 intro d
 induction d with
 |zero=>
  intro i s hi hs
  rw [Aaf (by omega)]
  refine qq ?_
  refine gg [.b (decide ((i:Int)<(↑(zq l):Int))) false] ⟨fP,trivial⟩ ?_
  refine rT (a:=qz (qx 0) [vi s,V.t (qk 1 (zz ti l)),vi (↑(zq l):Int),vi (i:Int)] []) ?_
  ((have hq:i=l.length:=by omega);subst hq;rfl)
 |succ d ih=>
  intro i s hi hs
  have hlt:i<l.length:=by omega
  have ih1:=ih (i+1) (sumStep s (gt l i)) (by omega) Aec
  clear ih
  rw [Aah hlt,List.foldl_cons]
  unfold sumStep at ih1⊢
  have h2:= @Aec (gt l i)
  refine qq ?_
  refine gg [.b (decide ((i:Int)<(↑(zq l):Int))) true,.w (0≤(i:Int)),.n (zy (i:Int)) i,.g (zz ti l) i (ti (gt l i)),.a _ _,.i zd (s+held (gt l i)) (s+held (gt l i)),.a _ _,.i zd ((i:Int)+1) ((↑(i+1):Int)),.a _ _] ⟨tP,oW,nK,o_gt rfl (by assumption) (by intro h;cases h),o_a (AaQ (gt l i)),oI,o_a (AaQ (s+held (gt l i))),oI,o_a ih1,trivial⟩ ?_
  exact ge
theorem AeJ (l:List Int) (hn:small l):Fn cx 120 [.sl 1 (l.map ti)] (ti (sumH l)):=by
 have h:=Aez l hn l.length 0 0 (by omega) (by omega)
 rw [List.drop_zero] at h
 refine qq ?_
 refine gg [.n (zq (zz ti l)) (zq l),.a _ _] ⟨o_n (by simp),o_a h,trivial⟩ ?_
 exact ge
theorem AdD (i:Input):Fn cx 104 [i.enc] (.bool i.right):=by
 refine qq ?_
 refine brp (p:=i.dx≥ -2) (by kernel_rfl) (fun h1=> ?_) (fun h1=> ?_)
 ·refine gg [.tt,.tt,.tt] trivial ?_
  refine brp (p:=i.dx≤2) (by kernel_rfl) (fun h2=> ?_) (fun h2=> ?_)
  ·refine gg [.tt,.tt,.tt] trivial ?_
   refine brp (p:=i.dy≥ -2) (by kernel_rfl) (fun h3=> ?_) (fun h3=> ?_)
   ·refine gg [.tt,.tt,.tt] trivial ?_
    refine rT (a:=qz qj [vb (decide (i.dy≤2))] []) ?_
    (simp_all [Input.right,within];(try (rw [Bool.eq_iff_iff];simp only [decide_eq_true_eq,Bool.and_eq_true];omega));(try (intros;omega)))
   ·refine gg [.ff,.ff,.ff] trivial ?_
    refine rT (a:=qz qj [vb false] []) ?_
    (simp_all [Input.right,within];(try (rw [Bool.eq_iff_iff];simp only [decide_eq_true_eq,Bool.and_eq_true];omega));(try (intros;omega)))
  ·refine gg [.ff,.ff,.ff,.ff,.ff,.ff,.ff] trivial ?_
   refine rT (a:=qz qj [vb false] []) ?_
   (simp_all [Input.right,within];(try (rw [Bool.eq_iff_iff];simp only [decide_eq_true_eq,Bool.and_eq_true];omega));(try (intros;omega)))
 ·refine gg [.ff,.ff,.ff,.ff,.ff,.ff,.ff,.ff,.ff,.ff,.ff] trivial ?_
  refine rT (a:=qz qj [vb false] []) ?_
  (simp_all [Input.right,within];(try (rw [Bool.eq_iff_iff];simp only [decide_eq_true_eq,Bool.and_eq_true];omega));(try (intros;omega)))
theorem Ad1 (i:Input):Fn cx 101 [i.enc] (.bool i.right):=by
 refine qq ?_
 refine brp (p:=i.dx≥ -2) (by kernel_rfl) (fun h1=> ?_) (fun h1=> ?_)
 ·refine gg [.tt,.tt,.tt] trivial ?_
  refine brp (p:=i.dx≤2) (by kernel_rfl) (fun h2=> ?_) (fun h2=> ?_)
  ·refine gg [.tt,.tt,.tt] trivial ?_
   refine brp (p:=i.dy≥ -2) (by kernel_rfl) (fun h3=> ?_) (fun h3=> ?_)
   ·refine gg [.tt,.tt,.tt] trivial ?_
    refine rT (a:=qz qj [vb (decide (i.dy≤2))] []) ?_
    (simp_all [Input.right,within];(try (rw [Bool.eq_iff_iff];simp only [decide_eq_true_eq,Bool.and_eq_true];omega));(try (intros;omega)))
   ·refine gg [.ff,.ff,.ff] trivial ?_
    refine rT (a:=qz qj [vb false] []) ?_
    (simp_all [Input.right,within];(try (rw [Bool.eq_iff_iff];simp only [decide_eq_true_eq,Bool.and_eq_true];omega));(try (intros;omega)))
  ·refine gg [.ff,.ff,.ff,.ff,.ff,.ff,.ff] trivial ?_
   refine rT (a:=qz qj [vb false] []) ?_
   (simp_all [Input.right,within];(try (rw [Bool.eq_iff_iff];simp only [decide_eq_true_eq,Bool.and_eq_true];omega));(try (intros;omega)))
 ·refine gg [.ff,.ff,.ff,.ff,.ff,.ff,.ff,.ff,.ff,.ff,.ff] trivial ?_
  refine rT (a:=qz qj [vb false] []) ?_
  (simp_all [Input.right,within];(try (rw [Bool.eq_iff_iff];simp only [decide_eq_true_eq,Bool.and_eq_true];omega));(try (intros;omega)))
theorem AcO (e:Entity) (i:Input) (he: -1000000≤e.age∧e.age≤1000000):Is cx (.call 109 [.t e.enc,.t i.enc] []) ⟨.ret,[.t (steerE e i).1.enc,vb (steerE e i).2],[]⟩:=by
 have hR:=AdD i
 have hm:= @Ahy e.age 1
 have hm2:= @Ahy 1 e.age
 have hmm:maxI 1 e.age=maxI e.age 1:=by unfold maxI;split<;>split<;>omega
 by_cases hk:e.kind=1
 ·cases hr:i.right with
  |true=>
   rw [hr] at hR
   have hi:=hr
   simp only [Input.right,Bool.and_eq_true,Aad] at hi
   cases hf:i.fire with
   |true=>
    by_cases ha:e.age=0
    ·have e1:steerE e i=({e with vx:=i.dx*32,vy:=i.dy*32,age:=6},true):=by simp [steerE,hk,hr,hf,ha]
     rw [e1]
     refine qq ?_
     refine gg [.b (e.kind !=1) false,.ff,.a _ _,.ff,.ff,.b (!true) false,.i zd (i.dx*32) (i.dx*32)] ⟨f_brn (by assumption),o_a hR,bK,oI,trivial⟩ ?_
     refine bO ?_ ?_
     all_goals
      refine gg [.i zd (i.dy*32) (i.dy*32),.b i.fire true,.tt,.tt,.tt,.b (e.age==0) true] ⟨oI,tB,t_bre (by assumption),trivial⟩ ?_
      exact ge
    ·have e1:steerE e i=({e with vx:=i.dx*32,vy:=i.dy*32,age:=maxI e.age 1-1},false):=by simp [steerE,hk,hr,ha]
     rw [e1]
     refine qq ?_
     refine gg [.b (e.kind !=1) false,.ff,.a _ _,.ff,.ff,.b (!true) false,.i zd (i.dx*32) (i.dx*32)] ⟨f_brn (by assumption),o_a hR,bK,oI,trivial⟩ ?_
     refine bO ?_ ?_
     all_goals
      refine gg [.i zd (i.dy*32) (i.dy*32),.b i.fire true,.tt,.tt,.tt,.b (e.age==0) false,.s (ti (maxI e.age 1)),.i zd (maxI e.age 1-1) (maxI e.age 1-1)] ⟨oI,tB,f_bre (by assumption),oI,trivial⟩ ?_
      refine rT (a:=qz qj [V.t (T.agg [ti e.id,ti e.kind,ti e.x,ti e.y,ti (i.dx*32),ti (i.dy*32),ti e.health,ti (maxI e.age 1-1),ti e.owner]),vb false] []) ?_
      (first|rfl|(simp [zm,hmm];done))
   |false=>
    have e1:steerE e i=({e with vx:=i.dx*32,vy:=i.dy*32,age:=maxI e.age 1-1},false):=by simp [steerE,hk,hr,hf]
    rw [e1]
    refine qq ?_
    refine gg [.b (e.kind !=1) false,.ff,.a _ _,.ff,.ff,.b (!true) false,.i zd (i.dx*32) (i.dx*32)] ⟨f_brn (by assumption),o_a hR,bK,oI,trivial⟩ ?_
    refine bO ?_ ?_
    all_goals
     refine gg [.i zd (i.dy*32) (i.dy*32),.b i.fire false,.ff,.ff,.ff,.ff,.s (ti (maxI e.age 1)),.i zd (maxI e.age 1-1) (maxI e.age 1-1)] ⟨oI,fB,oI,trivial⟩ ?_
     refine rT (a:=qz qj [V.t (T.agg [ti e.id,ti e.kind,ti e.x,ti e.y,ti (i.dx*32),ti (i.dy*32),ti e.health,ti (maxI e.age 1-1),ti e.owner]),vb false] []) ?_
     (first|rfl|(simp [zm,hmm];done))
  |false=>
   rw [hr] at hR
   have e1:steerE e i=(e,false):=by simp [steerE,hr]
   rw [e1]
   refine qq ?_
   refine gg [.b (e.kind !=1) false,.ff,.a _ _,.ff,.ff,.b (!false) true] ⟨f_brn (by assumption),o_a hR,bK,trivial⟩ ?_
   exact ge
 ·have e1:steerE e i=(e,false):=by simp [steerE,hk]
  rw [e1]
  refine qq ?_
  refine gg [.b (e.kind !=1) true,.tt,.tt,.tt,.tt] ⟨t_brn (by assumption),trivial⟩ ?_
  exact ge
theorem AaW (d:Int):Fn cx 164 [ti d] (ti (paceD d)):=by
 have h:= @Ac7 d (-1) 1 (by decide)
 refine qq ?_
 refine gg [.a _ _,.i zd (clamp d (-1) 1*160) (clamp d (-1) 1*160)] ⟨o_a (Aar d (-1) 1),oI,trivial⟩ ?_
 exact ge
theorem AcL (e:Entity) (i:Input) (id:Int):Fn cx 111 [e.enc,i.enc,ti id] ((shootE e i id).enc):=by
 refine qq ?_
 refine bO ?_ ?_
 ·refine gg [.a _ _] ⟨o_a (AaW i.dx),trivial⟩ ?_
  refine bO ?_ ?_
  all_goals
   refine gg [.a _ _] ⟨o_a (AaW i.dy),trivial⟩ ?_
   refine bre (x:=paceD i.dx) (y:=0) (by kernel_rfl) (fun h1=> ?_) (fun h1=> ?_)
   ·refine gg [.tt,.tt,.tt] trivial ?_
    refine bre (x:=paceD i.dy) (y:=0) (by kernel_rfl) (fun h2=> ?_) (fun h2=> ?_)
    ·refine rT (a:=qz qj [V.t (T.agg [ti id,ti 2,ti e.x,ti e.y,ti 160,ti (paceD i.dy),ti 1,ti 0,ti e.id])] []) ?_
     (unfold shootE;first|(rw [if_pos (by simp_all)];rfl)|(rw [if_neg (by simp_all)];rfl))
    ·refine rT (a:=qz qj [V.t (T.agg [ti id,ti 2,ti e.x,ti e.y,ti (paceD i.dx),ti (paceD i.dy),ti 1,ti 0,ti e.id])] []) ?_
     (unfold shootE;first|(rw [if_pos (by simp_all)];rfl)|(rw [if_neg (by simp_all)];rfl))
   ·refine gg [.ff,.ff,.ff,.ff] trivial ?_
    refine rT (a:=qz qj [V.t (T.agg [ti id,ti 2,ti e.x,ti e.y,ti (paceD i.dx),ti (paceD i.dy),ti 1,ti 0,ti e.id])] []) ?_
    (unfold shootE;first|(rw [if_pos (by simp_all)];rfl)|(rw [if_neg (by simp_all)];rfl))
 ·refine gg [.a _ _,.a _ _] ⟨o_a (AaW i.dx),o_a (AaW i.dy),trivial⟩ ?_
  refine bre (x:=paceD i.dx) (y:=0) (by kernel_rfl) (fun h1=> ?_) (fun h1=> ?_)
  ·refine gg [.tt,.tt,.tt] trivial ?_
   refine bre (x:=paceD i.dy) (y:=0) (by kernel_rfl) (fun h2=> ?_) (fun h2=> ?_)
   ·refine rT (a:=qz qj [V.t (T.agg [ti id,ti 2,ti e.x,ti e.y,ti 160,ti (paceD i.dy),ti 1,ti 0,ti e.id])] []) ?_
    (unfold shootE;first|(rw [if_pos (by simp_all)];rfl)|(rw [if_neg (by simp_all)];rfl))
   ·refine rT (a:=qz qj [V.t (T.agg [ti id,ti 2,ti e.x,ti e.y,ti (paceD i.dx),ti (paceD i.dy),ti 1,ti 0,ti e.id])] []) ?_
    (unfold shootE;first|(rw [if_pos (by simp_all)];rfl)|(rw [if_neg (by simp_all)];rfl))
  ·refine gg [.ff,.ff,.ff,.ff] trivial ?_
   refine rT (a:=qz qj [V.t (T.agg [ti id,ti 2,ti e.x,ti e.y,ti (paceD i.dx),ti (paceD i.dy),ti 1,ti 0,ti e.id])] []) ?_
   (unfold shootE;first|(rw [if_pos (by simp_all)];rfl)|(rw [if_neg (by simp_all)];rfl))
theorem Aef (l:List Int) (hn:small l):Fn cx 166 [.sl 1 (l.map ti)] (ti (sumH l)):=by
 refine qq ?_
 refine gg [.a _ _] ⟨o_a (AeJ l (by assumption)),trivial⟩ ?_
 exact ge
theorem Aht (c:Config) (e:Entity) (he: -1000000≤e.age∧e.age≤1000000):Is cx (.call 114 [.t c.enc,.t e.enc] []) ⟨.ret,[.t (goE c e).1.enc,vb (goE c e).2],[]⟩:=by
 have hR:=Ab0 c e
 cases hr:e.right c with
 |false=>
  rw [hr] at hR
  have e1:goE c e=(Entity.zero,false):=by simp [goE,hr]
  rw [e1]
  refine qq ?_
  refine gg [.a _ _,.b (!false) true] ⟨o_a hR,bK,trivial⟩ ?_
  exact ge
 |true=>
  rw [hr] at hR
  have h1:= @Config.width_le c
  have h2:= @Config.height_le c
  have hx:=Aef [e.x,e.vx] (by simp [small])
  have hy:=Aef [e.y,e.vy] (by simp [small])
  have hI:=AbO c (sumH [e.x,e.vx]) (sumH [e.y,e.vy])
  by_cases hk:e.kind=2
  ·by_cases ha:e.age+1>12
   ·have e1:goE c e=(Entity.zero,false):=by simp [goE,hr,hk,ha]
    rw [e1]
    refine qq ?_
    refine gg [.a _ _,.b (!true) false] ⟨o_a hR,bK,trivial⟩ ?_
    refine bO (bO ?_ ?_) ?_
    all_goals
     refine gg [.a _ _,.a _ _,.b (e.kind==2) true,.i zd (e.age+1) (e.age+1),.b (decide (e.age+1>12)) true,.tt,.tt,.tt,.tt,.tt,.tt] ⟨o_a hx,o_a hy,t_bre (by assumption),oI,t_brp (by assumption),trivial⟩ ?_
     exact ge
   ·cases hi:c.inside (sumH [e.x,e.vx]) (sumH [e.y,e.vy]) with
    |true=>
     rw [hi] at hI
     have e1:goE c e=({e with x:=clamp (sumH [e.x,e.vx]) 0 (c.width-1),y:=clamp (sumH [e.y,e.vy]) 0 (c.height-1),age:=e.age+1},true):=by simp [goE,hr,hk,ha,hi]
     rw [e1]
     refine qq ?_
     refine gg [.a _ _,.b (!true) false] ⟨o_a hR,bK,trivial⟩ ?_
     refine bO (bO ?_ ?_) ?_
     all_goals
      refine gg [.a _ _,.a _ _,.b (e.kind==2) true,.i zd (e.age+1) (e.age+1),.b (decide (e.age+1>12)) false,.ff,.ff,.ff,.a _ _,.ff,.ff,.b (!true) false,.a _ _,.i zd (Config.width c-1) (Config.width c-1),.a _ _,.a _ _] ⟨o_a hx,o_a hy,t_bre (by assumption),oI,f_brp (by assumption),o_a hI,bK,o_a (Abt c),oI,o_a (Aar (sumH [e.x,e.vx]) 0 (Config.width c-1)),o_a (Abd c),trivial⟩ ?_
      refine gg [.i zd (Config.height c-1) (Config.height c-1),.a _ _] ⟨oI,o_a (Aar (sumH [e.y,e.vy]) 0 (Config.height c-1)),trivial⟩ ?_
      exact ge
    |false=>
     rw [hi] at hI
     have e1:goE c e=(Entity.zero,false):=by simp [goE,hr,hk,hi]
     rw [e1]
     refine qq ?_
     refine gg [.a _ _,.b (!true) false] ⟨o_a hR,bK,trivial⟩ ?_
     refine bO (bO ?_ ?_) ?_
     all_goals
      refine gg [.a _ _,.a _ _,.b (e.kind==2) true,.i zd (e.age+1) (e.age+1),.b (decide (e.age+1>12)) false,.ff,.ff,.ff,.a _ _,.ff,.ff,.b (!false) true] ⟨o_a hx,o_a hy,t_bre (by assumption),oI,f_brp (by assumption),o_a hI,bK,trivial⟩ ?_
      exact ge
  ·have e1:goE c e=({e with x:=clamp (sumH [e.x,e.vx]) 0 (c.width-1),y:=clamp (sumH [e.y,e.vy]) 0 (c.height-1)},true):=by simp [goE,hr,hk]
   rw [e1]
   refine qq ?_
   refine gg [.a _ _,.b (!true) false] ⟨o_a hR,bK,trivial⟩ ?_
   refine bO (bO ?_ ?_) ?_
   all_goals
    refine gg [.a _ _,.a _ _,.b (e.kind==2) false,.a _ _,.i zd (Config.width c-1) (Config.width c-1),.a _ _,.a _ _,.i zd (Config.height c-1) (Config.height c-1),.a _ _] ⟨o_a hx,o_a hy,f_bre (by assumption),o_a (Abt c),oI,o_a (Aar (sumH [e.x,e.vx]) 0 (Config.width c-1)),o_a (Abd c),oI,o_a (Aar (sumH [e.y,e.vy]) 0 (Config.height c-1)),trivial⟩ ?_
    exact ge
end Go.Eva.S5
namespace Go.Eva
theorem AiP {c:Config} {e:Entity} (h:(goE c e).2=true):(goE c e).1.id=e.id∧(goE c e).1.kind=e.kind∧(goE c e).1.health=e.health∧(goE c e).1.owner=e.owner:=by
 unfold goE at h⊢
 split
 ·rename_i h1;rw [if_pos h1] at h;simp at h
 ·rename_i h1
  rw [if_neg h1] at h
  split
  ·rename_i h2
   rw [if_pos h2] at h
   split
   ·rename_i h3;rw [if_pos h3] at h;simp at h
   ·simp
  ·simp
theorem Adc {c:Config} {e:Entity} (h:e.right c=true):c.right=true∧(0≤e.x∧e.x<c.width)∧(0≤e.y∧e.y<c.height):=by
 simp only [Entity.right,Bool.and_eq_true] at h
 have hr:=Config.inside_right h.1
 have:=h.1
 simp only [Config.inside,Bool.and_eq_true,Aad] at this
 exact ⟨hr,by omega,by omega⟩
theorem Aio {c:Config} {e:Entity} (h:e.right c=true):(-160≤e.vx∧e.vx≤160)∧(-160≤e.vy∧e.vy≤160)∧(e.kind=1∨e.kind=2∨e.kind=3)∧(e.kind=3→e.vx=0∧e.vy=0):=by
 simp only [Entity.right,Bool.and_eq_true] at h
 have h2:=h.2
 by_cases k1:e.kind=1
 ·rw [if_pos k1] at h2
  simp only [Bool.and_eq_true,Aad,decide_eq_true_eq] at h2
  omega
 ·rw [if_neg k1] at h2
  by_cases k2:e.kind=2
  ·rw [if_pos k2] at h2
   simp only [Bool.and_eq_true,Aad,decide_eq_true_eq,pace,Bool.or_eq_true] at h2
   omega
  ·rw [if_neg k2] at h2
   by_cases k3:e.kind=3
   ·rw [if_pos k3] at h2
    simp only [Bool.and_eq_true,Aad,decide_eq_true_eq] at h2
    omega
   ·rw [if_neg k3] at h2;contradiction
theorem AhD {v hi:Int} (h:0≤v∧v≤hi):clamp v 0 hi=v:=by unfold clamp;rw [if_neg (by omega),if_neg (by omega)]
theorem Af1 {v d hi:Int} (h:0≤v∧v≤hi) (hd: -160≤d∧d≤160):v-160≤clamp (v+d) 0 hi∧clamp (v+d) 0 hi≤v+160:=by unfold clamp;split<;>(try split)<;>omega
theorem Aif {c:Config} {e:Entity} (h:(goE c e).2=true):(goE c e).1.right c=true∧e.right c=true∧(e.x-160≤(goE c e).1.x∧(goE c e).1.x≤e.x+160)∧(e.y-160≤(goE c e).1.y∧(goE c e).1.y≤e.y+160):=by
 have hr:e.right c=true:=by
  cases hq:e.right c with
  |true=>rfl
  |false=>unfold goE at h;rw [if_pos hq] at h;simp at h
 obtain ⟨hc,hx,hy⟩:=Adc hr
 obtain ⟨vx,vy,hk,_⟩:=Aio hr
 have hw:= @Config.width_le c
 have hh:= @Config.height_le c
 have ax:sumH [e.x,e.vx]=e.x+e.vx:=AjC (by omega) (by omega)
 have ay:sumH [e.y,e.vy]=e.y+e.vy:=AjC (by omega) (by omega)
 have cx:=Af1 (v:=e.x) (d:=e.vx) (hi:=c.width-1) (by omega) vx
 have cy:=Af1 (v:=e.y) (d:=e.vy) (hi:=c.height-1) (by omega) vy
 have bx:=Ac7 (v:=e.x+e.vx) (lo:=0) (hi:=c.width-1) (by omega)
 have bY:=Ac7 (v:=e.y+e.vy) (lo:=0) (hi:=c.height-1) (by omega)
 refine ⟨?_,hr,?_⟩
 ·have hin:c.inside (clamp (e.x+e.vx) 0 (c.width-1)) (clamp (e.y+e.vy) 0 (c.height-1))=true:=by
   simp only [Config.inside,Bool.and_eq_true,Aad]
   exact ⟨bx,bY⟩
  unfold goE at h⊢
  rw [ax,ay] at h⊢
  rw [if_neg (by simp [hr])] at h⊢
  simp only [Entity.right,Bool.and_eq_true] at hr
  have hr2:=hr.2
  by_cases k2:e.kind=2
  ·rw [if_pos k2] at h⊢
   by_cases k3:e.age+1>12∨c.inside (e.x+e.vx) (e.y+e.vy)=false
   ·rw [if_pos k3] at h;simp at h
   ·rw [if_neg k3]
    simp only [Entity.right,hin,Bool.true_and,if_neg (show¬e.kind=1 by omega),if_pos k2] at hr2⊢
    simp only [Bool.and_eq_true,Aad] at hr2⊢
    refine ⟨⟨hr2.1.1,?_⟩,hr2.2⟩
    have:=hr2.1.2
    omega
  ·rw [if_neg k2]
   simp only [Entity.right,hin,Bool.true_and]
   exact hr2
 ·unfold goE at h⊢
  rw [ax,ay] at h⊢
  rw [if_neg (by simp [hr])] at h⊢
  by_cases k2:e.kind=2
  ·rw [if_pos k2] at h⊢
   by_cases k3:e.age+1>12∨c.inside (e.x+e.vx) (e.y+e.vy)=false
   ·rw [if_pos k3] at h;simp at h
   ·rw [if_neg k3];exact ⟨cx,cy⟩
  ·rw [if_neg k2];exact ⟨cx,cy⟩
def weak (c:Config) (e:Entity):Prop:=({e with health:=1}:Entity).right c=true∧e.health≤100∧(e.kind≠1→e.health=1)
theorem Af7 {c:Config} {e:Entity} (h:e.right c=true):weak c e∧1≤e.health:=by
 unfold weak
 simp only [Entity.right,Bool.and_eq_true] at h⊢
 by_cases k1:e.kind=1
 ·simp only [k1,if_true,Bool.and_eq_true,Aad,decide_eq_true_eq] at h⊢
  obtain ⟨h0,h⟩:=h
  refine ⟨⟨⟨h0,?_⟩,?_,fun q=>absurd rfl q⟩,?_⟩<;>omega
 ·simp only [if_neg k1] at h⊢
  by_cases k2:e.kind=2
  ·simp only [if_pos k2,Bool.and_eq_true,decide_eq_true_eq] at h⊢
   simp only [h,and_self,true_and,implies_true,and_true]
   omega
  ·simp only [if_neg k2] at h⊢
   by_cases k3:e.kind=3
   ·simp only [if_pos k3,Bool.and_eq_true,decide_eq_true_eq] at h⊢
    simp only [h,and_self,true_and,implies_true,and_true]
    omega
   ·simp [k3] at h
structure Moved (c:Config) (r:Int) (l:List Entity):Prop where
 srt:Srt l
 things:things l≤24
 ents: ∀e∈l,weak c e∧has (c.near r) (c.of e.x e.y)=true
theorem AfB {l m:List Entity} (h:l.Sublist m):things l≤things m:=by
 unfold things
 have:=h.countP_le (p:=fun e:Entity=>e.kind !=1)
 omega
end Go.Eva
namespace Go.Eva
theorem AgO {cols r m:Int}: ∀ {d:Nat} {n:Int},has (nearR cols r n d) m=true↔(n≤m∧m<n+d)∧isNear cols r m=true
 |0,n=>by simp [nearR,has];omega
 |d+1,n=>by
  have ih:= @AgO cols r m d (n+1)
  unfold has at ih⊢
  rw [nearR,List.any_append,Bool.or_eq_true,ih]
  constructor
  ·rintro (h|⟨h1,h2⟩)
   ·split at h
    ·rename_i hn
     simp only [List.any_cons,List.any_nil,Bool.or_false,beq_iff_eq] at h
     subst h
     exact ⟨by omega,hn⟩
    ·simp at h
   ·exact ⟨by omega,h2⟩
  ·rintro ⟨h1,h2⟩
   by_cases hnm:n=m
   ·subst hnm
    left
    rw [if_pos h2];simp
   ·right
    exact ⟨by omega,h2⟩
theorem Aia {c:Config} {r m:Int} (h:c.is r=true):has (c.near r) m=true↔(0≤m∧m<c.cols*c.rows)∧isNear c.cols r m=true:=by
 have hr:=Config.is_right h
 have hi:=(Config.is_iff hr).1 h
 obtain ⟨hc,hrr,_⟩:=Config.right_iff.1 hr
 have hN:c.near r=nearR c.cols r 0 (c.cols*c.rows).toNat:=by rw [AkK hc hrr hi];simp [Config.near,h]
 rw [hN,AgO]
 have:=Config.mul_le hr
 constructor
 ·rintro ⟨h1,h2⟩;exact ⟨by omega,h2⟩
 ·rintro ⟨h1,h2⟩;exact ⟨by omega,h2⟩
theorem AjF {a q p:Int} (ha:0<a) (hp:0≤p∧p<a) (hq:0≤q):(q*a+p).tmod a=p∧(q*a+p).tdiv a=q:=by
 have h0:0≤q*a:=Int.mul_nonneg hq (by omega)
 rw [Int.tmod_eq_emod_of_nonneg (by omega),Int.tdiv_eq_ediv_of_nonneg (by omega)]
 constructor
 ·rw [Int.add_comm,Int.add_mul_emod_self_right,Int.emod_eq_of_lt hp.1 hp.2]
 ·rw [Int.add_comm,Int.add_mul_ediv_right _ _ (by omega),Int.ediv_eq_zero_of_lt hp.1 hp.2];omega
theorem of_eq {c:Config} {x y:Int} (hr:c.right=true) (hx:0≤x∧x<c.width) (hy:0≤y∧y<c.height):c.of x y=y.tdiv 1024*c.cols+x.tdiv 1024∧(0≤x.tdiv 1024∧x.tdiv 1024<c.cols)∧(0≤y.tdiv 1024∧y.tdiv 1024<c.rows):=by
 have h:=Config.right_iff.1 hr
 have hw:c.width=c.cols*1024:=by simp [Config.width,hr]
 have hh:c.height=c.rows*1024:=by simp [Config.height,hr]
 refine ⟨?_,Aby (by omega) hx.1 (by omega),Aby (by omega) hy.1 (by omega)⟩
 unfold Config.of
 rw [if_pos hr,AhD (by omega),AhD (by omega)]
theorem of_is {c:Config} {x y:Int} (hr:c.right=true) (hx:0≤x∧x<c.width) (hy:0≤y∧y<c.height):c.is (c.of x y)=true:=by
 obtain ⟨h1,h2,h3⟩:=of_eq hr hx hy
 obtain ⟨hc,hrr,_⟩:=Config.right_iff.1 hr
 rw [Config.is_iff hr,h1]
 have h4:y.tdiv 1024*c.cols≤(c.rows-1)*c.cols:=Int.mul_le_mul_of_nonneg_right (by omega) (by omega)
 have h5:0≤y.tdiv 1024*c.cols:=Int.mul_nonneg (by omega) (by omega)
 have h6:(c.rows-1)*c.cols=c.cols*c.rows-c.cols:=by rw [Int.sub_mul,Int.one_mul,Int.mul_comm]
 omega
theorem Aj0 {c:Config} {x y u v:Int} (hr:c.right=true) (hx:0≤x∧x<c.width) (hy:0≤y∧y<c.height) (hu:0≤u∧u<c.width) (hv:0≤v∧v<c.height)
  (h1:x-160≤u∧u≤x+160) (h2:y-160≤v∧v≤y+160):has (c.near (c.of x y)) (c.of u v)=true:=by
 rw [Aia (of_is hr hx hy)]
 have hi:=(Config.is_iff hr).1 (of_is hr hu hv)
 refine ⟨hi,?_⟩
 obtain ⟨a1,a2,a3⟩:=of_eq hr hx hy
 obtain ⟨b1,b2,b3⟩:=of_eq hr hu hv
 obtain ⟨hc,hrr,_⟩:=Config.right_iff.1 hr
 have p:=AjF (a:=c.cols) (q:=y.tdiv 1024) (p:=x.tdiv 1024) (by omega) a2 a3.1
 have q:=AjF (a:=c.cols) (q:=v.tdiv 1024) (p:=u.tdiv 1024) (by omega) b2 b3.1
 unfold isNear
 rw [a1,b1,p.1,p.2,q.1,q.2,decide_eq_true_eq]
 rw [Int.tdiv_eq_ediv_of_nonneg hx.1,Int.tdiv_eq_ediv_of_nonneg hy.1,Int.tdiv_eq_ediv_of_nonneg hu.1,Int.tdiv_eq_ediv_of_nonneg hv.1]
 omega
theorem AjM {c:Config} {r:Int} (h:c.is r=true):has (c.near r) r=true:=by
 rw [Aia h]
 exact ⟨(Config.is_iff (Config.is_right h)).1 h,by simp [isNear]⟩
end Go.Eva
namespace Go.Eva
theorem Ahi {α:Type} [Inhabited α] {l:List α} {i:Nat} (h:i<l.length):l.set i (gt l i)=l:=by
 rw [gt_eq h];exact List.set_getElem_self h
def core (e:Entity):Entity:=if e.kind=1 then {e with health:=0} else e
theorem AeS {a b:Entity} (h:core a=core b):a.id=b.id∧a.kind=b.kind∧a.x=b.x∧a.y=b.y∧a.vx=b.vx∧a.vy=b.vy∧a.age=b.age∧a.owner=b.owner∧(a.kind≠1→a=b):=by
 have hk: ∀e:Entity,(core e).kind=e.kind:=fun e=>by unfold core;split<;>rfl
 have e1:a.kind=b.kind:=by rw [←hk a,←hk b,h]
 unfold core at h
 by_cases k:a.kind=1
 ·rw [if_pos k,if_pos (by omega)] at h
  cases a;cases b
  simp only [Entity.mk.injEq] at h⊢
  simp_all
 ·rw [if_neg k,if_neg (by omega)] at h
  subst h
  simp
theorem AeB {e:Entity} {n:Int} (h:e.kind=1):core {e with health:=n}=core e:=by
 unfold core;simp only [h,if_true]
theorem AjR {l:List Entity} {k:Nat} {n:Int} (hk:k<l.length) (h:(gt l k).kind=1):(l.set k {gt l k with health:=n}).map core=l.map core:=by
 rw [List.map_set,AeB h]
 apply List.ext_getElem?
 intro i
 rw [List.getElem?_set]
 split
 ·rename_i hik
  subst hik
  rw [List.length_map,if_pos hk,List.getElem?_map,AdE hk,Option.map_some]
 ·rfl
theorem Aic {l m:List Entity} (h:l.map core=m.map core) {e:Entity} (he:e∈l): ∃x∈m,core e=core x:=by
 have:core e∈l.map core:=List.mem_map_of_mem he
 rw [h] at this
 obtain ⟨x,h1,h2⟩:=List.mem_map.1 this
 exact ⟨x,h1,h2.symm⟩
theorem Ah2 {l m:List Entity} (h:l.map core=m.map core):l.map Entity.id=m.map Entity.id:=by
 have hk: ∀e:Entity,(core e).id=e.id:=fun e=>by unfold core;split<;>rfl
 have h2:=congrArg (zz Entity.id) h
 rw [List.map_map,List.map_map] at h2
 have e:Entity.id∘core=Entity.id:=funext hk
 rwa [e] at h2
theorem Ai7 {l m:List Entity} (h:l.map core=m.map core):l.map Entity.kind=m.map Entity.kind:=by
 have hk: ∀e:Entity,(core e).kind=e.kind:=fun e=>by unfold core;split<;>rfl
 have h2:=congrArg (zz Entity.kind) h
 rw [List.map_map,List.map_map] at h2
 have e:Entity.kind∘core=Entity.kind:=funext hk
 rwa [e] at h2
theorem AeV {l m:List Entity} (h:l.map core=m.map core):things l=things m:=by
 have h2:=Ai7 h
 have e: ∀l:List Entity,things l=((l.map Entity.kind).countP fun k=>k !=1:Nat):=fun l=>by
  unfold things;rw [List.countP_map];rfl
 rw [e,e,h2]
theorem Aja {l m:List Entity} (h:l.map core=m.map core) {i:Nat} (hi:i<l.length):core (gt l i)=core (gt m i):=by
 have hl:l.length=m.length:=by simpa using congrArg zq h
 have:=congrArg (fun x=>x[i]?) h
 simp only [List.getElem?_map,AdE hi,AdE (l:=m) (i:=i) (by omega),Option.map_some,Option.some.injEq] at this
 exact this
theorem Ag1 {c:Config} {a b:Entity} (h:core a=core b) (hb:weak c b) (ha:a.kind=1→a.health≤100):weak c a:=by
 obtain ⟨h1,h2,h3,h4,h5,h6,h7,h8,h9⟩:=AeS h
 by_cases k:a.kind=1
 ·refine ⟨?_,ha k,fun q=>absurd k q⟩
  have:=hb.1
  have e:({a with health:=1}:Entity)= {b with health:=1}:=by cases a;cases b;simp_all
  rw [e];exact this
 ·rw [h9 k];exact hb
theorem Aiy {c:Config} {r:Int} {l m:List Entity} (h:l.map core=m.map core) (hm:Moved c r m) (hh: ∀e∈l,e.kind=1→e.health≤100):Moved c r l:=by
 refine ⟨Ahd (Ah2 h).symm hm.srt,by rw [AeV h];exact hm.things,fun e he=> ?_⟩
 obtain ⟨x,hx,hc⟩:=Aic h he
 obtain ⟨h1,h2⟩:=hm.ents x hx
 refine ⟨Ag1 hc h1 (hh e he),?_⟩
 obtain ⟨_,_,k3,k4,_⟩:=AeS hc
 rw [k3,k4];exact h2
section
variable {kind far:Int} {other:Entity→Entity→Bool} {turn:Int→Int}
theorem Akr {out:List Entity} {gone:List Bool} {i:Nat} (hk:kind≠1) (hi:i<out.length) (hg:gone.length=out.length) (ht: ∀n,n≤100→turn n≤100) (hh: ∀e∈out,e.kind=1→e.health≤100) (hf: ∀j,gt gone j=true→(gt out j).kind=kind):
  (meet1 kind far other turn out gone i).1.map core=out.map core∧(∀e∈(meet1 kind far other turn out gone i).1,e.kind=1→e.health≤100)∧
   (meet1 kind far other turn out gone i).2.length=out.length∧ ∀j,gt (meet1 kind far other turn out gone i).2 j=true→(gt (meet1 kind far other turn out gone i).1 j).kind=kind:=by
 unfold meet1
 split
 ·rename_i hki
  split
  ·rename_i k hq
   obtain ⟨hk1,hk2,_⟩:=List.findIdx?_eq_some_iff_getElem.1 hq
   simp only [meetP,Bool.and_eq_true,decide_eq_true_eq] at hk2
   rw [←gt_eq hk1] at hk2
   have hc:=AjR (n:=turn (gt out k).health) hk1 hk2.1
   refine ⟨hc,fun e he hek=> ?_,by simpa using hg,fun j hj=> ?_⟩
   ·rcases AjD he with rfl|he
    ·exact ht _ (hh _ (Abu hk1) hk2.1)
    ·exact hh e he hek
   ·have hlen:(out.set k {gt out k with health:=turn (gt out k).health}).length=out.length:=by simp
    by_cases hij:j=i
    ·subst hij
     have:=AeS (Aja hc (i:=j) (by rw [hlen];exact hi))
     simp only
     rw [this.2.1];exact hki
    ·simp only at hj⊢
     rw [Ajv (by omega),if_neg hij] at hj
     have hj2:=hf j hj
     by_cases hjl:j<out.length
     ·have:=AeS (Aja hc (i:=j) (by rw [hlen];exact hjl))
      rw [this.2.1];exact hj2
     ·exfalso
      unfold gt at hj
      rw [List.getElem?_eq_none (by omega)] at hj
      simp at hj
  ·exact ⟨rfl,hh,hg,hf⟩
 ·exact ⟨rfl,hh,hg,hf⟩
theorem Aid (hk:kind≠1) (ht: ∀n,n≤100→turn n≤100): ∀ {d i:Nat} {out:List Entity} {gone:List Bool},i+d=out.length→gone.length=out.length→(∀e∈out,e.kind=1→e.health≤100)→(∀j,gt gone j=true→(gt out j).kind=kind)→
  (meetN kind far other turn d i out gone).1.map core=out.map core∧(∀e∈(meetN kind far other turn d i out gone).1,e.kind=1→e.health≤100)∧
   (meetN kind far other turn d i out gone).2.length=out.length∧ ∀j,gt (meetN kind far other turn d i out gone).2 j=true→(gt (meetN kind far other turn d i out gone).1 j).kind=kind
 |0,i,out,gone,_,hg,hh,hf=>⟨rfl,hh,hg,hf⟩
 |d+1,i,out,gone,hi,hg,hh,hf=>by
  obtain ⟨h1,h2,h3,h4⟩:=Akr (far:=far) (other:=other) (turn:=turn) (i:=i) hk (by omega) hg ht hh hf
  have hl:(meet1 kind far other turn out gone i).1.length=out.length:=by simpa using congrArg zq h1
  obtain ⟨k1,k2,k3,k4⟩:=Aid hk ht (d:=d) (i:=i+1) (by omega) (by omega) h2 h4
  rw [meetN]
  exact ⟨k1.trans h1,k2,by omega,k4⟩
theorem Ad0: ∀ {l:List Entity} {g:List Bool},(keepL l g).Sublist l
 | [],_=>by simp [keepL]
 |e::l,[]=>by simp [keepL]
 |e::l,b::g=>by
  rw [keepL]
  split
  ·exact (Ad0 (l:=l) (g:=g)).cons _
  ·exact (Ad0 (l:=l) (g:=g)).cons_cons _
theorem Ad9: ∀ {l:List Entity} {g:List Bool},g.length=l.length→(∀j,gt g j=true→(gt l j).kind≠1)→(keepL l g).filter (fun e=>decide (e.kind=1))=l.filter fun e=>decide (e.kind=1)
 | [],_,_,_=>by simp [keepL]
 |e::l,[],h,_=>by simp at h
 |e::l,b::g,h,hf=>by
  rw [keepL,List.filter_append,Ad9 (l:=l) (g:=g) (by simpa using h) fun j hj=>hf (j+1) hj]
  split
  ·rename_i hb
   have:=hf 0 hb
   rw [List.filter_cons,if_neg (by simpa [gt] using this)]
   simp
  ·rw [List.filter_cons,List.filter_cons]
   split<;>simp
end
structure Hit (l m:List Entity):Prop where
 sub: ∃k:List Entity,l.Sublist k∧k.map core=m.map core∧l.filter (fun e=>decide (e.kind=1))=k.filter fun e=>decide (e.kind=1)
 low: ∀e∈l,e.kind=1→e.health≤100
theorem Ag9 {kind far:Int} {other:Entity→Entity→Bool} {turn:Int→Int} {l:List Entity} (hk:kind≠1) (ht: ∀n,n≤100→turn n≤100) (hh: ∀e∈l,e.kind=1→e.health≤100):Hit (meetL kind far other turn l) l:=by
 obtain ⟨h1,h2,h3,h4⟩:=Aid (far:=far) (other:=other) (turn:=turn) hk ht (d:=l.length) (i:=0) (out:=l) (gone:=zj l.length false) (by omega) (by simp) hh fun j hj=>by
  exfalso
  unfold gt at hj
  rw [List.getElem?_replicate] at hj
  split at hj<;>simp at hj
 have hl:(meetN kind far other turn l.length 0 l (zj l.length false)).1.length=l.length:=by simpa using congrArg zq h1
 refine ⟨⟨_,Ad0,h1,Ad9 (by omega) fun j hj=>by rw [h4 j hj];exact hk⟩,fun e he=>h2 e (Ad0.subset he)⟩
theorem Hit.moved {c:Config} {r:Int} {l m:List Entity} (h:Hit l m) (hm:Moved c r m):Moved c r l:=by
 obtain ⟨⟨k,h1,h2,h3⟩,h4⟩:=h
 refine ⟨(Ahd (Ah2 h2).symm hm.srt).sublist h1,?_,fun e he=> ?_⟩
 ·have:=AfB h1
  rw [AeV h2] at this
  have:=hm.things
  omega
 ·obtain ⟨x,hx,hc⟩:=Aic h2 (h1.subset he)
  obtain ⟨g1,g2⟩:=hm.ents x hx
  refine ⟨Ag1 hc g1 (h4 e he),?_⟩
  obtain ⟨_,_,k3,k4,_⟩:=AeS hc
  rw [k3,k4];exact g2
theorem Akz {k m:List Entity} (h:k.map core=m.map core):(k.filter fun e=>decide (e.kind=1)).map Entity.id=(m.filter fun e=>decide (e.kind=1)).map Entity.id:=by
 have hk: ∀e:Entity,(core e).kind=e.kind:=fun e=>by unfold core;split<;>rfl
 have hi: ∀e:Entity,(core e).id=e.id:=fun e=>by unfold core;split<;>rfl
 have e: ∀l:List Entity,(l.filter fun e=>decide (e.kind=1)).map Entity.id=((l.map core).filter fun e=>decide (e.kind=1)).map Entity.id:=fun l=>by
  rw [List.filter_map,List.map_map]
  have e1:Entity.id∘core=Entity.id:=funext hi
  have e2:(fun e:Entity=>decide (e.kind=1))∘core=fun e=>decide (e.kind=1):=funext fun e=>by simp [hk]
  rw [e1,e2]
 rw [e k,e m,h]
theorem Hit.players {l m:List Entity} (h:Hit l m):(l.filter fun e=>decide (e.kind=1)).map Entity.id=(m.filter fun e=>decide (e.kind=1)).map Entity.id:=by
 obtain ⟨⟨k,h1,h2,h3⟩,h4⟩:=h
 rw [h3,Akz h2]
theorem Afd {l:List Entity} (hh: ∀e∈l,e.kind=1→e.health≤100):Hit (shotsL l) l:=
 Ag9 (by decide) (fun n hn=>by
  unfold subH
  have h1:held n≤100:=by unfold held clamp;split<;>(try split)<;>omega
  rw [show held 20=20 by decide]
  unfold held clamp at*
  split<;>(try split)<;>omega) hh
theorem AhA {l:List Entity} (hh: ∀e∈l,e.kind=1→e.health≤100):Hit (gemsL l) l:=
 Ag9 (by decide) (fun n hn=>by unfold minI;split<;>omega) hh
theorem Ahm {bs:List Cross}: ∀ {l:List Entity},(∀e∈l,e.kind=1→e.health≤100)→(blastsL l bs).map core=l.map core∧ ∀e∈blastsL l bs,e.kind=1→e.health≤100:=by
 induction bs with
 |nil=>intro l h;exact ⟨rfl,h⟩
 |cons b bs ih=>
  intro l h
  have h1:(l.map (hurtE b)).map core=l.map core:=by
   rw [List.map_map]
   congr 1
   funext e
   simp only [Function.comp,hurtE]
   split
   ·rename_i hq;exact AeB hq.2.1
   ·rfl
  have h2: ∀e∈l.map (hurtE b),e.kind=1→e.health≤100:=by
   intro e he hk
   obtain ⟨x,hx,rfl⟩:=List.mem_map.1 he
   unfold hurtE at hk⊢
   split
   ·rename_i hq
    have:=h x hx hq.2.1
    simp only [subH]
    have h1:held x.health≤100:=by unfold held clamp;split<;>(try split)<;>omega
    rw [show held 10=10 by decide]
    unfold held clamp at*
    split<;>(try split)<;>omega
   ·rename_i hq
    rw [if_neg hq] at hk
    exact h x hx hk
  obtain ⟨k1,k2⟩:=ih h2
  exact ⟨k1.trans h1,k2⟩
end Go.Eva
namespace Go.Eva
theorem AkN {l:List Entity} {id:Int} {i k:Nat} (hi:i<l.length) (h:(gt l i).id=id) (hk:find l id=k):k≤i:=by
 unfold find pos at hk
 cases hq:l.findIdx? fun e=>e.id==id with
 |none=>
  have:=List.findIdx?_eq_none_iff.1 hq _ (Abu hi)
  simp [h] at this
 |some j=>
  rw [hq] at hk
  simp only at hk
  obtain rfl:j=k:=by omega
  obtain ⟨hj,_,h2⟩:=List.findIdx?_eq_some_iff_getElem.1 hq
  rcases Nat.lt_or_ge i j with hlt|hge
  ·have:=h2 i hlt
   rw [←gt_eq hi] at this
   simp [h] at this
  ·exact hge
theorem Ae8 {l:List Entity} {e:Entity} {id:Int} (h: ∃x∈l,x.id=id): ∃x∈put1 l e,x.id=id:=by
 obtain ⟨x,h1,h2⟩:=h
 exact ⟨x,Aga x h1,h2⟩
theorem Ac5 {l:List Entity} {p e:Entity} {id:Int} (hp: ∃x∈l,x.id=p.id) (he:e.id=p.id) (h: ∃x∈l,x.id=id): ∃x∈setId l p.id e,x.id=id:=by
 refine Ahu ?_ h
 rw [←he]
 rw [←he] at hp
 exact (Ag4 hp).symm
theorem AbT {l:List Entity} {id:Int} {e:Entity} {k:Nat} (h:find l id=k):setId l id e=l.set k e:=by
 unfold setId;rw [h];rfl
theorem Ag6 {α:Type} [Inhabited α] {l:List α} {k j:Nat} {x:α} (h:j≠k):gt (l.set k x) j=gt l j:=by
 unfold gt;rw [List.getElem?_set_ne (by omega)]
theorem Ajn {α:Type} [Inhabited α] {A B:List α} {i:Nat} (hl:A.length=B.length) (h: ∀j,i≤j→j<B.length→gt A j=gt B j):A.drop i=B.drop i:=by
 refine Ahf (by simp [hl]) fun j hj=> ?_
 have e: ∀l:List α,gt (l.drop i) j=gt l (i+j):=fun l=>by unfold gt;rw [List.getElem?_drop]
 rw [e,e]
 simp only [List.length_drop] at hj
 exact h _ (by omega) (by omega)
end Go.Eva
namespace Go.Eva
theorem Ai8 {l:List Entity} {g:Entity→Entity} (h: ∀e∈l,(g e).kind=e.kind):things (l.map g)=things l:=by
 unfold things
 rw [List.countP_map]
 congr 1
 refine List.countP_congr fun e he=> ?_
 simp [h e he]
theorem AdX {c:Config} {r:Int} {A:List Entity} (h:Sane c r A):Moved c r (moveL c A)∧ ∀e∈moveL c A,e.right c=true:=by
 have hmem: ∀e∈moveL c A,∃x∈A,(goE c x).2=true∧e=(goE c x).1:=by
  intro e he
  unfold moveL at he
  obtain ⟨x,hx,rfl⟩:=List.mem_map.1 he
  obtain ⟨h1,h2⟩:=List.mem_filter.1 hx
  exact ⟨x,h1,h2,rfl⟩
 have hr: ∀e∈moveL c A,e.right c=true:=by
  intro e he
  obtain ⟨x,hx,hg,rfl⟩:=hmem e he
  exact (Aif hg).1
 refine ⟨⟨?_,?_,fun e he=>⟨(Af7 (hr e he)).1,?_⟩⟩,hr⟩
 ·unfold moveL
  rw [Srt,List.pairwise_map]
  refine List.Pairwise.imp_of_mem ?_ (AfC h.srt)
  intro a b ha hb hab
  have h1:=(AiP (List.mem_filter.1 ha).2).1
  have h2:=(AiP (List.mem_filter.1 hb).2).1
  omega
 ·unfold moveL
  rw [Ai8 fun e he=>(AiP (List.mem_filter.1 he).2).2.1]
  have:=AfB (List.filter_sublist (p:=fun e=>(goE c e).2) (l:=A))
  have:=h.things
  omega
 ·obtain ⟨x,hx,hg,rfl⟩:=hmem e he
  obtain ⟨g1,g2,g3,g4⟩:=Aif hg
  obtain ⟨hxr,hxo⟩:=h.ents x hx
  obtain ⟨hc,p1,p2⟩:=Adc hxr
  obtain ⟨_,q1,q2⟩:=Adc g1
  have:=Aj0 hc p1 p2 q1 q2 g3 g4
  rwa [hxo] at this
theorem Moved.len {c:Config} {r:Int} {l:List Entity} (h:Moved c r l) (hc:c.right=true):l.length≤30:=by
 have h3:=Config.right_iff.1 hc
 have h1:=Ak0 (n:=c.players) h.srt (fun x hx hk=>by
  have:=Entity.right_player (h.ents x hx).1.1 hk
  exact this) (by omega)
 have h2:=h.things
 omega
theorem AgC {c:Config} {e:Entity} (h:e.right c=true):e.health≤100:=(Af7 h).1.2.1
theorem AdR {c:Config} {r:Int} {M:List Entity} {inbox:List Cross} (h:Moved c r M):Moved c r (blastsL (gemsL (shotsL M)) inbox)∧((blastsL (gemsL (shotsL M)) inbox).filter fun e=>decide (e.kind=1)).map Entity.id=(M.filter fun e=>decide (e.kind=1)).map Entity.id:=by
 have l0: ∀e∈M,e.kind=1→e.health≤100:=fun e he _=>(h.ents e he).1.2.1
 have h1:=Afd l0
 have m1:=h1.moved h
 have h2:=AhA (l:=shotsL M) h1.low
 have m2:=h2.moved m1
 obtain ⟨b1,b2⟩:=Ahm (bs:=inbox) (l:=gemsL (shotsL M)) h2.low
 refine ⟨Aiy b1 m2 b2,?_⟩
 rw [Akz b1,h2.players,h1.players]
theorem AfX {c:Config} {r f:Int}: ∀ {ids:List Int} {s:Stg},(ids.foldl (fall1 c r f) s).l.length=s.l.length∧(ids.foldl (fall1 c r f) s).made=s.made∧(ids.foldl (fall1 c r f) s).out.length=s.out.length+ids.length*(c.near r).length:=by
 intro ids
 induction ids with
 |nil=>intro s;simp
 |cons id ids ih=>
  intro s
  obtain ⟨h1,h2,h3⟩:= @ih (fall1 c r f s id)
  rw [List.foldl_cons]
  refine ⟨by rw [h1];simp [fall1],by rw [h2];rfl,?_⟩
  rw [h3]
  simp only [fall1,blastsAt,List.length_append,List.length_map,List.length_cons]
  rw [Nat.add_mul];omega
theorem Akq {c:Config} {r:Int} (h:c.is r=true):0<(c.near r).length:=by
 have:=AjM h
 cases hn:c.near r with
 |nil=>rw [hn] at this;simp [has] at this
 |cons a l=>simp
structure Still2 (c:Config) (r:Int) (l:List Entity):Prop where
 srt:Srt l
 things:things l≤24
 ents: ∀e∈l,e.right c=true∧has (c.near r) (c.of e.x e.y)=true
theorem AgR {c:Config} {e:Entity} (h:e.right c=true):0≤e.age∧e.age≤12:=by
 simp only [Entity.right,Bool.and_eq_true] at h
 have h2:=h.2
 by_cases k1:e.kind=1
 ·rw [if_pos k1] at h2
  simp only [Bool.and_eq_true,Aad,decide_eq_true_eq] at h2
  omega
 ·rw [if_neg k1] at h2
  by_cases k2:e.kind=2
  ·rw [if_pos k2] at h2
   simp only [Bool.and_eq_true,Aad] at h2
   omega
  ·rw [if_neg k2] at h2
   by_cases k3:e.kind=3
   ·rw [if_pos k3] at h2
    simp only [Bool.and_eq_true,decide_eq_true_eq] at h2
    omega
   ·rw [if_neg k3] at h2;contradiction
theorem Ac0 {c:Config} {r f:Int} {s:Stg}:(leaveS c r f s).out.length≤s.out.length+s.l.length:=by
 simp only [leaveS,List.length_append,List.length_map]
 have:=List.length_filter_le (fun e=> !decide (c.of e.x e.y=r)) s.l
 omega
theorem Afw {c:Config} {r f:Int} {s:Stg} (h:(s.l.filter fun e=> !decide (c.of e.x e.y=r))= []):(leaveS c r f s).out=s.out:=by
 simp [leaveS,h]
end Go.Eva
namespace Go.Eva
theorem AfH {c:Config} {r f:Int} {s:Stg}:growS c r f s=s∨growS c r f s=⟨put1 s.l (gemE c r f s.made),s.made+1,s.out⟩:=by
 unfold growS
 split
 ·exact .inl rfl
 ·exact .inr rfl
theorem Aj6 {c:Config} {r:Int} {s:Region} {ins:List Input} {inbox:List Cross} (h:askedE c r s ins inbox=0):(stepS c r s ins inbox).l.length≤31:=by
 have hfine:=Afx h
 have hrc:=Config.is_right hfine.is
 obtain ⟨hst1,hst2⟩:=Agt hfine
 unfold stepS restS
 generalize steerS c r s.frame ins ⟨arriveL s.ents inbox,0,[]⟩=S at*
 obtain ⟨A,made,o⟩:=S
 simp only at hst1 hst2⊢
 have hM:=(AdX hst1.sane).1
 have hH:=((AdR (inbox:=inbox) hM).1).len hrc
 simp only at hH
 generalize blastsL (gemsL (shotsL (moveL c A))) inbox=H at*
 have hF:=(@AfX c r s.frame (fallenL H) ⟨H,made,o⟩).1
 change (fallS c r s.frame ⟨H,made,o⟩).l.length=H.length at hF
 have hG:(growS c r s.frame (fallS c r s.frame ⟨H,made,o⟩)).l.length≤31:=by
  rcases @AfH c r s.frame (fallS c r s.frame ⟨H,made,o⟩) with h|h
  ·rw [h];omega
  ·rw [h]
   have:=(@Aa6 (fallS c r s.frame ⟨H,made,o⟩).l (gemE c r s.frame (fallS c r s.frame ⟨H,made,o⟩).made)).2
   simp only;omega
 have:(leaveS c r s.frame (growS c r s.frame (fallS c r s.frame ⟨H,made,o⟩))).l.length≤(growS c r s.frame (fallS c r s.frame ⟨H,made,o⟩)).l.length:=List.length_filter_le ..
 omega
end Go.Eva
namespace Go.Eva
structure World where
 regions:List Region
 outs:List CrossL
deriving DecidableEq,Inhabited
def World.enc (w:World):T:= .agg [.sl 2 (w.regions.map zt),.sl 1 (w.outs.map encL)]
def handed (l:List Cross):List Entity:=(l.filter fun m=>decide (m.kind=1)).map Cross.ent
end Go.Eva
namespace Go.Eva
def long {α:Type} (l:List α):Prop:=l.length≤9223372036854775807
abbrev um (n k:Int):Int:=(IntKind.u64.wrap n).tmod k
theorem um_le {n k:Int} (h:0<k):0≤um n k∧um n k<k:=AaK h
def playInput (i:Input):Input:=if i.right=true then i else ⟨um i.dx 5-2,um i.dy 5-2,i.fire⟩
theorem Aff (i:Input):(playInput i).right=true:=by
 unfold playInput
 split
 ·assumption
 ·have h1:= @um_le i.dx 5 (by decide)
  have h2:= @um_le i.dy 5 (by decide)
  simp only [Input.right,Bool.and_eq_true,Aad];omega
def rowAt (n:Nat) (l:List Input) (k:Nat):List Input:=(l.take k).map playInput++zj (n-k) Input.zero
def playRow (n:Nat) (l:List Input):List Input:=rowAt n l (min n l.length)
abbrev InputL:=List Input
def encI (l:List Input):T:= .sl 3 (l.map zr)
theorem Ag2 {n k:Nat} {l:List Input} (h:k≤n) (h2:k≤l.length):(rowAt n l k).length=n:=by simp [rowAt];omega
theorem AcV {n:Nat} {l:List Input}:(playRow n l).length=n:=Ag2 (by omega) (by omega)
theorem Aj5 {n k:Nat} {l:List Input} (h:k<n) (h2:k<l.length):(rowAt n l k).set k (playInput (gt l k))=rowAt n l (k+1):=by
 have e1:(l.take (k+1))=l.take k++ [gt l k]:=by rw [List.take_add_one,AdE h2];rfl
 have e2:n-k=(n-(k+1))+1:=by omega
 unfold rowAt
 rw [e1,e2,List.replicate_succ,List.set_append,if_neg (by simp;omega),List.map_append]
 have e3:k-((l.take k).map playInput).length=0:=by simp;omega
 rw [e3]
 simp
theorem Agr {n:Nat} {l:List Input}: ∀i∈playRow n l,i.right=true:=by
 intro i hi
 unfold playRow rowAt at hi
 rcases List.mem_append.1 hi with h|h
 ·obtain ⟨x,_,rfl⟩:=List.mem_map.1 h
  exact Aff x
 ·rw [List.eq_of_mem_replicate h];decide
def playAt (c:Config) (r:Int) (e:Entity):Entity:= {e with x:=c.cornerX r+um e.x 1024,y:=c.cornerY r+um e.y 1024}
def playE (c:Config) (r:Int) (e:Entity):Entity:=
 if (playAt c r e).right c=true then playAt c r e
 else ⟨1+um e.id (w64u c.players),1,c.cornerX r+um e.x 1024,c.cornerY r+um e.y 1024,0,0,1+um e.health 100,um e.age 7,0⟩
def playRegion (c:Config) (r frame:Int) (l:List Entity):Region:=⟨1+um frame 100,puts [] ((l.take 20).map (playE c r))⟩
theorem Adk {c:Config} {r:Int}:(0≤c.cornerX r∧c.cornerX r≤4096)∧(0≤c.cornerY r∧c.cornerY r≤4096):=by
 unfold Config.cornerX Config.cornerY
 cases hr:c.is r with
 |false=>simp
 |true=>
  have h:=Config.is_right hr
  have hi:=(Config.is_iff h).1 hr
  obtain ⟨hc,hrr,_⟩:=Config.right_iff.1 h
  have k1:=Aby (v:=r) (k:=c.cols) (m:=c.rows) (by omega) (by omega) (by omega)
  have k2:=Aco (v:=r) (k:=c.cols) (by omega) (by omega)
  simp only [if_true]
  omega
theorem Ajr {c:Config} {r x y:Int} (hr:c.is r=true) (hx:0≤x∧x<1024) (hy:0≤y∧y<1024):c.inside (c.cornerX r+x) (c.cornerY r+y)=true∧c.of (c.cornerX r+x) (c.cornerY r+y)=r:=by
 have h:=Config.is_right hr
 have hi:=(Config.is_iff h).1 hr
 obtain ⟨hc,hrr,_⟩:=Config.right_iff.1 h
 have hw:c.width=c.cols*1024:=by simp [Config.width,h]
 have hh:c.height=c.rows*1024:=by simp [Config.height,h]
 have k1:=Aby (v:=r) (k:=c.cols) (m:=c.rows) (by omega) (by omega) (by omega)
 have k2:=Aco (v:=r) (k:=c.cols) (by omega) (by omega)
 have e:=Int.tmod_add_tdiv_mul r c.cols
 have ex:c.cornerX r=r.tmod c.cols*1024:=by unfold Config.cornerX;rw [if_pos hr]
 have ey:c.cornerY r=r.tdiv c.cols*1024:=by unfold Config.cornerY;rw [if_pos hr]
 have hin:c.inside (c.cornerX r+x) (c.cornerY r+y)=true:=by
  simp only [Config.inside,Bool.and_eq_true,Aad];omega
 refine ⟨hin,?_⟩
 rw [(of_eq h (by omega) (by omega)).1,Int.tdiv_eq_ediv_of_nonneg (by omega),Int.tdiv_eq_ediv_of_nonneg (by omega),ex,ey]
 have d1:(r.tmod c.cols*1024+x)/1024=r.tmod c.cols:=by omega
 have d2:(r.tdiv c.cols*1024+y)/1024=r.tdiv c.cols:=by omega
 rw [d1,d2]
 omega
theorem Aku {c:Config} {r:Int} (hr:c.is r=true) (e:Entity):(playE c r e).right c=true∧c.of (playE c r e).x (playE c r e).y=r:=by
 have h:=Config.is_right hr
 have hcr:=Config.right_iff.1 h
 have hx:= @um_le e.x 1024 (by decide)
 have hy:= @um_le e.y 1024 (by decide)
 obtain ⟨h1,h2⟩:=Ajr hr hx hy
 unfold playE
 split
 ·rename_i hp;exact ⟨hp,h2⟩
 ·refine ⟨?_,h2⟩
  have hw:w64u c.players=c.players:=wu64 ⟨by omega,by omega,rfl⟩
  rw [hw]
  have a1:= @um_le e.id c.players (by omega)
  have a2:= @um_le e.health 100 (by decide)
  have a3:= @um_le e.age 7 (by decide)
  have e1:within (1+um e.id c.players) 1 c.players=true:=Aad.2 (by omega)
  have e3:within (1+um e.health 100) 1 100=true:=Aad.2 (by omega)
  have e5:within (um e.age 7) 0 6=true:=Aad.2 (by omega)
  have e4:within 0 (-64) 64=true:=by decide
  unfold Entity.right
  simp only [h1,e1,e3,e4,e5]
  simp
theorem AhP {P:Entity→Prop}: ∀ {m l:List Entity},(∀e∈l,P e)→(∀e∈m,P e)→ ∀e∈puts l m,P e
 | [],l,h,_=>h
 |x::m,l,h,hm=>by
  show∀e∈puts (put1 l x) m,P e
  refine AhP (fun e he=> ?_) fun e he=>hm e (List.mem_cons_of_mem _ he)
  rcases Acv he with rfl|he
  ·exact hm _ (List.mem_cons_self ..)
  ·exact h e he
theorem Ad3 {c:Config} {r frame:Int} {l:List Entity} (hr:c.is r=true):Sane c r (playRegion c r frame l).ents∧(playRegion c r frame l).ents.length≤20∧(1≤(playRegion c r frame l).frame∧(playRegion c r frame l).frame≤100):=by
 have hlen:(puts [] ((l.take 20).map (playE c r))).length≤20:=by
  have:= @Akm ((l.take 20).map (playE c r)) []
  have h2:((l.take 20).map (playE c r)).length≤20:=by simp;omega
  simp only [List.length_nil,Nat.zero_add] at this
  omega
 refine ⟨⟨AgY (by simp [Srt]),?_,?_⟩,hlen,?_⟩
 ·have:things (puts [] ((l.take 20).map (playE c r)))≤(puts [] ((l.take 20).map (playE c r))).length:=by
   unfold things;exact_mod_cast List.countP_le_length
  show things (puts [] ((l.take 20).map (playE c r)))≤24
  omega
 ·refine AhP (by simp) fun e he=> ?_
  obtain ⟨x,_,rfl⟩:=List.mem_map.1 he
  exact Aku hr x
 ·have:= @um_le frame 100 (by decide)
  show 1≤1+um frame 100∧1+um frame 100≤100
  omega
def playM (c:Config) (r frame:Int) (m:Cross):Cross:=
 if m.kind≠1 then ⟨2,gt (c.near r) (um m.frm (w64u (c.near r).length)).toNat,r,frame-1,Entity.zero,um m.x (w64u (c.cols*1024)),um m.y (w64u (c.rows*1024))⟩
 else ⟨m.kind,gt (c.near r) (um m.frm (w64u (c.near r).length)).toNat,r,frame-1,playAt c r m.ent,0,0⟩
def playInbox (c:Config) (r frame:Int) (l:List Cross):List Cross:=((l.take 12).map (playM c r frame)).filter fun m=>m.right c
theorem Agz {c:Config} {r frame:Int} {l:List Cross}:(∀m∈playInbox c r frame l,m.right c=true∧m.to=r∧m.frame=frame-1)∧(playInbox c r frame l).length≤12:=by
 refine ⟨fun m hm=> ?_,?_⟩
 ·obtain ⟨h1,h2⟩:=List.mem_filter.1 hm
  obtain ⟨x,_,rfl⟩:=List.mem_map.1 h1
  refine ⟨h2,?_,?_⟩
  ·unfold playM;split<;>rfl
  ·unfold playM;split<;>rfl
 ·have h1:=List.length_filter_le (fun m=>m.right c) ((l.take 12).map (playM c r frame))
  have h2:((l.take 12).map (playM c r frame)).length≤12:=by simp;omega
  exact Nat.le_trans h1 h2
theorem AgF {c:Config} {r frame:Int} {l:List Entity} {ins:List Input} {inbox:List Cross} (hr:c.is r=true):
  Fine c r (playRegion c r frame l) (playRow c.players.toNat ins) (playInbox c r (playRegion c r frame l).frame inbox):=by
 obtain ⟨h1,h2,h3⟩:= @Ad3 c r frame l hr
 have hc:=Config.right_iff.1 (Config.is_right hr)
 exact ⟨hr,by omega,h1.srt,h1.things,h1.ents,by rw [AcV];omega,Agr,Agz.1⟩
end Go.Eva
namespace Go.Eva.S5
theorem AdG (i:Input):Fn cx 59 [i.enc] (playInput i).enc:=by
 have h:=Ad1 i
 unfold playInput
 cases hr:i.right with
 |true=>
  rw [hr] at h
  refine qq ?_
  refine gg [.a _ _,.tt] ⟨o_a h,trivial⟩ ?_
  exact ge
 |false=>
  rw [hr] at h
  have h1:= @um_le i.dx 5 (by decide)
  have h2:= @um_le i.dy 5 (by decide)
  unfold um at h1 h2
  refine qq ?_
  refine gg [.a _ _,.ff,.i zf i.dx (zp zf i.dx),.w ((5:Int)≠(0:Int)),.s (T.int zf (zg (zp zf i.dx) 5)),.i zd (zg (zp zf i.dx) 5) (zg (zp zf i.dx) 5),.i zd (zg (zp zf i.dx) 5-2) (zg (zp zf i.dx) 5-2),.i zf i.dy (zp zf i.dy),.w ((5:Int)≠(0:Int)),.s (T.int zf (zg (zp zf i.dy) 5)),.i zd (zg (zp zf i.dy) 5) (zg (zp zf i.dy) 5),.i zd (zg (zp zf i.dy) 5-2) (zg (zp zf i.dy) 5-2)] ⟨o_a h,o_i rfl,o_w (by intro h;cases h),oI,oI,o_i rfl,o_w (by intro h;cases h),oI,oI,trivial⟩ ?_
  exact ge
theorem Ab9 (c:Config) (l:List InputL) (most:Int) (i n:Nat) (hc:c.players=(n:Int)) (hn:n≤100) (hi:i<l.length) (hl:long l) (hr:long (gt l i)): ∀(d k:Nat),k+d=min n (gt l i).length→
  Is cx (.loop 22 [0,1,0,1,0,0,1,0,0,1,0,1,1] 0 [.t (.sl 1 (l.map encI)),vi most,.ptr 0 0 0,.fit 1 [],vi i,.all 1 none,vi k] [.one 5 (.t c.enc) false,.arr 3 ((rowAt n (gt l i) k).map zr) (some 0) false])
   ⟨.exit 2,[.t (.sl 1 (l.map encI)),vi most,.ptr 0 0 0,.fit 1 [],vi i,.all 1 none,vi (min n (gt l i).length:Nat)],[.one 5 (.t c.enc) false,.arr 3 ((playRow n (gt l i)).map zr) (some 0) false]⟩:=by
 unfold long at hl hr
 intro d
 induction d with
 |zero=>
  intro k hk
  obtain rfl:k=min n (gt l i).length:=by omega
  unfold playRow
  generalize hm:min n (gt l i).length=m at*
  by_cases hmn:m=n
  ·subst hmn
   refine qq ?_
   refine gg [.b (decide ((m:Int)<c.players)) false,.ff,.ff,.ff,.ff,.ff,.ff,.ff,.ff] ⟨fP,trivial⟩ ?_
   exact ge
  ·have:m=(gt l i).length:=by omega
   refine qq ?_
   refine gg [.b (decide ((m:Int)<c.players)) true,.tt,.tt,.tt,.w (0≤(i:Int)),.n (zy (i:Int)) i,.g (zz encI l) i (encI (gt l i)),.tt,.tt,.n (zq (zz zr (gt l i))) (zq (gt l i)),.tt,.tt,.b (decide ((m:Int)<(↑(zq (gt l i)):Int))) false] ⟨tP,oW,nK,o_gt rfl (by assumption) (by intro h;cases h),o_n (by simp),fP,trivial⟩ ?_
   exact ge
 |succ d ih=>
  intro k hk
  have ih1:=ih (k+1) (by omega)
  rw [←Aj5 (by omega) (by omega)] at ih1
  have hlen:=Ag2 (n:=n) (k:=k) (l:=gt l i) (by omega) (by omega)
  clear ih
  generalize rowAt n (gt l i) k=R at*
  generalize hm:min n (gt l i).length=m at*
  have hkl:k<(gt l i).length:=by omega
  refine qq ?_
  refine gg [.b (decide ((k:Int)<c.players)) true,.tt,.tt,.tt,.w (0≤(i:Int)),.n (zy (i:Int)) i,.g (zz encI l) i (encI (gt l i)),.tt,.tt,.n (zq (zz zr (gt l i))) (zq (gt l i)),.tt,.tt,.b (decide ((k:Int)<(↑(zq (gt l i)):Int))) true,.w (0≤(i:Int)),.n (zy (i:Int)) i,.g (zz encI l) i (encI (gt l i))] ⟨tP,oW,nK,o_gt rfl (by assumption) (by intro h;cases h),o_n (by simp),tP,oW,nK,o_gt rfl (by assumption) (by intro h;cases h),trivial⟩ ?_
  refine gg [.w (0≤(k:Int)),.n (zy (k:Int)) k,.g (zz zr (gt l i)) k (zr (gt (gt l i) k)),.a _ _,.w (0≤(k:Int)),.n (zy (k:Int)) k,.w (k<zq (zz zr R)),.w (k<zq (zz zr R)),.t (qk 0 (zx (zz zr R) k (zr (playInput (gt (gt l i) k))))) (qk 0 (zz zr (zx R k (playInput (gt (gt l i) k))))),.i zd ((k:Int)+1) ((↑(k+1):Int)),.a _ _] ⟨oW,nK,o_gt rfl (by assumption) (by intro h;cases h),o_a (AdG (gt (gt l i) k)),oW,nK,o_w (by (simp;omega)),o_w (by (simp;omega)),o_l (Aao rfl rfl),oI,o_a ih1,trivial⟩ ?_
  exact ge
theorem Ach (c:Config) (x:InputL) (row:InputL) (n:Nat) (hx:long x):
  Is cx (.loop 22 [0,1,0,1,1] 0 [.t (.sl 1 ([x].map encI)),vi 1,.ptr 0 0 0,.all 1 none,vi 1] [.one 5 (.t c.enc) false,.vec [.all 2 none],.arr 3 (row.map zr) (some 0) false])
   ⟨.exit 0,[.t (.sl 1 ([x].map encI)),vi 1,.ptr 0 0 0,.all 1 none,vi 1],[.one 5 (.t c.enc) false,.vec [.all 2 none],.arr 3 (row.map zr) (some 0) false]⟩:=by
 refine qq ?_
 refine gg [.n (zq (zz encI [x])) 1,.b (decide (1<1)) false,.ff,.ff,.ff,.ff] ⟨nK,bK,trivial⟩ ?_
 exact ge
theorem AbE (c:Config) (x:InputL) (n:Nat) (hc:c.players=(n:Int)) (hn:n≤100) (hx:long x):
  Is cx (.loop 22 [0,1,0,1,1] 0 [.t (.sl 1 ([x].map encI)),vi 1,.ptr 0 0 0,.fit 1 [],vi 0] [.one 5 (.t c.enc) false])
   ⟨.exit 0,[.t (.sl 1 ([x].map encI)),vi 1,.ptr 0 0 0,.all 1 none,vi 1],[.one 5 (.t c.enc) false,.vec [.all 2 none],.arr 3 ((playRow n x).map zr) (some 0) false]⟩:=by
 have h1:=Ab9 c [x] 1 0 n hc hn (by simp) (by unfold long;simp) hx (min n x.length) 0 (by simp [gt])
 rw [show gt [x] 0=x from rfl] at h1
 have h2:=Ach c x (playRow n x) n hx
 have e0:rowAt n x 0=zj n Input.zero:=by simp [rowAt]
 rw [e0,List.map_replicate,show zj n (zr Input.zero)=zj c.players.toNat (zr Input.zero) by rw [hc,Int.toNat_natCast]] at h1
 clear e0
 unfold long at hx
 generalize playRow n x=P at*
 generalize min n x.length=q at*
 refine qq ?_
 refine gg [.n (zq (zz encI [x])) 1,.b (decide (0<1)) true,.tt,.tt,.tt,.b (decide (0<1)) true,.w (0≤c.players∧c.players≤c.players∧room (zy c.players) (24:Nat)),.l (zy c.players),.a _ _,.w ((0:Nat)<(24:Nat)∧room (1:Nat) (24:Nat)),.i zd 1 1,.a _ _] ⟨nK,bK,bK,o_w ⟨(by omega),⟨(by omega),(by (simp [room,appendMax];omega))⟩⟩,o_a h1,o_w ⟨(by omega),(by (simp [room,appendMax]))⟩,oK,o_a h2,trivial⟩ ?_
 exact ge
theorem AaF (c:Config) (x:InputL) (n:Nat) (hc:c.players=(n:Int)) (hn:n≤100) (hx:long x):Is cx (.call 22 [.t c.enc,.t (.sl 1 ([x].map encI)),vi 1] []) ⟨.ret,[.all 0 none],[.vec [.all 1 none],.arr 3 ((playRow n x).map zr) (some 0) false]⟩:=by
 have h:=AbE c x n hc hn hx
 generalize playRow n x=P at*
 refine qq ?_
 refine gg [.a _ _] ⟨o_a h,trivial⟩ ?_
 exact ge
theorem Adb (c:Config) (r:Int):Is cx (.call 56 [.t c.enc,vi r] []) ⟨.ret,[vi (c.cornerX r),vi (c.cornerY r)],[]⟩:=by
 have h:=AeW c r
 unfold Config.cornerX Config.cornerY
 cases hi:c.is r with
 |false=>
  rw [hi] at h
  refine qq ?_
  refine gg [.a _ _,.b (!false) true] ⟨o_a h,bK,trivial⟩ ?_
  exact ge
 |true=>
  rw [hi] at h
  have hr:=Config.is_right hi
  have hi2:=(Config.is_iff hr).1 hi
  obtain ⟨hc,hrr,_⟩:=Config.right_iff.1 hr
  have k1:=Aby (v:=r) (k:=c.cols) (m:=c.rows) (by omega) (by omega) (by omega)
  have k2:=Aco (v:=r) (k:=c.cols) (by omega) (by omega)
  refine qq ?_
  refine gg [.a _ _,.b (!true) false,.w (c.cols≠(0:Int)),.s (ti (zg r c.cols)),.i zd (zg r c.cols*1024) (zg r c.cols*1024),.w (c.cols≠(0:Int)),.i zd (Int.tdiv r c.cols) (Int.tdiv r c.cols),.i zd (Int.tdiv r c.cols*1024) (Int.tdiv r c.cols*1024)] ⟨o_a h,bK,oW,oI,oW,oI,oI,trivial⟩ ?_
  exact ge
end Go.Eva.S5
namespace Go.Eva.S5
theorem Ac4 (l:List Entity) (e:Entity) (hn:small l): ∀(d k:Nat),k+d=l.length→
  Is cx (.loop 58 [0,0,1,1,1] 0 [.t (.sl 9 (l.map zm)),.ptr 0 0 0,vi k] [.one 9 (.t e.enc) false])
   ⟨.exit 0,[.t (.sl 9 (l.map zm)),.ptr 0 0 0,vi (match (l.drop k).findIdx? fun x=>decide (x.id≥e.id) with|some j=>k+j|none=>l.length:Nat)],[.one 9 (.t e.enc) false]⟩:=by
 unfold small at hn
 intro d
 induction d with
 |zero=>
  intro k hk
  rw [Aaf (by omega)]
  refine qq ?_
  refine gg [.n (zq (zz zm l)) (zq l),.b (decide ((k:Int)<(↑(zq l):Int))) false,.ff,.ff,.ff,.ff,.ff,.ff,.ff,.ff,.ff] ⟨o_n (by simp),fP,trivial⟩ ?_
  refine rT (a:=qz (qx 0) [V.t (qk 9 (zz zm l)),V.ptr 0 0 0,vi (k:Int)] [qg 9 (V.t (zm e)) false]) ?_
  ((have hq:k=l.length:=by omega);subst hq;rfl)
 |succ d ih=>
  intro k hk
  have hlt:k<l.length:=by omega
  have ih1:=ih (k+1) (by omega)
  clear ih
  rw [Aah hlt,List.findIdx?_cons]
  by_cases hp:(gt l k).id≥e.id
  ·rw [show decide ((gt l k).id≥e.id)=true by simpa using hp,if_pos rfl]
   clear ih1
   refine qq ?_
   refine gg [.n (zq (zz zm l)) (zq l),.b (decide ((k:Int)<(↑(zq l):Int))) true,.tt,.tt,.w (0≤(k:Int)),.n (zy (k:Int)) k,.g (zz zm l) k (zm (gt l k)),.tt,.tt,.tt,.tt,.tt,.tt,.b (decide ((gt l k).id<e.id)) false] ⟨o_n (by simp),tP,oW,nK,o_gt rfl (by assumption) (by intro h;cases h),fP,trivial⟩ ?_
   exact ge
  ·rw [show decide ((gt l k).id≥e.id)=false by simpa using hp,if_neg (by simp)]
   cases hq:(l.drop (k+1)).findIdx? fun x=>decide (x.id≥e.id) with
   |none=>
    rw [hq] at ih1
    refine qq ?_
    refine gg [.n (zq (zz zm l)) (zq l),.b (decide ((k:Int)<(↑(zq l):Int))) true,.tt,.tt,.w (0≤(k:Int)),.n (zy (k:Int)) k,.g (zz zm l) k (zm (gt l k)),.tt,.tt,.tt,.tt,.tt,.tt,.b (decide ((gt l k).id<e.id)) true,.i zd ((k:Int)+1) ((↑(k+1):Int)),.a _ _] ⟨o_n (by simp),tP,oW,nK,o_gt rfl (by assumption) (by intro h;cases h),tP,oI,o_a ih1,trivial⟩ ?_
    exact ge
   |some j=>
    rw [hq] at ih1
    refine qq ?_
    refine gg [.n (zq (zz zm l)) (zq l),.b (decide ((k:Int)<(↑(zq l):Int))) true,.tt,.tt,.w (0≤(k:Int)),.n (zy (k:Int)) k,.g (zz zm l) k (zm (gt l k)),.tt,.tt,.tt,.tt,.tt,.tt,.b (decide ((gt l k).id<e.id)) true,.i zd ((k:Int)+1) ((↑(k+1):Int)),.a _ _] ⟨o_n (by simp),tP,oW,nK,o_gt rfl (by assumption) (by intro h;cases h),tP,oI,o_a ih1,trivial⟩ ?_
    refine rt (a:=qz (qx 0)
     [V.t (qk 9 (zz zm l)),V.ptr 0 0 0,
      vi
       (↑(match some j with
         |some j=>k+1+j
         |none=>zq l):
        Int)]
     [qg 9 (V.t (zm e)) false]) (by kernel_rfl) ?_
    (simp;omega)
theorem AbW (l:List Entity) (e:Entity) (hn:small l):Fn cx 58 [.sl 9 (l.map zm),e.enc] (.sl 9 ((put1 l e).map zm)):=by
 have hF:=AdP l e.id hn
 have hn':l.length≤1000000:=hn
 unfold find at hF
 unfold put1
 cases hq:l.findIdx? fun x=>x.id==e.id with
 |some k=>
  rw [AaX hq] at hF
  refine qq ?_
  refine gg [.a _ _,.b (decide ((k:Int)≥0)) true] ⟨o_a hF,bK,trivial⟩ ?_
  exact ge
 |none=>
  rw [Abr hq] at hF
  have h:=Ac4 l e hn l.length 0 (by omega)
  rw [List.drop_zero] at h
  unfold ins
  cases hp:l.findIdx? fun x=>decide (x.id≥e.id) with
  |some k=>
   rw [hp] at h
   simp only [Nat.zero_add] at h
   have hk:=(List.findIdx?_eq_some_iff_getElem.1 hp).1
   refine qq ?_
   refine gg [.a _ _,.b (decide (-1≥0)) false,.a _ _,.w (0≤(k:Int)),.n (zy (k:Int)) k,.w ((0:Nat)≤k∧k≤zq (zz zm l)),.t (qk 9 (zw (k-0) (zk 0 (zz zm l)))) (qk 9 (zz zm (zw k l))),.w (0≤(k:Int)),.n (zy (k:Int)) k,.w (k≤zq (zz zm l)∧zq (zz zm l)≤zq (zz zm l)),.t (qk 9 (zw (zq (zz zm l)-k) (zk k (zz zm l)))) (qk 9 (zz zm (zw (zq (zz zm l)-k) (zk k l))))] ⟨o_a hF,bK,o_a h,oW,nK,o_w ⟨(by omega),(by (simp [room,appendMax];omega))⟩,o_l (nm_eq (Ab5 (Acu rfl)) (by kernel_rfl)),oW,nK,o_w ⟨(by (simp [room,appendMax];omega)),(by omega)⟩,o_l (Ab5 (Acu rfl)),trivial⟩ ?_
   refine bO ?_ ?_
   all_goals
    refine gg [.w ((0:Nat)<(72:Nat)),.s (qk 0 (zz zm (zw k l))),.s (qk 0 (zz zm (zw k l))),.w (room (zq (zz zm (zw k l))) (72:Nat)),.w ((0:Nat)<(72:Nat)),.t (qk 0 [zm e]) (qk 0 (zz zm [e])),.t (qk 0 (zz zm (zw k l)++zz zm [e])) (qk 0 (zz zm (zw k l++ [e]))),.w (room (zq (zz zm (zw k l++ [e]))) (72:Nat)),.w ((0:Nat)<(72:Nat)),.s (qk 0 (zz zm (zw (zq (zz zm l)-k) (zk k l)))),.t (qk 0 (zz zm (zw k l++ [e])++zz zm (zw (zq (zz zm l)-k) (zk k l)))) (qk 0 (zz zm (zw k l++ [e]++zw (zq (zz zm l)-k) (zk k l)))),.w (room (zq (zz zm (zw k l++ [e]++zw (zq (zz zm l)-k) (zk k l)))) (72:Nat))] ⟨oW,o_w (by (simp [room,appendMax];omega)),oW,o_l (Aa8 rfl AaV),o_l (Aa1 rfl rfl),o_w (by (simp [room,appendMax];omega)),oW,o_l (Aa1 rfl rfl),o_w (by (simp [room,appendMax];omega)),trivial⟩ ?_
    refine rT (a:=qz qj [V.t (qk 9 (zz zm (zw k l++ [e]++zw (zq (zz zm l)-k) (zk k l))))] []) ?_
    (first|(simp;done)|(simp;rw [List.take_of_length_le (by simp)]))
  |none=>
   rw [hp] at h
   simp only at h
   refine qq ?_
   refine gg [.a _ _,.b (decide (-1≥0)) false,.a _ _,.w (0≤(↑(zq l):Int)),.n (zy (↑(zq l):Int)) (zq l),.w ((0:Nat)≤zq l∧zq l≤zq (zz zm l)),.t (qk 9 (zw (zq l-0) (zk 0 (zz zm l)))) (qk 9 (zz zm l)),.w (0≤(↑(zq l):Int)),.n (zy (↑(zq l):Int)) (zq l),.w (zq l≤zq (zz zm l)∧zq (zz zm l)≤zq (zz zm l)),.t (qk 9 (zw (zq (zz zm l)-zq l) (zk (zq l) (zz zm l)))) (qk 9 (zz zm []))] ⟨o_a hF,bK,o_a h,oW,nK,o_w ⟨(by omega),(by simp)⟩,o_l (nm_eq (Ab5 (Acu rfl)) (by simp)),oW,nK,o_w ⟨(by simp),(by omega)⟩,o_l (nm_eq (Ab5 (Acu rfl)) (by simp)),trivial⟩ ?_
   refine bO ?_ ?_
   all_goals
    refine gg [.w ((0:Nat)<(72:Nat)),.s (qk 0 (zz zm l)),.s (qk 0 (zz zm l)),.w (room (zq (zz zm l)) (72:Nat)),.w ((0:Nat)<(72:Nat)),.t (qk 0 [zm e]) (qk 0 (zz zm [e])),.t (qk 0 (zz zm l++zz zm [e])) (qk 0 (zz zm (l++ [e]))),.w (room (zq (zz zm (l++ [e]))) (72:Nat)),.w ((0:Nat)<(72:Nat)),.s (qk 0 []),.t (qk 0 (zz zm (l++ [e])++ [])) (qk 0 (zz zm (l++ [e]))),.w (room (zq (zz zm (l++ [e]))) (72:Nat))] ⟨oW,o_w (by (simp [room,appendMax];omega)),oW,o_l (Aa8 rfl AaV),o_l (Aa1 rfl rfl),o_w (by (simp [room,appendMax];omega)),oW,o_l (nm_eq (Aa1 rfl AaV) (by simp)),o_w (by (simp [room,appendMax];omega)),trivial⟩ ?_
    refine rT (a:=qz qj [V.t (qk 9 (zz zm (l++ [e])))] []) ?_
    (first|(simp;done)|(simp;rw [List.take_of_length_le (by simp)]))
end Go.Eva.S5
namespace Go.Eva.S5
theorem AbK (c:Config) (r fr:Int) (l:List Entity) (hr:c.is r=true) (hl:long l): ∀(d i:Nat) (A:List Entity),i+d=min l.length 20→A.length≤i→
  Is cx (.loop 20 [0,1,0,1,1,1] 0 [.t (.sl 9 (l.map zm)),.ptr 0 0 0,.ptr 1 0 0,.ptr 2 0 0,vi (c.cornerX r),vi (c.cornerY r),vi i] [.one 5 (.t c.enc) false,.one 2 (.agg [vi 0,.fit 9 []]) false,.one 2 (.t (.agg [ti fr,.sl 9 (A.map zm)])) false])
   ⟨.exit 0,[.t (.sl 9 (l.map zm)),.ptr 0 0 0,.ptr 1 0 0,.ptr 2 0 0,vi (c.cornerX r),vi (c.cornerY r),vi (min l.length 20:Nat)],[.one 5 (.t c.enc) false,.one 2 (.agg [vi 0,.fit 9 []]) false,.one 2 (.t (.agg [ti fr,.sl 9 ((puts A (((l.take 20).drop i).map (playE c r))).map zm)])) false]⟩:=by
 unfold long at hl
 have hcl:= @Adk c r
 have hpl:1≤c.players∧c.players≤6:=by have:=Config.right_iff.1 (Config.is_right hr);omega
 have hw:IntKind.u64.wrap c.players=c.players:=wu64 ⟨by omega,by omega,rfl⟩
 intro d
 induction d with
 |zero=>
  intro i A hi hA
  obtain rfl:i=min l.length 20:=by omega
  rw [Aaf (by simp;omega)]
  clear hw
  generalize hm:min l.length 20=m at*
  by_cases h:m=l.length
  ·refine qq ?_
   refine gg [.n (zq (zz zm l)) (zq l),.b (decide ((m:Int)<(↑(zq l):Int))) false,.ff,.ff,.ff] ⟨o_n (by simp),fP,trivial⟩ ?_
   exact ge
  ·have:m=20:=by omega
   subst this
   refine qq ?_
   refine gg [.n (zq (zz zm l)) (zq l),.b (decide (20<(↑(zq l):Int))) true,.tt,.tt,.b (decide (20<20)) false] ⟨o_n (by simp),tP,bK,trivial⟩ ?_
   exact ge
 |succ d ih=>
  intro i A hi hA
  have hlt:i<l.length:=by omega
  have e:(l.take 20).drop i=gt l i::(l.take 20).drop (i+1):=by
   have hlt2:i<(l.take 20).length:=by simp;omega
   have hg:gt (l.take 20) i=gt l i:=by unfold gt;rw [List.getElem?_take,if_pos (by omega)]
   rw [Aah hlt2,hg]
  have hpl1:= @Aa6 A (playE c r (gt l i))
  have ih1:=ih (i+1) (put1 A (playE c r (gt l i))) (by omega) (by omega)
  rw [e,List.map_cons]
  change Is cx _ ⟨_,_,[_,_,.one 2 (.t (.agg [ti fr,.sl 9 ((puts (put1 A (playE c r (gt l i))) (((l.take 20).drop (i+1)).map (playE c r))).map zm)])) false]⟩
  have hx:= @um_le (gt l i).x 1024 (by decide)
  have hy:= @um_le (gt l i).y 1024 (by decide)
  have hid:= @um_le (gt l i).id c.players (by omega)
  have hhe:= @um_le (gt l i).health 100 (by decide)
  have hag:= @um_le (gt l i).age 7 (by decide)
  have hR:=Abs c (playAt c r (gt l i))
  have hP:=AbW A (playE c r (gt l i)) (by unfold small;omega)
  clear ih e
  unfold um at hx hy hid hhe hag
  generalize hm:min l.length 20=m at*
  cases hq:(playAt c r (gt l i)).right c with
  |true=>
   have ep:playE c r (gt l i)=playAt c r (gt l i):=by simp [playE,hq]
   rw [ep] at hP ih1 hpl1⊢
   rw [hq] at hR
   generalize put1 A (playAt c r (gt l i))=B at*
   clear hq ep
   unfold playAt um at hR hP
   generalize c.cornerX r=cX at*
   generalize c.cornerY r=cY at*
   refine qq ?_
   refine gg [.n (zq (zz zm l)) (zq l),.b (decide ((i:Int)<(↑(zq l):Int))) true,.tt,.tt,.b (decide ((i:Int)<20)) true,.w (0≤(i:Int)),.n (zy (i:Int)) i,.g (zz zm l) i (zm (gt l i)),.i zf ((gt l i).x) (zp zf (gt l i).x),.w ((1024:Int)≠(0:Int)),.s (T.int zf (zg (zp zf (gt l i).x) 1024)),.i zd (zg (zp zf (gt l i).x) 1024) (zg (zp zf (gt l i).x) 1024),.i zd (cX+zg (zp zf (gt l i).x) 1024) (cX+zg (zp zf (gt l i).x) 1024),.i zf ((gt l i).y) (zp zf (gt l i).y),.w ((1024:Int)≠(0:Int)),.s (T.int zf (zg (zp zf (gt l i).y) 1024))] ⟨o_n (by simp),tP,tP,oW,nK,o_gt rfl (by assumption) (by intro h;cases h),o_i rfl,o_w (by intro h;cases h),oI,oI,o_i rfl,o_w (by intro h;cases h),trivial⟩ ?_
   refine gg [.i zd (zg (zp zf (gt l i).y) 1024) (zg (zp zf (gt l i).y) 1024),.i zd (cY+zg (zp zf (gt l i).y) 1024) (cY+zg (zp zf (gt l i).y) 1024),.a _ _,.b (!true) false,.a _ _,.i zd ((i:Int)+1) ((↑(i+1):Int)),.a _ _] ⟨oI,oI,o_a hR,bK,o_a hP,oI,o_a ih1,trivial⟩ ?_
   exact ge
  |false=>
   have ep:playE c r (gt l i)=⟨1+um (gt l i).id c.players,1,c.cornerX r+um (gt l i).x 1024,c.cornerY r+um (gt l i).y 1024,0,0,1+um (gt l i).health 100,um (gt l i).age 7,0⟩:=by
    unfold playE
    rw [if_neg (by simp [hq])]
    unfold w64u
    rw [hw]
   rw [ep] at hP ih1 hpl1⊢
   rw [hq] at hR
   generalize put1 A _=B at*
   clear hq ep
   unfold playAt um at hR
   unfold um at hP
   generalize c.cornerX r=cX at*
   generalize c.cornerY r=cY at*
   refine qq ?_
   refine gg [.n (zq (zz zm l)) (zq l),.b (decide ((i:Int)<(↑(zq l):Int))) true,.tt,.tt,.b (decide ((i:Int)<20)) true,.w (0≤(i:Int)),.n (zy (i:Int)) i,.g (zz zm l) i (zm (gt l i)),.i zf ((gt l i).x) (zp zf (gt l i).x),.w ((1024:Int)≠(0:Int)),.s (T.int zf (zg (zp zf (gt l i).x) 1024)),.i zd (zg (zp zf (gt l i).x) 1024) (zg (zp zf (gt l i).x) 1024),.i zd (cX+zg (zp zf (gt l i).x) 1024) (cX+zg (zp zf (gt l i).x) 1024),.i zf ((gt l i).y) (zp zf (gt l i).y),.w ((1024:Int)≠(0:Int)),.s (T.int zf (zg (zp zf (gt l i).y) 1024))] ⟨o_n (by simp),tP,tP,oW,nK,o_gt rfl (by assumption) (by intro h;cases h),o_i rfl,o_w (by intro h;cases h),oI,oI,o_i rfl,o_w (by intro h;cases h),trivial⟩ ?_
   refine gg [.i zd (zg (zp zf (gt l i).y) 1024) (zg (zp zf (gt l i).y) 1024),.i zd (cY+zg (zp zf (gt l i).y) 1024) (cY+zg (zp zf (gt l i).y) 1024),.a _ _,.b (!false) true,.i zf ((gt l i).id) (zp zf (gt l i).id),.i zf c.players c.players,.w (c.players≠(0:Int)),.s (T.int zf (zg (zp zf (gt l i).id) c.players)),.i zd (zg (zp zf (gt l i).id) c.players) (zg (zp zf (gt l i).id) c.players),.i zd (1+zg (zp zf (gt l i).id) c.players) (1+zg (zp zf (gt l i).id) c.players),.i zf ((gt l i).health) (zp zf (gt l i).health),.w ((100:Int)≠(0:Int)),.s (T.int zf (zg (zp zf (gt l i).health) 100)),.i zd (zg (zp zf (gt l i).health) 100) (zg (zp zf (gt l i).health) 100),.i zd (1+zg (zp zf (gt l i).health) 100) (1+zg (zp zf (gt l i).health) 100),.i zf ((gt l i).age) (zp zf (gt l i).age)] ⟨oI,oI,o_a hR,bK,o_i rfl,oU,oW,oI,oI,o_i rfl,o_w (by intro h;cases h),oI,oI,o_i rfl,trivial⟩ ?_
   refine gg [.w ((7:Int)≠(0:Int)),.s (T.int zf (zg (zp zf (gt l i).age) 7)),.i zd (zg (zp zf (gt l i).age) 7) (zg (zp zf (gt l i).age) 7),.a _ _,.i zd ((i:Int)+1) ((↑(i+1):Int)),.a _ _] ⟨o_w (by intro h;cases h),oI,o_a hP,oI,o_a ih1,trivial⟩ ?_
   exact ge
theorem AbC (c:Config) (r fr:Int) (l:List Entity) (hr:c.is r=true) (hl:long l) (h0:0<l.length):
  Is cx (.loop 20 [0,1,0,1,1,1] 0 [.t (.sl 9 (l.map zm)),.ptr 0 0 0,.ptr 1 0 0,.ptr 2 0 0,vi (c.cornerX r),vi (c.cornerY r),vi 0] [.one 5 (.t c.enc) false,.one 2 (.agg [vi 0,.fit 9 []]) false,.one 2 (.agg [vi fr,.fit 9 []]) false])
   ⟨.exit 0,[.t (.sl 9 (l.map zm)),.ptr 0 0 0,.ptr 1 0 0,.ptr 2 0 0,vi (c.cornerX r),vi (c.cornerY r),vi (min l.length 20:Nat)],[.one 5 (.t c.enc) false,.one 2 (.agg [vi 0,.fit 9 []]) false,.one 2 (.t (.agg [ti fr,.sl 9 ((puts [] ((l.take 20).map (playE c r))).map zm)])) false]⟩:=by
 have hcl:= @Adk c r
 have hpl:1≤c.players∧c.players≤6:=by have:=Config.right_iff.1 (Config.is_right hr);omega
 have hw:IntKind.u64.wrap c.players=c.players:=wu64 ⟨by omega,by omega,rfl⟩
 have e:l.take 20=gt l 0::(l.take 20).drop 1:=by
  have hlt2:0<(l.take 20).length:=by simp;omega
  have hg:gt (l.take 20) 0=gt l 0:=by unfold gt;rw [List.getElem?_take,if_pos (by omega)]
  have:=Aah hlt2
  rw [List.drop_zero,hg] at this
  exact this
 have hpl1:= @Aa6 [] (playE c r (gt l 0))
 simp only [List.length_nil,Nat.zero_add] at hpl1
 have ih1:=AbK c r fr l hr hl (min l.length 20-1) 1 (put1 [] (playE c r (gt l 0))) (by omega) (by omega)
 rw [show (l.take 20).map (playE c r)=playE c r (gt l 0)::((l.take 20).drop 1).map (playE c r) by conv=>lhs;rw [e,List.map_cons]]
 change Is cx _ ⟨_,_,[_,_,.one 2 (.t (.agg [ti fr,.sl 9 ((puts (put1 [] (playE c r (gt l 0))) (((l.take 20).drop 1).map (playE c r))).map zm)])) false]⟩
 have hx:= @um_le (gt l 0).x 1024 (by decide)
 have hy:= @um_le (gt l 0).y 1024 (by decide)
 have hid:= @um_le (gt l 0).id c.players (by omega)
 have hhe:= @um_le (gt l 0).health 100 (by decide)
 have hag:= @um_le (gt l 0).age 7 (by decide)
 have hR:=Abs c (playAt c r (gt l 0))
 have hP:=AbW [] (playE c r (gt l 0)) (by simp [small])
 clear e
 unfold um at hx hy hid hhe hag
 unfold long at hl
 generalize hm:min l.length 20=m at*
 cases hq:(playAt c r (gt l 0)).right c with
 |true=>
  have ep:playE c r (gt l 0)=playAt c r (gt l 0):=by simp [playE,hq]
  rw [ep] at hP ih1 hpl1⊢
  rw [hq] at hR
  generalize put1 [] (playAt c r (gt l 0))=B at*
  clear hq ep
  unfold playAt um at hR hP
  generalize c.cornerX r=cX at*
  generalize c.cornerY r=cY at*
  refine qq ?_
  refine gg [.n (zq (zz zm l)) (zq l),.b (decide (0<(↑(zq l):Int))) true,.tt,.tt,.b (decide (0<20)) true,.w (0≤(0:Int)),.l 0,.g (zz zm l) 0 (zm (gt l 0)),.i zf ((gt l 0).x) (zp zf (gt l 0).x),.w ((1024:Int)≠(0:Int)),.s (T.int zf (zg (zp zf (gt l 0).x) 1024)),.i zd (zg (zp zf (gt l 0).x) 1024) (zg (zp zf (gt l 0).x) 1024),.i zd (cX+zg (zp zf (gt l 0).x) 1024) (cX+zg (zp zf (gt l 0).x) 1024),.i zf ((gt l 0).y) (zp zf (gt l 0).y),.w ((1024:Int)≠(0:Int)),.s (T.int zf (zg (zp zf (gt l 0).y) 1024))] ⟨o_n (by simp),tP,bK,oW,o_gt rfl (by assumption) (by intro h;cases h),o_i rfl,o_w (by intro h;cases h),oI,oI,o_i rfl,o_w (by intro h;cases h),trivial⟩ ?_
  refine gg [.i zd (zg (zp zf (gt l 0).y) 1024) (zg (zp zf (gt l 0).y) 1024),.i zd (cY+zg (zp zf (gt l 0).y) 1024) (cY+zg (zp zf (gt l 0).y) 1024),.a _ _,.b (!true) false,.a _ _,.i zd 1 1,.a _ _] ⟨oI,oI,o_a hR,bK,o_a hP,oK,o_a ih1,trivial⟩ ?_
  exact ge
 |false=>
  have ep:playE c r (gt l 0)=⟨1+um (gt l 0).id c.players,1,c.cornerX r+um (gt l 0).x 1024,c.cornerY r+um (gt l 0).y 1024,0,0,1+um (gt l 0).health 100,um (gt l 0).age 7,0⟩:=by
   unfold playE
   rw [if_neg (by simp [hq])]
   unfold w64u
   rw [hw]
  rw [ep] at hP ih1 hpl1⊢
  rw [hq] at hR
  generalize put1 [] _=B at*
  clear hq ep
  unfold playAt um at hR
  unfold um at hP
  generalize c.cornerX r=cX at*
  generalize c.cornerY r=cY at*
  refine qq ?_
  refine gg [.n (zq (zz zm l)) (zq l),.b (decide (0<(↑(zq l):Int))) true,.tt,.tt,.b (decide (0<20)) true,.w (0≤(0:Int)),.l 0,.g (zz zm l) 0 (zm (gt l 0)),.i zf ((gt l 0).x) (zp zf (gt l 0).x),.w ((1024:Int)≠(0:Int)),.s (T.int zf (zg (zp zf (gt l 0).x) 1024)),.i zd (zg (zp zf (gt l 0).x) 1024) (zg (zp zf (gt l 0).x) 1024),.i zd (cX+zg (zp zf (gt l 0).x) 1024) (cX+zg (zp zf (gt l 0).x) 1024),.i zf ((gt l 0).y) (zp zf (gt l 0).y),.w ((1024:Int)≠(0:Int)),.s (T.int zf (zg (zp zf (gt l 0).y) 1024))] ⟨o_n (by simp),tP,bK,oW,o_gt rfl (by assumption) (by intro h;cases h),o_i rfl,o_w (by intro h;cases h),oI,oI,o_i rfl,o_w (by intro h;cases h),trivial⟩ ?_
  refine gg [.i zd (zg (zp zf (gt l 0).y) 1024) (zg (zp zf (gt l 0).y) 1024),.i zd (cY+zg (zp zf (gt l 0).y) 1024) (cY+zg (zp zf (gt l 0).y) 1024),.a _ _,.b (!false) true,.i zf ((gt l 0).id) (zp zf (gt l 0).id),.i zf c.players c.players,.w (c.players≠(0:Int)),.s (T.int zf (zg (zp zf (gt l 0).id) c.players)),.i zd (zg (zp zf (gt l 0).id) c.players) (zg (zp zf (gt l 0).id) c.players),.i zd (1+zg (zp zf (gt l 0).id) c.players) (1+zg (zp zf (gt l 0).id) c.players),.i zf ((gt l 0).health) (zp zf (gt l 0).health),.w ((100:Int)≠(0:Int)),.s (T.int zf (zg (zp zf (gt l 0).health) 100)),.i zd (zg (zp zf (gt l 0).health) 100) (zg (zp zf (gt l 0).health) 100),.i zd (1+zg (zp zf (gt l 0).health) 100) (1+zg (zp zf (gt l 0).health) 100),.i zf ((gt l 0).age) (zp zf (gt l 0).age)] ⟨oI,oI,o_a hR,bK,o_i rfl,oU,oW,oI,oI,o_i rfl,o_w (by intro h;cases h),oI,oI,o_i rfl,trivial⟩ ?_
  refine gg [.w ((7:Int)≠(0:Int)),.s (T.int zf (zg (zp zf (gt l 0).age) 7)),.i zd (zg (zp zf (gt l 0).age) 7) (zg (zp zf (gt l 0).age) 7),.a _ _,.i zd 1 1,.a _ _] ⟨o_w (by intro h;cases h),oI,o_a hP,oK,o_a ih1,trivial⟩ ?_
  exact ge
theorem Adr (c:Config) (r frame:Int) (l:List Entity) (hr:c.is r=true) (hl:long l):Fn cx 20 [c.enc,ti r,ti frame,.sl 9 (l.map zm)] (playRegion c r frame l).enc:=by
 have hl':l.length≤9223372036854775807:=hl
 have hC:=Adb c r
 have hfr:= @um_le frame 100 (by decide)
 unfold um at hfr
 unfold playRegion
 by_cases h0:l.length=0
 ·have:l= []:=List.eq_nil_of_length_eq_zero h0
  subst this
  have hE:Is cx (.loop 20 [0,1,0,1,1,1] 0 [.t (.sl 9 []),.ptr 0 0 0,.ptr 1 0 0,.ptr 2 0 0,vi (c.cornerX r),vi (c.cornerY r),vi 0] [.one 5 (.t c.enc) false,.one 2 (.agg [vi 0,.fit 9 []]) false,.one 2 (.agg [vi (1+(IntKind.u64.wrap frame).tmod 100),.fit 9 []]) false])
   ⟨.exit 0,[.t (.sl 9 []),.ptr 0 0 0,.ptr 1 0 0,.ptr 2 0 0,vi (c.cornerX r),vi (c.cornerY r),vi 0],[.one 5 (.t c.enc) false,.one 2 (.agg [vi 0,.fit 9 []]) false,.one 2 (.agg [vi (1+(IntKind.u64.wrap frame).tmod 100),.fit 9 []]) false]⟩:=by
   refine qq ?_
   refine gg [.l 0,.b (decide (0<0)) false,.ff,.ff,.ff] ⟨bK,trivial⟩ ?_
   exact ge
  refine qq ?_
  refine gg [.i zf frame (zp zf frame),.w ((100:Int)≠(0:Int)),.s (T.int zf (zg (zp zf frame) 100)),.i zd (zg (zp zf frame) 100) (zg (zp zf frame) 100),.i zd (1+zg (zp zf frame) 100) (1+zg (zp zf frame) 100),.a _ _,.a _ _] ⟨o_i rfl,o_w (by intro h;cases h),oI,oI,o_a hC,o_a hE,trivial⟩ ?_
  exact ge
 ·have hE:=AbC c r (1+(IntKind.u64.wrap frame).tmod 100) l hr hl (by omega)
  generalize puts [] ((l.take 20).map (playE c r))=X at*
  generalize min l.length 20=m at*
  refine qq ?_
  refine gg [.i zf frame (zp zf frame),.w ((100:Int)≠(0:Int)),.s (T.int zf (zg (zp zf frame) 100)),.i zd (zg (zp zf frame) 100) (zg (zp zf frame) 100),.i zd (1+zg (zp zf frame) 100) (1+zg (zp zf frame) 100),.a _ _,.a _ _] ⟨o_i rfl,o_w (by intro h;cases h),oI,oI,o_a hC,o_a hE,trivial⟩ ?_
  exact ge
end Go.Eva.S5
namespace Go.Eva.S5
theorem AcM (e:Entity) (x y far:Int):Fn cx 115 [e.enc,ti x,ti y,ti far] (.bool (nearE e x y far)):=by
 refine qq ?_
 refine gg [.a _ _] ⟨o_a (AgS e.x e.y x y),trivial⟩ ?_
 exact ge
theorem Aey (t p:Entity) (g:Nat) (other:Entity→Entity→Bool) (far:Int) (hb:isFnB cx g=true) (hg:Fn cx g [t.enc,p.enc] (.bool (other t p))):
  Fn cx 169 [p.enc,.ip 1 (.clo g []) 0,.ip 9 t.enc 0,.ip 1 (ti far) 0] (.bool (meetP far other t p)):=by
 have hn:=AcM p t.x t.y far
 by_cases hk:p.kind=1
 ·cases ho:other t p with
  |true=>
   rw [ho] at hg
   refine qq ?_
   refine gg [.b (p.kind==1) true,.tt,.tt,.tt,.w (isFnB cx g=true),.a _ _,.tt,.tt,.tt,.tt,.tt,.tt,.tt,.tt,.a _ _,.tt] ⟨t_bre (by assumption),oA,o_a hg,o_a hn,trivial⟩ ?_
   refine rT (a:=qz qj [vb (nearE p t.x t.y far)] []) ?_
   simp [meetP,hk,ho]
  |false=>
   rw [ho] at hg
   refine qq ?_
   refine gg [.b (p.kind==1) true,.tt,.tt,.tt,.w (isFnB cx g=true),.a _ _,.tt,.ff,.ff,.ff,.ff,.ff,.ff,.ff,.ff] ⟨t_bre (by assumption),oA,o_a hg,trivial⟩ ?_
   refine rT (a:=qz qj [vb false] []) ?_
   simp [meetP,hk,ho]
 ·refine qq ?_
  refine gg [.b (p.kind==1) false,.ff,.ff,.ff,.ff,.ff,.ff,.ff,.ff,.ff,.ff,.ff,.ff] ⟨f_bre (by assumption),trivial⟩ ?_
  refine rT (a:=qz qj [vb false] []) ?_
  simp [meetP,hk]
theorem AcB (kind far:Int) (g h:Nat) (other:Entity→Entity→Bool) (turn:Int→Int) (n:Nat) (hn:n≤1000000) (hb:isFnB cx g=true) (hb2:isFnB cx h=true)
  (hg: ∀t p:Entity,Fn cx g [t.enc,p.enc] (.bool (other t p))) (hh: ∀v:Int,Fn cx h [ti v] (ti (turn v))): ∀(d i:Nat) (out:List Entity) (gone:List Bool),i+d=n→out.length=n→gone.length=n→
  Is cx (.loop 117 [0,1,0,1,1,1] 0 [vi kind,.t (.clo h []),.ptr 0 0 0,.ptr 1 0 0,.all 2 none,.all 3 none,.all 2 none,vi n,vi i] [.one 1 (.t (ti far)) false,.one 1 (.t (.clo g [])) false,.arr 9 (out.map zm) none false,.arr 1 (gone.map T.bool) (some 0) false])
   ⟨.exit 0,[vi kind,.t (.clo h []),.ptr 0 0 0,.ptr 1 0 0,.all 2 none,.all 3 none,.all 2 none,vi n,vi n],[.one 1 (.t (ti far)) false,.one 1 (.t (.clo g [])) false,.arr 9 ((meetN kind far other turn d i out gone).1.map zm) none false,.arr 1 ((meetN kind far other turn d i out gone).2.map T.bool) (some 0) false]⟩:=by
 intro d
 induction d with
 |zero=>
  intro i out gone hi ho hgo
  unfold meetN
  refine qq ?_
  refine gg [.b (decide ((i:Int)<(n:Int))) false] ⟨fP,trivial⟩ ?_
  refine rT (a:=qz (qx 0) [vi kind,V.t (T.clo h []),V.ptr 0 0 0,V.ptr 1 0 0,qy 2 none,qy 3 none,qy 2 none,vi (n:Int),vi (i:Int)] [qg 1 (vi far) false,qg 1 (V.t (T.clo g [])) false,qv 9 (zz zm out) none false,qv 1 (zz T.bool gone) (some 0) false]) ?_
  ((have hq:i=n:=by omega);subst hq;rfl)
 |succ d ih=>
  intro i out gone hi ho hgo
  rw [meetN]
  have hlt:i<out.length:=by omega
  by_cases hk:(gt out i).kind=kind
  ·have hI:=Aam out 169 [.ip 1 (.clo g []) 0,.ip 9 (gt out i).enc 0,.ip 1 (ti far) 0] (meetP far other (gt out i)) (by kernel_rfl) (by unfold small;omega) (fun p _=>Aey (gt out i) p g other far hb (hg _ _))
   cases hq:out.findIdx? (meetP far other (gt out i)) with
   |some k=>
    have e1:meet1 kind far other turn out gone i=(out.set k {gt out k with health:=turn (gt out k).health},gone.set i true):=by simp [meet1,hk,hq]
    rw [e1]
    rw [AaX hq] at hI
    have hkl:=(List.findIdx?_eq_some_iff_getElem.1 hq).1
    have ht:=hh (gt out k).health
    have ih1:=ih (i+1) (out.set k {gt out k with health:=turn (gt out k).health}) (gone.set i true) (by omega) (by simpa using ho) (by simpa using hgo)
    clear ih hg hh hq e1
    refine qq ?_
    refine gg [.b (decide ((i:Int)<(n:Int))) true,.w (0≤(i:Int)),.n (zy (i:Int)) i,.w (i<zq (zz zm out)),.g (zz zm out) i (zm (gt out i)),.b ((gt out i).kind !=kind) false,.a _ _,.b (flats [ti (k:Int)]) true,.b (decide ((k:Int)≥0)) true,.w (0≤(k:Int)),.n (zy (k:Int)) k,.w (k<zq (zz zm out)),.g (zz zm out) k (zm (gt out k)),.w (isFnB cx h=true),.a _ _,.w (0≤(k:Int))] ⟨tP,oW,nK,o_w (by (simp;omega)),o_gt rfl (by assumption) (by intro h;cases h),f_brn (by assumption),o_a hI,bK,bK,oW,nK,o_w (by (simp;omega)),o_gt rfl (by assumption) (by intro h;cases h),oA,o_a ht,oW,trivial⟩ ?_
    refine gg [.n (zy (k:Int)) k,.w (k<zq (zz zm out)),.g (zz zm out) k (zm (gt out k)),.t (qk 0 (zx (zz zm out) k (T.agg [ti (gt out k).id,ti (gt out k).kind,ti (gt out k).x,ti (gt out k).y,ti (gt out k).vx,ti (gt out k).vy,ti (turn (gt out k).health),ti (gt out k).age,ti (gt out k).owner]))) (qk 0 (zz zm (zx out k (qw (gt out k).id (gt out k).kind (gt out k).x (gt out k).y (gt out k).vx (gt out k).vy (turn (gt out k).health) (gt out k).age (gt out k).owner)))),.w (0≤(i:Int)),.n (zy (i:Int)) i,.w (i<zq (zz T.bool gone)),.g (zz T.bool gone) i (T.bool (gt gone i)),.t (qk 0 (zx (zz T.bool gone) i (T.bool true))) (qk 0 (zz T.bool (zx gone i true))),.i zd ((i:Int)+1) ((↑(i+1):Int)),.a _ _] ⟨nK,o_w (by (simp;omega)),o_gt rfl (by assumption) (by intro h;cases h),o_l (Aao (e:=qw (gt out k).id (gt out k).kind (gt out k).x (gt out k).y (gt out k).vx (gt out k).vy (turn (gt out k).health) (gt out k).age (gt out k).owner) rfl rfl),oW,nK,o_w (by (simp;omega)),oT,o_l (Aao rfl rfl),oI,o_a ih1,trivial⟩ ?_
    exact ge
   |none=>
    have e1:meet1 kind far other turn out gone i=(out,gone):=by simp [meet1,hk,hq]
    rw [e1]
    rw [Abr hq] at hI
    have ih1:=ih (i+1) out gone (by omega) ho hgo
    clear ih hg hh hq e1
    refine qq ?_
    refine gg [.b (decide ((i:Int)<(n:Int))) true,.w (0≤(i:Int)),.n (zy (i:Int)) i,.w (i<zq (zz zm out)),.g (zz zm out) i (zm (gt out i)),.b ((gt out i).kind !=kind) false,.a _ _,.b (flats [ti (-1)]) true,.b (decide (-1≥0)) false,.i zd ((i:Int)+1) ((↑(i+1):Int)),.a _ _] ⟨tP,oW,nK,o_w (by (simp;omega)),o_gt rfl (by assumption) (by intro h;cases h),f_brn (by assumption),o_a hI,bK,bK,oI,o_a ih1,trivial⟩ ?_
    exact ge
  ·have e1:meet1 kind far other turn out gone i=(out,gone):=by simp [meet1,hk]
   rw [e1]
   have ih1:=ih (i+1) out gone (by omega) ho hgo
   clear ih hg hh e1
   refine qq ?_
   refine gg [.b (decide ((i:Int)<(n:Int))) true,.w (0≤(i:Int)),.n (zy (i:Int)) i,.w (i<zq (zz zm out)),.g (zz zm out) i (zm (gt out i)),.b ((gt out i).kind !=kind) true,.i zd ((i:Int)+1) ((↑(i+1):Int)),.a _ _] ⟨tP,oW,nK,o_w (by (simp;omega)),o_gt rfl (by assumption) (by intro h;cases h),t_brn (by assumption),oI,o_a ih1,trivial⟩ ?_
   exact ge
theorem AcA (out:List Entity) (gone:List Bool) (hn:small out) (hgo:gone.length=out.length): ∀(d i:Nat) (A:List Entity),i+d=out.length→A.length≤i→
  Is cx (.loop 117 [0,1,0,1,1,1,1,1] 0 [.all 0 none,.all 1 none,.all 2 none,vi out.length,vi i] [.arr 1 (gone.map T.bool) (some 0) false,.arr 9 (A.map zm) none false,.arr 9 (out.map zm) none false])
   ⟨.exit 2,[.all 0 none,.all 1 none,.all 2 none,vi out.length,vi out.length],[.arr 1 (gone.map T.bool) (some 0) false,.arr 9 ((A++keepL (out.drop i) (gone.drop i)).map zm) none false,.arr 9 (out.map zm) none false]⟩:=by
 unfold small at hn
 intro d
 induction d with
 |zero=>
  intro i A hi hA
  rw [Aaf (l:=out) (by omega)]
  refine qq ?_
  refine gg [.b (decide ((i:Int)<(↑(zq out):Int))) false] ⟨fP,trivial⟩ ?_
  refine rT (a:=qz (qx 2) [qy 0 none,qy 1 none,qy 2 none,vi (↑(zq out):Int),vi (i:Int)] [qv 1 (zz T.bool gone) (some 0) false,qv 9 (zz zm A) none false,qv 9 (zz zm out) none false]) ?_
  ((have hq:i=out.length:=by omega);subst hq;simp [keepL])
 |succ d ih=>
  intro i A hi hA
  have hlt:i<out.length:=by omega
  have hlt2:i<gone.length:=by omega
  have ih1:=ih (i+1) A (by omega) (by omega)
  have ih2:=ih (i+1) (A++ [gt out i]) (by omega) (by simp;omega)
  clear ih
  rw [Aah hlt,Aah hlt2,keepL]
  cases hg:gt gone i with
  |true=>
   have hx:(gone.map T.bool)[i]?=some (T.bool true):=by rw [List.getElem?_map,AdE hlt2,hg];rfl
   simp only [if_true,List.nil_append]
   clear ih2
   refine qq ?_
   refine gg [.b (decide ((i:Int)<(↑(zq out):Int))) true,.w (0≤(i:Int)),.n (zy (i:Int)) i,.w (i<zq (zz zm out)),.g (zz zm out) i (zm (gt out i)),.w (0≤(i:Int)),.n (zy (i:Int)) i,.w (i<zq (zz T.bool gone)),.g (zz T.bool gone) i (T.bool (gt gone i)),.b (!gt gone i) false,.i zd ((i:Int)+1) ((↑(i+1):Int)),.a _ _] ⟨tP,oW,nK,o_w (by (simp;omega)),o_gt rfl (by assumption) (by intro h;cases h),oW,nK,o_w (by (simp;omega)),o_gt rfl (by assumption) (by intro h;cases h),Agd (by assumption),oI,o_a ih1,trivial⟩ ?_
   exact ge
  |false=>
   have hx:(gone.map T.bool)[i]?=some (T.bool false):=by rw [List.getElem?_map,AdE hlt2,hg];rfl
   simp only [Bool.false_eq_true,if_false]
   rw [←List.append_assoc]
   clear ih1
   refine qq ?_
   refine gg [.b (decide ((i:Int)<(↑(zq out):Int))) true,.w (0≤(i:Int)),.n (zy (i:Int)) i,.w (i<zq (zz zm out)),.g (zz zm out) i (zm (gt out i)),.w (0≤(i:Int)),.n (zy (i:Int)) i,.w (i<zq (zz T.bool gone)),.g (zz T.bool gone) i (T.bool (gt gone i)),.b (!gt gone i) true,.w ((0:Nat)<(72:Nat)),.t (qk 0 [zm (gt out i)]) (qk 0 (zz zm [gt out i])),.t (qk 0 (zz zm A++zz zm [gt out i])) (qk 0 (zz zm (A++ [gt out i]))),.w (room (zq (zz zm (A++ [gt out i]))) (72:Nat)),.i zd ((i:Int)+1) ((↑(i+1):Int)),.a _ _] ⟨tP,oW,nK,o_w (by (simp [room,appendMax];omega)),o_gt rfl (by assumption) (by intro h;cases h),oW,nK,o_w (by (simp [room,appendMax];omega)),o_gt rfl (by assumption) (by intro h;cases h),AfT (by assumption),oW,o_l (Aa8 rfl AaV),o_l (Aa1 rfl rfl),o_w (by (simp [room,appendMax];omega)),o_i (w64 (by (simp [room,appendMax];omega))),o_a ih2,trivial⟩ ?_
   exact ge
theorem AcP (l:List Entity) (kind far:Int) (g h:Nat) (other:Entity→Entity→Bool) (turn:Int→Int) (hn:small l) (hb:isFnB cx g=true) (hb2:isFnB cx h=true)
  (hg: ∀t p:Entity,Fn cx g [t.enc,p.enc] (.bool (other t p))) (hh: ∀v:Int,Fn cx h [ti v] (ti (turn v))):
  Is cx (.call 117 [.t (.sl 9 (l.map zm)),vi kind,vi far,.t (.clo g []),.t (.clo h [])] []) ⟨.ret,[.all 0 none],[.arr 9 ((meetL kind far other turn l).map zm) none false]⟩:=by
 have hn':l.length≤1000000:=hn
 have h0:=AcB kind far g h other turn l.length hn hb hb2 hg hh l.length 0 l (zj l.length false) (by omega) rfl (by simp)
 unfold meetL
 have hlen: ∀(d i:Nat) (out:List Entity) (gone:List Bool),(meetN kind far other turn d i out gone).1.length=out.length∧(meetN kind far other turn d i out gone).2.length=gone.length:=by
  intro d
  induction d with
  |zero=>intros;exact ⟨rfl,rfl⟩
  |succ d ih=>
   intro i out gone
   rw [meetN]
   obtain ⟨h1,h2⟩:=ih (i+1) (meet1 kind far other turn out gone i).1 (meet1 kind far other turn out gone i).2
   rw [h1,h2]
   unfold meet1
   split
   ·split<;>simp
   ·exact ⟨rfl,rfl⟩
 obtain ⟨l1,l2⟩:=hlen l.length 0 l (zj l.length false)
 simp only [List.length_replicate] at l2
 rw [List.map_replicate] at h0
 generalize (meetN kind far other turn l.length 0 l (zj l.length false)).1=X at*
 generalize (meetN kind far other turn l.length 0 l (zj l.length false)).2=Y at*
 have h1:=AcA X Y (by unfold small;omega) (by omega) X.length 0 [] (by omega) (by simp)
 rw [List.drop_zero,List.drop_zero,List.nil_append] at h1
 clear hlen hg hh
 refine qq ?_
 refine gg [.a _ _,.n (zq (zz zm l)) (zq l),.w (0≤(↑(zq l):Int)∧(↑(zq l):Int)≤(↑(zq l):Int)∧room (zy (↑(zq l):Int)) (1:Nat)),.n (zy (↑(zq l):Int)) (zq l),.n (zq (zz zm l)) (zq l),.a _ _,.n (zq (zz zm X)) (zq X),.a _ _] ⟨o_a (Aaq l (by assumption)),o_n (by simp),o_w ⟨(by omega),⟨(by omega),(by (simp [room,appendMax];omega))⟩⟩,nK,o_n (by simp),o_a h0,o_n (by simp),o_a h1,trivial⟩ ?_
 exact ge
theorem AdO (t p:Entity):Fn cx 121 [t.enc,p.enc] (.bool (decide (p.id≠t.owner))):=by
 refine qq ?_
 refine rT (a:=qz qj [vb (p.id !=t.owner)] []) ?_
 simp [bned]
theorem Aed (v:Int):Fn cx 122 [ti v] (ti (subH v 20)):=by
 refine qq ?_
 refine gg [.a _ _] ⟨o_a (AbP v 20),trivial⟩ ?_
 exact ge
theorem Aeu (t p:Entity):Fn cx 118 [t.enc,p.enc] (.bool true):=by
 refine qq ?_
 exact ge
theorem Aew (v:Int):Fn cx 119 [ti v] (ti (minI (sumH [v,25]) 100)):=by
 have h:=AeJ [v,25] (by simp [small])
 refine qq ?_
 refine gg [.a _ _,.s (ti (minI (sumH [v,25]) 100))] ⟨o_a h,trivial⟩ ?_
 exact ge
theorem Afh (l:List Entity) (hn:small l):Is cx (.call 66 [.t (.sl 9 (l.map zm))] []) ⟨.ret,[.all 0 none],[.arr 9 ((shotsL l).map zm) none false]⟩:=by
 have h:=AcP l 2 24 121 122 (fun s p=>decide (p.id≠s.owner)) (fun h=>subH h 20) hn (by kernel_rfl) (by kernel_rfl) (fun t p=>AdO t p) (fun v=>Aed v)
 change Is cx _ ⟨_,_,[.arr 9 ((shotsL l).map zm) none false]⟩ at h
 generalize shotsL l=X at*
 refine qq ?_
 refine gg [.a _ _] ⟨o_a h,trivial⟩ ?_
 exact ge
theorem Afv (l:List Entity) (hn:small l):Is cx (.call 65 [.t (.sl 9 (l.map zm))] []) ⟨.ret,[.all 0 none],[.arr 9 ((gemsL l).map zm) none false]⟩:=by
 have h:=AcP l 3 32 118 119 (fun _ _=>true) (fun h=>minI (sumH [h,25]) 100) hn (by kernel_rfl) (by kernel_rfl) (fun t p=>Aeu t p) (fun v=>Aew v)
 change Is cx _ ⟨_,_,[.arr 9 ((gemsL l).map zm) none false]⟩ at h
 generalize gemsL l=X at*
 refine qq ?_
 refine gg [.a _ _] ⟨o_a h,trivial⟩ ?_
 exact ge
theorem Akf {b:Cross} {A:List Entity} {j:Nat} (h:j<A.length):(A.set j (hurtE b (gt A j))).take (j+1)++((A.set j (hurtE b (gt A j))).drop (j+1)).map (hurtE b)=A.take j++(A.drop j).map (hurtE b):=by
 rw [Aah h,List.map_cons,List.drop_set_of_lt (by omega),List.take_add_one,List.take_set_of_le (by omega)]
 simp [h]
theorem Acg (b:Cross) (bl:List Cross) (i:Nat): ∀(d j:Nat) (A:List Entity),j+d=A.length→small A→
  Is cx (.loop 64 [0,1,1,0,0,1,1,0,0,1,0,1,1] 0 [.all 0 none,.ptr 1 0 0,.t (.sl 15 (bl.map zn)),vi bl.length,vi i,vi A.length,vi j] [.arr 9 (A.map zm) none false,.one 15 (.t b.enc) false])
   ⟨.exit 2,[.all 0 none,.ptr 1 0 0,.t (.sl 15 (bl.map zn)),vi bl.length,vi i,vi A.length,vi A.length],[.arr 9 ((A.take j++(A.drop j).map (hurtE b)).map zm) none false,.one 15 (.t b.enc) false]⟩:=by
 intro d
 induction d with
 |zero=>
  intro j A hj hn
  unfold small at hn
  rw [Aaf (by omega),List.take_of_length_le (by omega)]
  refine qq ?_
  refine gg [.b (decide ((j:Int)<(↑(zq A):Int))) false] ⟨fP,trivial⟩ ?_
  refine rT (a:=qz (qx 2) [qy 0 none,V.ptr 1 0 0,V.t (qk 15 (zz zn bl)),vi (↑(zq bl):Int),vi (i:Int),vi (↑(zq A):Int),vi (j:Int)] [qv 9 (zz zm A) none false,qg 15 (V.t (zn b)) false]) ?_
  ((have hq:j=A.length:=by omega);subst hq;simp)
 |succ d ih=>
  intro j A hj hn
  have hlt:j<A.length:=by omega
  have ih1:=ih (j+1) (A.set j (hurtE b (gt A j))) (by simp;omega) (by unfold small at*;simpa using hn)
  rw [Akf hlt,List.length_set] at ih1
  clear ih
  unfold small at hn
  have hN:=AcM (gt A j) b.x b.y 128
  have hS:=AbP (gt A j).health 10
  by_cases hk:b.kind=2
  ·by_cases hp:(gt A j).kind=1
   ·cases hq:nearE (gt A j) b.x b.y 128 with
    |true=>
     rw [hq] at hN
     have e:hurtE b (gt A j)= {gt A j with health:=subH (gt A j).health 10}:=by simp [hurtE,hk,hp,hq]
     rw [e] at ih1
     refine qq ?_
     refine gg [.b (decide ((j:Int)<(↑(zq A):Int))) true,.w (0≤(j:Int)),.n (zy (j:Int)) j,.w (j<zq (zz zm A)),.b (b.kind==2) true,.tt,.tt,.tt,.g (zz zm A) j (zm (gt A j)),.tt,.tt,.b ((gt A j).kind==1) true,.tt,.tt,.tt,.tt] ⟨tP,oW,nK,o_w (by (simp;omega)),t_bre (by assumption),o_gt rfl (by assumption) (by intro h;cases h),t_bre (by assumption),trivial⟩ ?_
     refine gg [.g (zz zm A) j (zm (gt A j)),.tt,.tt,.tt,.a _ _,.tt,.tt,.g (zz zm A) j (zm (gt A j)),.a _ _,.g (zz zm A) j (zm (gt A j)),.t (qk 0 (zx (zz zm A) j (T.agg [ti (gt A j).id,ti (gt A j).kind,ti (gt A j).x,ti (gt A j).y,ti (gt A j).vx,ti (gt A j).vy,ti (subH (gt A j).health 10),ti (gt A j).age,ti (gt A j).owner]))) (qk 0 (zz zm (zx A j (qw (gt A j).id (gt A j).kind (gt A j).x (gt A j).y (gt A j).vx (gt A j).vy (subH (gt A j).health 10) (gt A j).age (gt A j).owner)))),.i zd ((j:Int)+1) ((↑(j+1):Int)),.a _ _] ⟨o_gt rfl (by assumption) (by intro h;cases h),o_a hN,o_gt rfl (by assumption) (by intro h;cases h),o_a hS,o_gt rfl (by assumption) (by intro h;cases h),o_l (Aao (e:=qw (gt A j).id (gt A j).kind (gt A j).x (gt A j).y (gt A j).vx (gt A j).vy (subH (gt A j).health 10) (gt A j).age (gt A j).owner) rfl rfl),oI,o_a ih1,trivial⟩ ?_
     exact ge
    |false=>
     rw [hq] at hN
     have e:hurtE b (gt A j)=gt A j:=by simp [hurtE,hq]
     rw [e,Ahi hlt] at ih1
     refine qq ?_
     refine gg [.b (decide ((j:Int)<(↑(zq A):Int))) true,.w (0≤(j:Int)),.n (zy (j:Int)) j,.w (j<zq (zz zm A)),.b (b.kind==2) true,.tt,.tt,.tt,.g (zz zm A) j (zm (gt A j)),.tt,.tt,.b ((gt A j).kind==1) true,.tt,.tt,.tt,.tt] ⟨tP,oW,nK,o_w (by (simp;omega)),t_bre (by assumption),o_gt rfl (by assumption) (by intro h;cases h),t_bre (by assumption),trivial⟩ ?_
     refine gg [.g (zz zm A) j (zm (gt A j)),.tt,.tt,.tt,.a _ _,.tt,.ff,.i zd ((j:Int)+1) ((↑(j+1):Int)),.a _ _] ⟨o_gt rfl (by assumption) (by intro h;cases h),o_a hN,oI,o_a ih1,trivial⟩ ?_
     exact ge
   ·have e:hurtE b (gt A j)=gt A j:=by simp [hurtE,hp]
    rw [e,Ahi hlt] at ih1
    refine qq ?_
    refine gg [.b (decide ((j:Int)<(↑(zq A):Int))) true,.w (0≤(j:Int)),.n (zy (j:Int)) j,.w (j<zq (zz zm A)),.b (b.kind==2) true,.tt,.tt,.tt,.g (zz zm A) j (zm (gt A j)),.tt,.tt,.b ((gt A j).kind==1) false,.ff,.ff,.ff,.ff] ⟨tP,oW,nK,o_w (by (simp;omega)),t_bre (by assumption),o_gt rfl (by assumption) (by intro h;cases h),f_bre (by assumption),trivial⟩ ?_
    refine gg [.ff,.ff,.ff,.ff,.ff,.i zd ((j:Int)+1) ((↑(j+1):Int)),.a _ _] ⟨oI,o_a ih1,trivial⟩ ?_
    exact ge
  ·have e:hurtE b (gt A j)=gt A j:=by simp [hurtE,hk]
   rw [e,Ahi hlt] at ih1
   refine qq ?_
   refine gg [.b (decide ((j:Int)<(↑(zq A):Int))) true,.w (0≤(j:Int)),.n (zy (j:Int)) j,.w (j<zq (zz zm A)),.b (b.kind==2) false,.ff,.ff,.ff,.ff,.ff,.ff,.ff,.ff,.ff,.ff,.ff] ⟨tP,oW,nK,o_w (by (simp;omega)),f_bre (by assumption),trivial⟩ ?_
   refine gg [.ff,.ff,.ff,.ff,.i zd ((j:Int)+1) ((↑(j+1):Int)),.a _ _] ⟨oI,o_a ih1,trivial⟩ ?_
   exact ge
theorem Acf (bl:List Cross) (hb:small bl): ∀(d i:Nat) (A:List Entity),i+d=bl.length→small A→
  Is cx (.loop 64 [0,1,0,1,1] 0 [.all 0 none,.t (.sl 15 (bl.map zn)),vi bl.length,vi i] [.arr 9 (A.map zm) none false])
   ⟨.exit 0,[.all 0 none,.t (.sl 15 (bl.map zn)),vi bl.length,vi bl.length],[.arr 9 ((blastsL A (bl.drop i)).map zm) none false]⟩:=by
 unfold small at hb
 intro d
 induction d with
 |zero=>
  intro i A hi hn
  rw [Aaf (by omega)]
  refine qq ?_
  refine gg [.b (decide ((i:Int)<(↑(zq bl):Int))) false] ⟨fP,trivial⟩ ?_
  refine rT (a:=qz (qx 0) [qy 0 none,V.t (qk 15 (zz zn bl)),vi (↑(zq bl):Int),vi (i:Int)] [qv 9 (zz zm A) none false]) ?_
  ((have hq:i=bl.length:=by omega);subst hq;rfl)
 |succ d ih=>
  intro i A hi hn
  have hlt:i<bl.length:=by omega
  have ih1:=ih (i+1) (A.map (hurtE (gt bl i))) (by omega) (by unfold small at*;simpa using hn)
  have h1:=Acg (gt bl i) bl i A.length 0 A (by omega) hn
  rw [List.take_zero,List.drop_zero,List.nil_append] at h1
  clear ih
  unfold small at hn
  rw [Aah hlt]
  change Is cx _ ⟨_,_,[.arr 9 ((blastsL (A.map (hurtE (gt bl i))) (bl.drop (i+1))).map zm) none false]⟩
  generalize A.map (hurtE (gt bl i))=B at*
  refine qq ?_
  refine gg [.b (decide ((i:Int)<(↑(zq bl):Int))) true,.w (0≤(i:Int)),.n (zy (i:Int)) i,.g (zz zn bl) i (zn (gt bl i)),.n (zq (zz zm A)) (zq A),.a _ _,.i zd ((i:Int)+1) ((↑(i+1):Int)),.a _ _] ⟨tP,oW,nK,o_gt rfl (by assumption) (by intro h;cases h),o_n (by simp),o_a h1,oI,o_a ih1,trivial⟩ ?_
  exact ge
theorem Aet (l:List Entity) (bl:List Cross) (hn:small l) (hb:small bl):Is cx (.call 64 [.t (.sl 9 (l.map zm)),.t (.sl 15 (bl.map zn))] []) ⟨.ret,[.all 0 none],[.arr 9 ((blastsL l bl).map zm) none false]⟩:=by
 have h:=Acf bl hb bl.length 0 l (by omega) hn
 rw [List.drop_zero] at h
 refine qq ?_
 refine gg [.a _ _,.n (zq (zz zn bl)) (zq bl),.a _ _] ⟨o_a (Aaq l (by assumption)),o_n (by simp),o_a h,trivial⟩ ?_
 exact ge
theorem Ac1 (l:List Entity) (hn:small l): ∀(d i:Nat) (A:List Int),i+d=l.length→A.length≤i→
  Is cx (.loop 123 [0,1,0,1,1] 1 [.all 1 none,.all 0 none,vi l.length,vi i] [.arr 9 (l.map zm) none false,.arr 1 (A.map ti) none false])
   ⟨.exit 0,[.all 1 none,.all 0 none,vi l.length,vi l.length],[.arr 9 (l.map zm) none false,.arr 1 ((A++fallenL (l.drop i)).map ti) none false]⟩:=by
 unfold small at hn
 intro d
 induction d with
 |zero=>
  intro i A hi hA
  rw [Aaf (by omega)]
  refine qq ?_
  refine gg [.b (decide ((i:Int)<(↑(zq l):Int))) false] ⟨fP,trivial⟩ ?_
  refine rT (a:=qz (qx 0) [qy 1 none,qy 0 none,vi (↑(zq l):Int),vi (i:Int)] [qv 9 (zz zm l) none false,qv 1 (zz ti A) none false]) ?_
  ((have hq:i=l.length:=by omega);subst hq;simp [fallenL])
 |succ d ih=>
  intro i A hi hA
  have hlt:i<l.length:=by omega
  have ih1:=ih (i+1) A (by omega) (by omega)
  have ih2:=ih (i+1) (A++ [(gt l i).id]) (by omega) (by simp;omega)
  clear ih
  unfold fallenL at*
  rw [AgL _ hlt]
  refine qq ?_
  refine gg [.b (decide ((i:Int)<(↑(zq l):Int))) true,.w (0≤(i:Int)),.n (zy (i:Int)) i,.w (i<zq (zz zm l)),.g (zz zm l) i (zm (gt l i))] ⟨tP,oW,nK,o_w (by (simp [room,appendMax];omega)),o_gt rfl (by assumption) (by intro h;cases h),trivial⟩ ?_
  refine bre (x:=(gt l i).kind) (y:=1) (by kernel_rfl) (fun h1=> ?_) (fun h1=> ?_)
  ·refine gg [.tt,.tt,.tt] trivial ?_
   refine brp (p:=(gt l i).health≤0) (by kernel_rfl) (fun h2=> ?_) (fun h2=> ?_)
   ·refine gg [.w ((0:Nat)<(8:Nat)),.t (qk 0 [ti (gt l i).id]) (qk 0 (zz (T.int zd) [(gt l i).id])),.t (qk 0 (zz ti A++zz (T.int zd) [(gt l i).id])) (qk 0 (zz ti (A++ [(gt l i).id]))),.w (room (zq (zz ti (A++ [(gt l i).id]))) (8:Nat)),.i zd ((i:Int)+1) ((↑(i+1):Int)),.a _ _] ⟨oW,o_l (Aa8 rfl AaV),o_l (Aa1 rfl rfl),o_w (by (simp [room,appendMax];omega)),o_i (w64 (by (simp [room,appendMax];omega))),o_a ih2,trivial⟩ ?_
    refine rT (a:=qz (qx 0) [qy 1 none,qy 0 none,vi (↑(zq l):Int),vi (↑(zq l):Int)] [qv 9 (zz zm l) none false,qv 1 (zz ti (A++ [(gt l i).id]++zz Entity.id (List.filter fallenP (zk (i+1) l)))) none false]) ?_
    (simp_all [fallenP];try omega)
   ·refine gg [.i zd ((i:Int)+1) ((↑(i+1):Int)),.a _ _] ⟨o_i (w64 (by (simp [room,appendMax];omega))),o_a ih1,trivial⟩ ?_
    refine rT (a:=qz (qx 0) [qy 1 none,qy 0 none,vi (↑(zq l):Int),vi (↑(zq l):Int)] [qv 9 (zz zm l) none false,qv 1 (zz ti (A++zz Entity.id (List.filter fallenP (zk (i+1) l)))) none false]) ?_
    (simp_all [fallenP];try omega)
  ·refine gg [.ff,.ff,.ff,.ff,.i zd ((i:Int)+1) ((↑(i+1):Int)),.a _ _] ⟨o_i (w64 (by (simp [room,appendMax];omega))),o_a ih1,trivial⟩ ?_
   refine rT (a:=qz (qx 0) [qy 1 none,qy 0 none,vi (↑(zq l):Int),vi (↑(zq l):Int)] [qv 9 (zz zm l) none false,qv 1 (zz ti (A++zz Entity.id (List.filter fallenP (zk (i+1) l)))) none false]) ?_
   (simp_all [fallenP];try omega)
theorem Aca (l:List Entity) (hn:small l):Is cx (.call 123 [.all 0 none] [.arr 9 (l.map zm) none false]) ⟨.ret,[.all 1 none],[.arr 9 (l.map zm) none false,.arr 1 ((fallenL l).map ti) none false]⟩:=by
 have h:=Ac1 l hn l.length 0 [] (by omega) (by simp)
 rw [List.drop_zero,List.nil_append] at h
 generalize fallenL l=X at*
 refine qq ?_
 refine gg [.n (zq (zz zm l)) (zq l),.a _ _] ⟨o_n (by simp),o_a h,trivial⟩ ?_
 exact ge
end Go.Eva.S5
namespace Go.Eva.S5
theorem Abe (l:List Entity) (g:Nat) (cs:List T) (p:Entity→Bool) (hb:isFnB cx g=true) (hn:small l)
  (hg: ∀e∈l,Fn cx g (e.enc::cs) (.bool (p e))):Fn cx 95 [.sl 9 (l.map zm),.clo g cs] (.bool (l.any p)):=by
 have h:=Aam l g cs p hb hn hg
 clear hg
 cases hq:l.findIdx? p with
 |some k=>
  rw [AaX hq] at h
  have e:l.any p=true:=by
   obtain ⟨hk,h1,_⟩:=List.findIdx?_eq_some_iff_getElem.1 hq
   exact List.any_eq_true.2 ⟨_,List.getElem_mem hk,h1⟩
  rw [e]
  refine qq ?_
  refine gg [.a _ _] ⟨o_a h,trivial⟩ ?_
  exact ge
 |none=>
  rw [Abr hq] at h
  have e:l.any p=false:=by
   rw [List.any_eq_false]
   intro x hx
   simpa using List.findIdx?_eq_none_iff.1 hq x hx
  rw [e]
  refine qq ?_
  refine gg [.a _ _] ⟨o_a h,trivial⟩ ?_
  exact ge
theorem Abp (l:List Cross) (g:Nat) (cs:List T) (p:Cross→Bool) (hb:isFnB cx g=true) (hn:small l)
  (hg: ∀e∈l,Fn cx g (e.enc::cs) (.bool (p e))):Fn cx 105 [.sl 15 (l.map zn),.clo g cs] (.bool (l.any p)):=by
 have h:=Ab7 l g cs p hb hn hg
 clear hg
 cases hq:l.findIdx? p with
 |some k=>
  rw [AaX hq] at h
  have e:l.any p=true:=by
   obtain ⟨hk,h1,_⟩:=List.findIdx?_eq_some_iff_getElem.1 hq
   exact List.any_eq_true.2 ⟨_,List.getElem_mem hk,h1⟩
  rw [e]
  refine qq ?_
  refine gg [.a _ _] ⟨o_a h,trivial⟩ ?_
  exact ge
 |none=>
  rw [Abr hq] at h
  have e:l.any p=false:=by
   rw [List.any_eq_false]
   intro x hx
   simpa using List.findIdx?_eq_none_iff.1 hq x hx
  rw [e]
  refine qq ?_
  refine gg [.a _ _] ⟨o_a h,trivial⟩ ?_
  exact ge
theorem Abi (l:List Input) (g:Nat) (cs:List T) (p:Input→Bool) (hb:isFnB cx g=true) (hn:small l)
  (hg: ∀e∈l,Fn cx g (e.enc::cs) (.bool (p e))):Fn cx 102 [.sl 3 (l.map zr),.clo g cs] (.bool (l.any p)):=by
 have h:=Ab8 l g cs p hb hn hg
 clear hg
 cases hq:l.findIdx? p with
 |some k=>
  rw [AaX hq] at h
  have e:l.any p=true:=by
   obtain ⟨hk,h1,_⟩:=List.findIdx?_eq_some_iff_getElem.1 hq
   exact List.any_eq_true.2 ⟨_,List.getElem_mem hk,h1⟩
  rw [e]
  refine qq ?_
  refine gg [.a _ _] ⟨o_a h,trivial⟩ ?_
  exact ge
 |none=>
  rw [Abr hq] at h
  have e:l.any p=false:=by
   rw [List.any_eq_false]
   intro x hx
   simpa using List.findIdx?_eq_none_iff.1 hq x hx
  rw [e]
  refine qq ?_
  refine gg [.a _ _] ⟨o_a h,trivial⟩ ?_
  exact ge
theorem AeC (c:Config) (r:Int):Fn cx 92 [c.enc,ti r] (.bool (c.is r)):=by
 have h1:= @Config.regions_le c
 refine qq ?_
 refine brp (p:=r≥0) (by kernel_rfl) (fun h1=> ?_) (fun h1=> ?_)
 ·refine gg [.tt,.tt,.a _ _,.tt,.tt] ⟨o_a (Aa4 c),trivial⟩ ?_
  refine rT (a:=qz qj [vb (decide (r<z0 c))] []) ?_
  (simp only [Config.is,within];first|rfl|(congr 3;rw [Bool.eq_iff_iff];simp;omega))
 ·refine gg [.ff,.ff,.ff,.ff] trivial ?_
  refine rT (a:=qz qj [vb false] []) ?_
  (simp only [Config.is,within];first|rfl|(congr 3;rw [Bool.eq_iff_iff];simp;omega))
theorem Aex (c:Config) (r:Int) (e:Entity):Fn cx 96 [e.enc,.ip 5 c.enc 0,.ip 1 (ti r) 0] (.bool (!(e.right c&&decide (c.of e.x e.y=r)))):=by
 have h1:=Ab0 c e
 have h2:=AbJ c e.x e.y
 cases hr:e.right c with
 |true=>
  rw [hr] at h1
  refine qq ?_
  refine gg [.a _ _,.b (!true) false,.ff,.ff,.ff,.ff,.ff,.ff,.a _ _,.ff,.ff] ⟨o_a h1,bK,o_a h2,trivial⟩ ?_
  refine rT (a:=qz qj [vb (Config.of c e.x e.y !=r)] []) ?_
  simp [bned]
 |false=>
  rw [hr] at h1
  refine qq ?_
  refine gg [.a _ _,.b (!false) true,.tt,.tt,.tt,.tt,.tt,.tt,.tt,.tt] ⟨o_a h1,bK,trivial⟩ ?_
  refine rT (a:=qz qj [vb true] []) ?_
  simp
theorem AcN (c:Config) (r:Int) (s:Region) (hn:small s.ents):Fn cx 54 [c.enc,ti r,s.enc] (.bool (regionRight c r s)):=by
 have q1:=AeC c r
 have q2:=AeY s.ents hn
 have q3:=Abm s.ents hn
 have q4:=Abe s.ents 96 [.ip 5 c.enc 0,.ip 1 (ti r) 0] (fun e=> !(e.right c&&decide (c.of e.x e.y=r))) (by kernel_rfl) hn (fun e _=>Aex c r e)
 have e4:(s.ents.any fun e=> !(e.right c&&decide (c.of e.x e.y=r)))= !(s.ents.all fun e=>e.right c&&decide (c.of e.x e.y=r)):=by rw [List.any_eq_not_all_not];simp
 rw [e4] at q4
 unfold regionRight within
 generalize c.is r=b1 at*
 generalize sortedL s.ents=b2 at*
 generalize things s.ents=n3 at*
 generalize (s.ents.all fun e=>e.right c&&decide (c.of e.x e.y=r))=b4 at*
 obtain ⟨f,l⟩:=s
 refine qq ?_
 refine gg [.a _ _] ⟨o_a q1,trivial⟩ ?_
 refine brnot (b:=b1) (by kernel_rfl) (fun h1=> ?_) (fun h1=> ?_)
 ·refine gg [.tt,.tt,.tt,.tt,.tt,.tt,.tt,.tt,.tt,.tt,.tt,.tt,.tt,.tt,.tt,.tt] trivial ?_
  refine gg [.tt,.tt] trivial ?_
  refine rT (a:=qz qj [vb false] []) ?_
  (simp_all;try omega)
 ·refine gg [.ff,.ff,.ff] trivial ?_
  refine brp (p:=f<0) (by kernel_rfl) (fun h2=> ?_) (fun h2=> ?_)
  ·refine gg [.tt,.tt,.tt,.tt,.tt,.tt,.tt,.tt,.tt,.tt,.tt,.tt,.tt,.tt] trivial ?_
   refine rT (a:=qz qj [vb false] []) ?_
   (simp_all;try omega)
  ·refine gg [.ff,.ff,.ff] trivial ?_
   refine brp (p:=f>10000) (by kernel_rfl) (fun h3=> ?_) (fun h3=> ?_)
   ·refine gg [.tt,.tt,.tt,.tt,.tt,.tt,.tt,.tt,.tt,.tt] trivial ?_
    refine rT (a:=qz qj [vb false] []) ?_
    (simp_all;try omega)
   ·refine gg [.ff,.ff,.a _ _,.ff,.ff] ⟨o_a q2,trivial⟩ ?_
    refine brnot (b:=b2) (by kernel_rfl) (fun h4=> ?_) (fun h4=> ?_)
    ·refine gg [.tt,.tt,.tt,.tt,.tt] trivial ?_
     refine rT (a:=qz qj [vb false] []) ?_
     (simp_all;try omega)
    ·refine gg [.ff,.ff,.a _ _,.ff,.ff] ⟨o_a q3,trivial⟩ ?_
     refine brp (p:=n3>24) (by kernel_rfl) (fun h5=> ?_) (fun h5=> ?_)
     ·refine rT (a:=qz qj [vb false] []) ?_
      (simp_all;try omega)
     ·refine gg [.a _ _,.b (flats [T.bool !b4]) true] ⟨o_a q4,bK,trivial⟩ ?_
      refine rT (a:=qz qj [vb !!b4] []) ?_
      (simp_all;try omega)
theorem Aes (i:Input):Fn cx 103 [i.enc] (.bool (!i.right)):=by
 refine qq ?_
 refine gg [.a _ _] ⟨o_a (AdD i),trivial⟩ ?_
 exact ge
theorem Aeq (c:Config) (r:Int) (s:Region) (m:Cross) (hf:0≤s.frame∧s.frame≤10000):Fn cx 106 [m.enc,.ip 5 c.enc 0,.ip 1 (ti r) 0,.ip 2 s.enc 0] (.bool (!(m.right c&&decide (m.to=r)&&decide (m.frame=s.frame-1)))):=by
 have h:=AfS c m
 obtain ⟨f,l⟩:=s
 simp only at hf
 generalize m.right c=b at*
 cases b with
 |true=>
  refine qq ?_
  refine gg [.a _ _,.b (!true) false,.ff,.ff,.ff,.ff] ⟨o_a h,bK,trivial⟩ ?_
  refine brn (x:=m.to) (y:=r) (by kernel_rfl) (fun h1=> ?_) (fun h1=> ?_)
  ·refine gg [.tt,.tt,.tt,.tt,.tt,.tt] trivial ?_
   refine rT (a:=qz qj [vb true] []) ?_
   (simp_all [bned];try omega)
  ·refine gg [.ff,.ff,.ff,.ff,.i zd (f-1) (f-1),.ff,.ff] ⟨oI,trivial⟩ ?_
   refine rT (a:=qz qj [vb (m.frame !=f-1)] []) ?_
   (simp_all [bned];try omega)
 |false=>
  refine qq ?_
  refine gg [.a _ _,.b (!false) true,.tt,.tt,.tt,.tt,.tt,.tt,.tt,.tt,.tt,.tt,.tt] ⟨o_a h,bK,trivial⟩ ?_
  refine rT (a:=qz qj [vb true] []) ?_
  simp
theorem Afn (c:Config) (r:Int) (s:Region) (ins:List Input) (inbox:List Cross) (hn:small s.ents) (hi:small ins) (hb:small inbox):
  Fn cx 60 [c.enc,ti r,s.enc,.sl 3 (ins.map zr),.sl 15 (inbox.map zn)] (ti (askedE c r s ins inbox)):=by
 have h1:=AeC c r
 have h2:=AcN c r s hn
 have h3:=Abi ins 103 [] (fun i=> !i.right) (by kernel_rfl) hi (fun i _=>Aes i)
 unfold askedE
 cases q1:c.is r with
 |false=>
  rw [q1] at h1
  clear h2 h3
  rw [if_pos rfl]
  obtain ⟨f,l⟩:=s
  refine qq ?_
  refine gg [.a _ _,.b (!false) true] ⟨o_a h1,bK,trivial⟩ ?_
  exact ge
 |true=>
  rw [q1] at h1
  rw [if_neg (by simp)]
  cases q2:regionRight c r s with
  |false=>
   rw [q2] at h2
   clear h3
   rw [if_pos rfl]
   obtain ⟨f,l⟩:=s
   refine qq ?_
   refine gg [.a _ _,.b (!true) false,.a _ _,.b (!false) true] ⟨o_a h1,bK,o_a h2,bK,trivial⟩ ?_
   exact ge
  |true=>
   rw [q2] at h2
   rw [if_neg (by simp)]
   have hf:=(Abg.1 q2).2.1
   have h4:=Abp inbox 106 [.ip 5 c.enc 0,.ip 1 (ti r) 0,.ip 2 s.enc 0] (fun m=> !(m.right c&&decide (m.to=r)&&decide (m.frame=s.frame-1))) (by kernel_rfl) hb (fun m _=>Aeq c r s m hf)
   clear q2
   obtain ⟨f,l⟩:=s
   simp only at hf h4⊢
   unfold small at hi
   generalize (ins.any fun i=> !i.right)=b3 at*
   generalize (inbox.any fun m=> !(m.right c&&decide (m.to=r)&&decide (m.frame=f-1)))=b4 at*
   refine qq ?_
   refine gg [.a _ _,.b (!true) false,.a _ _,.b (!true) false,.n (zq (zz zr ins)) (zq ins)] ⟨o_a h1,bK,o_a h2,bK,o_n (by simp),trivial⟩ ?_
   refine brn (x:=(↑(zq ins):Int)) (y:=c.players) (by kernel_rfl) (fun h1=> ?_) (fun h1=> ?_)
   ·refine gg [.tt,.tt,.tt] trivial ?_
    refine rT (a:=qz qj [vi 11] []) ?_
    (simp_all;try omega)
   ·refine gg [.ff,.a _ _,.ff] ⟨o_a h3,trivial⟩ ?_
    refine br (b:=b3) (by kernel_rfl) (fun h2=> ?_) (fun h2=> ?_)
    ·refine rT (a:=qz qj [vi 11] []) ?_
     (simp_all;try omega)
    ·refine gg [.a _ _,.b (flats [T.bool b4]) true] ⟨o_a h4,bK,trivial⟩ ?_
     refine br (b:=b4) (by kernel_rfl) (fun h3=> ?_) (fun h3=> ?_)
     ·refine rT (a:=qz qj [vi 1] []) ?_
      (simp_all;try omega)
     ·refine bre (x:=f) (y:=10000) (by kernel_rfl) (fun h4=> ?_) (fun h4=> ?_)
      ·refine rT (a:=qz qj [vi 16] []) ?_
       (simp_all;try omega)
      ·refine rT (a:=qz qj [vi 0] []) ?_
       (simp_all;try omega)
theorem AcC (inbox:List Cross) (hb:inbox.length≤100000): ∀(d i:Nat) (A:List Entity),i+d=inbox.length→A.length≤100000+i→
  Is cx (.loop 61 [0,1,0,1,1] 0 [.all 0 none,.t (.sl 15 (inbox.map zn)),vi inbox.length,vi i] [.arr 9 (A.map zm) none false])
   ⟨.exit 0,[.all 0 none,.t (.sl 15 (inbox.map zn)),vi inbox.length,vi inbox.length],[.arr 9 ((arriveL A (inbox.drop i)).map zm) none false]⟩:=by
 intro d
 induction d with
 |zero=>
  intro i A hi hA
  rw [Aaf (by omega)]
  refine qq ?_
  refine gg [.b (decide ((i:Int)<(↑(zq inbox):Int))) false] ⟨fP,trivial⟩ ?_
  refine rT (a:=qz (qx 0) [qy 0 none,V.t (qk 15 (zz zn inbox)),vi (↑(zq inbox):Int),vi (i:Int)] [qv 9 (zz zm A) none false]) ?_
  ((have hq:i=inbox.length:=by omega);subst hq;rfl)
 |succ d ih=>
  intro i A hi hA
  have hlt:i<inbox.length:=by omega
  rw [Aah hlt]
  change Is cx _ ⟨_,_,[.arr 9 ((arriveL (arrive1 A (gt inbox i)) (inbox.drop (i+1))).map zm) none false]⟩
  have hT:=Abm A (by unfold small;omega)
  have hP:=AaR A [(gt inbox i).ent] (by omega) (by simp)
  change Is cx _ ⟨_,_,[.arr 9 ((put1 A (gt inbox i).ent).map zm) none false]⟩ at hP
  have hl:= @Aa6 A (gt inbox i).ent
  have ih1:=ih (i+1) A (by omega) (by omega)
  have ih2:=ih (i+1) (put1 A (gt inbox i).ent) (by omega) (by omega)
  clear ih hl
  by_cases hk:(gt inbox i).kind=1
  ·by_cases he:(gt inbox i).ent.kind=1
   ·have e:arrive1 A (gt inbox i)=put1 A (gt inbox i).ent:=by simp [arrive1,hk,he]
    rw [e]
    generalize put1 A (gt inbox i).ent=B at*
    refine qq ?_
    refine gg [.b (decide ((i:Int)<(↑(zq inbox):Int))) true,.w (0≤(i:Int)),.n (zy (i:Int)) i,.g (zz zn inbox) i (zn (gt inbox i)),.b ((gt inbox i).kind==1) true,.tt,.tt,.tt,.tt,.b ((gt inbox i).ent.kind==1) true,.tt,.tt,.tt,.tt,.tt,.tt] ⟨tP,oW,nK,o_gt rfl (by assumption) (by intro h;cases h),t_bre (by assumption),t_bre (by assumption),trivial⟩ ?_
    refine gg [.a _ _,.i zd ((i:Int)+1) ((↑(i+1):Int)),.a _ _] ⟨o_a hP,oI,o_a ih2,trivial⟩ ?_
    exact ge
   ·by_cases ht:things A<24
    ·have e:arrive1 A (gt inbox i)=put1 A (gt inbox i).ent:=by simp [arrive1,hk,ht]
     rw [e]
     generalize put1 A (gt inbox i).ent=B at*
     generalize things A=n at*
     refine qq ?_
     refine gg [.b (decide ((i:Int)<(↑(zq inbox):Int))) true,.w (0≤(i:Int)),.n (zy (i:Int)) i,.g (zz zn inbox) i (zn (gt inbox i)),.b ((gt inbox i).kind==1) true,.tt,.tt,.tt,.tt,.b ((gt inbox i).ent.kind==1) false,.ff,.a _ _,.b (flats [ti n]) true,.ff,.tt,.ff] ⟨tP,oW,nK,o_gt rfl (by assumption) (by intro h;cases h),t_bre (by assumption),f_bre (by assumption),o_a hT,bK,trivial⟩ ?_
     refine gg [.tt,.b (decide (n<24)) true,.a _ _,.i zd ((i:Int)+1) ((↑(i+1):Int)),.a _ _] ⟨t_brp (by assumption),o_a hP,oI,o_a ih2,trivial⟩ ?_
     exact ge
    ·have e:arrive1 A (gt inbox i)=A:=by simp [arrive1,hk,he,ht]
     rw [e]
     generalize put1 A (gt inbox i).ent=B at*
     generalize things A=n at*
     refine qq ?_
     refine gg [.b (decide ((i:Int)<(↑(zq inbox):Int))) true,.w (0≤(i:Int)),.n (zy (i:Int)) i,.g (zz zn inbox) i (zn (gt inbox i)),.b ((gt inbox i).kind==1) true,.tt,.tt,.tt,.tt,.b ((gt inbox i).ent.kind==1) false,.ff,.a _ _,.b (flats [ti n]) true,.ff,.tt,.ff] ⟨tP,oW,nK,o_gt rfl (by assumption) (by intro h;cases h),t_bre (by assumption),f_bre (by assumption),o_a hT,bK,trivial⟩ ?_
     refine gg [.tt,.b (decide (n<24)) false,.i zd ((i:Int)+1) ((↑(i+1):Int)),.a _ _] ⟨f_brp (by assumption),oI,o_a ih1,trivial⟩ ?_
     exact ge
  ·have e:arrive1 A (gt inbox i)=A:=by simp [arrive1,hk]
   rw [e]
   generalize put1 A (gt inbox i).ent=B at*
   refine qq ?_
   refine gg [.b (decide ((i:Int)<(↑(zq inbox):Int))) true,.w (0≤(i:Int)),.n (zy (i:Int)) i,.g (zz zn inbox) i (zn (gt inbox i)),.b ((gt inbox i).kind==1) false,.ff,.ff,.ff,.ff,.ff,.ff,.ff,.i zd ((i:Int)+1) ((↑(i+1):Int)),.a _ _] ⟨tP,oW,nK,o_gt rfl (by assumption) (by intro h;cases h),f_bre (by assumption),oI,o_a ih1,trivial⟩ ?_
   exact ge
theorem Acy (c:Config) (r:Int) (s:Region) (inbox:List Cross) (hn:s.ents.length≤100000) (hb:inbox.length≤100000):
  Is cx (.call 61 [.t c.enc,vi r,.t s.enc,.t (.sl 15 (inbox.map zn))] []) ⟨.ret,[.all 0 none],[.arr 9 ((arriveL s.ents inbox).map zm) none false]⟩:=by
 have h:=AcC inbox hb inbox.length 0 s.ents (by omega) (by omega)
 rw [List.drop_zero] at h
 obtain ⟨f,l⟩:=s
 simp only at hn h⊢
 have hs:small l:=by unfold small;omega
 refine qq ?_
 refine gg [.a _ _,.n (zq (zz zn inbox)) (zq inbox),.a _ _] ⟨o_a (Aaq l (by assumption)),o_n (by simp),o_a h,trivial⟩ ?_
 exact ge
theorem Ac3 (l:List Entity) (hn:small l): ∀(d i:Nat) (A:List Int),i+d=l.length→A.length≤i→
  Is cx (.loop 31 [0,1,0,1,1] 0 [.all 0 none,.all 1 none,vi l.length,vi i] [.arr 1 (A.map ti) none false,.arr 9 (l.map zm) none false])
   ⟨.exit 0,[.all 0 none,.all 1 none,vi l.length,vi l.length],[.arr 1 ((A++((l.drop i).filter fun e=>decide (e.kind=1)).map Entity.id).map ti) none false,.arr 9 (l.map zm) none false]⟩:=by
 unfold small at hn
 intro d
 induction d with
 |zero=>
  intro i A hi hA
  rw [Aaf (by omega)]
  refine qq ?_
  refine gg [.b (decide ((i:Int)<(↑(zq l):Int))) false] ⟨fP,trivial⟩ ?_
  refine rT (a:=qz (qx 0) [qy 0 none,qy 1 none,vi (↑(zq l):Int),vi (i:Int)] [qv 1 (zz ti A) none false,qv 9 (zz zm l) none false]) ?_
  ((have hq:i=l.length:=by omega);subst hq;simp)
 |succ d ih=>
  intro i A hi hA
  have hlt:i<l.length:=by omega
  have ih1:=ih (i+1) A (by omega) (by omega)
  have ih2:=ih (i+1) (A++ [(gt l i).id]) (by omega) (by simp;omega)
  clear ih
  rw [AgL _ hlt]
  refine qq ?_
  refine gg [.b (decide ((i:Int)<(↑(zq l):Int))) true,.w (0≤(i:Int)),.n (zy (i:Int)) i,.w (i<zq (zz zm l)),.g (zz zm l) i (zm (gt l i))] ⟨tP,oW,nK,o_w (by (simp [room,appendMax];omega)),o_gt rfl (by assumption) (by intro h;cases h),trivial⟩ ?_
  refine bre (x:=(gt l i).kind) (y:=1) (by kernel_rfl) (fun h1=> ?_) (fun h1=> ?_)
  ·refine gg [.w ((0:Nat)<(8:Nat)),.t (qk 0 [ti (gt l i).id]) (qk 0 (zz (T.int zd) [(gt l i).id])),.t (qk 0 (zz ti A++zz (T.int zd) [(gt l i).id])) (qk 0 (zz ti (A++ [(gt l i).id]))),.w (room (zq (zz ti (A++ [(gt l i).id]))) (8:Nat)),.i zd ((i:Int)+1) ((↑(i+1):Int)),.a _ _] ⟨oW,o_l (Aa8 rfl AaV),o_l (Aa1 rfl rfl),o_w (by (simp [room,appendMax];omega)),o_i (w64 (by (simp [room,appendMax];omega))),o_a ih2,trivial⟩ ?_
   refine rT (a:=qz (qx 0) [qy 0 none,qy 1 none,vi (↑(zq l):Int),vi (↑(zq l):Int)] [qv 1 (zz ti (A++ [(gt l i).id]++zz Entity.id (List.filter (fun (e:Entity)↦decide (e.kind=1)) (zk (i+1) l)))) none false,qv 9 (zz zm l) none false]) ?_
   simp_all
  ·refine gg [.i zd ((i:Int)+1) ((↑(i+1):Int)),.a _ _] ⟨o_i (w64 (by (simp [room,appendMax];omega))),o_a ih1,trivial⟩ ?_
   refine rT (a:=qz (qx 0) [qy 0 none,qy 1 none,vi (↑(zq l):Int),vi (↑(zq l):Int)] [qv 1 (zz ti (A++zz Entity.id (List.filter (fun (e:Entity)↦decide (e.kind=1)) (zk (i+1) l)))) none false,qv 9 (zz zm l) none false]) ?_
   simp_all
theorem Ai1 {inbox:List Cross}: ∀ {A:List Entity},(arriveL A inbox).length≤A.length+inbox.length:=by
 induction inbox with
 |nil=>intro A;simp [arriveL]
 |cons m inbox ih=>
  intro A
  have h1:(arrive1 A m).length≤A.length+1:=by
   unfold arrive1
   split
   ·exact Aa6.2
   ·omega
  have:= @ih (arrive1 A m)
  change (arriveL (arrive1 A m) inbox).length≤_
  simp only [List.length_cons]
  omega
theorem Aer (c:Config) (r:Int) (s:Region) (inbox:List Cross) (hn:s.ents.length≤100000) (hb:inbox.length≤100000):
  Fn cx 31 [c.enc,ti r,s.enc,.sl 15 (inbox.map zn)] (.sl 1 ((presentL s.ents inbox).map ti)):=by
 have h1:=Acy c r s inbox hn hb
 have hl:= @Ai1 inbox s.ents
 unfold presentL
 generalize arriveL s.ents inbox=A at*
 have h:=Ac3 A (by unfold small;omega) A.length 0 [] (by omega) (by simp)
 rw [List.drop_zero,List.nil_append] at h
 obtain ⟨f,l⟩:=s
 simp only at hn h1⊢
 generalize ((A.filter fun e=>decide (e.kind=1)).map Entity.id)=X at*
 refine qq ?_
 refine gg [.a _ _,.n (zq (zz zm A)) (zq A),.a _ _] ⟨o_a h1,o_n (by simp),o_a h,trivial⟩ ?_
 exact ge
theorem AfZ (c:Config) (r:Int):Is cx (.call 81 [.t c.enc,vi r] []) ⟨.ret,[vi (c.cornerX r),vi (c.cornerY r)],[]⟩:=by
 have h:=AeF c r
 unfold Config.cornerX Config.cornerY
 cases hi:c.is r with
 |false=>
  rw [hi] at h
  refine qq ?_
  refine gg [.a _ _,.b (!false) true] ⟨o_a h,bK,trivial⟩ ?_
  exact ge
 |true=>
  rw [hi] at h
  have hr:=Config.is_right hi
  have hi2:=(Config.is_iff hr).1 hi
  obtain ⟨hc,hrr,_⟩:=Config.right_iff.1 hr
  have k1:=Aby (v:=r) (k:=c.cols) (m:=c.rows) (by omega) (by omega) (by omega)
  have k2:=Aco (v:=r) (k:=c.cols) (by omega) (by omega)
  refine qq ?_
  refine gg [.a _ _,.b (!true) false,.w (c.cols≠(0:Int)),.s (ti (zg r c.cols)),.i zd (zg r c.cols*1024) (zg r c.cols*1024),.w (c.cols≠(0:Int)),.i zd (Int.tdiv r c.cols) (Int.tdiv r c.cols),.i zd (Int.tdiv r c.cols*1024) (Int.tdiv r c.cols*1024)] ⟨o_a h,bK,oW,oI,oW,oI,oI,trivial⟩ ?_
  exact ge
def stepT (c:Config) (r f:Int) (s:Stg):T:= .agg [ti c.cols,ti c.rows,ti c.players,ti c.window,.int .u64 c.seed,ti r,ti f,.sl 9 (s.l.map zm),ti s.made,.sl 15 (s.out.map zn)]
abbrev stepV (c:Config) (r f made:Int) (lv ov:V):V:= .agg [vi c.cols,vi c.rows,vi c.players,vi c.window,.t (.int .u64 c.seed),vi r,vi f,lv,vi made,ov]
theorem Aau (c:Config) (r f:Int) (s:Stg) (hn:small s.l):Fn cx 110 [.ip 10 (stepT c r f s) 0] (.bool s.room):=by
 have h:=Abm s.l hn
 unfold Stg.room
 obtain ⟨l,made,out⟩:=s
 simp only at h⊢
 unfold stepT
 generalize things l=n at*
 by_cases h1:made<8
 ·refine qq ?_
  refine gg [.b (decide (made<8)) true,.tt,.tt,.tt,.tt,.a _ _,.tt,.tt] ⟨t_brp (by assumption),o_a h,trivial⟩ ?_
  refine rT (a:=qz qj [vb (decide (n<24))] []) ?_
  simp [h1]
 ·refine qq ?_
  refine gg [.b (decide (made<8)) false,.ff,.ff,.ff,.ff,.ff,.ff] ⟨f_brp (by assumption),trivial⟩ ?_
  refine rT (a:=qz qj [vb false] []) ?_
  simp [h1]
theorem Adk {c:Config} {r:Int}:(0≤c.cornerX r∧c.cornerX r≤4096)∧0≤c.cornerY r∧c.cornerY r≤4096:=by
 unfold Config.cornerX Config.cornerY
 split
 ·rename_i hi
  have hr:=Config.is_right hi
  have hi2:=(Config.is_iff hr).1 hi
  obtain ⟨hc,hrr,_⟩:=Config.right_iff.1 hr
  have k1:=Aby (v:=r) (k:=c.cols) (m:=c.rows) (by omega) (by omega) (by omega)
  have k2:=Aco (v:=r) (k:=c.cols) (by omega) (by omega)
  omega
 ·omega
theorem AaM (c:Config) (r f x y o:Int) (s:Stg):Is cx (.call 125 [.t (.ip 10 (stepT c r f s) 0),vi x,vi y,vi o] []) ⟨.ret,[vi (placeX c r f x o),vi (placeY c r f y o)],[]⟩:=by
 have h0:=AfZ c r
 have h1:=Aa0 1024 c.seed [x,f,o] (by decide) (by simp [small])
 have h2:=Aa0 1024 c.seed [y,f,o] (by decide) (by simp [small])
 have b1:=AfY (n:=1024) (seed:=c.seed) (l:= [x,f,o]) (by decide)
 have b2:=AfY (n:=1024) (seed:=c.seed) (l:= [y,f,o]) (by decide)
 have b3:= @Adk c r
 unfold placeX placeY
 obtain ⟨l,made,out⟩:=s
 unfold stepT
 generalize below 1024 c.seed [x,f,o]=v1 at*
 generalize below 1024 c.seed [y,f,o]=v2 at*
 generalize c.cornerX r=v3 at*
 generalize c.cornerY r=v4 at*
 refine qq ?_
 refine gg [.a _ _] ⟨o_a h0,trivial⟩ ?_
 refine bO (bO ?_ ?_) ?_
 all_goals
  refine gg [.a _ _,.i zd (v3+v1) (v3+v1),.a _ _,.i zd (v4+v2) (v4+v2)] ⟨o_a h1,oI,o_a h2,oI,trivial⟩ ?_
  exact ge
theorem AaJ (c:Config) (r f made:Int) (l:List Entity) (o:List Cross) (hr:0≤r∧r≤16) (hf:0≤f∧f≤10000) (hm:0≤made∧made≤1000):
  Is cx (.call 112 [.ptr 0 0 0] [.one 10 (stepV c r f made (.all 1 none) (.fit 15 [])) false,.arr 9 (l.map zm) none false])
   ⟨.ret,[vi (numI c r f made)],[.one 10 (stepV c r f (made+1) (.all 1 none) (.fit 15 [])) false,.arr 9 (l.map zm) none false]⟩:=by
 have h:=Aa4 c
 have hl:= @Config.regions_le c
 unfold numI
 generalize c.regions=g at*
 have h1:0≤f*g∧f*g≤160000:=⟨Int.mul_nonneg hf.1 hl.1,Int.le_trans (Int.mul_le_mul hf.2 hl.2 hl.1 (by omega)) (by omega)⟩
 refine qq ?_
 refine gg [.i zd (made+1) (made+1),.a _ _,.i zd (f*g) (f*g),.i zd (f*g+r) (f*g+r),.i zd ((f*g+r)*8) ((f*g+r)*8),.i zd (1000+(f*g+r)*8) (1000+(f*g+r)*8),.i zd (1000+(f*g+r)*8+(made+1)) (1000+(f*g+r)*8+(made+1)),.i zd (1000+(f*g+r)*8+(made+1)-1) (1000+(f*g+r)*8+(made+1)-1)] ⟨oI,o_a h,oI,oI,oI,oI,oI,oI,trivial⟩ ?_
 exact ge
theorem Aee (c:Config) (r f made:Int) (l:List Entity) (o:List Cross) (hr:0≤r∧r≤16) (hf:0≤f∧f≤10000) (hm:0≤made∧made≤1000):
  Is cx (.call 112 [.ptr 0 0 0] [.one 10 (stepV c r f made (.all 1 none) (.all 2 none)) false,.arr 9 (l.map zm) none false,.arr 15 (o.map zn) none false])
   ⟨.ret,[vi (numI c r f made)],[.one 10 (stepV c r f (made+1) (.all 1 none) (.all 2 none)) false,.arr 9 (l.map zm) none false,.arr 15 (o.map zn) none false]⟩:=by
 have h:=Aa4 c
 have hl:= @Config.regions_le c
 unfold numI
 generalize c.regions=g at*
 have h1:0≤f*g∧f*g≤160000:=⟨Int.mul_nonneg hf.1 hl.1,Int.le_trans (Int.mul_le_mul hf.2 hl.2 hl.1 (by omega)) (by omega)⟩
 refine qq ?_
 refine gg [.i zd (made+1) (made+1),.a _ _,.i zd (f*g) (f*g),.i zd (f*g+r) (f*g+r),.i zd ((f*g+r)*8) ((f*g+r)*8),.i zd (1000+(f*g+r)*8) (1000+(f*g+r)*8),.i zd (1000+(f*g+r)*8+(made+1)) (1000+(f*g+r)*8+(made+1)),.i zd (1000+(f*g+r)*8+(made+1)-1) (1000+(f*g+r)*8+(made+1)-1)] ⟨oI,o_a h,oI,oI,oI,oI,oI,oI,trivial⟩ ?_
 exact ge
theorem Acr (c:Config) (r f made:Int) (l:List Entity) (m:Cross):
  Is cx (.call 124 [.ptr 0 0 0,.t m.enc] [.one 10 (stepV c r f made (.all 1 none) (.fit 15 [])) false,.arr 9 (l.map zm) none false])
   ⟨.ret,[],[.one 10 (stepV c r f made (.all 1 none) (.all 2 none)) false,.arr 9 (l.map zm) none false,.arr 15 ([{m with frm:=r,frame:=f}].map zn) none false]⟩:=by
 refine qq ?_
 refine bO ?_ ?_
 all_goals
  refine gg [.w ((0:Nat)<(120:Nat)),.s (qk 0 [T.agg [ti m.kind,ti r,ti m.to,ti f,ti m.ent.id,ti m.ent.kind,ti m.ent.x,ti m.ent.y,ti m.ent.vx,ti m.ent.vy,ti m.ent.health,ti m.ent.age,ti m.ent.owner,ti m.x,ti m.y]]),.s (qk 0 [T.agg [ti m.kind,ti r,ti m.to,ti f,ti m.ent.id,ti m.ent.kind,ti m.ent.x,ti m.ent.y,ti m.ent.vx,ti m.ent.vy,ti m.ent.health,ti m.ent.age,ti m.ent.owner,ti m.x,ti m.y]]),.w (room (zq [T.agg [ti m.kind,ti r,ti m.to,ti f,ti m.ent.id,ti m.ent.kind,ti m.ent.x,ti m.ent.y,ti m.ent.vx,ti m.ent.vy,ti m.ent.health,ti m.ent.age,ti m.ent.owner,ti m.x,ti m.y]]) (120:Nat))] ⟨o_w (by (simp [room,appendMax])),o_w (by (simp [room,appendMax])),trivial⟩ ?_
  exact ge
theorem Aa9 (c:Config) (r f made:Int) (l:List Entity) (o:List Cross) (m:Cross) (ho:o.length≤100000):
  Is cx (.call 124 [.ptr 0 0 0,.t m.enc] [.one 10 (stepV c r f made (.all 1 none) (.all 2 none)) false,.arr 9 (l.map zm) none false,.arr 15 (o.map zn) none false])
   ⟨.ret,[],[.one 10 (stepV c r f made (.all 1 none) (.all 3 none)) false,.arr 9 (l.map zm) none false,.dead,.arr 15 ((o++ [{m with frm:=r,frame:=f}]).map zn) none false]⟩:=by
 refine qq ?_
 refine bO ?_ ?_
 all_goals
  refine gg [.w ((0:Nat)<(120:Nat)),.s (qk 0 [T.agg [ti m.kind,ti r,ti m.to,ti f,ti m.ent.id,ti m.ent.kind,ti m.ent.x,ti m.ent.y,ti m.ent.vx,ti m.ent.vy,ti m.ent.health,ti m.ent.age,ti m.ent.owner,ti m.x,ti m.y]]),.t (qk 0 (zz zn o++ [T.agg [ti m.kind,ti r,ti m.to,ti f,ti m.ent.id,ti m.ent.kind,ti m.ent.x,ti m.ent.y,ti m.ent.vx,ti m.ent.vy,ti m.ent.health,ti m.ent.age,ti m.ent.owner,ti m.x,ti m.y]])) (qk 0 (zz zn (o++ [Cross.mk m.kind r m.to f m.ent m.x m.y]))),.w (room (zq (zz zn (o++ [Cross.mk m.kind r m.to f m.ent m.x m.y]))) (120:Nat))] ⟨oW,o_l (Aa1 rfl (Aa8 (e:=Cross.mk m.kind r m.to f m.ent m.x m.y) rfl AaV)),o_w (by (simp [room,appendMax];omega)),trivial⟩ ?_
  exact ge
end Go.Eva.S5