/- A reading of the program, proved sound against the model, and what its functions answer by it: part 3. -/
import Derived.Test.YtdlmgaiiheeigaaGreatEva2
set_option linter.unusedSimpArgs false
set_option linter.unusedVariables false
open List renaming length → zq, map → zz, replicate → zj, set → zx, take → zw, drop → zk
open Int renaming toNat → zy, tmod → zg, fdiv → zh
open Go.IntKind renaming i64 → zd, u64 → zf, wrap → zp
open BitVec renaming ofInt → zb
open Go.Eva.Entity renaming enc → zm, less → z8, right → z9, mk → qw
open Go.Eva.Cross renaming enc → zn, less → z7
open Go.Eva.Input renaming enc → zr
open Go.Eva.Region renaming enc → zt
open Go.Eva.Config renaming regions → z0, near → z6
open Go.Eva.Wp renaming ev → qq
open Go.Eva.Res renaming mk → qz
open Go.Eva.Ex renaming ret → qj, exit → qx
open Go.Eva.Ob renaming arr → qv, one → qg
open Go.Eva.T renaming sl → qk
open Go.Eva.V renaming all → qy
namespace Go.Eva.S5
def Ready (ins:List Input) (A:List Entity) (p:Entity):Prop:=(-1000000≤p.age∧p.age≤1000000)∧(p.kind=1→(1≤p.id∧p.id≤ins.length)∧ ∃x∈A,x.id=p.id)
theorem Ajm (c:Config) (r f:Int) (ins:List Input) (hi0:ins.length≤1000000) (hr:0≤r∧r≤16) (hf:0≤f∧f≤10000) (R:List Entity) (hR:R.length≤1000): ∀(d i:Nat) (A:List Entity) (made:Int),i+d=R.length→A.length≤1000+i→0≤made∧made≤8→(∀j,i≤j→j<R.length→Ready ins A (gt R j))→
  Is cx (.loop 62 [0,1] 2 [.ptr 0 0 0,.t (.sl 3 (ins.map zr)),.all 1 none,vi R.length,vi i] [.one 10 (stepV c r f made (.all 2 none) (.fit 15 [])) false,.arr 9 (R.map zm) none true,.arr 9 (A.map zm) none false])
   ⟨.exit 0,[.ptr 0 0 0,.t (.sl 3 (ins.map zr)),.all 1 none,vi R.length,vi R.length],[.one 10 (stepV c r f ((R.drop i).foldl (steer1 c r f ins) ⟨A,made,[]⟩).made (.all 2 none) (.fit 15 [])) false,.arr 9 (R.map zm) none true,.arr 9 (((R.drop i).foldl (steer1 c r f ins) ⟨A,made,[]⟩).l.map zm) none false]⟩:=by
 intro d
 induction d with
 |zero=>
  intro i A made hi hA hm hP
  rw [Aaf (by omega),List.foldl_nil]
  refine qq ?_
  refine gg [.b (decide ((i:Int)<(↑(zq R):Int))) false] ⟨fP,trivial⟩ ?_
  refine rT (a:=qz (qx 0) [V.ptr 0 0 0,V.t (qk 3 (zz zr ins)),qy 1 none,vi (↑(zq R):Int),vi (i:Int)] [qg 10 (V.agg [vi c.cols,vi c.rows,vi c.players,vi c.window,V.t (T.int zf c.seed),vi r,vi f,qy 2 none,vi made,V.fit 15 []]) false,qv 9 (zz zm R) none true,qv 9 (zz zm A) none false]) ?_
  ((have hq:i=R.length:=by omega);subst hq;rfl)
 |succ d ih=>
  intro i A made hi hA hm hP
  have hlt:i<R.length:=by omega
  rw [Aah hlt,List.foldl_cons]
  obtain ⟨hage,hp⟩:=hP i (Nat.le_refl _) hlt
  by_cases hk:(gt R i).kind=1
  ·obtain ⟨hid,hx⟩:=hp hk
   have hS:=AcO (gt R i) (inAt ins (gt R i).id) hage
   have hSid:=(@Afe (gt R i) (inAt ins (gt R i).id)).1
   cases hb:(steerE (gt R i) (inAt ins (gt R i).id)).2 with
   |true=>
    rw [hb] at hS
    cases hroom:Stg.room ⟨A,made,[]⟩ with
    |true=>
     obtain ⟨hm1,_⟩:=Stg.room_iff.1 hroom
     simp only at hm1
     have hrm:=Aau c r f ⟨A,made,[]⟩ (by unfold small;simp only;omega)
     rw [hroom] at hrm
     have hnum:=AaJ c r f made A [] hr hf (by omega)
     have e1:steer1 c r f ins ⟨A,made,[]⟩ (gt R i)=⟨setId (put1 A (shootE (steerE (gt R i) (inAt ins (gt R i).id)).1 (inAt ins (gt R i).id) (numI c r f made))) (gt R i).id (steerE (gt R i) (inAt ins (gt R i).id)).1,made+1,[]⟩:=by simp [steer1,hk,hb,hroom]
     rw [e1]
     have hsh:=AcL (steerE (gt R i) (inAt ins (gt R i).id)).1 (inAt ins (gt R i).id) (numI c r f made)
     generalize hE:(steerE (gt R i) (inAt ins (gt R i).id)).1=E at*
     generalize shootE E (inAt ins (gt R i).id) (numI c r f made)=sh at*
     have hput:=AaR A [sh] (by omega) (by simp)
     change Is cx _ ⟨_,_,[.arr 9 ((put1 A sh).map zm) none false]⟩ at hput
     have hpl:= @Aa6 A sh
     have hx1:=Ae8 (e:=sh) hx
     have ih1:=ih (i+1) (setId (put1 A sh) (gt R i).id E) (made+1) (by omega) (by rw [Ad7];omega) (by omega) fun j h1 h2=>by
      obtain ⟨g1,g2⟩:=hP j (by omega) h2
      exact ⟨g1,fun hk=>⟨(g2 hk).1,Ac5 hx1 hSid (Ae8 (g2 hk).2)⟩⟩
     obtain ⟨k,hk1,hk2,_⟩:=Ab1 hx1
     rw [AbT hk1] at ih1⊢
     have hF:=Aap (put1 A sh) (gt R i).id (by unfold small;omega)
     rw [hk1] at hF
     generalize put1 A sh=B at*
     generalize numI c r f made=nn at*
     clear ih hP e1 hE hroom hx hx1 hk1
     unfold inAt at hS hsh
     refine qq ?_
     refine gg [.b (decide ((i:Int)<(↑(zq R):Int))) true,.w (0≤(i:Int)),.n (zy (i:Int)) i,.w (i<zq (zz zm R)),.g (zz zm R) i (zm (gt R i)),.b ((gt R i).kind !=1) false,.i zd ((gt R i).id-1) ((gt R i).id-1),.w (0≤(gt R i).id-(1:Int)),.l (zy ((gt R i).id-1)),.g (zz zr ins) (zy ((gt R i).id-1)) (zr (gt ins (zy ((gt R i).id-1)))),.a _ _,.tt,.tt,.a _ _,.b (flats [T.bool true]) true,.tt] ⟨tP,oW,nK,o_w (by (simp;omega)),o_gt rfl (by assumption) (by intro h;cases h),f_brn (by assumption),oI,oW,oT,o_a hS,o_a hrm,bK,trivial⟩ ?_
     refine gg [.tt] trivial ?_
     refine bO (bO (bO ?_ ?_) (bO (bO ?_ ?_) ?_)) (bO (bO (bO ?_ ?_) (bO (bO ?_ ?_) ?_)) (bO (bO (bO ?_ ?_) (bO (bO ?_ ?_) ?_)) ?_))
     all_goals
      refine gg [.a _ _,.a _ _,.a _ _,.a _ _,.b (flats [ti (k:Int)]) true,.w (0≤(k:Int)),.n (zy (k:Int)) k,.w (k<zq (zz zm B)),.w (k<zq (zz zm B)),.t (qk 0 (zx (zz zm B) k (zm E))) (qk 0 (zz zm (zx B k E))),.i zd ((i:Int)+1) ((↑(i+1):Int)),.a _ _] ⟨o_a hnum,o_a hsh,o_a hput,o_a hF,bK,oW,nK,o_w (by (simp;omega)),o_w (by (simp;omega)),o_l (Aao rfl rfl),oI,o_a ih1,trivial⟩ ?_
      exact ge
    |false=>
     have hrm:=Aau c r f ⟨A,made,[]⟩ (by unfold small;simp only;omega)
     rw [hroom] at hrm
     have e1:steer1 c r f ins ⟨A,made,[]⟩ (gt R i)=⟨setId A (gt R i).id {(steerE (gt R i) (inAt ins (gt R i).id)).1 with age:=0},made,[]⟩:=by simp [steer1,hk,hb,hroom]
     rw [e1]
     generalize hE:(steerE (gt R i) (inAt ins (gt R i).id)).1=E at*
     have ih1:=ih (i+1) (setId A (gt R i).id {E with age:=0}) made (by omega) (by rw [Ad7];omega) hm fun j h1 h2=>by
      obtain ⟨g1,g2⟩:=hP j (by omega) h2
      exact ⟨g1,fun hk=>⟨(g2 hk).1,Ac5 hx hSid (g2 hk).2⟩⟩
     obtain ⟨k,hk1,hk2,_⟩:=Ab1 hx
     rw [AbT hk1] at ih1⊢
     have hF:=Aap A (gt R i).id (by unfold small;omega)
     rw [hk1] at hF
     clear ih hP e1 hE hroom hx hk1
     unfold inAt at hS
     refine qq ?_
     refine gg [.b (decide ((i:Int)<(↑(zq R):Int))) true,.w (0≤(i:Int)),.n (zy (i:Int)) i,.w (i<zq (zz zm R)),.g (zz zm R) i (zm (gt R i)),.b ((gt R i).kind !=1) false,.i zd ((gt R i).id-1) ((gt R i).id-1),.w (0≤(gt R i).id-(1:Int)),.l (zy ((gt R i).id-1)),.g (zz zr ins) (zy ((gt R i).id-1)) (zr (gt ins (zy ((gt R i).id-1)))),.a _ _,.tt,.tt,.a _ _,.b (flats [T.bool false]) true,.tt] ⟨tP,oW,nK,o_w (by (simp;omega)),o_gt rfl (by assumption) (by intro h;cases h),f_brn (by assumption),oI,oW,oT,o_a hS,o_a hrm,bK,trivial⟩ ?_
     refine gg [.ff,.tt,.a _ _,.b (flats [ti (k:Int)]) true,.w (0≤(k:Int)),.n (zy (k:Int)) k,.w (k<zq (zz zm A)),.w (k<zq (zz zm A)),.t (qk 0 (zx (zz zm A) k (T.agg [ti E.id,ti E.kind,ti E.x,ti E.y,ti E.vx,ti E.vy,ti E.health,ti 0,ti E.owner]))) (qk 0 (zz zm (zx A k (qw E.id E.kind E.x E.y E.vx E.vy E.health 0 E.owner)))),.i zd ((i:Int)+1) ((↑(i+1):Int)),.a _ _] ⟨o_a hF,bK,oW,nK,o_w (by (simp;omega)),o_w (by (simp;omega)),o_l (Aao (e:=qw E.id E.kind E.x E.y E.vx E.vy E.health 0 E.owner) rfl rfl),oI,o_a ih1,trivial⟩ ?_
     exact ge
   |false=>
    rw [hb] at hS
    have e1:steer1 c r f ins ⟨A,made,[]⟩ (gt R i)=⟨setId A (gt R i).id (steerE (gt R i) (inAt ins (gt R i).id)).1,made,[]⟩:=by simp [steer1,hk,hb]
    rw [e1]
    generalize hE:(steerE (gt R i) (inAt ins (gt R i).id)).1=E at*
    have ih1:=ih (i+1) (setId A (gt R i).id E) made (by omega) (by rw [Ad7];omega) hm fun j h1 h2=>by
     obtain ⟨g1,g2⟩:=hP j (by omega) h2
     exact ⟨g1,fun hk=>⟨(g2 hk).1,Ac5 hx hSid (g2 hk).2⟩⟩
    obtain ⟨k,hk1,hk2,_⟩:=Ab1 hx
    rw [AbT hk1] at ih1⊢
    have hF:=Aap A (gt R i).id (by unfold small;omega)
    rw [hk1] at hF
    clear ih hP e1 hE hx hk1
    unfold inAt at hS
    refine qq ?_
    refine gg [.b (decide ((i:Int)<(↑(zq R):Int))) true,.w (0≤(i:Int)),.n (zy (i:Int)) i,.w (i<zq (zz zm R)),.g (zz zm R) i (zm (gt R i)),.b ((gt R i).kind !=1) false,.i zd ((gt R i).id-1) ((gt R i).id-1),.w (0≤(gt R i).id-(1:Int)),.l (zy ((gt R i).id-1)),.g (zz zr ins) (zy ((gt R i).id-1)) (zr (gt ins (zy ((gt R i).id-1)))),.a _ _,.ff,.ff,.ff,.ff,.ff] ⟨tP,oW,nK,o_w (by (simp;omega)),o_gt rfl (by assumption) (by intro h;cases h),f_brn (by assumption),oI,oW,oT,o_a hS,trivial⟩ ?_
    refine gg [.a _ _,.b (flats [ti (k:Int)]) true,.w (0≤(k:Int)),.n (zy (k:Int)) k,.w (k<zq (zz zm A)),.w (k<zq (zz zm A)),.t (qk 0 (zx (zz zm A) k (zm E))) (qk 0 (zz zm (zx A k E))),.i zd ((i:Int)+1) ((↑(i+1):Int)),.a _ _] ⟨o_a hF,bK,oW,nK,o_w (by (simp;omega)),o_w (by (simp;omega)),o_l (Aao rfl rfl),oI,o_a ih1,trivial⟩ ?_
    exact ge
  ·have e1:steer1 c r f ins ⟨A,made,[]⟩ (gt R i)=⟨A,made,[]⟩:=by simp [steer1,hk]
   rw [e1]
   have ih1:=ih (i+1) A made (by omega) (by omega) hm fun j h1 h2=>hP j (by omega) h2
   clear ih hP e1
   refine qq ?_
   refine gg [.b (decide ((i:Int)<(↑(zq R):Int))) true,.w (0≤(i:Int)),.n (zy (i:Int)) i,.w (i<zq (zz zm R)),.g (zz zm R) i (zm (gt R i)),.b ((gt R i).kind !=1) true,.i zd ((i:Int)+1) ((↑(i+1):Int)),.a _ _] ⟨tP,oW,nK,o_w (by (simp;omega)),o_gt rfl (by assumption) (by intro h;cases h),t_brn (by assumption),oI,o_a ih1,trivial⟩ ?_
   exact ge
theorem AjE (c:Config) (r f:Int) (ins:List Input) (hi0:ins.length≤1000000) (hr:0≤r∧r≤16) (hf:0≤f∧f≤10000): ∀(d i:Nat) (A:List Entity) (made:Int),i+d=A.length→A.length≤1000→0≤made∧made≤8→(∀j,i≤j→j<A.length→Ready ins A (gt A j))→
  Is cx (.loop 62 [0,1] 2 [.ptr 0 0 0,.t (.sl 3 (ins.map zr)),.all 1 none,vi A.length,vi i] [.one 10 (stepV c r f made (.all 1 none) (.fit 15 [])) false,.arr 9 (A.map zm) none false])
   ⟨.exit 0,[.ptr 0 0 0,.t (.sl 3 (ins.map zr)),.all 1 none,vi A.length,vi A.length],[.one 10 (stepV c r f ((A.drop i).foldl (steer1 c r f ins) ⟨A,made,[]⟩).made (.all 1 none) (.fit 15 [])) false,.arr 9 (((A.drop i).foldl (steer1 c r f ins) ⟨A,made,[]⟩).l.map zm) none false]⟩∨
  ∃X:List Entity,Is cx (.loop 62 [0,1] 2 [.ptr 0 0 0,.t (.sl 3 (ins.map zr)),.all 1 none,vi A.length,vi i] [.one 10 (stepV c r f made (.all 1 none) (.fit 15 [])) false,.arr 9 (A.map zm) none false])
   ⟨.exit 0,[.ptr 0 0 0,.t (.sl 3 (ins.map zr)),.all 1 none,vi A.length,vi A.length],[.one 10 (stepV c r f ((A.drop i).foldl (steer1 c r f ins) ⟨A,made,[]⟩).made (.all 2 none) (.fit 15 [])) false,.arr 9 (X.map zm) none true,.arr 9 (((A.drop i).foldl (steer1 c r f ins) ⟨A,made,[]⟩).l.map zm) none false]⟩:=by
 intro d
 induction d with
 |zero=>
  intro i A made hi hA hm hP
  left
  rw [Aaf (by omega),List.foldl_nil]
  refine qq ?_
  refine gg [.b (decide ((i:Int)<(↑(zq A):Int))) false] ⟨fP,trivial⟩ ?_
  refine rT (a:=qz (qx 0) [V.ptr 0 0 0,V.t (qk 3 (zz zr ins)),qy 1 none,vi (↑(zq A):Int),vi (i:Int)] [qg 10 (V.agg [vi c.cols,vi c.rows,vi c.players,vi c.window,V.t (T.int zf c.seed),vi r,vi f,qy 1 none,vi made,V.fit 15 []]) false,qv 9 (zz zm A) none false]) ?_
  ((have hq:i=A.length:=by omega);subst hq;rfl)
 |succ d ih=>
  intro i A made hi hA hm hP
  have hlt:i<A.length:=by omega
  obtain ⟨hage,hp⟩:=hP i (Nat.le_refl _) hlt
  rw [Aah hlt,List.foldl_cons]
  have step: ∀(k:Nat) (E:Entity),find A (gt A i).id=k→(∃x∈A,x.id=(gt A i).id)→E.id=(gt A i).id→(A.set k E).drop (i+1)=A.drop (i+1)∧(A.set k E).length=A.length∧ ∀j,i+1≤j→j<(A.set k E).length→Ready ins (A.set k E) (gt (A.set k E) j):=by
   intro k E hk hx hE
   have hki:=AkN hlt rfl hk
   refine ⟨Ajn (by simp) fun j h1 _=>Ag6 (by omega),by simp,fun j h1 h2=> ?_⟩
   rw [Ag6 (by omega)]
   obtain ⟨g1,g2⟩:=hP j (by omega) (by simpa using h2)
   refine ⟨g1,fun hk2=>⟨(g2 hk2).1,?_⟩⟩
   have:=Ac5 hx hE (g2 hk2).2
   rwa [AbT hk] at this
  by_cases hk:(gt A i).kind=1
  ·obtain ⟨hid,hx⟩:=hp hk
   have hS:=AcO (gt A i) (inAt ins (gt A i).id) hage
   have hSid:=(@Afe (gt A i) (inAt ins (gt A i).id)).1
   cases hb:(steerE (gt A i) (inAt ins (gt A i).id)).2 with
   |true=>
    rw [hb] at hS
    cases hroom:Stg.room ⟨A,made,[]⟩ with
    |true=>
     right
     refine ⟨A,?_⟩
     obtain ⟨hm1,_⟩:=Stg.room_iff.1 hroom
     simp only at hm1
     have hrm:=Aau c r f ⟨A,made,[]⟩ (by unfold small;simp only;omega)
     rw [hroom] at hrm
     have hnum:=AaJ c r f made A [] hr hf (by omega)
     have e1:steer1 c r f ins ⟨A,made,[]⟩ (gt A i)=⟨setId (put1 A (shootE (steerE (gt A i) (inAt ins (gt A i).id)).1 (inAt ins (gt A i).id) (numI c r f made))) (gt A i).id (steerE (gt A i) (inAt ins (gt A i).id)).1,made+1,[]⟩:=by simp [steer1,hk,hb,hroom]
     rw [e1]
     have hsh:=AcL (steerE (gt A i) (inAt ins (gt A i).id)).1 (inAt ins (gt A i).id) (numI c r f made)
     generalize hE:(steerE (gt A i) (inAt ins (gt A i).id)).1=E at*
     generalize shootE E (inAt ins (gt A i).id) (numI c r f made)=sh at*
     have hput:=AaR A [sh] (by omega) (by simp)
     change Is cx _ ⟨_,_,[.arr 9 ((put1 A sh).map zm) none false]⟩ at hput
     have hpl:= @Aa6 A sh
     have hx1:=Ae8 (e:=sh) hx
     have ih1:=Ajm c r f ins hi0 hr hf A hA d (i+1) (setId (put1 A sh) (gt A i).id E) (made+1) (by omega) (by rw [Ad7];omega) (by omega) fun j h1 h2=>by
      obtain ⟨g1,g2⟩:=hP j (by omega) h2
      exact ⟨g1,fun hk=>⟨(g2 hk).1,Ac5 hx1 hSid (Ae8 (g2 hk).2)⟩⟩
     obtain ⟨k,hk1,hk2,_⟩:=Ab1 hx1
     rw [AbT hk1] at ih1⊢
     have hF:=Aap (put1 A sh) (gt A i).id (by unfold small;omega)
     rw [hk1] at hF
     generalize put1 A sh=B at*
     generalize numI c r f made=nn at*
     clear ih hP e1 hE hroom hx hx1 hk1 step
     unfold inAt at hS hsh
     refine qq ?_
     refine gg [.b (decide ((i:Int)<(↑(zq A):Int))) true,.w (0≤(i:Int)),.n (zy (i:Int)) i,.w (i<zq (zz zm A)),.g (zz zm A) i (zm (gt A i)),.b ((gt A i).kind !=1) false,.i zd ((gt A i).id-1) ((gt A i).id-1),.w (0≤(gt A i).id-(1:Int)),.l (zy ((gt A i).id-1)),.g (zz zr ins) (zy ((gt A i).id-1)) (zr (gt ins (zy ((gt A i).id-1)))),.a _ _,.tt,.tt,.a _ _,.b (flats [T.bool true]) true,.tt] ⟨tP,oW,nK,o_w (by (simp;omega)),o_gt rfl (by assumption) (by intro h;cases h),f_brn (by assumption),oI,oW,oT,o_a hS,o_a hrm,bK,trivial⟩ ?_
     refine gg [.tt] trivial ?_
     refine bO (bO (bO ?_ ?_) (bO (bO ?_ ?_) ?_)) (bO (bO (bO ?_ ?_) (bO (bO ?_ ?_) ?_)) (bO (bO (bO ?_ ?_) (bO (bO ?_ ?_) ?_)) ?_))
     all_goals
      refine gg [.a _ _,.a _ _,.a _ _,.a _ _,.b (flats [ti (k:Int)]) true,.w (0≤(k:Int)),.n (zy (k:Int)) k,.w (k<zq (zz zm B)),.w (k<zq (zz zm B)),.t (qk 0 (zx (zz zm B) k (zm E))) (qk 0 (zz zm (zx B k E))),.i zd ((i:Int)+1) ((↑(i+1):Int)),.a _ _] ⟨o_a hnum,o_a hsh,o_a hput,o_a hF,bK,oW,nK,o_w (by (simp;omega)),o_w (by (simp;omega)),o_l (Aao rfl rfl),oI,o_a ih1,trivial⟩ ?_
      exact ge
    |false=>
     have hrm:=Aau c r f ⟨A,made,[]⟩ (by unfold small;simp only;omega)
     rw [hroom] at hrm
     have e1:steer1 c r f ins ⟨A,made,[]⟩ (gt A i)=⟨setId A (gt A i).id {(steerE (gt A i) (inAt ins (gt A i).id)).1 with age:=0},made,[]⟩:=by simp [steer1,hk,hb,hroom]
     rw [e1]
     generalize hE:(steerE (gt A i) (inAt ins (gt A i).id)).1=E at*
     obtain ⟨k,hk1,hk2,_⟩:=Ab1 hx
     obtain ⟨s1,s2,s3⟩:=step k {E with age:=0} hk1 hx hSid
     rw [AbT hk1]
     have ih1:=ih (i+1) (A.set k {E with age:=0}) made (by omega) (by omega) hm s3
     rw [s1,s2] at ih1
     have hF:=Aap A (gt A i).id (by unfold small;omega)
     rw [hk1] at hF
     clear ih hP e1 hE hroom hx hk1 step s1 s2 s3
     unfold inAt at hS
     rcases ih1 with ih1|⟨X,ih1⟩
     ·left
      refine qq ?_
      refine gg [.b (decide ((i:Int)<(↑(zq A):Int))) true,.w (0≤(i:Int)),.n (zy (i:Int)) i,.w (i<zq (zz zm A)),.g (zz zm A) i (zm (gt A i)),.b ((gt A i).kind !=1) false,.i zd ((gt A i).id-1) ((gt A i).id-1),.w (0≤(gt A i).id-(1:Int)),.l (zy ((gt A i).id-1)),.g (zz zr ins) (zy ((gt A i).id-1)) (zr (gt ins (zy ((gt A i).id-1)))),.a _ _,.tt,.tt,.a _ _,.b (flats [T.bool false]) true,.tt] ⟨tP,oW,nK,o_w (by (simp;omega)),o_gt rfl (by assumption) (by intro h;cases h),f_brn (by assumption),oI,oW,oT,o_a hS,o_a hrm,bK,trivial⟩ ?_
      refine gg [.ff,.tt,.a _ _,.b (flats [ti (k:Int)]) true,.w (0≤(k:Int)),.n (zy (k:Int)) k,.w (k<zq (zz zm A)),.w (k<zq (zz zm A)),.t (qk 0 (zx (zz zm A) k (T.agg [ti E.id,ti E.kind,ti E.x,ti E.y,ti E.vx,ti E.vy,ti E.health,ti 0,ti E.owner]))) (qk 0 (zz zm (zx A k (qw E.id E.kind E.x E.y E.vx E.vy E.health 0 E.owner)))),.i zd ((i:Int)+1) ((↑(i+1):Int)),.a _ _] ⟨o_a hF,bK,oW,nK,o_w (by (simp;omega)),o_w (by (simp;omega)),o_l (Aao (e:=qw E.id E.kind E.x E.y E.vx E.vy E.health 0 E.owner) rfl rfl),oI,o_a ih1,trivial⟩ ?_
      exact ge
     ·right
      refine ⟨X,?_⟩
      refine qq ?_
      refine gg [.b (decide ((i:Int)<(↑(zq A):Int))) true,.w (0≤(i:Int)),.n (zy (i:Int)) i,.w (i<zq (zz zm A)),.g (zz zm A) i (zm (gt A i)),.b ((gt A i).kind !=1) false,.i zd ((gt A i).id-1) ((gt A i).id-1),.w (0≤(gt A i).id-(1:Int)),.l (zy ((gt A i).id-1)),.g (zz zr ins) (zy ((gt A i).id-1)) (zr (gt ins (zy ((gt A i).id-1)))),.a _ _,.tt,.tt,.a _ _,.b (flats [T.bool false]) true,.tt] ⟨tP,oW,nK,o_w (by (simp;omega)),o_gt rfl (by assumption) (by intro h;cases h),f_brn (by assumption),oI,oW,oT,o_a hS,o_a hrm,bK,trivial⟩ ?_
      refine gg [.ff,.tt,.a _ _,.b (flats [ti (k:Int)]) true,.w (0≤(k:Int)),.n (zy (k:Int)) k,.w (k<zq (zz zm A)),.w (k<zq (zz zm A)),.t (qk 0 (zx (zz zm A) k (T.agg [ti E.id,ti E.kind,ti E.x,ti E.y,ti E.vx,ti E.vy,ti E.health,ti 0,ti E.owner]))) (qk 0 (zz zm (zx A k (qw E.id E.kind E.x E.y E.vx E.vy E.health 0 E.owner)))),.i zd ((i:Int)+1) ((↑(i+1):Int)),.a _ _] ⟨o_a hF,bK,oW,nK,o_w (by (simp;omega)),o_w (by (simp;omega)),o_l (Aao (e:=qw E.id E.kind E.x E.y E.vx E.vy E.health 0 E.owner) rfl rfl),oI,o_a ih1,trivial⟩ ?_
      exact ge
   |false=>
    rw [hb] at hS
    have e1:steer1 c r f ins ⟨A,made,[]⟩ (gt A i)=⟨setId A (gt A i).id (steerE (gt A i) (inAt ins (gt A i).id)).1,made,[]⟩:=by simp [steer1,hk,hb]
    rw [e1]
    generalize hE:(steerE (gt A i) (inAt ins (gt A i).id)).1=E at*
    obtain ⟨k,hk1,hk2,_⟩:=Ab1 hx
    obtain ⟨s1,s2,s3⟩:=step k E hk1 hx hSid
    rw [AbT hk1]
    have ih1:=ih (i+1) (A.set k E) made (by omega) (by omega) hm s3
    rw [s1,s2] at ih1
    have hF:=Aap A (gt A i).id (by unfold small;omega)
    rw [hk1] at hF
    clear ih hP e1 hE hx hk1 step s1 s2 s3
    unfold inAt at hS
    rcases ih1 with ih1|⟨X,ih1⟩
    ·left
     refine qq ?_
     refine gg [.b (decide ((i:Int)<(↑(zq A):Int))) true,.w (0≤(i:Int)),.n (zy (i:Int)) i,.w (i<zq (zz zm A)),.g (zz zm A) i (zm (gt A i)),.b ((gt A i).kind !=1) false,.i zd ((gt A i).id-1) ((gt A i).id-1),.w (0≤(gt A i).id-(1:Int)),.l (zy ((gt A i).id-1)),.g (zz zr ins) (zy ((gt A i).id-1)) (zr (gt ins (zy ((gt A i).id-1)))),.a _ _,.ff,.ff,.ff,.ff,.ff] ⟨tP,oW,nK,o_w (by (simp;omega)),o_gt rfl (by assumption) (by intro h;cases h),f_brn (by assumption),oI,oW,oT,o_a hS,trivial⟩ ?_
     refine gg [.a _ _,.b (flats [ti (k:Int)]) true,.w (0≤(k:Int)),.n (zy (k:Int)) k,.w (k<zq (zz zm A)),.w (k<zq (zz zm A)),.t (qk 0 (zx (zz zm A) k (zm E))) (qk 0 (zz zm (zx A k E))),.i zd ((i:Int)+1) ((↑(i+1):Int)),.a _ _] ⟨o_a hF,bK,oW,nK,o_w (by (simp;omega)),o_w (by (simp;omega)),o_l (Aao rfl rfl),oI,o_a ih1,trivial⟩ ?_
     exact ge
    ·right
     refine ⟨X,?_⟩
     refine qq ?_
     refine gg [.b (decide ((i:Int)<(↑(zq A):Int))) true,.w (0≤(i:Int)),.n (zy (i:Int)) i,.w (i<zq (zz zm A)),.g (zz zm A) i (zm (gt A i)),.b ((gt A i).kind !=1) false,.i zd ((gt A i).id-1) ((gt A i).id-1),.w (0≤(gt A i).id-(1:Int)),.l (zy ((gt A i).id-1)),.g (zz zr ins) (zy ((gt A i).id-1)) (zr (gt ins (zy ((gt A i).id-1)))),.a _ _,.ff,.ff,.ff,.ff,.ff] ⟨tP,oW,nK,o_w (by (simp;omega)),o_gt rfl (by assumption) (by intro h;cases h),f_brn (by assumption),oI,oW,oT,o_a hS,trivial⟩ ?_
     refine gg [.a _ _,.b (flats [ti (k:Int)]) true,.w (0≤(k:Int)),.n (zy (k:Int)) k,.w (k<zq (zz zm A)),.w (k<zq (zz zm A)),.t (qk 0 (zx (zz zm A) k (zm E))) (qk 0 (zz zm (zx A k E))),.i zd ((i:Int)+1) ((↑(i+1):Int)),.a _ _] ⟨o_a hF,bK,oW,nK,o_w (by (simp;omega)),o_w (by (simp;omega)),o_l (Aao rfl rfl),oI,o_a ih1,trivial⟩ ?_
     exact ge
  ·have e1:steer1 c r f ins ⟨A,made,[]⟩ (gt A i)=⟨A,made,[]⟩:=by simp [steer1,hk]
   rw [e1]
   have ih1:=ih (i+1) A made (by omega) hA hm fun j h1 h2=>hP j (by omega) h2
   clear ih hP e1 step
   rcases ih1 with ih1|⟨X,ih1⟩
   ·left
    refine qq ?_
    refine gg [.b (decide ((i:Int)<(↑(zq A):Int))) true,.w (0≤(i:Int)),.n (zy (i:Int)) i,.w (i<zq (zz zm A)),.g (zz zm A) i (zm (gt A i)),.b ((gt A i).kind !=1) true,.i zd ((i:Int)+1) ((↑(i+1):Int)),.a _ _] ⟨tP,oW,nK,o_w (by (simp;omega)),o_gt rfl (by assumption) (by intro h;cases h),t_brn (by assumption),oI,o_a ih1,trivial⟩ ?_
    exact ge
   ·right
    refine ⟨X,?_⟩
    refine qq ?_
    refine gg [.b (decide ((i:Int)<(↑(zq A):Int))) true,.w (0≤(i:Int)),.n (zy (i:Int)) i,.w (i<zq (zz zm A)),.g (zz zm A) i (zm (gt A i)),.b ((gt A i).kind !=1) true,.i zd ((i:Int)+1) ((↑(i+1):Int)),.a _ _] ⟨tP,oW,nK,o_w (by (simp;omega)),o_gt rfl (by assumption) (by intro h;cases h),t_brn (by assumption),oI,o_a ih1,trivial⟩ ?_
    exact ge
theorem Afs (c:Config) (r f:Int) (ins:List Input) (L:List Entity) (hi0:ins.length≤1000000) (hr:0≤r∧r≤16) (hf:0≤f∧f≤10000) (hL:L.length≤1000) (hP: ∀p∈L,(-1000000≤p.age∧p.age≤1000000)∧(p.kind=1→1≤p.id∧p.id≤ins.length)):
  Is cx (.call 62 [.ptr 0 0 0,.t (.sl 3 (ins.map zr))] [.one 10 (stepV c r f 0 (.all 1 none) (.fit 15 [])) false,.arr 9 (L.map zm) none false])
   ⟨.ret,[],[.one 10 (stepV c r f (steerS c r f ins ⟨L,0,[]⟩).made (.all 1 none) (.fit 15 [])) false,.arr 9 ((steerS c r f ins ⟨L,0,[]⟩).l.map zm) none false]⟩∨
  ∃X:List Entity,Is cx (.call 62 [.ptr 0 0 0,.t (.sl 3 (ins.map zr))] [.one 10 (stepV c r f 0 (.all 1 none) (.fit 15 [])) false,.arr 9 (L.map zm) none false])
   ⟨.ret,[],[.one 10 (stepV c r f (steerS c r f ins ⟨L,0,[]⟩).made (.all 2 none) (.fit 15 [])) false,.arr 9 (X.map zm) none true,.arr 9 ((steerS c r f ins ⟨L,0,[]⟩).l.map zm) none false]⟩:=by
 have h:=AjE c r f ins hi0 hr hf L.length 0 L 0 (by omega) hL (by omega) fun j _ h2=>by
  obtain ⟨g1,g2⟩:=hP _ (Abu h2)
  exact ⟨g1,fun hk=>⟨g2 hk,_,Abu h2,rfl⟩⟩
 rw [List.drop_zero] at h
 change _∨ ∃X,_ at h
 unfold steerS
 simp only
 generalize L.foldl (steer1 c r f ins) ⟨L,0,[]⟩=S at*
 obtain ⟨A,made,o⟩:=S
 simp only at h⊢
 rcases h with h|⟨X,h⟩
 ·left
  refine qq ?_
  refine gg [.n (zq (zz zm L)) (zq L),.a _ _] ⟨o_n (by simp),o_a h,trivial⟩ ?_
  exact ge
 ·right
  refine ⟨X,?_⟩
  refine qq ?_
  refine gg [.n (zq (zz zm L)) (zq L),.a _ _] ⟨o_n (by simp),o_a h,trivial⟩ ?_
  exact ge
theorem Ai5 {c:Config} {e:Entity} {l:List Entity}:moveL c (e::l)=(if (goE c e).2=true then [(goE c e).1] else [])++moveL c l:=by
 unfold moveL
 rw [List.filter_cons]
 split<;>simp
theorem AgW (c:Config) (r f made:Int) (L:List Entity) (hn:small L) (ha: ∀e∈L,-1000000≤e.age∧e.age≤1000000): ∀(d i:Nat) (A:List Entity),i+d=L.length→A.length≤i→
  Is cx (.loop 63 [0,1,0,1] 2 [.ptr 0 0 0,.all 2 none,.all 1 none,vi L.length,vi i] [.one 10 (stepV c r f made (.all 1 none) (.fit 15 [])) false,.arr 9 (L.map zm) none false,.arr 9 (A.map zm) none false])
   ⟨.exit 0,[.ptr 0 0 0,.all 2 none,.all 1 none,vi L.length,vi L.length],[.one 10 (stepV c r f made (.all 1 none) (.fit 15 [])) false,.arr 9 (L.map zm) none false,.arr 9 ((A++moveL c (L.drop i)).map zm) none false]⟩:=by
 unfold small at hn
 intro d
 induction d with
 |zero=>
  intro i A hi hA
  rw [Aaf (by omega)]
  refine qq ?_
  refine gg [.b (decide ((i:Int)<(↑(zq L):Int))) false] ⟨fP,trivial⟩ ?_
  refine rT (a:=qz (qx 0) [V.ptr 0 0 0,qy 2 none,qy 1 none,vi (↑(zq L):Int),vi (i:Int)] [qg 10 (V.agg [vi c.cols,vi c.rows,vi c.players,vi c.window,V.t (T.int zf c.seed),vi r,vi f,qy 1 none,vi made,V.fit 15 []]) false,qv 9 (zz zm L) none false,qv 9 (zz zm A) none false]) ?_
  ((have hq:i=L.length:=by omega);subst hq;simp [moveL])
 |succ d ih=>
  intro i A hi hA
  have hlt:i<L.length:=by omega
  have hG:=Aht c (gt L i) (ha _ (Abu hlt))
  have ih1:=ih (i+1) A (by omega) (by omega)
  have ih2:=ih (i+1) (A++ [(goE c (gt L i)).1]) (by omega) (by simp;omega)
  clear ih
  rw [Aah hlt,Ai5]
  generalize goE c (gt L i)=eb at*
  obtain ⟨e,b⟩:=eb
  cases b with
  |true=>
   simp only [if_true]
   rw [←List.append_assoc]
   clear ih1
   refine qq ?_
   refine gg [.b (decide ((i:Int)<(↑(zq L):Int))) true,.w (0≤(i:Int)),.n (zy (i:Int)) i,.w (i<zq (zz zm L)),.g (zz zm L) i (zm (gt L i))] ⟨tP,oW,nK,o_w (by (simp [room,appendMax];omega)),o_gt rfl (by assumption) (by intro h;cases h),trivial⟩ ?_
   refine bO ?_ ?_
   all_goals
    refine gg [.a _ _,.tt,.w ((0:Nat)<(72:Nat)),.t (qk 0 [zm e]) (qk 0 (zz zm [e])),.t (qk 0 (zz zm A++zz zm [e])) (qk 0 (zz zm (A++ [e]))),.w (room (zq (zz zm (A++ [e]))) (72:Nat)),.i zd ((i:Int)+1) ((↑(i+1):Int)),.a _ _] ⟨o_a hG,oW,o_l (Aa8 rfl AaV),o_l (Aa1 rfl rfl),o_w (by (simp [room,appendMax];omega)),o_i (w64 (by (simp [room,appendMax];omega))),o_a ih2,trivial⟩ ?_
    exact ge
  |false=>
   simp only [Bool.false_eq_true,if_false,List.nil_append]
   clear ih2
   refine qq ?_
   refine gg [.b (decide ((i:Int)<(↑(zq L):Int))) true,.w (0≤(i:Int)),.n (zy (i:Int)) i,.w (i<zq (zz zm L)),.g (zz zm L) i (zm (gt L i))] ⟨tP,oW,nK,o_w (by (simp;omega)),o_gt rfl (by assumption) (by intro h;cases h),trivial⟩ ?_
   refine bO ?_ ?_
   all_goals
    refine gg [.a _ _,.ff,.i zd ((i:Int)+1) ((↑(i+1):Int)),.a _ _] ⟨o_a hG,oI,o_a ih1,trivial⟩ ?_
    exact ge
theorem Agq (c:Config) (r f made:Int) (L:List Entity) (hn:small L) (ha: ∀e∈L,-1000000≤e.age∧e.age≤1000000):
  Is cx (.call 63 [.ptr 0 0 0] [.one 10 (stepV c r f made (.all 1 none) (.fit 15 [])) false,.arr 9 (L.map zm) none false])
   ⟨.ret,[],[.one 10 (stepV c r f made (.all 2 none) (.fit 15 [])) false,.arr 9 (L.map zm) none false,.arr 9 ((moveL c L).map zm) none false]⟩:=by
 have h:=AgW c r f made L hn ha L.length 0 [] (by omega) (by simp)
 rw [List.drop_zero,List.nil_append] at h
 generalize moveL c L=X at*
 refine qq ?_
 refine gg [.n (zq (zz zm L)) (zq L),.a _ _] ⟨o_n (by simp),o_a h,trivial⟩ ?_
 exact ge
end Go.Eva.S5
namespace Go.Eva.S5
def blastAt (r f q:Int) (e:Entity):Cross:=⟨2,r,q,f,Entity.zero,e.x,e.y⟩
theorem AcQ (c:Config) (r f made:Int) (A:List Entity) (k:Nat) (id:Int) (ids near:List Int) (i:Nat) (hk:k<A.length) (hA:A.length≤1000) (hids:ids.length≤1000) (hn:near.length≤9): ∀(d j:Nat) (o:List Cross),j+d=near.length→o.length≤50000+j→
  Is cx (.loop 67 [0,1,0,1,1,0,0,1,1,0,0,1] 2 [.ptr 0 0 0,vi id,.ptr 1 k 0,.all 2 none,vi ids.length,vi i,.t (.sl 1 (near.map ti)),vi near.length,vi j] [.one 10 (stepV c r f made (.all 1 none) (.all 3 none)) false,.arr 9 (A.map zm) none false,.arr 1 (ids.map ti) none false,.arr 15 (o.map zn) none false])
   ⟨.exit 2,[.ptr 0 0 0,vi id,.ptr 1 k 0,.all 2 none,vi ids.length,vi i,.t (.sl 1 (near.map ti)),vi near.length,vi near.length],[.one 10 (stepV c r f made (.all 1 none) (.all 3 none)) false,.arr 9 (A.map zm) none false,.arr 1 (ids.map ti) none false,.arr 15 ((o++(near.drop j).map fun q=>blastAt r f q (gt A k)).map zn) none false]⟩:=by
 intro d
 induction d with
 |zero=>
  intro j o hj ho
  rw [Aaf (by omega)]
  refine qq ?_
  refine gg [.b (decide ((j:Int)<(↑(zq near):Int))) false] ⟨fP,trivial⟩ ?_
  refine rT (a:=qz (qx 2) [V.ptr 0 0 0,vi id,V.ptr 1 k 0,qy 2 none,vi (↑(zq ids):Int),vi (i:Int),V.t (qk 1 (zz ti near)),vi (↑(zq near):Int),vi (j:Int)] [qg 10 (V.agg [vi c.cols,vi c.rows,vi c.players,vi c.window,V.t (T.int zf c.seed),vi r,vi f,qy 1 none,vi made,qy 3 none]) false,qv 9 (zz zm A) none false,qv 1 (zz ti ids) none false,qv 15 (zz zn o) none false]) ?_
  ((have hq:j=near.length:=by omega);subst hq;simp)
 |succ d ih=>
  intro j o hj ho
  have hlt:j<near.length:=by omega
  have ih1:=ih (j+1) (o++ [blastAt r f (gt near j) (gt A k)]) (by omega) (by simp;omega)
  clear ih
  rw [Aah hlt,List.map_cons,List.append_cons]
  have hs:=Aa9 c r f made A o ⟨2,0,gt near j,0,Entity.zero,(gt A k).x,(gt A k).y⟩ (by omega)
  unfold blastAt at ih1⊢
  unfold Entity.zero at*
  refine qq ?_
  refine gg [.b (decide ((j:Int)<(↑(zq near):Int))) true,.w (0≤(j:Int)),.n (zy (j:Int)) j,.g (zz ti near) j (ti (gt near j)),.g (zz zm A) k (zm (gt A k)),.g (zz zm A) k (zm (gt A k)),.a _ _,.i zd ((j:Int)+1) ((↑(j+1):Int)),.a _ _] ⟨tP,oW,nK,o_gt rfl (by assumption) (by intro h;cases h),o_gt rfl (by assumption) (by intro h;cases h),o_gt rfl (by assumption) (by intro h;cases h),o_a hs,oI,o_a ih1,trivial⟩ ?_
  exact ge
theorem Afm (c:Config) (r f made:Int) (A:List Entity) (k:Nat) (id:Int) (ids near:List Int) (i:Nat) (hk:k<A.length) (hA:A.length≤1000) (hids:ids.length≤1000) (hn:near.length≤9) (h0:0<near.length):
  Is cx (.loop 67 [0,1,0,1,1,0,0,1,1,0,0,1] 2 [.ptr 0 0 0,vi id,.ptr 1 k 0,.all 2 none,vi ids.length,vi i,.t (.sl 1 (near.map ti)),vi near.length,vi 0] [.one 10 (stepV c r f made (.all 1 none) (.fit 15 [])) false,.arr 9 (A.map zm) none false,.arr 1 (ids.map ti) none false])
   ⟨.exit 2,[.ptr 0 0 0,vi id,.ptr 1 k 0,.all 2 none,vi ids.length,vi i,.t (.sl 1 (near.map ti)),vi near.length,vi near.length],[.one 10 (stepV c r f made (.all 1 none) (.all 3 none)) false,.arr 9 (A.map zm) none false,.arr 1 (ids.map ti) none false,.arr 15 ((near.map fun q=>blastAt r f q (gt A k)).map zn) none false]⟩:=by
 have hs:=Acr c r f made A ⟨2,0,gt near 0,0,Entity.zero,(gt A k).x,(gt A k).y⟩
 have ih1:=AcQ c r f made A k id ids near i hk hA hids hn (near.length-1) 1 [blastAt r f (gt near 0) (gt A k)] (by omega) (by simp)
 have e:near.map (fun q=>blastAt r f q (gt A k))= [blastAt r f (gt near 0) (gt A k)]++(near.drop 1).map fun q=>blastAt r f q (gt A k):=by
  have:=Aah h0
  rw [List.drop_zero] at this
  conv=>lhs;rw [this,List.map_cons]
  rfl
 rw [e]
 unfold blastAt at ih1⊢
 unfold Entity.zero at*
 refine qq ?_
 refine gg [.b (decide (0<(↑(zq near):Int))) true,.w (0≤(0:Int)),.l 0,.g (zz ti near) 0 (ti (gt near 0)),.g (zz zm A) k (zm (gt A k)),.g (zz zm A) k (zm (gt A k)),.a _ _,.i zd 1 1,.a _ _] ⟨tP,oW,o_gt rfl (by assumption) (by intro h;cases h),o_gt rfl (by assumption) (by intro h;cases h),o_gt rfl (by assumption) (by intro h;cases h),o_a hs,oK,o_a ih1,trivial⟩ ?_
 exact ge
theorem Afu (c:Config) (r f made:Int) (ids:List Int) (hids:ids.length≤1000): ∀(d i:Nat) (A:List Entity) (o:List Cross),i+d=ids.length→A.length≤1000→o.length≤9*i+9→(∀id∈ids.drop i,∃x∈A,x.id=id)→
  Is cx (.loop 67 [0,1] 2 [.ptr 0 0 0,.all 2 none,vi ids.length,vi i] [.one 10 (stepV c r f made (.all 1 none) (.all 3 none)) false,.arr 9 (A.map zm) none false,.arr 1 (ids.map ti) none false,.arr 15 (o.map zn) none false])
   ⟨.exit 0,[.ptr 0 0 0,.all 2 none,vi ids.length,vi ids.length],[.one 10 (stepV c r f made (.all 1 none) (.all 3 none)) false,.arr 9 (((ids.drop i).foldl (fall1 c r f) ⟨A,made,o⟩).l.map zm) none false,.arr 1 (ids.map ti) none false,.arr 15 (((ids.drop i).foldl (fall1 c r f) ⟨A,made,o⟩).out.map zn) none false]⟩:=by
 intro d
 induction d with
 |zero=>
  intro i A o hi hA ho hP
  rw [Aaf (by omega),List.foldl_nil]
  refine qq ?_
  refine gg [.b (decide ((i:Int)<(↑(zq ids):Int))) false] ⟨fP,trivial⟩ ?_
  refine rT (a:=qz (qx 0) [V.ptr 0 0 0,qy 2 none,vi (↑(zq ids):Int),vi (i:Int)] [qg 10 (V.agg [vi c.cols,vi c.rows,vi c.players,vi c.window,V.t (T.int zf c.seed),vi r,vi f,qy 1 none,vi made,qy 3 none]) false,qv 9 (zz zm A) none false,qv 1 (zz ti ids) none false,qv 15 (zz zn o) none false]) ?_
  ((have hq:i=ids.length:=by omega);subst hq;rfl)
 |succ d ih=>
  intro i A o hi hA ho hP
  have hlt:i<ids.length:=by omega
  have hd:=Aah hlt
  have hx:=hP (gt ids i) (by rw [hd];exact List.mem_cons_self ..)
  obtain ⟨k,hk1,hk2,_⟩:=Ab1 hx
  have hns:= @AbH c r
  have hlenb:(o++blastsAt c r f (gt A k)).length≤9*(i+1)+9:=by simp [blastsAt];omega
  have ih1:=ih (i+1) (A.set k (anewE c r f (gt ids i) (gt A k))) (o++blastsAt c r f (gt A k)) (by omega) (by simpa using hA) hlenb fun id hid=>by
   have:=hP id (by rw [hd];exact List.mem_cons_of_mem _ hid)
   exact Ahu (AdH (e:=anewE c r f (gt ids i) (gt A k)) hk2 rfl).symm this
  rw [hd,List.foldl_cons]
  have e1:fall1 c r f ⟨A,made,o⟩ (gt ids i)=⟨A.set k (anewE c r f (gt ids i) (gt A k)),made,o++blastsAt c r f (gt A k)⟩:=by simp [fall1,hk1]
  rw [e1]
  have hF:=Aap A (gt ids i) (by unfold small;omega)
  rw [hk1] at hF
  have hN:=AcY c r
  have hB:=AcQ c r f made A k (gt ids i) ids (c.near r) i hk2 hA hids hns (c.near r).length 0 o (by omega) (by omega)
  rw [List.drop_zero] at hB
  change Is cx _ ⟨_,_,[_,_,_,.arr 15 ((o++blastsAt c r f (gt A k)).map zn) none false]⟩ at hB
  generalize blastsAt c r f (gt A k)=bl at*
  have hpl:=AaM c r f 1 2 (gt ids i) ⟨A.set k {gt A k with health:=100,vx:=0,vy:=0,age:=0},made,o++bl⟩
  clear ih hP e1 hx hk1 hd hlenb
  unfold anewE at ih1⊢
  refine qq ?_
  refine gg [.b (decide ((i:Int)<(↑(zq ids):Int))) true,.w (0≤(i:Int)),.n (zy (i:Int)) i,.w (i<zq (zz ti ids)),.g (zz ti ids) i (ti (gt ids i)),.a _ _,.b (flats [ti (k:Int)]) true,.w (0≤(k:Int)),.n (zy (k:Int)) k,.w (k<zq (zz zm A)),.a _ _,.n (zq (zz ti (z6 c r))) (zq (z6 c r)),.a _ _,.g (zz zm A) k (zm (gt A k)),.t (qk 0 (zx (zz zm A) k (T.agg [ti (gt A k).id,ti (gt A k).kind,ti (gt A k).x,ti (gt A k).y,ti (gt A k).vx,ti (gt A k).vy,ti 100,ti (gt A k).age,ti (gt A k).owner]))) (qk 0 (zz zm (zx A k (qw (gt A k).id (gt A k).kind (gt A k).x (gt A k).y (gt A k).vx (gt A k).vy 100 (gt A k).age (gt A k).owner)))),.g (zz zm (zx A k (qw (gt A k).id (gt A k).kind (gt A k).x (gt A k).y (gt A k).vx (gt A k).vy 100 (gt A k).age (gt A k).owner))) k (zm (qw (gt A k).id (gt A k).kind (gt A k).x (gt A k).y (gt A k).vx (gt A k).vy 100 (gt A k).age (gt A k).owner))] ⟨tP,oW,nK,o_w (by (simp;omega)),o_gt rfl (by assumption) (by intro h;cases h),o_a hF,bK,oW,nK,o_w (by (simp;omega)),o_a hN,o_n (by simp),o_a hB,o_gt rfl (by assumption) (by intro h;cases h),o_l (Aao (e:=qw (gt A k).id (gt A k).kind (gt A k).x (gt A k).y (gt A k).vx (gt A k).vy 100 (gt A k).age (gt A k).owner) rfl rfl),o_gm rfl (Ab2 (by omega)) (by intro h;cases h),trivial⟩ ?_
  refine gg [.t (qk 0 (zx (zz zm (zx A k (qw (gt A k).id (gt A k).kind (gt A k).x (gt A k).y (gt A k).vx (gt A k).vy 100 (gt A k).age (gt A k).owner))) k (T.agg [ti (gt A k).id,ti (gt A k).kind,ti (gt A k).x,ti (gt A k).y,ti 0,ti (gt A k).vy,ti 100,ti (gt A k).age,ti (gt A k).owner]))) (qk 0 (zz zm (zx A k (qw (gt A k).id (gt A k).kind (gt A k).x (gt A k).y 0 (gt A k).vy 100 (gt A k).age (gt A k).owner)))),.g (zz zm (zx A k (qw (gt A k).id (gt A k).kind (gt A k).x (gt A k).y 0 (gt A k).vy 100 (gt A k).age (gt A k).owner))) k (zm (qw (gt A k).id (gt A k).kind (gt A k).x (gt A k).y 0 (gt A k).vy 100 (gt A k).age (gt A k).owner)),.t (qk 0 (zx (zz zm (zx A k (qw (gt A k).id (gt A k).kind (gt A k).x (gt A k).y 0 (gt A k).vy 100 (gt A k).age (gt A k).owner))) k (T.agg [ti (gt A k).id,ti (gt A k).kind,ti (gt A k).x,ti (gt A k).y,ti 0,ti 0,ti 100,ti (gt A k).age,ti (gt A k).owner]))) (qk 0 (zz zm (zx A k (qw (gt A k).id (gt A k).kind (gt A k).x (gt A k).y 0 0 100 (gt A k).age (gt A k).owner)))),.g (zz zm (zx A k (qw (gt A k).id (gt A k).kind (gt A k).x (gt A k).y 0 0 100 (gt A k).age (gt A k).owner))) k (zm (qw (gt A k).id (gt A k).kind (gt A k).x (gt A k).y 0 0 100 (gt A k).age (gt A k).owner)),.t (qk 0 (zx (zz zm (zx A k (qw (gt A k).id (gt A k).kind (gt A k).x (gt A k).y 0 0 100 (gt A k).age (gt A k).owner))) k (T.agg [ti (gt A k).id,ti (gt A k).kind,ti (gt A k).x,ti (gt A k).y,ti 0,ti 0,ti 100,ti 0,ti (gt A k).owner]))) (qk 0 (zz zm (zx A k (qw (gt A k).id (gt A k).kind (gt A k).x (gt A k).y 0 0 100 0 (gt A k).owner)))),.a _ _,.b (flats [ti (placeX c r f 1 (gt ids i)),ti (placeY c r f 2 (gt ids i))]) true,.g (zz zm (zx A k (qw (gt A k).id (gt A k).kind (gt A k).x (gt A k).y 0 0 100 0 (gt A k).owner))) k (zm (qw (gt A k).id (gt A k).kind (gt A k).x (gt A k).y 0 0 100 0 (gt A k).owner)),.t (qk 0 (zx (zz zm (zx A k (qw (gt A k).id (gt A k).kind (gt A k).x (gt A k).y 0 0 100 0 (gt A k).owner))) k (T.agg [ti (gt A k).id,ti (gt A k).kind,ti (placeX c r f 1 (gt ids i)),ti (gt A k).y,ti 0,ti 0,ti 100,ti 0,ti (gt A k).owner]))) (qk 0 (zz zm (zx A k (qw (gt A k).id (gt A k).kind (placeX c r f 1 (gt ids i)) (gt A k).y 0 0 100 0 (gt A k).owner)))),.g (zz zm (zx A k (qw (gt A k).id (gt A k).kind (placeX c r f 1 (gt ids i)) (gt A k).y 0 0 100 0 (gt A k).owner))) k (zm (qw (gt A k).id (gt A k).kind (placeX c r f 1 (gt ids i)) (gt A k).y 0 0 100 0 (gt A k).owner))] ⟨o_l (nm_eq (Aao (e:=qw (gt A k).id (gt A k).kind (gt A k).x (gt A k).y 0 (gt A k).vy 100 (gt A k).age (gt A k).owner) rfl rfl) (by simp)),o_gm rfl (Ab2 (by omega)) (by intro h;cases h),o_l (nm_eq (Aao (e:=qw (gt A k).id (gt A k).kind (gt A k).x (gt A k).y 0 0 100 (gt A k).age (gt A k).owner) rfl rfl) (by simp)),o_gm rfl (Ab2 (by omega)) (by intro h;cases h),o_l (nm_eq (Aao (e:=qw (gt A k).id (gt A k).kind (gt A k).x (gt A k).y 0 0 100 0 (gt A k).owner) rfl rfl) (by simp)),o_a hpl,bK,o_gm rfl (Ab2 (by omega)) (by intro h;cases h),o_l (nm_eq (Aao (e:=qw (gt A k).id (gt A k).kind (placeX c r f 1 (gt ids i)) (gt A k).y 0 0 100 0 (gt A k).owner) rfl rfl) (by simp)),o_gm rfl (Ab2 (by omega)) (by intro h;cases h),trivial⟩ ?_
  refine gg [.t (qk 0 (zx (zz zm (zx A k (qw (gt A k).id (gt A k).kind (placeX c r f 1 (gt ids i)) (gt A k).y 0 0 100 0 (gt A k).owner))) k (T.agg [ti (gt A k).id,ti (gt A k).kind,ti (placeX c r f 1 (gt ids i)),ti (placeY c r f 2 (gt ids i)),ti 0,ti 0,ti 100,ti 0,ti (gt A k).owner]))) (qk 0 (zz zm (zx A k (qw (gt A k).id (gt A k).kind (placeX c r f 1 (gt ids i)) (placeY c r f 2 (gt ids i)) 0 0 100 0 (gt A k).owner)))),.i zd ((i:Int)+1) ((↑(i+1):Int)),.a _ _] ⟨o_l (nm_eq (Aao (e:=qw (gt A k).id (gt A k).kind (placeX c r f 1 (gt ids i)) (placeY c r f 2 (gt ids i)) 0 0 100 0 (gt A k).owner) rfl rfl) (by simp)),oI,o_a ih1,trivial⟩ ?_
  exact ge
theorem Afp (c:Config) (r f made:Int) (ids:List Int) (hids:ids.length≤1000) (A:List Entity) (hA:A.length≤1000) (h0:0<ids.length) (hnr:0<(c.near r).length) (hP: ∀id∈ids,∃x∈A,x.id=id):
  Is cx (.loop 67 [0,1] 2 [.ptr 0 0 0,.all 2 none,vi ids.length,vi 0] [.one 10 (stepV c r f made (.all 1 none) (.fit 15 [])) false,.arr 9 (A.map zm) none false,.arr 1 (ids.map ti) none false])
   ⟨.exit 0,[.ptr 0 0 0,.all 2 none,vi ids.length,vi ids.length],[.one 10 (stepV c r f made (.all 1 none) (.all 3 none)) false,.arr 9 ((ids.foldl (fall1 c r f) ⟨A,made,[]⟩).l.map zm) none false,.arr 1 (ids.map ti) none false,.arr 15 ((ids.foldl (fall1 c r f) ⟨A,made,[]⟩).out.map zn) none false]⟩:=by
 have hd:=Aah h0
 rw [List.drop_zero] at hd
 have hx:=hP (gt ids 0) (Abu h0)
 obtain ⟨k,hk1,hk2,_⟩:=Ab1 hx
 have hns:= @AbH c r
 have hlenb:(blastsAt c r f (gt A k)).length≤9*1+9:=by simp [blastsAt];omega
 have ih1:=Afu c r f made ids hids (ids.length-1) 1 (A.set k (anewE c r f (gt ids 0) (gt A k))) (blastsAt c r f (gt A k)) (by omega) (by simpa using hA) hlenb fun id hid=>by
  have:=hP id (by rw [hd];exact List.mem_cons_of_mem _ hid)
  exact Ahu (AdH (e:=anewE c r f (gt ids 0) (gt A k)) hk2 rfl).symm this
 have e0:ids.foldl (fall1 c r f) ⟨A,made,[]⟩=(ids.drop 1).foldl (fall1 c r f) (fall1 c r f ⟨A,made,[]⟩ (gt ids 0)):=by
  conv=>lhs;rw [hd]
  rfl
 rw [e0]
 have e1:fall1 c r f ⟨A,made,[]⟩ (gt ids 0)=⟨A.set k (anewE c r f (gt ids 0) (gt A k)),made,blastsAt c r f (gt A k)⟩:=by simp [fall1,hk1]
 rw [e1]
 have hF:=Aap A (gt ids 0) (by unfold small;omega)
 rw [hk1] at hF
 have hN:=AcY c r
 have hB:=Afm c r f made A k (gt ids 0) ids (c.near r) 0 hk2 hA hids hns hnr
 change Is cx _ ⟨_,_,[_,_,_,.arr 15 ((blastsAt c r f (gt A k)).map zn) none false]⟩ at hB
 generalize blastsAt c r f (gt A k)=bl at*
 have hpl:=AaM c r f 1 2 (gt ids 0) ⟨A.set k {gt A k with health:=100,vx:=0,vy:=0,age:=0},made,bl⟩
 clear hP e1 hx hk1 hd hlenb e0
 unfold anewE at ih1⊢
 refine qq ?_
 refine gg [.b (decide (0<(↑(zq ids):Int))) true,.w (0≤(0:Int)),.l 0,.w ((0:Nat)<zq (zz ti ids)),.g (zz ti ids) 0 (ti (gt ids 0)),.a _ _,.b (flats [ti (k:Int)]) true,.w (0≤(k:Int)),.n (zy (k:Int)) k,.w (k<zq (zz zm A)),.a _ _,.n (zq (zz ti (z6 c r))) (zq (z6 c r)),.a _ _,.g (zz zm A) k (zm (gt A k)),.t (qk 0 (zx (zz zm A) k (T.agg [ti (gt A k).id,ti (gt A k).kind,ti (gt A k).x,ti (gt A k).y,ti (gt A k).vx,ti (gt A k).vy,ti 100,ti (gt A k).age,ti (gt A k).owner]))) (qk 0 (zz zm (zx A k (qw (gt A k).id (gt A k).kind (gt A k).x (gt A k).y (gt A k).vx (gt A k).vy 100 (gt A k).age (gt A k).owner)))),.g (zz zm (zx A k (qw (gt A k).id (gt A k).kind (gt A k).x (gt A k).y (gt A k).vx (gt A k).vy 100 (gt A k).age (gt A k).owner))) k (zm (qw (gt A k).id (gt A k).kind (gt A k).x (gt A k).y (gt A k).vx (gt A k).vy 100 (gt A k).age (gt A k).owner))] ⟨tP,oW,o_w (by (simp;omega)),o_gt rfl (by assumption) (by intro h;cases h),o_a hF,bK,oW,nK,o_w (by (simp;omega)),o_a hN,o_n (by simp),o_a hB,o_gt rfl (by assumption) (by intro h;cases h),o_l (Aao (e:=qw (gt A k).id (gt A k).kind (gt A k).x (gt A k).y (gt A k).vx (gt A k).vy 100 (gt A k).age (gt A k).owner) rfl rfl),o_gm rfl (Ab2 (by omega)) (by intro h;cases h),trivial⟩ ?_
 refine gg [.t (qk 0 (zx (zz zm (zx A k (qw (gt A k).id (gt A k).kind (gt A k).x (gt A k).y (gt A k).vx (gt A k).vy 100 (gt A k).age (gt A k).owner))) k (T.agg [ti (gt A k).id,ti (gt A k).kind,ti (gt A k).x,ti (gt A k).y,ti 0,ti (gt A k).vy,ti 100,ti (gt A k).age,ti (gt A k).owner]))) (qk 0 (zz zm (zx A k (qw (gt A k).id (gt A k).kind (gt A k).x (gt A k).y 0 (gt A k).vy 100 (gt A k).age (gt A k).owner)))),.g (zz zm (zx A k (qw (gt A k).id (gt A k).kind (gt A k).x (gt A k).y 0 (gt A k).vy 100 (gt A k).age (gt A k).owner))) k (zm (qw (gt A k).id (gt A k).kind (gt A k).x (gt A k).y 0 (gt A k).vy 100 (gt A k).age (gt A k).owner)),.t (qk 0 (zx (zz zm (zx A k (qw (gt A k).id (gt A k).kind (gt A k).x (gt A k).y 0 (gt A k).vy 100 (gt A k).age (gt A k).owner))) k (T.agg [ti (gt A k).id,ti (gt A k).kind,ti (gt A k).x,ti (gt A k).y,ti 0,ti 0,ti 100,ti (gt A k).age,ti (gt A k).owner]))) (qk 0 (zz zm (zx A k (qw (gt A k).id (gt A k).kind (gt A k).x (gt A k).y 0 0 100 (gt A k).age (gt A k).owner)))),.g (zz zm (zx A k (qw (gt A k).id (gt A k).kind (gt A k).x (gt A k).y 0 0 100 (gt A k).age (gt A k).owner))) k (zm (qw (gt A k).id (gt A k).kind (gt A k).x (gt A k).y 0 0 100 (gt A k).age (gt A k).owner)),.t (qk 0 (zx (zz zm (zx A k (qw (gt A k).id (gt A k).kind (gt A k).x (gt A k).y 0 0 100 (gt A k).age (gt A k).owner))) k (T.agg [ti (gt A k).id,ti (gt A k).kind,ti (gt A k).x,ti (gt A k).y,ti 0,ti 0,ti 100,ti 0,ti (gt A k).owner]))) (qk 0 (zz zm (zx A k (qw (gt A k).id (gt A k).kind (gt A k).x (gt A k).y 0 0 100 0 (gt A k).owner)))),.a _ _,.b (flats [ti (placeX c r f 1 (gt ids 0)),ti (placeY c r f 2 (gt ids 0))]) true,.g (zz zm (zx A k (qw (gt A k).id (gt A k).kind (gt A k).x (gt A k).y 0 0 100 0 (gt A k).owner))) k (zm (qw (gt A k).id (gt A k).kind (gt A k).x (gt A k).y 0 0 100 0 (gt A k).owner)),.t (qk 0 (zx (zz zm (zx A k (qw (gt A k).id (gt A k).kind (gt A k).x (gt A k).y 0 0 100 0 (gt A k).owner))) k (T.agg [ti (gt A k).id,ti (gt A k).kind,ti (placeX c r f 1 (gt ids 0)),ti (gt A k).y,ti 0,ti 0,ti 100,ti 0,ti (gt A k).owner]))) (qk 0 (zz zm (zx A k (qw (gt A k).id (gt A k).kind (placeX c r f 1 (gt ids 0)) (gt A k).y 0 0 100 0 (gt A k).owner)))),.g (zz zm (zx A k (qw (gt A k).id (gt A k).kind (placeX c r f 1 (gt ids 0)) (gt A k).y 0 0 100 0 (gt A k).owner))) k (zm (qw (gt A k).id (gt A k).kind (placeX c r f 1 (gt ids 0)) (gt A k).y 0 0 100 0 (gt A k).owner))] ⟨o_l (nm_eq (Aao (e:=qw (gt A k).id (gt A k).kind (gt A k).x (gt A k).y 0 (gt A k).vy 100 (gt A k).age (gt A k).owner) rfl rfl) (by simp)),o_gm rfl (Ab2 (by omega)) (by intro h;cases h),o_l (nm_eq (Aao (e:=qw (gt A k).id (gt A k).kind (gt A k).x (gt A k).y 0 0 100 (gt A k).age (gt A k).owner) rfl rfl) (by simp)),o_gm rfl (Ab2 (by omega)) (by intro h;cases h),o_l (nm_eq (Aao (e:=qw (gt A k).id (gt A k).kind (gt A k).x (gt A k).y 0 0 100 0 (gt A k).owner) rfl rfl) (by simp)),o_a hpl,bK,o_gm rfl (Ab2 (by omega)) (by intro h;cases h),o_l (nm_eq (Aao (e:=qw (gt A k).id (gt A k).kind (placeX c r f 1 (gt ids 0)) (gt A k).y 0 0 100 0 (gt A k).owner) rfl rfl) (by simp)),o_gm rfl (Ab2 (by omega)) (by intro h;cases h),trivial⟩ ?_
 refine gg [.t (qk 0 (zx (zz zm (zx A k (qw (gt A k).id (gt A k).kind (placeX c r f 1 (gt ids 0)) (gt A k).y 0 0 100 0 (gt A k).owner))) k (T.agg [ti (gt A k).id,ti (gt A k).kind,ti (placeX c r f 1 (gt ids 0)),ti (placeY c r f 2 (gt ids 0)),ti 0,ti 0,ti 100,ti 0,ti (gt A k).owner]))) (qk 0 (zz zm (zx A k (qw (gt A k).id (gt A k).kind (placeX c r f 1 (gt ids 0)) (placeY c r f 2 (gt ids 0)) 0 0 100 0 (gt A k).owner)))),.i zd 1 1,.a _ _] ⟨o_l (nm_eq (Aao (e:=qw (gt A k).id (gt A k).kind (placeX c r f 1 (gt ids 0)) (placeY c r f 2 (gt ids 0)) 0 0 100 0 (gt A k).owner) rfl rfl) (by simp)),oK,o_a ih1,trivial⟩ ?_
 exact ge
theorem Air {L:List Entity}: ∀id∈fallenL L,∃x∈L,x.id=id:=by
 intro id h
 obtain ⟨x,h1,h2⟩:=List.mem_map.1 h
 exact ⟨x,(List.mem_filter.1 h1).1,h2⟩
theorem Af9 {L:List Entity}:(fallenL L).length≤L.length:=by
 unfold fallenL;rw [List.length_map];exact List.length_filter_le ..
theorem AeG (c:Config) (r f made:Int) (L:List Entity) (hL:L.length≤1000) (h:fallenL L= []):
  Is cx (.call 67 [.ptr 0 0 0] [.one 10 (stepV c r f made (.all 1 none) (.fit 15 [])) false,.arr 9 (L.map zm) none false])
   ⟨.ret,[],[.one 10 (stepV c r f made (.all 1 none) (.fit 15 [])) false,.arr 9 (L.map zm) none false]⟩:=by
 have hF:=Aca L (by unfold small;omega)
 rw [h] at hF
 have hl:Is cx (.loop 67 [0,1] 2 [.ptr 0 0 0,.all 2 none,vi 0,vi 0] [.one 10 (stepV c r f made (.all 1 none) (.fit 15 [])) false,.arr 9 (L.map zm) none false,.arr 1 [] none false])
   ⟨.exit 0,[.ptr 0 0 0,.all 2 none,vi 0,vi 0],[.one 10 (stepV c r f made (.all 1 none) (.fit 15 [])) false,.arr 9 (L.map zm) none false,.arr 1 [] none false]⟩:=by
  refine qq ?_
  refine gg [.b (decide (0<0)) false] ⟨bK,trivial⟩ ?_
  exact ge
 refine qq ?_
 refine gg [.a _ _,.l 0,.a _ _] ⟨o_a hF,o_a hl,trivial⟩ ?_
 exact ge
theorem AeO (c:Config) (r f made:Int) (L:List Entity) (hL:L.length≤1000) (hnr:0<(c.near r).length) (h:fallenL L≠ []):
  Is cx (.call 67 [.ptr 0 0 0] [.one 10 (stepV c r f made (.all 1 none) (.fit 15 [])) false,.arr 9 (L.map zm) none false])
   ⟨.ret,[],[.one 10 (stepV c r f made (.all 1 none) (.all 2 none)) false,.arr 9 ((fallS c r f ⟨L,made,[]⟩).l.map zm) none false,.arr 15 ((fallS c r f ⟨L,made,[]⟩).out.map zn) none false]⟩:=by
 have hF:=Aca L (by unfold small;omega)
 have hlen:= @Af9 L
 have hP:= @Air L
 unfold fallS
 simp only
 have h0:0<(fallenL L).length:=List.length_pos_iff.2 h
 generalize fallenL L=ids at*
 have hl:=Afp c r f made ids (by omega) L hL h0 hnr hP
 clear hP h
 generalize ids.foldl (fall1 c r f) ⟨L,made,[]⟩=S at*
 obtain ⟨A,m2,o⟩:=S
 simp only at hl⊢
 refine qq ?_
 refine gg [.a _ _,.n (zq (zz ti ids)) (zq ids),.a _ _] ⟨o_a hF,o_n (by simp),o_a hl,trivial⟩ ?_
 exact ge
theorem Ad4 (c:Config) (r f made:Int) (L:List Entity) (o:List Cross) (hL:L.length≤1000): ∀(d i n:Nat),i+d=L.length→n≤i→
  Is cx (.loop 68 [0,1,0,1] 2 [.ptr 0 0 0,vi n,.all 1 none,vi L.length,vi i] [.one 10 (stepV c r f made (.all 1 none) (.fit 15 [])) false,.arr 9 (L.map zm) none false])
   ⟨.exit 0,[.ptr 0 0 0,vi (n+(L.drop i).countP fun e=>e.kind==3:Nat),.all 1 none,vi L.length,vi L.length],[.one 10 (stepV c r f made (.all 1 none) (.fit 15 [])) false,.arr 9 (L.map zm) none false]⟩:=by
 intro d
 induction d with
 |zero=>
  intro i n hi hm
  rw [Aaf (by omega)]
  refine qq ?_
  refine gg [.b (decide ((i:Int)<(↑(zq L):Int))) false] ⟨fP,trivial⟩ ?_
  refine rT (a:=qz (qx 0) [V.ptr 0 0 0,vi (n:Int),qy 1 none,vi (↑(zq L):Int),vi (i:Int)] [qg 10 (V.agg [vi c.cols,vi c.rows,vi c.players,vi c.window,V.t (T.int zf c.seed),vi r,vi f,qy 1 none,vi made,V.fit 15 []]) false,qv 9 (zz zm L) none false]) ?_
  ((have hq:i=L.length:=by omega);subst hq;rfl)
 |succ d ih=>
  intro i n hi hm
  have hlt:i<L.length:=by omega
  have ih1:=ih (i+1) n (by omega) (by omega)
  have ih2:=ih (i+1) (n+1) (by omega) (by omega)
  clear ih
  rw [Afc _ hlt]
  refine qq ?_
  refine gg [.b (decide ((i:Int)<(↑(zq L):Int))) true,.w (0≤(i:Int)),.n (zy (i:Int)) i,.w (i<zq (zz zm L)),.g (zz zm L) i (zm (gt L i))] ⟨tP,oW,nK,o_w (by (simp;omega)),o_gt rfl (by assumption) (by intro h;cases h),trivial⟩ ?_
  refine bre (x:=(gt L i).kind) (y:=3) (by kernel_rfl) (fun h1=> ?_) (fun h1=> ?_)
  ·refine gg [.i zd ((n:Int)+1) ((↑(n+1):Int)),.i zd ((i:Int)+1) ((↑(i+1):Int)),.a _ _] ⟨oI,oI,o_a ih2,trivial⟩ ?_
   refine rT (a:=qz (qx 0) [V.ptr 0 0 0,vi (↑(n+1+List.countP (fun (e:Entity)↦e.kind==3) (zk (i+1) L)):Int),qy 1 none,vi (↑(zq L):Int),vi (↑(zq L):Int)] [qg 10 (V.agg [vi c.cols,vi c.rows,vi c.players,vi c.window,V.t (T.int zf c.seed),vi r,vi f,qy 1 none,vi made,V.fit 15 []]) false,qv 9 (zz zm L) none false]) ?_
   (simp_all;try omega)
  ·refine gg [.i zd ((i:Int)+1) ((↑(i+1):Int)),.a _ _] ⟨oI,o_a ih1,trivial⟩ ?_
   refine rT (a:=qz (qx 0) [V.ptr 0 0 0,vi (↑(n+List.countP (fun (e:Entity)↦e.kind==3) (zk (i+1) L)):Int),qy 1 none,vi (↑(zq L):Int),vi (↑(zq L):Int)] [qg 10 (V.agg [vi c.cols,vi c.rows,vi c.players,vi c.window,V.t (T.int zf c.seed),vi r,vi f,qy 1 none,vi made,V.fit 15 []]) false,qv 9 (zz zm L) none false]) ?_
   (simp_all;try omega)
theorem Adv (c:Config) (r f made:Int) (L:List Entity) (o:List Cross) (hL:L.length≤1000) (h:below 8 c.seed [3,f,r]≠0∨3≤(L.countP fun e=>e.kind==3)∨Stg.room ⟨L,made,[]⟩=false):
  Is cx (.call 68 [.ptr 0 0 0] [.one 10 (stepV c r f made (.all 1 none) (.fit 15 [])) false,.arr 9 (L.map zm) none false])
   ⟨.ret,[],[.one 10 (stepV c r f made (.all 1 none) (.fit 15 [])) false,.arr 9 (L.map zm) none false]⟩:=by
 have hl:=Ad4 c r f made L o hL L.length 0 0 (by omega) (by omega)
 rw [List.drop_zero,Nat.zero_add] at hl
 have hb:=Aa0 8 c.seed [3,f,r] (by decide) (by simp [small])
 have hrm:=Aau c r f ⟨L,made,[]⟩ (by unfold small;simp only;omega)
 have hc:(L.countP fun e=>e.kind==3)≤L.length:=List.countP_le_length
 generalize (L.countP fun e=>e.kind==3)=n at*
 generalize below 8 c.seed [3,f,r]=b at*
 generalize Stg.room ⟨L,made,[]⟩=rm at*
 by_cases h1:b=0
 ·by_cases h2:3≤n
  ·refine qq ?_
   refine gg [.n (zq (zz zm L)) (zq L),.a _ _,.a _ _,.b (b !=0) false,.ff,.ff,.b (decide ((n:Int)≥3)) true,.tt,.tt,.tt,.tt] ⟨o_n (by simp),o_a hl,o_a hb,f_brn (by assumption),tP,trivial⟩ ?_
   exact ge
  ·have h3:rm=false:=by rcases h with h|h|h;exact absurd h1 h;exact absurd h h2;exact h
   subst h3
   refine qq ?_
   refine gg [.n (zq (zz zm L)) (zq L),.a _ _,.a _ _,.b (b !=0) false,.ff,.ff,.b (decide ((n:Int)≥3)) false,.ff,.a _ _,.b (flats [T.bool false]) true,.ff,.ff,.b (!false) true] ⟨o_n (by simp),o_a hl,o_a hb,f_brn (by assumption),fP,o_a hrm,bK,bK,trivial⟩ ?_
   exact ge
 ·refine qq ?_
  refine gg [.n (zq (zz zm L)) (zq L),.a _ _,.a _ _,.b (b !=0) true,.tt,.tt,.tt,.tt,.tt,.tt,.tt] ⟨o_n (by simp),o_a hl,o_a hb,t_brn (by assumption),trivial⟩ ?_
  exact ge
theorem Adm (c:Config) (r f made:Int) (L:List Entity) (o:List Cross) (hL:L.length≤1000): ∀(d i n:Nat),i+d=L.length→n≤i→
  Is cx (.loop 68 [0,1,0,1] 3 [.ptr 0 0 0,vi n,.all 1 none,vi L.length,vi i] [.one 10 (stepV c r f made (.all 1 none) (.all 2 none)) false,.arr 9 (L.map zm) none false,.arr 15 (o.map zn) none false])
   ⟨.exit 0,[.ptr 0 0 0,vi (n+(L.drop i).countP fun e=>e.kind==3:Nat),.all 1 none,vi L.length,vi L.length],[.one 10 (stepV c r f made (.all 1 none) (.all 2 none)) false,.arr 9 (L.map zm) none false,.arr 15 (o.map zn) none false]⟩:=by
 intro d
 induction d with
 |zero=>
  intro i n hi hm
  rw [Aaf (by omega)]
  refine qq ?_
  refine gg [.b (decide ((i:Int)<(↑(zq L):Int))) false] ⟨fP,trivial⟩ ?_
  refine rT (a:=qz (qx 0) [V.ptr 0 0 0,vi (n:Int),qy 1 none,vi (↑(zq L):Int),vi (i:Int)] [qg 10 (V.agg [vi c.cols,vi c.rows,vi c.players,vi c.window,V.t (T.int zf c.seed),vi r,vi f,qy 1 none,vi made,qy 2 none]) false,qv 9 (zz zm L) none false,qv 15 (zz zn o) none false]) ?_
  ((have hq:i=L.length:=by omega);subst hq;rfl)
 |succ d ih=>
  intro i n hi hm
  have hlt:i<L.length:=by omega
  have ih1:=ih (i+1) n (by omega) (by omega)
  have ih2:=ih (i+1) (n+1) (by omega) (by omega)
  clear ih
  rw [Afc _ hlt]
  refine qq ?_
  refine gg [.b (decide ((i:Int)<(↑(zq L):Int))) true,.w (0≤(i:Int)),.n (zy (i:Int)) i,.w (i<zq (zz zm L)),.g (zz zm L) i (zm (gt L i))] ⟨tP,oW,nK,o_w (by (simp;omega)),o_gt rfl (by assumption) (by intro h;cases h),trivial⟩ ?_
  refine bre (x:=(gt L i).kind) (y:=3) (by kernel_rfl) (fun h1=> ?_) (fun h1=> ?_)
  ·refine gg [.i zd ((n:Int)+1) ((↑(n+1):Int)),.i zd ((i:Int)+1) ((↑(i+1):Int)),.a _ _] ⟨oI,oI,o_a ih2,trivial⟩ ?_
   refine rT (a:=qz (qx 0) [V.ptr 0 0 0,vi (↑(n+1+List.countP (fun (e:Entity)↦e.kind==3) (zk (i+1) L)):Int),qy 1 none,vi (↑(zq L):Int),vi (↑(zq L):Int)] [qg 10 (V.agg [vi c.cols,vi c.rows,vi c.players,vi c.window,V.t (T.int zf c.seed),vi r,vi f,qy 1 none,vi made,qy 2 none]) false,qv 9 (zz zm L) none false,qv 15 (zz zn o) none false]) ?_
   (simp_all;try omega)
  ·refine gg [.i zd ((i:Int)+1) ((↑(i+1):Int)),.a _ _] ⟨oI,o_a ih1,trivial⟩ ?_
   refine rT (a:=qz (qx 0) [V.ptr 0 0 0,vi (↑(n+List.countP (fun (e:Entity)↦e.kind==3) (zk (i+1) L)):Int),qy 1 none,vi (↑(zq L):Int),vi (↑(zq L):Int)] [qg 10 (V.agg [vi c.cols,vi c.rows,vi c.players,vi c.window,V.t (T.int zf c.seed),vi r,vi f,qy 1 none,vi made,qy 2 none]) false,qv 9 (zz zm L) none false,qv 15 (zz zn o) none false]) ?_
   (simp_all;try omega)
theorem Adu (c:Config) (r f made:Int) (L:List Entity) (o:List Cross) (hL:L.length≤1000) (h:below 8 c.seed [3,f,r]≠0∨3≤(L.countP fun e=>e.kind==3)∨Stg.room ⟨L,made,o⟩=false):
  Is cx (.call 68 [.ptr 0 0 0] [.one 10 (stepV c r f made (.all 1 none) (.all 2 none)) false,.arr 9 (L.map zm) none false,.arr 15 (o.map zn) none false])
   ⟨.ret,[],[.one 10 (stepV c r f made (.all 1 none) (.all 2 none)) false,.arr 9 (L.map zm) none false,.arr 15 (o.map zn) none false]⟩:=by
 have hl:=Adm c r f made L o hL L.length 0 0 (by omega) (by omega)
 rw [List.drop_zero,Nat.zero_add] at hl
 have hb:=Aa0 8 c.seed [3,f,r] (by decide) (by simp [small])
 have hrm:=Aau c r f ⟨L,made,o⟩ (by unfold small;simp only;omega)
 have hc:(L.countP fun e=>e.kind==3)≤L.length:=List.countP_le_length
 generalize (L.countP fun e=>e.kind==3)=n at*
 generalize below 8 c.seed [3,f,r]=b at*
 generalize Stg.room ⟨L,made,o⟩=rm at*
 by_cases h1:b=0
 ·by_cases h2:3≤n
  ·refine qq ?_
   refine gg [.n (zq (zz zm L)) (zq L),.a _ _,.a _ _,.b (b !=0) false,.ff,.ff,.b (decide ((n:Int)≥3)) true,.tt,.tt,.tt,.tt] ⟨o_n (by simp),o_a hl,o_a hb,f_brn (by assumption),tP,trivial⟩ ?_
   exact ge
  ·have h3:rm=false:=by rcases h with h|h|h;exact absurd h1 h;exact absurd h h2;exact h
   subst h3
   refine qq ?_
   refine gg [.n (zq (zz zm L)) (zq L),.a _ _,.a _ _,.b (b !=0) false,.ff,.ff,.b (decide ((n:Int)≥3)) false,.ff,.a _ _,.b (flats [T.bool false]) true,.ff,.ff,.b (!false) true] ⟨o_n (by simp),o_a hl,o_a hb,f_brn (by assumption),fP,o_a hrm,bK,bK,trivial⟩ ?_
   exact ge
 ·refine qq ?_
  refine gg [.n (zq (zz zm L)) (zq L),.a _ _,.a _ _,.b (b !=0) true,.tt,.tt,.tt,.tt,.tt,.tt,.tt] ⟨o_n (by simp),o_a hl,o_a hb,t_brn (by assumption),trivial⟩ ?_
  exact ge
theorem AcR (c:Config) (r f made:Int) (L:List Entity) (hL:L.length≤1000) (hr:0≤r∧r≤16) (hf:0≤f∧f≤10000) (hm:0≤made∧made≤1000) (h: ¬(below 8 c.seed [3,f,r]≠0∨3≤(L.countP fun e=>e.kind==3)∨Stg.room ⟨L,made,[]⟩=false)):
  Is cx (.call 68 [.ptr 0 0 0] [.one 10 (stepV c r f made (.all 1 none) (.fit 15 [])) false,.arr 9 (L.map zm) none false])
   ⟨.ret,[],[.one 10 (stepV c r f (made+1) (.all 2 none) (.fit 15 [])) false,.arr 9 (L.map zm) none true,.arr 9 ((put1 L (gemE c r f made)).map zm) none false]⟩:=by
 have hl:=Ad4 c r f made L [] hL L.length 0 0 (by omega) (by omega)
 rw [List.drop_zero,Nat.zero_add] at hl
 have hb:=Aa0 8 c.seed [3,f,r] (by decide) (by simp [small])
 have hrm:=Aau c r f ⟨L,made,[]⟩ (by unfold small;simp only;omega)
 have hc:(L.countP fun e=>e.kind==3)≤L.length:=List.countP_le_length
 have hpl:=AaM c r f 4 5 r ⟨L,made,[]⟩
 have hnum:=AaJ c r f made L [] hr hf hm
 have hput:=AaR L [gemE c r f made] (by omega) (by simp)
 change Is cx _ ⟨_,_,[.arr 9 ((put1 L (gemE c r f made)).map zm) none false]⟩ at hput
 unfold gemE at*
 generalize (L.countP fun e=>e.kind==3)=n at*
 generalize below 8 c.seed [3,f,r]=b at*
 generalize Stg.room ⟨L,made,[]⟩=rm at*
 generalize numI c r f made=nn at*
 have h1:b=0:=by
  by_cases q:b=0
  ·exact q
  ·exact absurd (Or.inl q) h
 have h2: ¬3≤n:=fun q=>h (.inr (.inl q))
 have h3:rm=true:=by
  cases rm with
  |true=>rfl
  |false=>exact absurd (Or.inr (Or.inr rfl)) h
 subst h1 h3
 clear h
 refine qq ?_
 refine gg [.n (zq (zz zm L)) (zq L),.a _ _,.a _ _,.b (0 !=0) false,.ff,.ff,.b (decide ((n:Int)≥3)) false,.ff,.a _ _,.b (flats [T.bool true]) true,.ff,.ff,.b (!true) false,.a _ _,.b (flats [ti (placeX c r f 4 r),ti (placeY c r f 5 r)]) true] ⟨o_n (by simp),o_a hl,o_a hb,bK,fP,o_a hrm,bK,bK,o_a hpl,bK,trivial⟩ ?_
 refine bO ?_ ?_
 all_goals
  refine gg [.a _ _,.a _ _] ⟨o_a hnum,o_a hput,trivial⟩ ?_
  exact ge
theorem AcT (c:Config) (r f made:Int) (L:List Entity) (o:List Cross) (hL:L.length≤1000) (hr:0≤r∧r≤16) (hf:0≤f∧f≤10000) (hm:0≤made∧made≤1000) (h: ¬(below 8 c.seed [3,f,r]≠0∨3≤(L.countP fun e=>e.kind==3)∨Stg.room ⟨L,made,o⟩=false)):
  Is cx (.call 68 [.ptr 0 0 0] [.one 10 (stepV c r f made (.all 1 none) (.all 2 none)) false,.arr 9 (L.map zm) none false,.arr 15 (o.map zn) none false])
   ⟨.ret,[],[.one 10 (stepV c r f (made+1) (.all 3 none) (.all 2 none)) false,.arr 9 (L.map zm) none true,.arr 15 (o.map zn) none false,.arr 9 ((put1 L (gemE c r f made)).map zm) none false]⟩:=by
 have hl:=Adm c r f made L o hL L.length 0 0 (by omega) (by omega)
 rw [List.drop_zero,Nat.zero_add] at hl
 have hb:=Aa0 8 c.seed [3,f,r] (by decide) (by simp [small])
 have hrm:=Aau c r f ⟨L,made,o⟩ (by unfold small;simp only;omega)
 have hc:(L.countP fun e=>e.kind==3)≤L.length:=List.countP_le_length
 have hpl:=AaM c r f 4 5 r ⟨L,made,o⟩
 have hnum:=Aee c r f made L o hr hf hm
 have hput:=AaR L [gemE c r f made] (by omega) (by simp)
 change Is cx _ ⟨_,_,[.arr 9 ((put1 L (gemE c r f made)).map zm) none false]⟩ at hput
 unfold gemE at*
 generalize (L.countP fun e=>e.kind==3)=n at*
 generalize below 8 c.seed [3,f,r]=b at*
 generalize Stg.room ⟨L,made,o⟩=rm at*
 generalize numI c r f made=nn at*
 have h1:b=0:=by
  by_cases q:b=0
  ·exact q
  ·exact absurd (Or.inl q) h
 have h2: ¬3≤n:=fun q=>h (.inr (.inl q))
 have h3:rm=true:=by
  cases rm with
  |true=>rfl
  |false=>exact absurd (Or.inr (Or.inr rfl)) h
 subst h1 h3
 clear h
 refine qq ?_
 refine gg [.n (zq (zz zm L)) (zq L),.a _ _,.a _ _,.b (0 !=0) false,.ff,.ff,.b (decide ((n:Int)≥3)) false,.ff,.a _ _,.b (flats [T.bool true]) true,.ff,.ff,.b (!true) false,.a _ _,.b (flats [ti (placeX c r f 4 r),ti (placeY c r f 5 r)]) true] ⟨o_n (by simp),o_a hl,o_a hb,bK,fP,o_a hrm,bK,bK,o_a hpl,bK,trivial⟩ ?_
 refine bO ?_ ?_
 all_goals
  refine gg [.a _ _,.a _ _] ⟨o_a hnum,o_a hput,trivial⟩ ?_
  exact ge
theorem Afb (c:Config) (r f made:Int) (L:List Entity) (hL:L.length≤1000): ∀(d i:Nat) (A:List Entity) (o:List Cross),i+d=L.length→A.length≤i→o.length≤50000+i→
  Is cx (.loop 69 [0,1,0,1] 2 [.ptr 0 0 0,.all 2 none,.all 1 none,vi L.length,vi i] [.one 10 (stepV c r f made (.all 1 none) (.all 3 none)) false,.arr 9 (L.map zm) none false,.arr 9 (A.map zm) none false,.arr 15 (o.map zn) none false])
   ⟨.exit 0,[.ptr 0 0 0,.all 2 none,.all 1 none,vi L.length,vi L.length],[.one 10 (stepV c r f made (.all 1 none) (.all 3 none)) false,.arr 9 (L.map zm) none false,.arr 9 ((A++(L.drop i).filter fun e=>decide (c.of e.x e.y=r)).map zm) none false,.arr 15 ((o++((L.drop i).filter fun e=> !decide (c.of e.x e.y=r)).map (handE c r f)).map zn) none false]⟩:=by
 intro d
 induction d with
 |zero=>
  intro i A o hi hA ho
  rw [Aaf (by omega)]
  refine qq ?_
  refine gg [.b (decide ((i:Int)<(↑(zq L):Int))) false] ⟨fP,trivial⟩ ?_
  refine rT (a:=qz (qx 0) [V.ptr 0 0 0,qy 2 none,qy 1 none,vi (↑(zq L):Int),vi (i:Int)] [qg 10 (V.agg [vi c.cols,vi c.rows,vi c.players,vi c.window,V.t (T.int zf c.seed),vi r,vi f,qy 1 none,vi made,qy 3 none]) false,qv 9 (zz zm L) none false,qv 9 (zz zm A) none false,qv 15 (zz zn o) none false]) ?_
  ((have hq:i=L.length:=by omega);subst hq;simp)
 |succ d ih=>
  intro i A o hi hA ho
  have hlt:i<L.length:=by omega
  have hO:=AbJ c (gt L i).x (gt L i).y
  rw [Aah hlt,List.filter_cons,List.filter_cons]
  by_cases h:c.of (gt L i).x (gt L i).y=r
  ·rw [if_pos (by simpa using h),if_neg (by simpa using h),List.append_cons]
   have ih1:=ih (i+1) (A++ [gt L i]) o (by omega) (by simp;omega) (by omega)
   clear ih
   refine qq ?_
   refine gg [.b (decide ((i:Int)<(↑(zq L):Int))) true,.w (0≤(i:Int)),.n (zy (i:Int)) i,.w (i<zq (zz zm L)),.g (zz zm L) i (zm (gt L i)),.a _ _,.b (Config.of c (gt L i).x (gt L i).y !=r) false,.w ((0:Nat)<(72:Nat)),.t (qk 0 [zm (gt L i)]) (qk 0 (zz zm [gt L i])),.t (qk 0 (zz zm A++zz zm [gt L i])) (qk 0 (zz zm (A++ [gt L i]))),.w (room (zq (zz zm (A++ [gt L i]))) (72:Nat)),.i zd ((i:Int)+1) ((↑(i+1):Int)),.a _ _] ⟨tP,oW,nK,o_w (by (simp [room,appendMax];omega)),o_gt rfl (by assumption) (by intro h;cases h),o_a hO,f_brn (by assumption),oW,o_l (Aa8 rfl AaV),o_l (Aa1 rfl rfl),o_w (by (simp [room,appendMax];omega)),o_i (w64 (by (simp [room,appendMax];omega))),o_a ih1,trivial⟩ ?_
   exact ge
  ·rw [if_neg (by simpa using h),if_pos (by simpa using h),List.map_cons,List.append_cons]
   have ih1:=ih (i+1) A (o++ [handE c r f (gt L i)]) (by omega) (by omega) (by simp;omega)
   have hs:=Aa9 c r f made L o ⟨1,0,c.of (gt L i).x (gt L i).y,0,gt L i,0,0⟩ (by omega)
   clear ih
   unfold handE at ih1⊢
   refine qq ?_
   refine gg [.b (decide ((i:Int)<(↑(zq L):Int))) true,.w (0≤(i:Int)),.n (zy (i:Int)) i,.w (i<zq (zz zm L)),.g (zz zm L) i (zm (gt L i)),.a _ _,.b (Config.of c (gt L i).x (gt L i).y !=r) true,.a _ _,.i zd ((i:Int)+1) ((↑(i+1):Int)),.a _ _] ⟨tP,oW,nK,o_w (by (simp;omega)),o_gt rfl (by assumption) (by intro h;cases h),o_a hO,t_brn (by assumption),o_a hs,oI,o_a ih1,trivial⟩ ?_
   exact ge
theorem AeD (c:Config) (r f made:Int) (L:List Entity) (hL:L.length≤1000): ∀(d i:Nat) (A:List Entity) (o:List Cross),i+d=L.length→A.length≤i→o.length≤50000+i→
  Is cx (.loop 69 [0,1,0,1] 3 [.ptr 0 0 0,.all 3 none,.all 1 none,vi L.length,vi i] [.one 10 (stepV c r f made (.all 1 none) (.all 4 none)) false,.arr 9 (L.map zm) none false,.dead,.arr 9 (A.map zm) none false,.arr 15 (o.map zn) none false])
   ⟨.exit 0,[.ptr 0 0 0,.all 3 none,.all 1 none,vi L.length,vi L.length],[.one 10 (stepV c r f made (.all 1 none) (.all 4 none)) false,.arr 9 (L.map zm) none false,.dead,.arr 9 ((A++(L.drop i).filter fun e=>decide (c.of e.x e.y=r)).map zm) none false,.arr 15 ((o++((L.drop i).filter fun e=> !decide (c.of e.x e.y=r)).map (handE c r f)).map zn) none false]⟩:=by
 intro d
 induction d with
 |zero=>
  intro i A o hi hA ho
  rw [Aaf (by omega)]
  refine qq ?_
  refine gg [.b (decide ((i:Int)<(↑(zq L):Int))) false] ⟨fP,trivial⟩ ?_
  refine rT (a:=qz (qx 0) [V.ptr 0 0 0,qy 3 none,qy 1 none,vi (↑(zq L):Int),vi (i:Int)] [qg 10 (V.agg [vi c.cols,vi c.rows,vi c.players,vi c.window,V.t (T.int zf c.seed),vi r,vi f,qy 1 none,vi made,qy 4 none]) false,qv 9 (zz zm L) none false,Ob.dead,qv 9 (zz zm A) none false,qv 15 (zz zn o) none false]) ?_
  ((have hq:i=L.length:=by omega);subst hq;simp)
 |succ d ih=>
  intro i A o hi hA ho
  have hlt:i<L.length:=by omega
  have hO:=AbJ c (gt L i).x (gt L i).y
  rw [Aah hlt,List.filter_cons,List.filter_cons]
  by_cases h:c.of (gt L i).x (gt L i).y=r
  ·rw [if_pos (by simpa using h),if_neg (by simpa using h),List.append_cons]
   have ih1:=ih (i+1) (A++ [gt L i]) o (by omega) (by simp;omega) (by omega)
   clear ih
   refine qq ?_
   refine gg [.b (decide ((i:Int)<(↑(zq L):Int))) true,.w (0≤(i:Int)),.n (zy (i:Int)) i,.w (i<zq (zz zm L)),.g (zz zm L) i (zm (gt L i)),.a _ _,.b (Config.of c (gt L i).x (gt L i).y !=r) false,.w ((0:Nat)<(72:Nat)),.t (qk 0 [zm (gt L i)]) (qk 0 (zz zm [gt L i])),.t (qk 0 (zz zm A++zz zm [gt L i])) (qk 0 (zz zm (A++ [gt L i]))),.w (room (zq (zz zm (A++ [gt L i]))) (72:Nat)),.i zd ((i:Int)+1) ((↑(i+1):Int)),.a _ _] ⟨tP,oW,nK,o_w (by (simp [room,appendMax];omega)),o_gt rfl (by assumption) (by intro h;cases h),o_a hO,f_brn (by assumption),oW,o_l (Aa8 rfl AaV),o_l (Aa1 rfl rfl),o_w (by (simp [room,appendMax];omega)),o_i (w64 (by (simp [room,appendMax];omega))),o_a ih1,trivial⟩ ?_
   exact ge
  ·rw [if_neg (by simpa using h),if_pos (by simpa using h),List.map_cons,List.append_cons]
   have ih1:=ih (i+1) A (o++ [handE c r f (gt L i)]) (by omega) (by omega) (by simp;omega)
   have hs:=Aa9 c r f made L o ⟨1,0,c.of (gt L i).x (gt L i).y,0,gt L i,0,0⟩ (by omega)
   clear ih
   unfold handE at ih1⊢
   refine qq ?_
   refine gg [.b (decide ((i:Int)<(↑(zq L):Int))) true,.w (0≤(i:Int)),.n (zy (i:Int)) i,.w (i<zq (zz zm L)),.g (zz zm L) i (zm (gt L i)),.a _ _,.b (Config.of c (gt L i).x (gt L i).y !=r) true,.a _ _,.i zd ((i:Int)+1) ((↑(i+1):Int)),.a _ _] ⟨tP,oW,nK,o_w (by (simp;omega)),o_gt rfl (by assumption) (by intro h;cases h),o_a hO,t_brn (by assumption),o_a hs,oI,o_a ih1,trivial⟩ ?_
   exact ge
theorem Afk (c:Config) (r f made:Int) (L:List Entity) (hL:L.length≤1000): ∀(d i:Nat) (A:List Entity),i+d=L.length→A.length≤i→
  Is cx (.loop 69 [0,1,0,1] 2 [.ptr 0 0 0,.all 2 none,.all 1 none,vi L.length,vi i] [.one 10 (stepV c r f made (.all 1 none) (.fit 15 [])) false,.arr 9 (L.map zm) none false,.arr 9 (A.map zm) none false])
   (if ((L.drop i).filter fun e=> !decide (c.of e.x e.y=r))= [] then
    ⟨.exit 0,[.ptr 0 0 0,.all 2 none,.all 1 none,vi L.length,vi L.length],[.one 10 (stepV c r f made (.all 1 none) (.fit 15 [])) false,.arr 9 (L.map zm) none false,.arr 9 ((A++(L.drop i).filter fun e=>decide (c.of e.x e.y=r)).map zm) none false]⟩
   else ⟨.exit 0,[.ptr 0 0 0,.all 2 none,.all 1 none,vi L.length,vi L.length],[.one 10 (stepV c r f made (.all 1 none) (.all 3 none)) false,.arr 9 (L.map zm) none false,.arr 9 ((A++(L.drop i).filter fun e=>decide (c.of e.x e.y=r)).map zm) none false,.arr 15 ((((L.drop i).filter fun e=> !decide (c.of e.x e.y=r)).map (handE c r f)).map zn) none false]⟩):=by
 intro d
 induction d with
 |zero=>
  intro i A hi hA
  rw [Aaf (by omega),List.filter_nil,List.filter_nil,if_pos rfl]
  refine qq ?_
  refine gg [.b (decide ((i:Int)<(↑(zq L):Int))) false] ⟨fP,trivial⟩ ?_
  refine rT (a:=qz (qx 0) [V.ptr 0 0 0,qy 2 none,qy 1 none,vi (↑(zq L):Int),vi (i:Int)] [qg 10 (V.agg [vi c.cols,vi c.rows,vi c.players,vi c.window,V.t (T.int zf c.seed),vi r,vi f,qy 1 none,vi made,V.fit 15 []]) false,qv 9 (zz zm L) none false,qv 9 (zz zm A) none false]) ?_
  ((have hq:i=L.length:=by omega);subst hq;simp)
 |succ d ih=>
  intro i A hi hA
  have hlt:i<L.length:=by omega
  have hO:=AbJ c (gt L i).x (gt L i).y
  rw [Aah hlt,List.filter_cons,List.filter_cons]
  by_cases h:c.of (gt L i).x (gt L i).y=r
  ·rw [if_pos (c:=decide (c.of (gt L i).x (gt L i).y=r)=true) (by simpa using h),if_neg (c:=(!decide (c.of (gt L i).x (gt L i).y=r))=true) (by simpa using h),List.append_cons]
   have ih1:=ih (i+1) (A++ [gt L i]) (by omega) (by simp;omega)
   clear ih
   split at ih1
   ·rename_i hq
    rw [if_pos hq]
    refine qq ?_
    refine gg [.b (decide ((i:Int)<(↑(zq L):Int))) true,.w (0≤(i:Int)),.n (zy (i:Int)) i,.w (i<zq (zz zm L)),.g (zz zm L) i (zm (gt L i)),.a _ _,.b (Config.of c (gt L i).x (gt L i).y !=r) false,.w ((0:Nat)<(72:Nat)),.t (qk 0 [zm (gt L i)]) (qk 0 (zz zm [gt L i])),.t (qk 0 (zz zm A++zz zm [gt L i])) (qk 0 (zz zm (A++ [gt L i]))),.w (room (zq (zz zm (A++ [gt L i]))) (72:Nat)),.i zd ((i:Int)+1) ((↑(i+1):Int)),.a _ _] ⟨tP,oW,nK,o_w (by (simp [room,appendMax];omega)),o_gt rfl (by assumption) (by intro h;cases h),o_a hO,f_brn (by assumption),oW,o_l (Aa8 rfl AaV),o_l (Aa1 rfl rfl),o_w (by (simp [room,appendMax];omega)),o_i (w64 (by (simp [room,appendMax];omega))),o_a ih1,trivial⟩ ?_
    exact ge
   ·rename_i hq
    rw [if_neg hq]
    refine qq ?_
    refine gg [.b (decide ((i:Int)<(↑(zq L):Int))) true,.w (0≤(i:Int)),.n (zy (i:Int)) i,.w (i<zq (zz zm L)),.g (zz zm L) i (zm (gt L i)),.a _ _,.b (Config.of c (gt L i).x (gt L i).y !=r) false,.w ((0:Nat)<(72:Nat)),.t (qk 0 [zm (gt L i)]) (qk 0 (zz zm [gt L i])),.t (qk 0 (zz zm A++zz zm [gt L i])) (qk 0 (zz zm (A++ [gt L i]))),.w (room (zq (zz zm (A++ [gt L i]))) (72:Nat)),.i zd ((i:Int)+1) ((↑(i+1):Int)),.a _ _] ⟨tP,oW,nK,o_w (by (simp [room,appendMax];omega)),o_gt rfl (by assumption) (by intro h;cases h),o_a hO,f_brn (by assumption),oW,o_l (Aa8 rfl AaV),o_l (Aa1 rfl rfl),o_w (by (simp [room,appendMax];omega)),o_i (w64 (by (simp [room,appendMax];omega))),o_a ih1,trivial⟩ ?_
    exact ge
  ·rw [if_neg (c:=decide (c.of (gt L i).x (gt L i).y=r)=true) (by simpa using h),if_pos (c:=(!decide (c.of (gt L i).x (gt L i).y=r))=true) (by simpa using h),if_neg (by simp),List.map_cons]
   have ih1:=Afb c r f made L hL d (i+1) A [handE c r f (gt L i)] (by omega) (by omega) (by simp;omega)
   have hs:=Acr c r f made L ⟨1,0,c.of (gt L i).x (gt L i).y,0,gt L i,0,0⟩
   clear ih
   unfold handE at ih1⊢
   refine qq ?_
   refine gg [.b (decide ((i:Int)<(↑(zq L):Int))) true,.w (0≤(i:Int)),.n (zy (i:Int)) i,.w (i<zq (zz zm L)),.g (zz zm L) i (zm (gt L i)),.a _ _,.b (Config.of c (gt L i).x (gt L i).y !=r) true,.a _ _,.i zd ((i:Int)+1) ((↑(i+1):Int)),.a _ _] ⟨tP,oW,nK,o_w (by (simp;omega)),o_gt rfl (by assumption) (by intro h;cases h),o_a hO,t_brn (by assumption),o_a hs,oI,o_a ih1,trivial⟩ ?_
   exact ge
theorem AeU (c:Config) (r f made:Int) (L:List Entity) (hL:L.length≤1000) (o:List Cross) (ho:o.length≤50000): ∀(d i:Nat) (A:List Entity),i+d=L.length→A.length≤i→
  Is cx (.loop 69 [0,1,0,1] 3 [.ptr 0 0 0,.all 3 none,.all 1 none,vi L.length,vi i] [.one 10 (stepV c r f made (.all 1 none) (.all 2 none)) false,.arr 9 (L.map zm) none false,.arr 15 (o.map zn) none false,.arr 9 (A.map zm) none false])
   (if ((L.drop i).filter fun e=> !decide (c.of e.x e.y=r))= [] then
    ⟨.exit 0,[.ptr 0 0 0,.all 3 none,.all 1 none,vi L.length,vi L.length],[.one 10 (stepV c r f made (.all 1 none) (.all 2 none)) false,.arr 9 (L.map zm) none false,.arr 15 (o.map zn) none false,.arr 9 ((A++(L.drop i).filter fun e=>decide (c.of e.x e.y=r)).map zm) none false]⟩
   else ⟨.exit 0,[.ptr 0 0 0,.all 3 none,.all 1 none,vi L.length,vi L.length],[.one 10 (stepV c r f made (.all 1 none) (.all 4 none)) false,.arr 9 (L.map zm) none false,.dead,.arr 9 ((A++(L.drop i).filter fun e=>decide (c.of e.x e.y=r)).map zm) none false,.arr 15 ((o++((L.drop i).filter fun e=> !decide (c.of e.x e.y=r)).map (handE c r f)).map zn) none false]⟩):=by
 intro d
 induction d with
 |zero=>
  intro i A hi hA
  rw [Aaf (by omega),List.filter_nil,List.filter_nil,if_pos rfl]
  refine qq ?_
  refine gg [.b (decide ((i:Int)<(↑(zq L):Int))) false] ⟨fP,trivial⟩ ?_
  refine rT (a:=qz (qx 0) [V.ptr 0 0 0,qy 3 none,qy 1 none,vi (↑(zq L):Int),vi (i:Int)] [qg 10 (V.agg [vi c.cols,vi c.rows,vi c.players,vi c.window,V.t (T.int zf c.seed),vi r,vi f,qy 1 none,vi made,qy 2 none]) false,qv 9 (zz zm L) none false,qv 15 (zz zn o) none false,qv 9 (zz zm A) none false]) ?_
  ((have hq:i=L.length:=by omega);subst hq;simp)
 |succ d ih=>
  intro i A hi hA
  have hlt:i<L.length:=by omega
  have hO:=AbJ c (gt L i).x (gt L i).y
  rw [Aah hlt,List.filter_cons,List.filter_cons]
  by_cases h:c.of (gt L i).x (gt L i).y=r
  ·rw [if_pos (c:=decide (c.of (gt L i).x (gt L i).y=r)=true) (by simpa using h),if_neg (c:=(!decide (c.of (gt L i).x (gt L i).y=r))=true) (by simpa using h),List.append_cons]
   have ih1:=ih (i+1) (A++ [gt L i]) (by omega) (by simp;omega)
   clear ih
   split at ih1
   ·rename_i hq
    rw [if_pos hq]
    refine qq ?_
    refine gg [.b (decide ((i:Int)<(↑(zq L):Int))) true,.w (0≤(i:Int)),.n (zy (i:Int)) i,.w (i<zq (zz zm L)),.g (zz zm L) i (zm (gt L i)),.a _ _,.b (Config.of c (gt L i).x (gt L i).y !=r) false,.w ((0:Nat)<(72:Nat)),.t (qk 0 [zm (gt L i)]) (qk 0 (zz zm [gt L i])),.t (qk 0 (zz zm A++zz zm [gt L i])) (qk 0 (zz zm (A++ [gt L i]))),.w (room (zq (zz zm (A++ [gt L i]))) (72:Nat)),.i zd ((i:Int)+1) ((↑(i+1):Int)),.a _ _] ⟨tP,oW,nK,o_w (by (simp [room,appendMax];omega)),o_gt rfl (by assumption) (by intro h;cases h),o_a hO,f_brn (by assumption),oW,o_l (Aa8 rfl AaV),o_l (Aa1 rfl rfl),o_w (by (simp [room,appendMax];omega)),o_i (w64 (by (simp [room,appendMax];omega))),o_a ih1,trivial⟩ ?_
    exact ge
   ·rename_i hq
    rw [if_neg hq]
    refine qq ?_
    refine gg [.b (decide ((i:Int)<(↑(zq L):Int))) true,.w (0≤(i:Int)),.n (zy (i:Int)) i,.w (i<zq (zz zm L)),.g (zz zm L) i (zm (gt L i)),.a _ _,.b (Config.of c (gt L i).x (gt L i).y !=r) false,.w ((0:Nat)<(72:Nat)),.t (qk 0 [zm (gt L i)]) (qk 0 (zz zm [gt L i])),.t (qk 0 (zz zm A++zz zm [gt L i])) (qk 0 (zz zm (A++ [gt L i]))),.w (room (zq (zz zm (A++ [gt L i]))) (72:Nat)),.i zd ((i:Int)+1) ((↑(i+1):Int)),.a _ _] ⟨tP,oW,nK,o_w (by (simp [room,appendMax];omega)),o_gt rfl (by assumption) (by intro h;cases h),o_a hO,f_brn (by assumption),oW,o_l (Aa8 rfl AaV),o_l (Aa1 rfl rfl),o_w (by (simp [room,appendMax];omega)),o_i (w64 (by (simp [room,appendMax];omega))),o_a ih1,trivial⟩ ?_
    exact ge
  ·rw [if_neg (c:=decide (c.of (gt L i).x (gt L i).y=r)=true) (by simpa using h),if_pos (c:=(!decide (c.of (gt L i).x (gt L i).y=r))=true) (by simpa using h),if_neg (by simp),List.map_cons,List.append_cons]
   have ih1:=AeD c r f made L hL d (i+1) A (o++ [handE c r f (gt L i)]) (by omega) (by omega) (by simp;omega)
   have hs:=Aa9 c r f made L o ⟨1,0,c.of (gt L i).x (gt L i).y,0,gt L i,0,0⟩ (by omega)
   clear ih
   unfold handE at ih1⊢
   refine qq ?_
   refine gg [.b (decide ((i:Int)<(↑(zq L):Int))) true,.w (0≤(i:Int)),.n (zy (i:Int)) i,.w (i<zq (zz zm L)),.g (zz zm L) i (zm (gt L i)),.a _ _,.b (Config.of c (gt L i).x (gt L i).y !=r) true,.a _ _,.i zd ((i:Int)+1) ((↑(i+1):Int)),.a _ _] ⟨tP,oW,nK,o_w (by (simp;omega)),o_gt rfl (by assumption) (by intro h;cases h),o_a hO,t_brn (by assumption),o_a hs,oI,o_a ih1,trivial⟩ ?_
   exact ge
theorem AbX (c:Config) (r f made:Int) (L:List Entity) (hL:L.length≤1000):
  Is cx (.call 69 [.ptr 0 0 0] [.one 10 (stepV c r f made (.all 1 none) (.fit 15 [])) false,.arr 9 (L.map zm) none false])
   (if (leaveS c r f ⟨L,made,[]⟩).out= [] then ⟨.ret,[],[.one 10 (stepV c r f made (.all 2 none) (.fit 15 [])) false,.arr 9 (L.map zm) none false,.arr 9 ((leaveS c r f ⟨L,made,[]⟩).l.map zm) none false]⟩
    else ⟨.ret,[],[.one 10 (stepV c r f made (.all 2 none) (.all 3 none)) false,.arr 9 (L.map zm) none false,.arr 9 ((leaveS c r f ⟨L,made,[]⟩).l.map zm) none false,.arr 15 ((leaveS c r f ⟨L,made,[]⟩).out.map zn) none false]⟩):=by
 have h:=Afk c r f made L hL L.length 0 [] (by omega) (by simp)
 simp only [List.drop_zero,List.nil_append] at h
 unfold leaveS
 simp only [List.nil_append,List.map_eq_nil_iff]
 generalize (L.filter fun e=>decide (c.of e.x e.y=r))=X at*
 generalize (L.filter fun e=> !decide (c.of e.x e.y=r))=Y at*
 generalize Y.map (handE c r f)=Z at*
 split at h
 ·rename_i hq
  rw [if_pos hq]
  refine qq ?_
  refine gg [.n (zq (zz zm L)) (zq L),.a _ _] ⟨o_n (by simp),o_a h,trivial⟩ ?_
  exact ge
 ·rename_i hq
  rw [if_neg hq]
  refine qq ?_
  refine gg [.n (zq (zz zm L)) (zq L),.a _ _] ⟨o_n (by simp),o_a h,trivial⟩ ?_
  exact ge
theorem AbY (c:Config) (r f made:Int) (L:List Entity) (o:List Cross) (hL:L.length≤1000) (ho:o.length≤50000):
  Is cx (.call 69 [.ptr 0 0 0] [.one 10 (stepV c r f made (.all 1 none) (.all 2 none)) false,.arr 9 (L.map zm) none false,.arr 15 (o.map zn) none false])
   (if (L.filter fun e=> !decide (c.of e.x e.y=r))= [] then ⟨.ret,[],[.one 10 (stepV c r f made (.all 3 none) (.all 2 none)) false,.arr 9 (L.map zm) none false,.arr 15 (o.map zn) none false,.arr 9 ((leaveS c r f ⟨L,made,o⟩).l.map zm) none false]⟩
    else ⟨.ret,[],[.one 10 (stepV c r f made (.all 3 none) (.all 4 none)) false,.arr 9 (L.map zm) none false,.dead,.arr 9 ((leaveS c r f ⟨L,made,o⟩).l.map zm) none false,.arr 15 ((leaveS c r f ⟨L,made,o⟩).out.map zn) none false]⟩):=by
 have h:=AeU c r f made L hL o ho L.length 0 [] (by omega) (by simp)
 simp only [List.drop_zero,List.nil_append] at h
 unfold leaveS
 simp only
 generalize (L.filter fun e=>decide (c.of e.x e.y=r))=X at*
 generalize (L.filter fun e=> !decide (c.of e.x e.y=r))=Y at*
 generalize o++Y.map (handE c r f)=Z at*
 split at h
 ·rename_i hq
  rw [if_pos hq]
  refine qq ?_
  refine gg [.n (zq (zz zm L)) (zq L),.a _ _] ⟨o_n (by simp),o_a h,trivial⟩ ?_
  exact ge
 ·rename_i hq
  rw [if_neg hq]
  refine qq ?_
  refine gg [.n (zq (zz zm L)) (zq L),.a _ _] ⟨o_n (by simp),o_a h,trivial⟩ ?_
  exact ge
end Go.Eva.S5
namespace Go.Eva.S5
theorem Acb (a b n:Nat) (h1:a+n≤b): ∀(d i:Nat) (A:List Cross),i+d=n→b+n≤A.length→small A→
  Is cx (.loop 197 [0,1] 1 [.all 0 none,vi a,vi b,vi n,vi i] [.arr 15 (A.map zn) none false])
   ⟨.exit 0,[.all 0 none,vi a,vi b,vi n,vi n],[.arr 15 ((swR d A (a+i) (b+i)).map zn) none false]⟩:=by
 intro d
 induction d with
 |zero=>
  intro i A hi h2 hn
  unfold small at hn
  refine qq ?_
  refine gg [.b (decide ((i:Int)<(n:Int))) false] ⟨fP,trivial⟩ ?_
  refine rT (a:=qz (qx 0) [qy 0 none,vi (a:Int),vi (b:Int),vi (n:Int),vi (i:Int)] [qv 15 (zz zn A) none false]) ?_
  ((have hq:i=n:=by omega);subst hq;rfl)
 |succ d ih=>
  intro i A hi h2 hn
  have ih1:=ih (i+1) (sw A (a+i) (b+i)) (by omega) (by rw [AbV];omega) (by unfold small;rw [AbV];exact hn)
  unfold small at hn
  clear ih
  unfold sw at ih1
  refine qq ?_
  refine gg [.b (decide ((i:Int)<(n:Int))) true,.i zd ((a:Int)+(i:Int)) ((↑(a+i):Int)),.i zd ((b:Int)+(i:Int)) ((↑(b+i):Int)),.i zd ((b:Int)+(i:Int)) ((↑(b+i):Int)),.w (0≤(↑(b+i):Int)),.n (zy (↑(b+i):Int)) (b+i),.w (b+i<zq (zz zn A)),.i zd ((a:Int)+(i:Int)) ((↑(a+i):Int)),.w (0≤(↑(a+i):Int)),.n (zy (↑(a+i):Int)) (a+i),.w (a+i<zq (zz zn A)),.g (zz zn A) (b+i) (zn (gt A (b+i))),.g (zz zn A) (a+i) (zn (gt A (a+i))),.w (0≤(↑(a+i):Int)),.n (zy (↑(a+i):Int)) (a+i),.w (a+i<zq (zz zn A))] ⟨tP,oI,oI,oI,oW,nK,o_w (by (simp;omega)),oI,oW,nK,o_w (by (simp;omega)),oT,oT,oW,nK,o_w (by (simp;omega)),trivial⟩ ?_
  refine gg [.w (a+i<zq (zz zn A)),.t (qk 0 (zx (zz zn A) (a+i) (zn (gt A (b+i))))) (qk 0 (zz zn (zx A (a+i) (gt A (b+i))))),.w (0≤(↑(b+i):Int)),.n (zy (↑(b+i):Int)) (b+i),.w (b+i<zq (zz zn (zx A (a+i) (gt A (b+i))))),.w (b+i<zq (zz zn (zx A (a+i) (gt A (b+i))))),.t (qk 0 (zx (zz zn (zx A (a+i) (gt A (b+i)))) (b+i) (zn (gt A (a+i))))) (qk 0 (zz zn (zx (zx A (a+i) (gt A (b+i))) (b+i) (gt A (a+i))))),.i zd ((i:Int)+1) ((↑(i+1):Int)),.a _ _] ⟨o_w (by (simp;omega)),o_l (Aao rfl rfl),oW,nK,o_w (by (simp;omega)),o_w (by (simp;omega)),o_l (Aao rfl rfl),oI,o_a ih1,trivial⟩ ?_
  refine rT (a:=qz (qx 0) [qy 0 none,vi (a:Int),vi (b:Int),vi (n:Int),vi (n:Int)] [qv 15 (zz zn (swR d (zx (zx A (a+i) (gt A (b+i))) (b+i) (gt A (a+i))) (a+(i+1)) (b+(i+1)))) none false]) ?_
  (simp_all [swR,sw,Nat.add_assoc];try omega)
theorem AaI (A:List Cross) (a b n:Nat) (h1:a+n≤b) (h2:b+n≤A.length) (hn:small A):Is cx (.call 197 [.all 0 none,vi a,vi b,vi n,.t (.clo 129 [])] [.arr 15 (A.map zn) none false])
  ⟨.ret,[],[.arr 15 ((swR n A a b).map zn) none false]⟩:=by
 have h:=Acb a b n h1 n 0 A (by omega) h2 hn
 rw [Nat.add_zero,Nat.add_zero] at h
 unfold small at hn
 refine qq ?_
 refine gg [.a _ _] ⟨o_a h,trivial⟩ ?_
 exact ge
theorem AbS (a b i:Nat): ∀(j:Nat) (A:List Cross),a≤j→j<A.length→small A→ ∃k:Nat,
  Is cx (.loop 186 [0,1,0,0,1,0,0,1] 1 [.all 0 none,vi a,vi b,.t (.clo 129 []),vi i,vi j] [.arr 15 (A.map zn) none false])
   ⟨.exit 2,[.all 0 none,vi a,vi b,.t (.clo 129 []),vi i,vi k],[.arr 15 ((insIn z7 a j A).map zn) none false]⟩:=by
 intro j
 induction j with
 |zero=>
  intro A h1 h2 hn
  unfold small at hn
  refine ⟨0,?_⟩
  refine qq ?_
  refine gg [.b (decide (0>(a:Int))) false,.ff,.ff,.ff,.ff,.ff,.ff,.ff,.ff,.ff,.ff,.ff,.ff,.ff] ⟨bK,trivial⟩ ?_
  exact ge
 |succ j ih=>
  intro A h1 h2 hn
  by_cases hj:a<j+1
  ·cases hl:z7 (gt A (j+1)) (gt A j) with
   |true=>
    obtain ⟨k,ih1⟩:=ih (sw A (j+1) j) (by omega) (by rw [AbV];omega) (by unfold small;rw [AbV];exact hn)
    unfold small at hn
    clear ih
    refine ⟨k,?_⟩
    have e:insIn z7 a (j+1) A=insIn z7 a j (sw A (j+1) j):=by rw [insIn,if_pos hj,hl]
    rw [e]
    unfold sw at*
    have ej:((j+1:Nat):Int)-1=(j:Nat):=by omega
    have hl:(gt A (j+1)).cmp (gt A j)<0:=by simpa [z7] using hl
    refine qq ?_
    refine gg [.b (decide ((↑(j+1):Int)>(a:Int))) true,.tt,.tt,.tt,.w (0≤(↑(j+(1:Nat)):Int)),.n (zy (↑(j+1):Int)) (j+1),.w (j+(1:Nat)<zq (zz zn A)),.tt,.tt,.tt,.i zd ((↑(j+1):Int)-1) (j:Int),.tt,.w (0≤(j:Int)),.n (zy (j:Int)) j,.w (j<zq (zz zn A)),.tt] ⟨tP,oW,nK,o_w (by (simp;omega)),oI,oW,nK,o_w (by (simp;omega)),trivial⟩ ?_
    refine gg [.g (zz zn A) (j+1) (zn (gt A (j+1))),.tt,.g (zz zn A) j (zn (gt A j)),.tt,.w (isFnB cx (129:Nat)=true),.a _ _,.tt,.tt,.b (decide (Cross.cmp (gt A (j+1)) (gt A j)<0)) true,.i zd ((↑(j+1):Int)-1) (j:Int),.i zd ((↑(j+1):Int)-1) (j:Int),.w (0≤(j:Int)),.n (zy (j:Int)) j,.w (j<zq (zz zn A)),.w (0≤(↑(j+(1:Nat)):Int)),.n (zy (↑(j+1):Int)) (j+1)] ⟨o_gt rfl (by assumption) (by intro h;cases h),oT,o_w (by kernel_rfl),o_a (Aan (gt A (j+1)) (gt A j)),t_brp (by assumption),oI,oI,oW,nK,o_w (by (simp;omega)),oW,nK,trivial⟩ ?_
    refine gg [.w (j+(1:Nat)<zq (zz zn A)),.g (zz zn A) j (zn (gt A j)),.g (zz zn A) (j+1) (zn (gt A (j+1))),.w (0≤(↑(j+(1:Nat)):Int)),.n (zy (↑(j+1):Int)) (j+1),.w (j+(1:Nat)<zq (zz zn A)),.w (j+(1:Nat)<zq (zz zn A)),.t (qk 0 (zx (zz zn A) (j+1) (zn (gt A j)))) (qk 0 (zz zn (zx A (j+1) (gt A j)))),.w (0≤(j:Int)),.n (zy (j:Int)) j,.w (j<zq (zz zn (zx A (j+(1:Nat)) (gt A j)))),.w (j<zq (zz zn (zx A (j+(1:Nat)) (gt A j)))),.t (qk 0 (zx (zz zn (zx A (j+1) (gt A j))) j (zn (gt A (j+1))))) (qk 0 (zz zn (zx (zx A (j+1) (gt A j)) j (gt A (j+1))))),.i zd ((↑(j+1):Int)-1) (j:Int),.a _ _] ⟨o_w (by (simp;omega)),oT,o_gt rfl (by assumption) (by intro h;cases h),oW,nK,o_w (by (simp;omega)),o_w (by (simp;omega)),o_l (Aao rfl rfl),oW,nK,o_w (by (simp;omega)),o_w (by (simp;omega)),o_l (Aao rfl rfl),oI,o_a ih1,trivial⟩ ?_
    refine rT (a:=qz (qx 2) [qy 0 none,vi (a:Int),vi (b:Int),V.t (T.clo 129 []),vi (i:Int),vi (k:Int)] [qv 15 (zz zn (insIn z7 a j (zx (zx A (j+1) (gt A j)) j (gt A (j+1))))) none false]) ?_
    simp_all
   |false=>
    unfold small at hn
    clear ih
    refine ⟨j+1,?_⟩
    have e:insIn z7 a (j+1) A=A:=by rw [insIn,if_pos hj,hl]
    rw [e]
    have hl: ¬(gt A (j+1)).cmp (gt A j)<0:=by simpa [z7] using hl
    refine qq ?_
    refine gg [.b (decide ((↑(j+1):Int)>(a:Int))) true,.tt,.tt,.tt,.w (0≤(↑(j+(1:Nat)):Int)),.n (zy (↑(j+1):Int)) (j+1),.w (j+(1:Nat)<zq (zz zn A)),.tt,.tt,.tt,.i zd ((↑(j+1):Int)-1) ((↑(j+1):Int)-1),.tt,.w (0≤(↑(j+(1:Nat)):Int)-(1:Int)),.n (zy ((↑(j+1):Int)-1)) j,.w (j<zq (zz zn A)),.tt] ⟨tP,oW,nK,o_w (by (simp;omega)),oI,oW,oN,o_w (by (simp;omega)),trivial⟩ ?_
    refine gg [.g (zz zn A) (j+1) (zn (gt A (j+1))),.tt,.g (zz zn A) j (zn (gt A j)),.tt,.w (isFnB cx (129:Nat)=true),.a _ _,.tt,.tt,.b (decide (Cross.cmp (gt A (j+1)) (gt A j)<0)) false] ⟨o_gt rfl (by assumption) (by intro h;cases h),oT,o_w (by kernel_rfl),o_a (Aan (gt A (j+1)) (gt A j)),f_brp (by assumption),trivial⟩ ?_
    refine rT (a:=qz (qx 2) [qy 0 none,vi (a:Int),vi (b:Int),V.t (T.clo 129 []),vi (i:Int),vi (↑(j+1):Int)] [qv 15 (zz zn A) none false]) ?_
    simp_all
  ·unfold small at hn
   clear ih
   refine ⟨j+1,?_⟩
   have e:insIn z7 a (j+1) A=A:=by rw [insIn,if_neg hj]
   rw [e]
   refine qq ?_
   refine gg [.b (decide ((↑(j+1):Int)>(a:Int))) false,.ff,.ff,.ff,.ff,.ff,.ff,.ff,.ff,.ff,.ff,.ff,.ff,.ff] ⟨fP,trivial⟩ ?_
   refine rT (a:=qz (qx 2) [qy 0 none,vi (a:Int),vi (b:Int),V.t (T.clo 129 []),vi (i:Int),vi (↑(j+1):Int)] [qv 15 (zz zn A) none false]) ?_
   simp_all
theorem AbL (a b:Nat): ∀(d i:Nat) (A:List Cross),i+d=b→a≤i→b≤A.length→small A→ ∃k:Nat,
  Is cx (.loop 186 [0,1] 1 [.all 0 none,vi a,vi b,.t (.clo 129 []),vi i] [.arr 15 (A.map zn) none false])
   ⟨.exit 0,[.all 0 none,vi a,vi b,.t (.clo 129 []),vi k],[.arr 15 ((insOut z7 a d i A).map zn) none false]⟩:=by
 intro d
 induction d with
 |zero=>
  intro i A hi h1 h2 hn
  unfold small at hn
  refine ⟨i,?_⟩
  refine qq ?_
  refine gg [.b (decide ((i:Int)<(b:Int))) false] ⟨fP,trivial⟩ ?_
  exact ge
 |succ d ih=>
  intro i A hi h1 h2 hn
  obtain ⟨k0,h0⟩:=AbS a b i i A h1 (by omega) hn
  obtain ⟨k,ih1⟩:=ih (i+1) (insIn z7 a i A) (by omega) (by omega) (by rw [Adn];omega) (by unfold small;rw [Adn];exact hn)
  unfold small at hn
  clear ih
  refine ⟨k,?_⟩
  have hlen:(insIn z7 a i A).length=A.length:=Adn ..
  rw [insOut]
  refine qq ?_
  refine gg [.b (decide ((i:Int)<(b:Int))) true,.a _ _,.i zd ((i:Int)+1) ((↑(i+1):Int)),.a _ _] ⟨tP,o_a h0,oI,o_a ih1,trivial⟩ ?_
  exact ge
theorem AaP (A:List Cross) (a b:Nat) (h1:a≤b) (h2:b≤A.length) (hn:small A):Is cx (.call 186 [.all 0 none,vi a,vi b,.t (.clo 129 [])] [.arr 15 (A.map zn) none false])
  ⟨.ret,[],[.arr 15 ((srt z7 A a b).map zn) none false]⟩:=by
 by_cases hab:a<b
 ·rw [←Aiw Aai hab h2]
  obtain ⟨k,h⟩:=AbL a b (b-a-1) (a+1) A (by omega) (by omega) h2 hn
  unfold small at hn
  refine qq ?_
  refine gg [.i zd ((a:Int)+1) ((↑(a+1):Int)),.a _ _] ⟨oI,o_a h,trivial⟩ ?_
  exact ge
 ·obtain rfl:a=b:=by omega
  rw [AiT Aai (by omega) (by omega)]
  unfold small at hn
  have h:Is cx (.loop 186 [0,1] 1 [.all 0 none,vi a,vi a,.t (.clo 129 []),vi (a+1:Nat)] [.arr 15 (A.map zn) none false])
   ⟨.exit 0,[.all 0 none,vi a,vi a,.t (.clo 129 []),vi (a+1:Nat)],[.arr 15 (A.map zn) none false]⟩:=by
   refine qq ?_
   refine gg [.b (decide ((↑(a+1):Int)<(a:Int))) false] ⟨fP,trivial⟩ ?_
   exact ge
  refine qq ?_
  refine gg [.i zd ((a:Int)+1) ((↑(a+1):Int)),.a _ _] ⟨oI,o_a h,trivial⟩ ?_
  exact ge
theorem AcS (m:Nat): ∀(d i j:Nat) (A:List Cross),i+j≤d→0<i→0<j→i≤m→m+j≤A.length→small A→ ∃(k:Nat) (B:List Cross),
  Is cx (.loop 194 [0,0,1,1] 1 [.all 0 none,vi m,.t (.clo 129 []),vi i,vi j] [.arr 15 (A.map zn) none false])
   ⟨.exit 0,[.all 0 none,vi m,.t (.clo 129 []),vi k,vi k],[.arr 15 (B.map zn) none false]⟩∧k≤m∧m+k≤A.length∧B.length=A.length∧swR k B (m-k) m=rotL d A m i j:=by
 intro d
 induction d with
 |zero=>intros;omega
 |succ d ih=>
  intro i j A hd h1 h2 h3 h4 hn
  by_cases hij:i=j
  ·subst hij
   refine ⟨i,A,?_,h3,h4,rfl,by rw [rotL,if_pos rfl]⟩
   unfold small at hn
   refine qq ?_
   refine gg [.b ((i:Int) !=(i:Int)) false] ⟨f_brn rfl,trivial⟩ ?_
   exact ge
  ·by_cases hj:j<i
   ·obtain ⟨k,B,ih1,k1,k2,k3,k4⟩:=ih (i-j) j (swR j A (m-i) m) (by omega) (by omega) h2 (by omega) (by rw [Ab3];omega) (by unfold small;rw [Ab3];exact hn)
    rw [Ab3] at k2 k3
    refine ⟨k,B,?_,k1,k2,k3,by rw [rotL,if_neg hij,if_pos hj,k4]⟩
    have h0:=AaI A (m-i) m j (by omega) (by omega) hn
    have hlen:(swR j A (m-i) m).length=A.length:=Ab3 ..
    unfold small at hn
    clear ih
    have e1:(m:Int)-i=(m-i:Nat):=by omega
    have e2:(i:Int)-j=(i-j:Nat):=by omega
    refine qq ?_
    refine gg [.b ((i:Int) !=(j:Int)) true,.b (decide ((i:Int)>(j:Int))) true,.i zd ((m:Int)-(i:Int)) ((↑(m-i):Int)),.a _ _,.i zd ((i:Int)-(j:Int)) ((↑(i-j):Int)),.a _ _] ⟨tN,tP,oI,o_a h0,oI,o_a ih1,trivial⟩ ?_
    exact ge
   ·obtain ⟨k,B,ih1,k1,k2,k3,k4⟩:=ih i (j-i) (swR i A (m-i) (m+j-i)) (by omega) h1 (by omega) h3 (by rw [Ab3];omega) (by unfold small;rw [Ab3];exact hn)
    rw [Ab3] at k2 k3
    refine ⟨k,B,?_,k1,k2,k3,by rw [rotL,if_neg hij,if_neg hj,k4]⟩
    have h0:=AaI A (m-i) (m+j-i) i (by omega) (by omega) hn
    have hlen:(swR i A (m-i) (m+j-i)).length=A.length:=Ab3 ..
    unfold small at hn
    clear ih
    have e1:(m:Int)-i=(m-i:Nat):=by omega
    have e2:(j:Int)-i=(j-i:Nat):=by omega
    have e3:(m+j:Nat)-(i:Int)=(m+j-i:Nat):=by omega
    refine qq ?_
    refine gg [.b ((i:Int) !=(j:Int)) true,.b (decide ((i:Int)>(j:Int))) false,.i zd ((m:Int)-(i:Int)) ((↑(m-i):Int)),.i zd ((m:Int)+(j:Int)) ((↑(m+j):Int)),.i zd ((↑(m+j):Int)-(i:Int)) ((↑(m+j-i):Int)),.a _ _,.i zd ((j:Int)-(i:Int)) ((↑(j-i):Int)),.a _ _] ⟨tN,fP,oI,oI,oI,o_a h0,oI,o_a ih1,trivial⟩ ?_
    exact ge
theorem Aft (A:List Cross) (a m b:Nat) (h1:a<m) (h2:m<b) (h3:b≤A.length) (hn:small A):Is cx (.call 194 [.all 0 none,vi a,vi m,vi b,.t (.clo 129 [])] [.arr 15 (A.map zn) none false])
  ⟨.ret,[],[.arr 15 ((A.take a++seg A m b++seg A a m++A.drop b).map zn) none false]⟩:=by
 rw [←Akp h1 h2 h3 (Nat.le_refl _)]
 obtain ⟨k,B,h,k1,k2,k3,k4⟩:=AcS m (b-a) (m-a) (b-m) A (by omega) (by omega) (by omega) (by omega) (by omega) hn
 rw [←k4]
 have h0:=AaI B (m-k) m k (by omega) (by omega) (by unfold small;rw [k3];exact hn)
 unfold small at hn
 have e1:(m:Int)-a=(m-a:Nat):=by omega
 have e2:(b:Int)-m=(b-m:Nat):=by omega
 have e3:(m:Int)-k=(m-k:Nat):=by omega
 refine qq ?_
 refine gg [.i zd ((m:Int)-(a:Int)) ((↑(m-a):Int)),.i zd ((b:Int)-(m:Int)) ((↑(b-m):Int)),.a _ _,.i zd ((m:Int)-(k:Int)) ((↑(m-k):Int)),.a _ _] ⟨oI,oI,o_a h,oI,o_a h0,trivial⟩ ?_
 exact ge
end Go.Eva.S5
namespace Go.Eva.S5
theorem AcG (A:List Cross) (a:Nat) (ha:a<A.length) (hn:small A): ∀(d i j:Nat),i≤j→j≤i+d→j≤A.length→
  Is cx (.loop 187 [0,0,1,1,0,1,0] 1 [.all 0 none,vi a,.t (.clo 129 []),vi i,vi j] [.arr 15 (A.map zn) none false])
   ⟨.exit 0,[.all 0 none,vi a,.t (.clo 129 []),vi (bs (fun h=>z7 (gt A h) (gt A a)) d i j:Nat),vi (bs (fun h=>z7 (gt A h) (gt A a)) d i j:Nat)],[.arr 15 (A.map zn) none false]⟩:=by
 intro d
 induction d with
 |zero=>
  intro i j h1 h2 h3
  obtain rfl:i=j:=by omega
  unfold small at hn
  unfold bs
  refine qq ?_
  refine gg [.b (decide ((i:Int)<(i:Int))) false] ⟨fP,trivial⟩ ?_
  exact ge
 |succ d ih=>
  intro i j h1 h2 h3
  by_cases hij:i<j
  ·obtain ⟨h,hh⟩: ∃h,(i+j)/2=h:=⟨_,rfl⟩
   have hf:zh ((i+j:Nat):Int) 2=(h:Nat):=by rw [Int.fdiv_eq_ediv_of_nonneg _ (by omega)];omega
   have ih1:=ih (h+1) j (by omega) (by omega) (by omega)
   have ih2:=ih i h (by omega) (by omega) (by omega)
   unfold small at hn
   clear ih
   cases hl:(fun h=>z7 (gt A h) (gt A a)) h with
   |true=>
    have e:bs (fun h=>z7 (gt A h) (gt A a)) (d+1) i j=bs (fun h=>z7 (gt A h) (gt A a)) d (h+1) j:=by exact bs_t hij hh hl
    rw [e]
    have hl:(gt A h).cmp (gt A a)<0:=by simpa [z7] using hl
    refine qq ?_
    refine gg [.b (decide ((i:Int)<(j:Int))) true,.i zd ((i:Int)+(j:Int)) ((↑(i+j):Int)),.i zf ((↑(i+j):Int)) ((↑(i+j):Int)),.w (0≤(1:Int)),.t (T.int zf (zh (↑(i+j):Int) 2)) (T.int zf (h:Int)),.i zd (h:Int) (h:Int),.w (0≤(h:Int)),.n (zy (h:Int)) h,.w (h<zq (zz zn A)),.w (0≤(a:Int)),.n (zy (a:Int)) a,.w (a<zq (zz zn A)),.g (zz zn A) h (zn (gt A h)),.g (zz zn A) a (zn (gt A a)),.w (isFnB cx (129:Nat)=true),.a _ _] ⟨tP,oI,oU,oW,o_t (by rw [hf]),oI,oW,nK,o_w (by (simp;omega)),oW,nK,o_w (by (simp;omega)),oT,o_gt rfl (by assumption) (by intro h;cases h),o_w (by kernel_rfl),o_a (Aan (gt A h) (gt A a)),trivial⟩ ?_
    refine gg [.b (decide (Cross.cmp (gt A h) (gt A a)<0)) true,.i zd ((h:Int)+1) ((↑(h+1):Int)),.a _ _] ⟨t_brp (by assumption),oI,o_a ih1,trivial⟩ ?_
    refine rT (a:=qz (qx 0) [qy 0 none,vi (a:Int),V.t (T.clo 129 []),vi (↑(bs (fun (h:Nat)↦z7 (gt A h) (gt A a)) d (h+1) j):Int),vi (↑(bs (fun (h:Nat)↦z7 (gt A h) (gt A a)) d (h+1) j):Int)] [qv 15 (zz zn A) none false]) ?_
    (first|rfl|omega|(simp_all;done)|(simp_all;omega))
   |false=>
    have e:bs (fun h=>z7 (gt A h) (gt A a)) (d+1) i j=bs (fun h=>z7 (gt A h) (gt A a)) d i h:=by exact bs_f hij hh hl
    rw [e]
    have hl: ¬(gt A h).cmp (gt A a)<0:=by simpa [z7] using hl
    refine qq ?_
    refine gg [.b (decide ((i:Int)<(j:Int))) true,.i zd ((i:Int)+(j:Int)) ((↑(i+j):Int)),.i zf ((↑(i+j):Int)) ((↑(i+j):Int)),.w (0≤(1:Int)),.t (T.int zf (zh (↑(i+j):Int) 2)) (T.int zf (h:Int)),.i zd (h:Int) (h:Int),.w (0≤(h:Int)),.n (zy (h:Int)) h,.w (h<zq (zz zn A)),.w (0≤(a:Int)),.n (zy (a:Int)) a,.w (a<zq (zz zn A)),.g (zz zn A) h (zn (gt A h)),.g (zz zn A) a (zn (gt A a)),.w (isFnB cx (129:Nat)=true),.a _ _] ⟨tP,oI,oU,oW,o_t (by rw [hf]),oI,oW,nK,o_w (by (simp;omega)),oW,nK,o_w (by (simp;omega)),oT,o_gt rfl (by assumption) (by intro h;cases h),o_w (by kernel_rfl),o_a (Aan (gt A h) (gt A a)),trivial⟩ ?_
    refine gg [.b (decide (Cross.cmp (gt A h) (gt A a)<0)) false,.a _ _] ⟨f_brp (by assumption),o_a ih2,trivial⟩ ?_
    refine rT (a:=qz (qx 0) [qy 0 none,vi (a:Int),V.t (T.clo 129 []),vi (↑(bs (fun (h:Nat)↦z7 (gt A h) (gt A a)) d i h):Int),vi (↑(bs (fun (h:Nat)↦z7 (gt A h) (gt A a)) d i h):Int)] [qv 15 (zz zn A) none false]) ?_
    (first|rfl|omega|(simp_all;done)|(simp_all;omega))
  ·obtain rfl:i=j:=by omega
   unfold small at hn
   have e:bs (fun h=>z7 (gt A h) (gt A a)) (d+1) i i=i:=by rw [bs,if_neg hij]
   rw [e]
   refine qq ?_
   refine gg [.b (decide ((i:Int)<(i:Int))) false] ⟨fP,trivial⟩ ?_
   exact ge
theorem AcH (A:List Cross) (m:Nat) (hm:m<A.length) (hn:small A): ∀(d i j:Nat),i≤j→j≤i+d→j≤A.length→
  Is cx (.loop 187 [0,0,1,1,0,1,0,1] 1 [.all 0 none,vi m,.t (.clo 129 []),vi i,vi j] [.arr 15 (A.map zn) none false])
   ⟨.exit 4,[.all 0 none,vi m,.t (.clo 129 []),vi (bs (fun h=> !z7 (gt A m) (gt A h)) d i j:Nat),vi (bs (fun h=> !z7 (gt A m) (gt A h)) d i j:Nat)],[.arr 15 (A.map zn) none false]⟩:=by
 intro d
 induction d with
 |zero=>
  intro i j h1 h2 h3
  obtain rfl:i=j:=by omega
  unfold small at hn
  unfold bs
  refine qq ?_
  refine gg [.b (decide ((i:Int)<(i:Int))) false] ⟨fP,trivial⟩ ?_
  exact ge
 |succ d ih=>
  intro i j h1 h2 h3
  by_cases hij:i<j
  ·obtain ⟨h,hh⟩: ∃h,(i+j)/2=h:=⟨_,rfl⟩
   have hf:zh ((i+j:Nat):Int) 2=(h:Nat):=by rw [Int.fdiv_eq_ediv_of_nonneg _ (by omega)];omega
   have ih1:=ih (h+1) j (by omega) (by omega) (by omega)
   have ih2:=ih i h (by omega) (by omega) (by omega)
   unfold small at hn
   clear ih
   cases hl:(fun h=> !z7 (gt A m) (gt A h)) h with
   |true=>
    have e:bs (fun h=> !z7 (gt A m) (gt A h)) (d+1) i j=bs (fun h=> !z7 (gt A m) (gt A h)) d (h+1) j:=by exact bs_t hij hh hl
    rw [e]
    have hl: ¬(gt A m).cmp (gt A h)<0:=by simpa [z7] using hl
    refine qq ?_
    refine gg [.b (decide ((i:Int)<(j:Int))) true,.i zd ((i:Int)+(j:Int)) ((↑(i+j):Int)),.i zf ((↑(i+j):Int)) ((↑(i+j):Int)),.w (0≤(1:Int)),.t (T.int zf (zh (↑(i+j):Int) 2)) (T.int zf (h:Int)),.i zd (h:Int) (h:Int),.w (0≤(m:Int)),.n (zy (m:Int)) m,.w (m<zq (zz zn A)),.w (0≤(h:Int)),.n (zy (h:Int)) h,.w (h<zq (zz zn A)),.g (zz zn A) m (zn (gt A m)),.g (zz zn A) h (zn (gt A h)),.w (isFnB cx (129:Nat)=true),.a _ _] ⟨tP,oI,oU,oW,o_t (by rw [hf]),oI,oW,nK,o_w (by (simp;omega)),oW,nK,o_w (by (simp;omega)),o_gt rfl (by assumption) (by intro h;cases h),oT,o_w (by kernel_rfl),o_a (Aan (gt A m) (gt A h)),trivial⟩ ?_
    refine brnot (b:=decide (Cross.cmp (gt A m) (gt A h)<0)) (by kernel_rfl) (fun h1=> ?_) (fun h1=> ?_)
    ·refine gg [.i zd ((h:Int)+1) ((↑(h+1):Int)),.a _ _] ⟨oI,o_a ih1,trivial⟩ ?_
     refine rT (a:=qz (qx 4) [qy 0 none,vi (m:Int),V.t (T.clo 129 []),vi (↑(bs (fun (h:Nat)↦ !z7 (gt A m) (gt A h)) d (h+1) j):Int),vi (↑(bs (fun (h:Nat)↦ !z7 (gt A m) (gt A h)) d (h+1) j):Int)] [qv 15 (zz zn A) none false]) ?_
     (first|rfl|omega|(simp_all;done)|(simp_all;omega))
    ·refine gg [.a _ _] ⟨o_a ih2,trivial⟩ ?_
     refine rT (a:=qz (qx 4) [qy 0 none,vi (m:Int),V.t (T.clo 129 []),vi (↑(bs (fun (h:Nat)↦ !z7 (gt A m) (gt A h)) d i h):Int),vi (↑(bs (fun (h:Nat)↦ !z7 (gt A m) (gt A h)) d i h):Int)] [qv 15 (zz zn A) none false]) ?_
     (first|rfl|omega|(simp_all;done)|(simp_all;omega))
   |false=>
    have e:bs (fun h=> !z7 (gt A m) (gt A h)) (d+1) i j=bs (fun h=> !z7 (gt A m) (gt A h)) d i h:=by exact bs_f hij hh hl
    rw [e]
    have hl:(gt A m).cmp (gt A h)<0:=by simpa [z7] using hl
    refine qq ?_
    refine gg [.b (decide ((i:Int)<(j:Int))) true,.i zd ((i:Int)+(j:Int)) ((↑(i+j):Int)),.i zf ((↑(i+j):Int)) ((↑(i+j):Int)),.w (0≤(1:Int)),.t (T.int zf (zh (↑(i+j):Int) 2)) (T.int zf (h:Int)),.i zd (h:Int) (h:Int),.w (0≤(m:Int)),.n (zy (m:Int)) m,.w (m<zq (zz zn A)),.w (0≤(h:Int)),.n (zy (h:Int)) h,.w (h<zq (zz zn A)),.g (zz zn A) m (zn (gt A m)),.g (zz zn A) h (zn (gt A h)),.w (isFnB cx (129:Nat)=true),.a _ _] ⟨tP,oI,oU,oW,o_t (by rw [hf]),oI,oW,nK,o_w (by (simp;omega)),oW,nK,o_w (by (simp;omega)),o_gt rfl (by assumption) (by intro h;cases h),oT,o_w (by kernel_rfl),o_a (Aan (gt A m) (gt A h)),trivial⟩ ?_
    refine brnot (b:=decide (Cross.cmp (gt A m) (gt A h)<0)) (by kernel_rfl) (fun h1=> ?_) (fun h1=> ?_)
    ·refine gg [.i zd ((h:Int)+1) ((↑(h+1):Int)),.a _ _] ⟨oI,o_a ih1,trivial⟩ ?_
     refine rT (a:=qz (qx 4) [qy 0 none,vi (m:Int),V.t (T.clo 129 []),vi (↑(bs (fun (h:Nat)↦ !z7 (gt A m) (gt A h)) d (h+1) j):Int),vi (↑(bs (fun (h:Nat)↦ !z7 (gt A m) (gt A h)) d (h+1) j):Int)] [qv 15 (zz zn A) none false]) ?_
     (first|rfl|omega|(simp_all;done)|(simp_all;omega))
    ·refine gg [.a _ _] ⟨o_a ih2,trivial⟩ ?_
     refine rT (a:=qz (qx 4) [qy 0 none,vi (m:Int),V.t (T.clo 129 []),vi (↑(bs (fun (h:Nat)↦ !z7 (gt A m) (gt A h)) d i h):Int),vi (↑(bs (fun (h:Nat)↦ !z7 (gt A m) (gt A h)) d i h):Int)] [qv 15 (zz zn A) none false]) ?_
     (first|rfl|omega|(simp_all;done)|(simp_all;omega))
  ·obtain rfl:i=j:=by omega
   unfold small at hn
   have e:bs (fun h=> !z7 (gt A m) (gt A h)) (d+1) i i=i:=by rw [bs,if_neg hij]
   rw [e]
   refine qq ?_
   refine gg [.b (decide ((i:Int)<(i:Int))) false] ⟨fP,trivial⟩ ?_
   exact ge
theorem Ac9 (A:List Cross) (a m b mid n p:Nat) (hn:small A): ∀(d i j:Nat),i≤j→j≤i+d→j≤p+1→p<i+A.length→j≤A.length→
  Is cx (.loop 187 [0,0,1,1,1,1,1,1,1] 1 [.all 0 none,vi a,vi m,vi b,.t (.clo 129 []),vi mid,vi n,vi i,vi j,vi p] [.arr 15 (A.map zn) none false])
   ⟨.exit 8,[.all 0 none,vi a,vi m,vi b,.t (.clo 129 []),vi mid,vi n,vi (bs (fun c=> !z7 (gt A (p-c)) (gt A c)) d i j:Nat),vi (bs (fun c=> !z7 (gt A (p-c)) (gt A c)) d i j:Nat),vi p],[.arr 15 (A.map zn) none false]⟩:=by
 intro d
 induction d with
 |zero=>
  intro i j h1 h2 h3 h4 h5
  obtain rfl:i=j:=by omega
  unfold small at hn
  unfold bs
  refine qq ?_
  refine gg [.b (decide ((i:Int)<(i:Int))) false] ⟨fP,trivial⟩ ?_
  exact ge
 |succ d ih=>
  intro i j h1 h2 h3 h4 h5
  by_cases hij:i<j
  ·obtain ⟨h,hh⟩: ∃h,(i+j)/2=h:=⟨_,rfl⟩
   have hf:zh ((i+j:Nat):Int) 2=(h:Nat):=by rw [Int.fdiv_eq_ediv_of_nonneg _ (by omega)];omega
   have ih1:=ih (h+1) j (by omega) (by omega) (by omega) (by omega) (by omega)
   have ih2:=ih i h (by omega) (by omega) (by omega) (by omega) (by omega)
   unfold small at hn
   clear ih
   cases hl:(fun c=> !z7 (gt A (p-c)) (gt A c)) h with
   |true=>
    have e:bs (fun c=> !z7 (gt A (p-c)) (gt A c)) (d+1) i j=bs (fun c=> !z7 (gt A (p-c)) (gt A c)) d (h+1) j:=by exact bs_t hij hh hl
    rw [e]
    have hl: ¬(gt A (p-h)).cmp (gt A h)<0:=by simpa [z7] using hl
    have e1:(p:Int)-h=(p-h:Nat):=by omega
    refine qq ?_
    refine gg [.b (decide ((i:Int)<(j:Int))) true,.i zd ((i:Int)+(j:Int)) ((↑(i+j):Int)),.i zf ((↑(i+j):Int)) ((↑(i+j):Int)),.w (0≤(1:Int)),.t (T.int zf (zh (↑(i+j):Int) 2)) (T.int zf (h:Int)),.i zd (h:Int) (h:Int),.i zd ((p:Int)-(h:Int)) ((↑(p-h):Int)),.w (0≤(↑(p-h):Int)),.n (zy (↑(p-h):Int)) (p-h),.w (p-h<zq (zz zn A)),.w (0≤(h:Int)),.n (zy (h:Int)) h,.w (h<zq (zz zn A)),.g (zz zn A) (p-h) (zn (gt A (p-h))),.g (zz zn A) h (zn (gt A h)),.w (isFnB cx (129:Nat)=true)] ⟨tP,oI,oU,oW,o_t (by rw [hf]),oI,oI,oW,nK,o_w (by (simp;omega)),oW,nK,o_w (by (simp;omega)),oT,oT,o_w (by kernel_rfl),trivial⟩ ?_
    refine gg [.a _ _] ⟨o_a (Aan (gt A (p-h)) (gt A h)),trivial⟩ ?_
    refine brnot (b:=decide (Cross.cmp (gt A (p-h)) (gt A h)<0)) (by kernel_rfl) (fun h1=> ?_) (fun h1=> ?_)
    ·refine gg [.i zd ((h:Int)+1) ((↑(h+1):Int)),.a _ _] ⟨oI,o_a ih1,trivial⟩ ?_
     refine rT (a:=qz (qx 8) [qy 0 none,vi (a:Int),vi (m:Int),vi (b:Int),V.t (T.clo 129 []),vi (mid:Int),vi (n:Int),vi (↑(bs (fun (c:Nat)↦ !z7 (gt A (p-c)) (gt A c)) d (h+1) j):Int),vi (↑(bs (fun (c:Nat)↦ !z7 (gt A (p-c)) (gt A c)) d (h+1) j):Int),vi (p:Int)] [qv 15 (zz zn A) none false]) ?_
     (first|rfl|omega|(simp_all;done)|(simp_all;omega))
    ·refine gg [.a _ _] ⟨o_a ih2,trivial⟩ ?_
     refine rT (a:=qz (qx 8) [qy 0 none,vi (a:Int),vi (m:Int),vi (b:Int),V.t (T.clo 129 []),vi (mid:Int),vi (n:Int),vi (↑(bs (fun (c:Nat)↦ !z7 (gt A (p-c)) (gt A c)) d i h):Int),vi (↑(bs (fun (c:Nat)↦ !z7 (gt A (p-c)) (gt A c)) d i h):Int),vi (p:Int)] [qv 15 (zz zn A) none false]) ?_
     (first|rfl|omega|(simp_all;done)|(simp_all;omega))
   |false=>
    have e:bs (fun c=> !z7 (gt A (p-c)) (gt A c)) (d+1) i j=bs (fun c=> !z7 (gt A (p-c)) (gt A c)) d i h:=by exact bs_f hij hh hl
    rw [e]
    have hl:(gt A (p-h)).cmp (gt A h)<0:=by simpa [z7] using hl
    have e1:(p:Int)-h=(p-h:Nat):=by omega
    refine qq ?_
    refine gg [.b (decide ((i:Int)<(j:Int))) true,.i zd ((i:Int)+(j:Int)) ((↑(i+j):Int)),.i zf ((↑(i+j):Int)) ((↑(i+j):Int)),.w (0≤(1:Int)),.t (T.int zf (zh (↑(i+j):Int) 2)) (T.int zf (h:Int)),.i zd (h:Int) (h:Int),.i zd ((p:Int)-(h:Int)) ((↑(p-h):Int)),.w (0≤(↑(p-h):Int)),.n (zy (↑(p-h):Int)) (p-h),.w (p-h<zq (zz zn A)),.w (0≤(h:Int)),.n (zy (h:Int)) h,.w (h<zq (zz zn A)),.g (zz zn A) (p-h) (zn (gt A (p-h))),.g (zz zn A) h (zn (gt A h)),.w (isFnB cx (129:Nat)=true)] ⟨tP,oI,oU,oW,o_t (by rw [hf]),oI,oI,oW,nK,o_w (by (simp;omega)),oW,nK,o_w (by (simp;omega)),oT,oT,o_w (by kernel_rfl),trivial⟩ ?_
    refine gg [.a _ _] ⟨o_a (Aan (gt A (p-h)) (gt A h)),trivial⟩ ?_
    refine brnot (b:=decide (Cross.cmp (gt A (p-h)) (gt A h)<0)) (by kernel_rfl) (fun h1=> ?_) (fun h1=> ?_)
    ·refine gg [.i zd ((h:Int)+1) ((↑(h+1):Int)),.a _ _] ⟨oI,o_a ih1,trivial⟩ ?_
     refine rT (a:=qz (qx 8) [qy 0 none,vi (a:Int),vi (m:Int),vi (b:Int),V.t (T.clo 129 []),vi (mid:Int),vi (n:Int),vi (↑(bs (fun (c:Nat)↦ !z7 (gt A (p-c)) (gt A c)) d (h+1) j):Int),vi (↑(bs (fun (c:Nat)↦ !z7 (gt A (p-c)) (gt A c)) d (h+1) j):Int),vi (p:Int)] [qv 15 (zz zn A) none false]) ?_
     (first|rfl|omega|(simp_all;done)|(simp_all;omega))
    ·refine gg [.a _ _] ⟨o_a ih2,trivial⟩ ?_
     refine rT (a:=qz (qx 8) [qy 0 none,vi (a:Int),vi (m:Int),vi (b:Int),V.t (T.clo 129 []),vi (mid:Int),vi (n:Int),vi (↑(bs (fun (c:Nat)↦ !z7 (gt A (p-c)) (gt A c)) d i h):Int),vi (↑(bs (fun (c:Nat)↦ !z7 (gt A (p-c)) (gt A c)) d i h):Int),vi (p:Int)] [qv 15 (zz zn A) none false]) ?_
     (first|rfl|omega|(simp_all;done)|(simp_all;omega))
  ·obtain rfl:i=j:=by omega
   unfold small at hn
   have e:bs (fun c=> !z7 (gt A (p-c)) (gt A c)) (d+1) i i=i:=by rw [bs,if_neg hij]
   rw [e]
   refine qq ?_
   refine gg [.b (decide ((i:Int)<(i:Int))) false] ⟨fP,trivial⟩ ?_
   exact ge
theorem Ada: ∀(d k i:Nat) (A:List Cross),k+d=i-1→i≤A.length→small A→
  Is cx (.loop 187 [0,1,0,1,1,1,0,1,0] 1 [.all 0 none,vi i,vi k] [.arr 15 (A.map zn) none false])
   ⟨.exit 2,[.all 0 none,vi i,vi (i-1:Nat)],[.arr 15 ((up d A k).map zn) none false]⟩:=by
 intro d
 induction d with
 |zero=>
  intro k i A h1 h2 hn
  unfold small at hn
  obtain rfl:k=i-1:=by omega
  unfold up
  refine qq ?_
  refine gg [.i zd ((i:Int)-1) ((i:Int)-1),.b (decide ((↑(i-1):Int)<(i:Int)-1)) false] ⟨oI,fP,trivial⟩ ?_
  exact ge
 |succ d ih=>
  intro k i A h1 h2 hn
  have ih1:=ih (k+1) i (sw A k (k+1)) (by omega) (by rw [AbV];omega) (by unfold small;rw [AbV];exact hn)
  unfold small at hn
  clear ih
  unfold up
  unfold sw at*
  refine qq ?_
  refine gg [.i zd ((i:Int)-1) ((i:Int)-1),.b (decide ((k:Int)<(i:Int)-1)) true,.i zd ((k:Int)+1) ((↑(k+1):Int)),.i zd ((k:Int)+1) ((↑(k+1):Int)),.w (0≤(↑(k+(1:Nat)):Int)),.n (zy (↑(k+1):Int)) (k+1),.w (k+(1:Nat)<zq (zz zn A)),.w (0≤(k:Int)),.n (zy (k:Int)) k,.w (k<zq (zz zn A)),.g (zz zn A) (k+1) (zn (gt A (k+1))),.g (zz zn A) k (zn (gt A k)),.w (0≤(k:Int)),.n (zy (k:Int)) k,.w (k<zq (zz zn A)),.w (k<zq (zz zn A))] ⟨oI,tP,oI,oI,oW,nK,o_w (by (simp;omega)),oW,nK,o_w (by (simp;omega)),oT,oT,oW,nK,o_w (by (simp;omega)),o_w (by (simp;omega)),trivial⟩ ?_
  refine gg [.t (qk 0 (zx (zz zn A) k (zn (gt A (k+1))))) (qk 0 (zz zn (zx A k (gt A (k+1))))),.w (0≤(↑(k+(1:Nat)):Int)),.n (zy (↑(k+1):Int)) (k+1),.w (k+(1:Nat)<zq (zz zn (zx A k (gt A (k+(1:Nat)))))),.w (k+(1:Nat)<zq (zz zn (zx A k (gt A (k+(1:Nat)))))),.t (qk 0 (zx (zz zn (zx A k (gt A (k+1)))) (k+1) (zn (gt A k)))) (qk 0 (zz zn (zx (zx A k (gt A (k+1))) (k+1) (gt A k)))),.i zd ((k:Int)+1) ((↑(k+1):Int)),.a _ _] ⟨o_l (Aao rfl rfl),oW,nK,o_w (by (simp;omega)),o_w (by (simp;omega)),o_l (Aao rfl rfl),oI,o_a ih1,trivial⟩ ?_
  exact ge
theorem Acs (i:Nat): ∀(d k:Nat) (A:List Cross),k=i+d→k<A.length→small A→
  Is cx (.loop 187 [0,1,0,1,1,1,0,1,0,1] 1 [.all 0 none,vi i,vi k] [.arr 15 (A.map zn) none false])
   ⟨.exit 6,[.all 0 none,vi i,vi i],[.arr 15 ((down d A k).map zn) none false]⟩:=by
 intro d
 induction d with
 |zero=>
  intro k A h1 h2 hn
  unfold small at hn
  obtain rfl:k=i:=by omega
  unfold down
  refine qq ?_
  refine gg [.b (decide ((k:Int)>(k:Int))) false] ⟨fP,trivial⟩ ?_
  exact ge
 |succ d ih=>
  intro k A h1 h2 hn
  have ih1:=ih (k-1) (sw A k (k-1)) (by omega) (by rw [AbV];omega) (by unfold small;rw [AbV];exact hn)
  unfold small at hn
  clear ih
  have e1:(k:Int)-1=(k-1:Nat):=by omega
  unfold down
  unfold sw at*
  refine qq ?_
  refine gg [.b (decide ((k:Int)>(i:Int))) true,.i zd ((k:Int)-1) ((↑(k-1):Int)),.i zd ((k:Int)-1) ((↑(k-1):Int)),.w (0≤(↑(k-(1:Nat)):Int)),.n (zy (↑(k-1):Int)) (k-1),.w (k-(1:Nat)<zq (zz zn A)),.w (0≤(k:Int)),.n (zy (k:Int)) k,.w (k<zq (zz zn A)),.g (zz zn A) (k-1) (zn (gt A (k-1))),.g (zz zn A) k (zn (gt A k)),.w (0≤(k:Int)),.n (zy (k:Int)) k,.w (k<zq (zz zn A)),.w (k<zq (zz zn A)),.t (qk 0 (zx (zz zn A) k (zn (gt A (k-1))))) (qk 0 (zz zn (zx A k (gt A (k-1)))))] ⟨tP,oI,oI,oW,nK,o_w (by (simp;omega)),oW,nK,o_w (by (simp;omega)),oT,o_gt rfl (by assumption) (by intro h;cases h),oW,nK,o_w (by (simp;omega)),o_w (by (simp;omega)),o_l (Aao rfl rfl),trivial⟩ ?_
  refine gg [.w (0≤(↑(k-(1:Nat)):Int)),.n (zy (↑(k-1):Int)) (k-1),.w (k-(1:Nat)<zq (zz zn (zx A k (gt A (k-(1:Nat)))))),.w (k-(1:Nat)<zq (zz zn (zx A k (gt A (k-(1:Nat)))))),.t (qk 0 (zx (zz zn (zx A k (gt A (k-1)))) (k-1) (zn (gt A k)))) (qk 0 (zz zn (zx (zx A k (gt A (k-1))) (k-1) (gt A k)))),.i zd ((k:Int)-1) ((↑(k-1):Int)),.a _ _] ⟨oW,nK,o_w (by (simp;omega)),o_w (by (simp;omega)),o_l (Aao rfl rfl),oI,o_a ih1,trivial⟩ ?_
  exact ge
end Go.Eva.S5
namespace Go.Eva.S5
theorem Acd (P V Q:List Cross) (x:Cross) (a m b:Nat) (ha:a=P.length) (hm:m=a+1) (hb:b=m+V.length) (h0:0<V.length) (hV:Sd z7 V) (hn:small (P++ [x]++V++Q)):
   Is cx (.call 187 [.all 0 none,vi a,vi m,vi b,.t (.clo 129 [])] [.arr 15 ((P++ [x]++V++Q).map zn) none false])
  ⟨.ret,[],[.arr 15 ((P++sortS z7 ([x]++V)++Q).map zn) none false]⟩:=by
 have hl:(P++ [x]++V++Q).length=b+Q.length:=by simp;omega
 have hbs:=AcG (P++ [x]++V++Q) a (by omega) hn (b-m) m b (by omega) (by omega) (by omega)
 obtain ⟨k1,k2,k3⟩:=Ahr Aai (Q:=Q) (x:=x) (d:=b-m) ha hm hb (by omega) hV rfl
 generalize bs _ (b-m) m b=s at*
 have hup:=Ada (s-1-a) a s (P++ [x]++V++Q) (by omega) (by omega) hn
 rw [k3] at hup
 clear k3 hV
 generalize P++ [x]++V++Q=A at*
 generalize P++sortS z7 ([x]++V)++Q=B at*
 unfold small at hn
 refine qq ?_
 refine gg [.i zd ((m:Int)-(a:Int)) ((m:Int)-(a:Int)),.b ((m:Int)-(a:Int)==1) true,.a _ _,.a _ _] ⟨oI,tE,o_a hbs,o_a hup,trivial⟩ ?_
 exact ge
theorem Acj (P U Q:List Cross) (y:Cross) (a m b:Nat) (ha:a=P.length) (hm:m=a+U.length) (hb:b=m+1) (h0:1<U.length) (hU:Sd z7 U) (hn:small (P++U++ [y]++Q)):
   Is cx (.call 187 [.all 0 none,vi a,vi m,vi b,.t (.clo 129 [])] [.arr 15 ((P++U++ [y]++Q).map zn) none false])
  ⟨.ret,[],[.arr 15 ((P++sortS z7 (U++ [y])++Q).map zn) none false]⟩:=by
 have hl:(P++U++ [y]++Q).length=b+Q.length:=by simp;omega
 have hbs:=AcH (P++U++ [y]++Q) m (by omega) hn (m-a) a m (by omega) (by omega) (by omega)
 obtain ⟨k1,k2,k3⟩:=Ais Aai (Q:=Q) (y:=y) (d:=m-a) ha hm (by omega) hU rfl
 generalize bs _ (m-a) a m=s at*
 have hup:=Acs s (m-s) m (P++U++ [y]++Q) (by omega) (by omega) hn
 rw [k3] at hup
 clear k3 hU
 generalize P++U++ [y]++Q=A at*
 generalize P++sortS z7 (U++ [y])++Q=B at*
 unfold small at hn
 refine qq ?_
 refine gg [.i zd ((m:Int)-(a:Int)) ((m:Int)-(a:Int)),.b ((m:Int)-(a:Int)==1) false,.i zd ((b:Int)-(m:Int)) ((b:Int)-(m:Int)),.b ((b:Int)-(m:Int)==1) true,.a _ _,.a _ _] ⟨oI,fE,oI,tE,o_a hbs,o_a hup,trivial⟩ ?_
 exact ge
end Go.Eva.S5
namespace Go.Eva.S5
theorem Acl (A0 A1 A2 A3:List Cross) (a m b mid s:Nat) (hmid:(a+b)/2=mid) (hc:m≤mid)
  (h1:a+1<m) (h2:m+1<b) (hb:b≤A0.length) (hn:small A0) (hs:a≤s∧s≤m)
  (hbs:Is cx (.loop 187 [0,0,1,1,1,1,1,1,1] 1 [.all 0 none,vi a,vi m,vi b,.t (.clo 129 []),vi mid,vi (mid+m:Nat),vi a,vi m,vi (mid+m-1:Nat)] [.arr 15 (A0.map zn) none false])
   ⟨.exit 8,[.all 0 none,vi a,vi m,vi b,.t (.clo 129 []),vi mid,vi (mid+m:Nat),vi s,vi s,vi (mid+m-1:Nat)],[.arr 15 (A0.map zn) none false]⟩)
  (k1:s<m→s<mid→Is cx (.call 194 [.all 0 none,vi s,vi m,vi (mid+m-s:Nat),.t (.clo 129 [])] [.arr 15 (A0.map zn) none false]) ⟨.ret,[],[.arr 15 (A1.map zn) none false]⟩)
  (k1': ¬(s<m∧s<mid)→A0=A1)
  (k2:a<s→s<mid→Is cx (.call 187 [.all 0 none,vi a,vi s,vi mid,.t (.clo 129 [])] [.arr 15 (A1.map zn) none false]) ⟨.ret,[],[.arr 15 (A2.map zn) none false]⟩)
  (k2': ¬(a<s∧s<mid)→A1=A2)
  (k3:s<m→mid+m<b+s→Is cx (.call 187 [.all 0 none,vi mid,vi (mid+m-s:Nat),vi b,.t (.clo 129 [])] [.arr 15 (A2.map zn) none false]) ⟨.ret,[],[.arr 15 (A3.map zn) none false]⟩)
  (k3': ¬(s<m∧mid+m<b+s)→A2=A3):
  Is cx (.call 187 [.all 0 none,vi a,vi m,vi b,.t (.clo 129 [])] [.arr 15 (A0.map zn) none false])
  ⟨.ret,[],[.arr 15 (A3.map zn) none false]⟩:=by
 have hf:zh ((a+b:Nat):Int) 2=(mid:Nat):=by rw [Int.fdiv_eq_ediv_of_nonneg _ (by omega)];omega
 have hmm:a<mid∧mid<b:=by omega
 unfold small at hn
 have e1:((mid+m:Nat):Int)-1=(mid+m-1:Nat):=by omega
 have e2:((mid+m:Nat):Int)-s=(mid+m-s:Nat):=by omega
 by_cases c1:s<m∧s<mid
 ·have j1:=k1 c1.1 c1.2
  by_cases c2:a<s
  ·have j2:=k2 c2 c1.2
   by_cases c3:mid+m<b+s
   ·have j3:=k3 c1.1 c3
    clear k1' k2' k3' k1 k2 k3
    refine qq ?_
    refine gg [.i zd ((m:Int)-(a:Int)) ((m:Int)-(a:Int)),.b ((m:Int)-(a:Int)==1) false,.i zd ((b:Int)-(m:Int)) ((b:Int)-(m:Int)),.b ((b:Int)-(m:Int)==1) false,.i zd ((a:Int)+(b:Int)) ((↑(a+b):Int)),.i zf ((↑(a+b):Int)) ((↑(a+b):Int)),.w (0≤(1:Int)),.t (T.int zf (zh (↑(a+b):Int) 2)) (T.int zf (mid:Int)),.i zd (mid:Int) (mid:Int),.i zd ((mid:Int)+(m:Int)) ((↑(mid+m):Int)),.b (decide ((m:Int)>(mid:Int))) false,.i zd ((↑(mid+m):Int)-1) ((↑(mid+m-1):Int)),.a _ _,.i zd ((↑(mid+m):Int)-(s:Int)) ((↑(mid+m-s):Int)),.b (decide ((s:Int)<(m:Int))) true,.tt] ⟨oI,fE,oI,fE,oI,oU,oW,o_t (by rw [hf]),oI,oI,fP,oI,o_a hbs,oI,tP,trivial⟩ ?_
    refine gg [.tt,.tt,.b (decide ((m:Int)<(↑(mid+m-s):Int))) true,.a _ _,.b (decide ((a:Int)<(s:Int))) true,.tt,.tt,.tt,.b (decide ((s:Int)<(mid:Int))) true,.a _ _,.b (decide ((mid:Int)<(↑(mid+m-s):Int))) true,.tt,.tt,.tt,.b (decide ((↑(mid+m-s):Int)<(b:Int))) true,.a _ _] ⟨tP,o_a j1,tP,tP,o_a j2,tP,tP,o_a j3,trivial⟩ ?_
    exact ge
   ·obtain rfl:=k3' (fun h=>c3 h.2)
    clear k1' k2' k3' k1 k2 k3
    omega
  ·obtain rfl:=k2' (fun h=>c2 h.1)
   by_cases c3:mid+m<b+s
   ·have j3:=k3 c1.1 c3
    clear k1' k2' k3' k1 k2 k3
    refine qq ?_
    refine gg [.i zd ((m:Int)-(a:Int)) ((m:Int)-(a:Int)),.b ((m:Int)-(a:Int)==1) false,.i zd ((b:Int)-(m:Int)) ((b:Int)-(m:Int)),.b ((b:Int)-(m:Int)==1) false,.i zd ((a:Int)+(b:Int)) ((↑(a+b):Int)),.i zf ((↑(a+b):Int)) ((↑(a+b):Int)),.w (0≤(1:Int)),.t (T.int zf (zh (↑(a+b):Int) 2)) (T.int zf (mid:Int)),.i zd (mid:Int) (mid:Int),.i zd ((mid:Int)+(m:Int)) ((↑(mid+m):Int)),.b (decide ((m:Int)>(mid:Int))) false,.i zd ((↑(mid+m):Int)-1) ((↑(mid+m-1):Int)),.a _ _,.i zd ((↑(mid+m):Int)-(s:Int)) ((↑(mid+m-s):Int)),.b (decide ((s:Int)<(m:Int))) true,.tt] ⟨oI,fE,oI,fE,oI,oU,oW,o_t (by rw [hf]),oI,oI,fP,oI,o_a hbs,oI,tP,trivial⟩ ?_
    refine gg [.tt,.tt,.b (decide ((m:Int)<(↑(mid+m-s):Int))) true,.a _ _,.b (decide ((a:Int)<(s:Int))) false,.ff,.ff,.ff,.ff,.b (decide ((mid:Int)<(↑(mid+m-s):Int))) true,.tt,.tt,.tt,.b (decide ((↑(mid+m-s):Int)<(b:Int))) true,.a _ _] ⟨tP,o_a j1,fP,tP,tP,o_a j3,trivial⟩ ?_
    exact ge
   ·obtain rfl:=k3' (fun h=>c3 h.2)
    clear k1' k2' k3' k1 k2 k3
    refine qq ?_
    refine gg [.i zd ((m:Int)-(a:Int)) ((m:Int)-(a:Int)),.b ((m:Int)-(a:Int)==1) false,.i zd ((b:Int)-(m:Int)) ((b:Int)-(m:Int)),.b ((b:Int)-(m:Int)==1) false,.i zd ((a:Int)+(b:Int)) ((↑(a+b):Int)),.i zf ((↑(a+b):Int)) ((↑(a+b):Int)),.w (0≤(1:Int)),.t (T.int zf (zh (↑(a+b):Int) 2)) (T.int zf (mid:Int)),.i zd (mid:Int) (mid:Int),.i zd ((mid:Int)+(m:Int)) ((↑(mid+m):Int)),.b (decide ((m:Int)>(mid:Int))) false,.i zd ((↑(mid+m):Int)-1) ((↑(mid+m-1):Int)),.a _ _,.i zd ((↑(mid+m):Int)-(s:Int)) ((↑(mid+m-s):Int)),.b (decide ((s:Int)<(m:Int))) true,.tt] ⟨oI,fE,oI,fE,oI,oU,oW,o_t (by rw [hf]),oI,oI,fP,oI,o_a hbs,oI,tP,trivial⟩ ?_
    refine gg [.tt,.tt,.b (decide ((m:Int)<(↑(mid+m-s):Int))) true,.a _ _,.b (decide ((a:Int)<(s:Int))) false,.ff,.ff,.ff,.ff,.b (decide ((mid:Int)<(↑(mid+m-s):Int))) true,.tt,.tt,.tt,.b (decide ((↑(mid+m-s):Int)<(b:Int))) false] ⟨tP,o_a j1,fP,tP,fP,trivial⟩ ?_
    exact ge
 ·obtain rfl:=k1' c1
  by_cases c0:s<m
  ·have c4: ¬s<mid:=fun h=>c1 ⟨c0,h⟩
   obtain rfl:=k2' (fun h=>c4 h.2)
   by_cases c3:mid+m<b+s
   ·have j3:=k3 c0 c3
    clear k1' k2' k3' k1 k2 k3
    by_cases c2:a<s
    ·omega
    ·omega
   ·obtain rfl:=k3' (fun h=>c3 h.2)
    clear k1' k2' k3' k1 k2 k3
    by_cases c2:a<s
    ·omega
    ·omega
  ·obtain rfl:=k3' (fun h=>c0 h.1)
   by_cases c4:s<mid
   ·have j2:=k2 (by omega) c4
    clear k1' k2' k3' k1 k2 k3
    refine qq ?_
    refine gg [.i zd ((m:Int)-(a:Int)) ((m:Int)-(a:Int)),.b ((m:Int)-(a:Int)==1) false,.i zd ((b:Int)-(m:Int)) ((b:Int)-(m:Int)),.b ((b:Int)-(m:Int)==1) false,.i zd ((a:Int)+(b:Int)) ((↑(a+b):Int)),.i zf ((↑(a+b):Int)) ((↑(a+b):Int)),.w (0≤(1:Int)),.t (T.int zf (zh (↑(a+b):Int) 2)) (T.int zf (mid:Int)),.i zd (mid:Int) (mid:Int),.i zd ((mid:Int)+(m:Int)) ((↑(mid+m):Int)),.b (decide ((m:Int)>(mid:Int))) false,.i zd ((↑(mid+m):Int)-1) ((↑(mid+m-1):Int)),.a _ _,.i zd ((↑(mid+m):Int)-(s:Int)) ((↑(mid+m-s):Int)),.b (decide ((s:Int)<(m:Int))) false,.ff] ⟨oI,fE,oI,fE,oI,oU,oW,o_t (by rw [hf]),oI,oI,fP,oI,o_a hbs,oI,fP,trivial⟩ ?_
    refine gg [.ff,.ff,.ff,.b (decide ((a:Int)<(s:Int))) true,.tt,.tt,.tt,.b (decide ((s:Int)<(mid:Int))) true,.a _ _,.b (decide ((mid:Int)<(↑(mid+m-s):Int))) false,.ff,.ff,.ff,.ff] ⟨tP,tP,o_a j2,fP,trivial⟩ ?_
    exact ge
   ·obtain rfl:=k2' (fun h=>c4 h.2)
    clear k1' k2' k3' k1 k2 k3
    by_cases c2:a<s
    ·refine qq ?_
     refine gg [.i zd ((m:Int)-(a:Int)) ((m:Int)-(a:Int)),.b ((m:Int)-(a:Int)==1) false,.i zd ((b:Int)-(m:Int)) ((b:Int)-(m:Int)),.b ((b:Int)-(m:Int)==1) false,.i zd ((a:Int)+(b:Int)) ((↑(a+b):Int)),.i zf ((↑(a+b):Int)) ((↑(a+b):Int)),.w (0≤(1:Int)),.t (T.int zf (zh (↑(a+b):Int) 2)) (T.int zf (mid:Int)),.i zd (mid:Int) (mid:Int),.i zd ((mid:Int)+(m:Int)) ((↑(mid+m):Int)),.b (decide ((m:Int)>(mid:Int))) false,.i zd ((↑(mid+m):Int)-1) ((↑(mid+m-1):Int)),.a _ _,.i zd ((↑(mid+m):Int)-(s:Int)) ((↑(mid+m-s):Int)),.b (decide ((s:Int)<(m:Int))) false,.ff] ⟨oI,fE,oI,fE,oI,oU,oW,o_t (by rw [hf]),oI,oI,fP,oI,o_a hbs,oI,fP,trivial⟩ ?_
     refine gg [.ff,.ff,.ff,.b (decide ((a:Int)<(s:Int))) true,.tt,.tt,.tt,.b (decide ((s:Int)<(mid:Int))) false,.b (decide ((mid:Int)<(↑(mid+m-s):Int))) false,.ff,.ff,.ff,.ff] ⟨tP,fP,fP,trivial⟩ ?_
     exact ge
    ·omega
theorem Ack (A0 A1 A2 A3:List Cross) (a m b mid s:Nat) (hmid:(a+b)/2=mid) (hc:mid<m)
  (h1:a+1<m) (h2:m+1<b) (hb:b≤A0.length) (hn:small A0) (hs:mid+m-b≤s∧s≤mid)
  (hbs:Is cx (.loop 187 [0,0,1,1,1,1,1,1,1] 1 [.all 0 none,vi a,vi m,vi b,.t (.clo 129 []),vi mid,vi (mid+m:Nat),vi (mid+m-b:Nat),vi mid,vi (mid+m-1:Nat)] [.arr 15 (A0.map zn) none false])
   ⟨.exit 8,[.all 0 none,vi a,vi m,vi b,.t (.clo 129 []),vi mid,vi (mid+m:Nat),vi s,vi s,vi (mid+m-1:Nat)],[.arr 15 (A0.map zn) none false]⟩)
  (k1:s<m→s<mid→Is cx (.call 194 [.all 0 none,vi s,vi m,vi (mid+m-s:Nat),.t (.clo 129 [])] [.arr 15 (A0.map zn) none false]) ⟨.ret,[],[.arr 15 (A1.map zn) none false]⟩)
  (k1': ¬(s<m∧s<mid)→A0=A1)
  (k2:a<s→s<mid→Is cx (.call 187 [.all 0 none,vi a,vi s,vi mid,.t (.clo 129 [])] [.arr 15 (A1.map zn) none false]) ⟨.ret,[],[.arr 15 (A2.map zn) none false]⟩)
  (k2': ¬(a<s∧s<mid)→A1=A2)
  (k3:s<m→mid+m<b+s→Is cx (.call 187 [.all 0 none,vi mid,vi (mid+m-s:Nat),vi b,.t (.clo 129 [])] [.arr 15 (A2.map zn) none false]) ⟨.ret,[],[.arr 15 (A3.map zn) none false]⟩)
  (k3': ¬(s<m∧mid+m<b+s)→A2=A3):
  Is cx (.call 187 [.all 0 none,vi a,vi m,vi b,.t (.clo 129 [])] [.arr 15 (A0.map zn) none false])
  ⟨.ret,[],[.arr 15 (A3.map zn) none false]⟩:=by
 have hf:zh ((a+b:Nat):Int) 2=(mid:Nat):=by rw [Int.fdiv_eq_ediv_of_nonneg _ (by omega)];omega
 have hmm:a<mid∧mid<b:=by omega
 unfold small at hn
 have e1:((mid+m:Nat):Int)-1=(mid+m-1:Nat):=by omega
 have e2:((mid+m:Nat):Int)-s=(mid+m-s:Nat):=by omega
 have e3:((mid+m:Nat):Int)-b=(mid+m-b:Nat):=by omega
 by_cases c1:s<m∧s<mid
 ·have j1:=k1 c1.1 c1.2
  by_cases c2:a<s
  ·have j2:=k2 c2 c1.2
   by_cases c3:mid+m<b+s
   ·have j3:=k3 c1.1 c3
    clear k1' k2' k3' k1 k2 k3
    refine qq ?_
    refine gg [.i zd ((m:Int)-(a:Int)) ((m:Int)-(a:Int)),.b ((m:Int)-(a:Int)==1) false,.i zd ((b:Int)-(m:Int)) ((b:Int)-(m:Int)),.b ((b:Int)-(m:Int)==1) false,.i zd ((a:Int)+(b:Int)) ((↑(a+b):Int)),.i zf ((↑(a+b):Int)) ((↑(a+b):Int)),.w (0≤(1:Int)),.t (T.int zf (zh (↑(a+b):Int) 2)) (T.int zf (mid:Int)),.i zd (mid:Int) (mid:Int),.i zd ((mid:Int)+(m:Int)) ((↑(mid+m):Int)),.b (decide ((m:Int)>(mid:Int))) true,.i zd ((↑(mid+m):Int)-(b:Int)) ((↑(mid+m-b):Int)),.i zd ((↑(mid+m):Int)-1) ((↑(mid+m-1):Int)),.a _ _,.i zd ((↑(mid+m):Int)-(s:Int)) ((↑(mid+m-s):Int)),.b (decide ((s:Int)<(m:Int))) true] ⟨oI,fE,oI,fE,oI,oU,oW,o_t (by rw [hf]),oI,oI,tP,oI,oI,o_a hbs,oI,tP,trivial⟩ ?_
    refine gg [.tt,.tt,.tt,.b (decide ((m:Int)<(↑(mid+m-s):Int))) true,.a _ _,.b (decide ((a:Int)<(s:Int))) true,.tt,.tt,.tt,.b (decide ((s:Int)<(mid:Int))) true,.a _ _,.b (decide ((mid:Int)<(↑(mid+m-s):Int))) true,.tt,.tt,.tt,.b (decide ((↑(mid+m-s):Int)<(b:Int))) true] ⟨tP,o_a j1,tP,tP,o_a j2,tP,tP,trivial⟩ ?_
    refine gg [.a _ _] ⟨o_a j3,trivial⟩ ?_
    exact ge
   ·obtain rfl:=k3' (fun h=>c3 h.2)
    clear k1' k2' k3' k1 k2 k3
    refine qq ?_
    refine gg [.i zd ((m:Int)-(a:Int)) ((m:Int)-(a:Int)),.b ((m:Int)-(a:Int)==1) false,.i zd ((b:Int)-(m:Int)) ((b:Int)-(m:Int)),.b ((b:Int)-(m:Int)==1) false,.i zd ((a:Int)+(b:Int)) ((↑(a+b):Int)),.i zf ((↑(a+b):Int)) ((↑(a+b):Int)),.w (0≤(1:Int)),.t (T.int zf (zh (↑(a+b):Int) 2)) (T.int zf (mid:Int)),.i zd (mid:Int) (mid:Int),.i zd ((mid:Int)+(m:Int)) ((↑(mid+m):Int)),.b (decide ((m:Int)>(mid:Int))) true,.i zd ((↑(mid+m):Int)-(b:Int)) ((↑(mid+m-b):Int)),.i zd ((↑(mid+m):Int)-1) ((↑(mid+m-1):Int)),.a _ _,.i zd ((↑(mid+m):Int)-(s:Int)) ((↑(mid+m-s):Int)),.b (decide ((s:Int)<(m:Int))) true] ⟨oI,fE,oI,fE,oI,oU,oW,o_t (by rw [hf]),oI,oI,tP,oI,oI,o_a hbs,oI,tP,trivial⟩ ?_
    refine gg [.tt,.tt,.tt,.b (decide ((m:Int)<(↑(mid+m-s):Int))) true,.a _ _,.b (decide ((a:Int)<(s:Int))) true,.tt,.tt,.tt,.b (decide ((s:Int)<(mid:Int))) true,.a _ _,.b (decide ((mid:Int)<(↑(mid+m-s):Int))) true,.tt,.tt,.tt,.b (decide ((↑(mid+m-s):Int)<(b:Int))) false] ⟨tP,o_a j1,tP,tP,o_a j2,tP,fP,trivial⟩ ?_
    exact ge
  ·obtain rfl:=k2' (fun h=>c2 h.1)
   by_cases c3:mid+m<b+s
   ·have j3:=k3 c1.1 c3
    clear k1' k2' k3' k1 k2 k3
    omega
   ·obtain rfl:=k3' (fun h=>c3 h.2)
    clear k1' k2' k3' k1 k2 k3
    refine qq ?_
    refine gg [.i zd ((m:Int)-(a:Int)) ((m:Int)-(a:Int)),.b ((m:Int)-(a:Int)==1) false,.i zd ((b:Int)-(m:Int)) ((b:Int)-(m:Int)),.b ((b:Int)-(m:Int)==1) false,.i zd ((a:Int)+(b:Int)) ((↑(a+b):Int)),.i zf ((↑(a+b):Int)) ((↑(a+b):Int)),.w (0≤(1:Int)),.t (T.int zf (zh (↑(a+b):Int) 2)) (T.int zf (mid:Int)),.i zd (mid:Int) (mid:Int),.i zd ((mid:Int)+(m:Int)) ((↑(mid+m):Int)),.b (decide ((m:Int)>(mid:Int))) true,.i zd ((↑(mid+m):Int)-(b:Int)) ((↑(mid+m-b):Int)),.i zd ((↑(mid+m):Int)-1) ((↑(mid+m-1):Int)),.a _ _,.i zd ((↑(mid+m):Int)-(s:Int)) ((↑(mid+m-s):Int)),.b (decide ((s:Int)<(m:Int))) true] ⟨oI,fE,oI,fE,oI,oU,oW,o_t (by rw [hf]),oI,oI,tP,oI,oI,o_a hbs,oI,tP,trivial⟩ ?_
    refine gg [.tt,.tt,.tt,.b (decide ((m:Int)<(↑(mid+m-s):Int))) true,.a _ _,.b (decide ((a:Int)<(s:Int))) false,.ff,.ff,.ff,.ff,.b (decide ((mid:Int)<(↑(mid+m-s):Int))) true,.tt,.tt,.tt,.b (decide ((↑(mid+m-s):Int)<(b:Int))) false] ⟨tP,o_a j1,fP,tP,fP,trivial⟩ ?_
    exact ge
 ·obtain rfl:=k1' c1
  by_cases c0:s<m
  ·have c4: ¬s<mid:=fun h=>c1 ⟨c0,h⟩
   obtain rfl:=k2' (fun h=>c4 h.2)
   by_cases c3:mid+m<b+s
   ·have j3:=k3 c0 c3
    clear k1' k2' k3' k1 k2 k3
    by_cases c2:a<s
    ·refine qq ?_
     refine gg [.i zd ((m:Int)-(a:Int)) ((m:Int)-(a:Int)),.b ((m:Int)-(a:Int)==1) false,.i zd ((b:Int)-(m:Int)) ((b:Int)-(m:Int)),.b ((b:Int)-(m:Int)==1) false,.i zd ((a:Int)+(b:Int)) ((↑(a+b):Int)),.i zf ((↑(a+b):Int)) ((↑(a+b):Int)),.w (0≤(1:Int)),.t (T.int zf (zh (↑(a+b):Int) 2)) (T.int zf (mid:Int)),.i zd (mid:Int) (mid:Int),.i zd ((mid:Int)+(m:Int)) ((↑(mid+m):Int)),.b (decide ((m:Int)>(mid:Int))) true,.i zd ((↑(mid+m):Int)-(b:Int)) ((↑(mid+m-b):Int)),.i zd ((↑(mid+m):Int)-1) ((↑(mid+m-1):Int)),.a _ _,.i zd ((↑(mid+m):Int)-(s:Int)) ((↑(mid+m-s):Int)),.b (decide ((s:Int)<(m:Int))) true] ⟨oI,fE,oI,fE,oI,oU,oW,o_t (by rw [hf]),oI,oI,tP,oI,oI,o_a hbs,oI,tP,trivial⟩ ?_
     refine gg [.tt,.tt,.tt,.b (decide ((m:Int)<(↑(mid+m-s):Int))) false,.b (decide ((a:Int)<(s:Int))) true,.tt,.tt,.tt,.b (decide ((s:Int)<(mid:Int))) false,.b (decide ((mid:Int)<(↑(mid+m-s):Int))) true,.tt,.tt,.tt,.b (decide ((↑(mid+m-s):Int)<(b:Int))) true,.a _ _] ⟨fP,tP,fP,tP,tP,o_a j3,trivial⟩ ?_
     exact ge
    ·omega
   ·obtain rfl:=k3' (fun h=>c3 h.2)
    clear k1' k2' k3' k1 k2 k3
    by_cases c2:a<s
    ·omega
    ·omega
  ·obtain rfl:=k3' (fun h=>c0 h.1)
   by_cases c4:s<mid
   ·have j2:=k2 (by omega) c4
    clear k1' k2' k3' k1 k2 k3
    omega
   ·obtain rfl:=k2' (fun h=>c4 h.2)
    clear k1' k2' k3' k1 k2 k3
    by_cases c2:a<s
    ·omega
    ·omega
theorem AbZ: ∀(n:Nat) (P U V Q:List Cross) (a m b:Nat),U.length+V.length≤n→a=P.length→m=a+U.length→b=m+V.length→0<U.length→0<V.length→Sd z7 U→Sd z7 V→small (P++U++V++Q)→
  Is cx (.call 187 [.all 0 none,vi a,vi m,vi b,.t (.clo 129 [])] [.arr 15 ((P++U++V++Q).map zn) none false])
  ⟨.ret,[],[.arr 15 ((P++sortS z7 (U++V)++Q).map zn) none false]⟩:=by
 intro n
 induction n with
 |zero=>intros;omega
 |succ n ih=>
  intro P U V Q a m b hl ha hm hb hu hv hU hV hn
  by_cases hu1:U.length=1
  ·obtain ⟨x,rfl⟩:=List.length_eq_one_iff.1 hu1
   exact Acd P V Q x a m b ha (by simpa using hm) hb hv hV hn
  ·by_cases hv1:V.length=1
   ·obtain ⟨y,rfl⟩:=List.length_eq_one_iff.1 hv1
    exact Acj P U Q y a m b ha hm (by simpa using hb) (by omega) hU hn
   ·obtain ⟨mid,hmid⟩: ∃mid,(a+b)/2=mid:=⟨_,rfl⟩
    obtain ⟨s0,r0,hs0⟩: ∃s0 r0,m≤mid∧s0=a∧r0=m∨mid<m∧s0=mid+m-b∧r0=mid:=by
     by_cases h:m≤mid
     ·exact ⟨a,m,.inl ⟨h,rfl,rfl⟩⟩
     ·exact ⟨mid+m-b,mid,.inr ⟨by omega,rfl,rfl⟩⟩
    have hlen:(P++U++V++Q).length=b+Q.length:=by simp;omega
    have hbs:=Ac9 (P++U++V++Q) a m b mid (mid+m) (mid+m-1) hn (r0-s0) s0 r0 (by omega) (by omega) (by omega) (by omega) (by omega)
    have hp:(fun c=> !z7 (gt (P++U++V++Q) (mid+m-1-c)) (gt (P++U++V++Q) c))=fun c=> !z7 (gt (P++U++V++Q) (mid+m-1-c)) (gt (P++U++V++Q) c):=rfl
    obtain ⟨k1,k2,U1,U2,V1,V2,e1,e2,l1,l2,e3,u1,u2,v1,v2⟩:=Ajd Aai (Q:=Q) ha hm hb hU hV hu hv hmid hs0 (d:=r0-s0) (by omega) rfl
    generalize bs _ (r0-s0) s0 r0=s at*
    subst e1 e2
    simp only [List.length_append] at hl hm hb hu hv hlen hu1 hv1
    have hsm: ∀ {X Y:List Cross},X.length=Y.length→small Y→small X:=fun h k=>by unfold small at*;rw [h];exact k
    have g1:s<m→s<mid→Is cx (.call 194 [.all 0 none,vi s,vi m,vi (mid+m-s:Nat),.t (.clo 129 [])] [.arr 15 ((P++(U1++U2)++(V1++V2)++Q).map zn) none false]) ⟨.ret,[],[.arr 15 ((P++U1++V1++(U2++V2++Q)).map zn) none false]⟩:=by
     intro c1 c2
     have:=Aft (P++(U1++U2)++(V1++V2)++Q) s m (mid+m-s) c1 (by omega) (by simp;omega) hn
     have e:(P++(U1++U2)++(V1++V2)++Q).take s++seg (P++(U1++U2)++(V1++V2)++Q) m (mid+m-s)++seg (P++(U1++U2)++(V1++V2)++Q) s m++(P++(U1++U2)++(V1++V2)++Q).drop (mid+m-s)=P++U1++V1++(U2++V2++Q):=by
      have f1:P++(U1++U2)++(V1++V2)++Q=(P++U1)++(U2++(V1++(V2++Q))):=by simp
      have f2:P++(U1++U2)++(V1++V2)++Q=(P++U1++U2)++(V1++(V2++Q)):=by simp
      have f3:P++(U1++U2)++(V1++V2)++Q=(P++U1++U2++V1)++(V2++Q):=by simp
      have g1:(P++(U1++U2)++(V1++V2)++Q).take s=P++U1:=by rw [f1,List.take_left' (by simp;omega)]
      have g2:seg (P++(U1++U2)++(V1++V2)++Q) m (mid+m-s)=V1:=by unfold seg;rw [f2,List.drop_left' (by simp;omega),List.take_left' (by omega)]
      have g3:seg (P++(U1++U2)++(V1++V2)++Q) s m=U2:=by unfold seg;rw [f1,List.drop_left' (by simp;omega),List.take_left' (by omega)]
      have g4:(P++(U1++U2)++(V1++V2)++Q).drop (mid+m-s)=V2++Q:=by rw [f3,List.drop_left' (by simp;omega)]
      rw [g1,g2,g3,g4];simp
     rw [e] at this
     exact this
    have g1': ¬(s<m∧s<mid)→(P++(U1++U2)++(V1++V2)++Q)=(P++U1++V1++(U2++V2++Q)):=by
     intro c
     have:U2= []∨V1= []:=by
      by_cases h:s<m
      ·right;exact List.eq_nil_of_length_eq_zero (by omega)
      ·left;exact List.eq_nil_of_length_eq_zero (by omega)
     rcases this with rfl|rfl<;>simp
    have g2:a<s→s<mid→Is cx (.call 187 [.all 0 none,vi a,vi s,vi mid,.t (.clo 129 [])] [.arr 15 ((P++U1++V1++(U2++V2++Q)).map zn) none false]) ⟨.ret,[],[.arr 15 ((P++sortS z7 (U1++V1)++(U2++V2++Q)).map zn) none false]⟩:=by
     intro c1 c2
     exact ih P U1 V1 (U2++V2++Q) a s mid (by omega) ha (by omega) (by omega) (by omega) (by omega) u1 v1 (hsm (by simp;omega) hn)
    have g2': ¬(a<s∧s<mid)→(P++U1++V1++(U2++V2++Q))=(P++sortS z7 (U1++V1)++(U2++V2++Q)):=by
     intro c
     have:U1= []∨V1= []:=by
      by_cases h:a<s
      ·right;exact List.eq_nil_of_length_eq_zero (by omega)
      ·left;exact List.eq_nil_of_length_eq_zero (by omega)
     rcases this with rfl|rfl
     ·simp [Aa3 Aai v1]
     ·simp [Aa3 Aai u1]
    have g3:s<m→mid+m<b+s→Is cx (.call 187 [.all 0 none,vi mid,vi (mid+m-s:Nat),vi b,.t (.clo 129 [])] [.arr 15 ((P++sortS z7 (U1++V1)++(U2++V2++Q)).map zn) none false]) ⟨.ret,[],[.arr 15 ((P++sortS z7 ((U1++U2)++(V1++V2))++Q).map zn) none false]⟩:=by
     intro c1 c2
     have hL:(sortS z7 (U1++V1)).length=U1.length+V1.length:=by rw [AbF Aai];simp
     have:=ih (P++sortS z7 (U1++V1)) U2 V2 Q mid (mid+m-s) b (by omega) (by simp;omega) (by omega) (by omega) (by omega) (by omega) u2 v2 (hsm (by simp;omega) hn)
     rw [←e3]
     simpa using this
    have g3': ¬(s<m∧mid+m<b+s)→(P++sortS z7 (U1++V1)++(U2++V2++Q))=(P++sortS z7 ((U1++U2)++(V1++V2))++Q):=by
     intro c
     have:U2= []∨V2= []:=by
      by_cases h:s<m
      ·right;exact List.eq_nil_of_length_eq_zero (by omega)
      ·left;exact List.eq_nil_of_length_eq_zero (by omega)
     rw [←e3]
     rcases this with rfl|rfl
     ·simp [Aa3 Aai v2]
     ·simp [Aa3 Aai u2]
    rcases hs0 with ⟨hc,rfl,rfl⟩|⟨hc,rfl,rfl⟩
    ·exact Acl _ _ _ _ s0 r0 b mid s hmid hc (by omega) (by omega) (by simp;omega) hn ⟨k1,k2⟩ hbs g1 g1' g2 g2' g3 g3'
    ·exact Ack _ _ _ _ a m b r0 s hmid hc (by omega) (by omega) (by simp;omega) hn ⟨k1,k2⟩ hbs g1 g1' g2 g2' g3 g3'
end Go.Eva.S5
namespace Go.Eva.S5
theorem AcK (n:Nat) (hn:n≤1000000): ∀(d:Nat) (P R:List Cross) (a:Nat),a=P.length→R.length≤d→(P++R).length=n→Full z7 20 P→
  ∃(P' R':List Cross),Is cx (.loop 172 [0,0,1,1] 1 [.all 0 none,vi n,.t (.clo 129 []),vi 20,vi a,vi (a+20:Nat)] [.arr 15 ((P++R).map zn) none false])
   ⟨.exit 0,[.all 0 none,vi n,.t (.clo 129 []),vi 20,vi P'.length,vi (P'.length+20:Nat)],[.arr 15 ((P'++R').map zn) none false]⟩∧
   Full z7 20 P'∧R'.length<20∧StEq z7 (P'++R') (P++R)∧(P'++R').length=n:=by
 intro d
 induction d with
 |zero=>
  intro P R a ha hR hl hP
  refine ⟨P,R,?_,hP,by omega,.refl _,hl⟩
  rw [List.length_append] at hl
  subst ha
  refine qq ?_
  refine gg [.b (decide ((↑(zq P+20):Int)≤(n:Int))) false] ⟨fP,trivial⟩ ?_
  exact ge
 |succ d ih=>
  intro P R a ha hR hl hP
  by_cases h:20≤R.length
  ·obtain ⟨S,R,rfl,hS⟩:=Akl R h
   rw [List.length_append] at hR
   have hs:(sortS z7 S).length=20:=by rw [AbF Aai,hS]
   have hl':((P++sortS z7 S)++R).length=n:=by rw [←hl];simp;omega
   obtain ⟨P',R',h1,h2,h3,h4,h5⟩:=ih (P++sortS z7 S) R (a+20) (by simp;omega) (by omega) hl' (.snoc hP hs (Abc Aai S))
   refine ⟨P',R',?_,h2,h3,?_,h5⟩
   ·clear ih
    have hA:(P++(S++R)).length=n:=hl
    have hi:=AaP (P++(S++R)) a (a+20) (by omega) (by simp;omega) (by unfold small;omega)
    rw [show srt z7 (P++(S++R)) a (a+20)=P++sortS z7 S++R by rw [←List.append_assoc];exact Ajt P S R ha (by omega)] at hi
    simp only [List.length_append] at hA
    generalize P++(S++R)=A at*
    generalize P++sortS z7 S++R=B at*
    refine qq ?_
    refine gg [.b (decide ((↑(a+20):Int)≤(n:Int))) true,.a _ _,.i zd ((↑(a+20):Int)+20) ((↑(a+20+20):Int)),.a _ _] ⟨tP,o_a hi,oI,o_a h1,trivial⟩ ?_
    exact ge
   ·refine h4.trans ?_
    have:=StEq.mid (P:=P) (Q:=R) (AaN Aai S)
    simpa using this
  ·refine ⟨P,R,?_,hP,by omega,.refl _,hl⟩
   rw [List.length_append] at hl
   subst ha
   clear ih
   refine qq ?_
   refine gg [.b (decide ((↑(zq P+20):Int)≤(n:Int))) false] ⟨fP,trivial⟩ ?_
   exact ge
theorem AcF (n bs:Nat) (hn:n≤1000000) (hb:20≤bs) (hbs:bs≤n): ∀(d:Nat) (P R:List Cross) (a:Nat),a=P.length→R.length≤d→(P++R).length=n→Full z7 (2*bs) P→Blks z7 bs R→
  ∃(P' R':List Cross),Is cx (.loop 172 [0,0,1,0,1,0,0,1,1,1,1] 1 [.all 0 none,vi n,.t (.clo 129 []),vi bs,vi a,vi (a+2*bs:Nat)] [.arr 15 ((P++R).map zn) none false])
   ⟨.exit 4,[.all 0 none,vi n,.t (.clo 129 []),vi bs,vi P'.length,vi (P'.length+2*bs:Nat)],[.arr 15 ((P'++R').map zn) none false]⟩∧
   Full z7 (2*bs) P'∧Blks z7 bs R'∧R'.length<2*bs∧StEq z7 (P'++R') (P++R)∧(P'++R').length=n:=by
 intro d
 induction d with
 |zero=>
  intro P R a ha hR hl hP hB
  refine ⟨P,R,?_,hP,hB,by omega,.refl _,hl⟩
  rw [List.length_append] at hl
  subst ha
  refine qq ?_
  refine gg [.b (decide ((↑(zq P+2*bs):Int)≤(n:Int))) false] ⟨fP,trivial⟩ ?_
  exact ge
 |succ d ih=>
  intro P R a ha hR hl hP hB
  by_cases h:2*bs≤R.length
  ·obtain ⟨S1,S2,R,rfl,l1,l2,s1,s2,hB⟩:=hB.two (by omega) h
   simp only [List.length_append] at hR h
   have hs:(sortS z7 (S1++S2)).length=2*bs:=by rw [AbF Aai];simp;omega
   have hl':((P++sortS z7 (S1++S2))++R).length=n:=by rw [←hl];simp;omega
   obtain ⟨P',R',h1,h2,h3,h4,h5,h6⟩:=ih (P++sortS z7 (S1++S2)) R (a+2*bs) (by simp;omega) (by omega) hl' (.snoc hP hs (Abc Aai _)) hB
   refine ⟨P',R',?_,h2,h3,h4,?_,h6⟩
   ·clear ih
    have hA:(P++(S1++S2++R)).length=n:=hl
    have hi:=AbZ (S1.length+S2.length) P S1 S2 R a (a+bs) (a+2*bs) (Nat.le_refl _) ha (by omega) (by omega) (by omega) (by omega) s1 s2 (by unfold small;simp at hA⊢;omega)
    rw [show P++S1++S2++R=P++(S1++S2++R) by simp] at hi
    simp only [List.length_append] at hA
    generalize P++(S1++S2++R)=A at*
    generalize P++sortS z7 (S1++S2)++R=B at*
    refine qq ?_
    refine gg [.b (decide ((↑(a+2*bs):Int)≤(n:Int))) true,.i zd ((a:Int)+(bs:Int)) ((↑(a+bs):Int)),.a _ _,.i zd (2*(bs:Int)) ((↑(2*bs):Int)),.i zd ((↑(a+2*bs):Int)+(↑(2*bs):Int)) ((↑(a+2*bs+2*bs):Int)),.a _ _] ⟨tP,oI,o_a hi,oI,oI,o_a h1,trivial⟩ ?_
    exact ge
   ·refine h5.trans ?_
    have:=StEq.mid (P:=P) (Q:=R) (AaN Aai (S1++S2))
    simpa using this
  ·refine ⟨P,R,?_,hP,hB,by omega,.refl _,hl⟩
   rw [List.length_append] at hl
   subst ha
   clear ih
   refine qq ?_
   refine gg [.b (decide ((↑(zq P+2*bs):Int)≤(n:Int))) false] ⟨fP,trivial⟩ ?_
   exact ge
theorem AcJ (n:Nat) (hn:n≤1000000): ∀(d bs:Nat) (A:List Cross),n≤bs+d→20≤bs→bs≤2000000→A.length=n→Blks z7 bs A→
  ∃(bs':Nat) (B:List Cross),Is cx (.loop 172 [0,1,1,1,1] 1 [.all 0 none,vi n,.t (.clo 129 []),vi bs] [.arr 15 (A.map zn) none false])
   ⟨.exit 2,[.all 0 none,vi n,.t (.clo 129 []),vi bs'],[.arr 15 (B.map zn) none false]⟩∧Sd z7 B∧StEq z7 B A:=by
 intro d
 induction d with
 |zero=>
  intro bs A h1 h2 h3 hl hB
  refine ⟨bs,A,?_,hB.sd (by omega),.refl _⟩
  refine qq ?_
  refine gg [.b (decide ((bs:Int)<(n:Int))) false] ⟨fP,trivial⟩ ?_
  exact ge
 |succ d ih=>
  intro bs A h1 h2 h3 hl hB
  by_cases h:bs<n
  ·obtain ⟨P,R,k1,k2,k3,k4,k5,k6⟩:=AcF n bs hn h2 (by omega) A.length [] A 0 rfl (Nat.le_refl _) (by simpa using hl) .nil hB
   rw [List.nil_append,Nat.zero_add] at k1
   rw [List.nil_append] at k5
   by_cases hr:bs<R.length
   ·obtain ⟨S1,S2,rfl,l1,s1,s2,l2⟩:=k3.one hr k4
    have hm:=AbZ (S1.length+S2.length) P S1 S2 [] P.length (P.length+bs) n (Nat.le_refl _) rfl (by omega) (by simp at k6;omega) (by omega) l2 s1 s2 (by unfold small;simp at k6⊢;omega)
    simp only [List.append_nil] at hm
    rw [List.append_assoc] at hm
    simp only [List.length_append] at k4 k6 hr
    have hs:(sortS z7 (S1++S2)).length=S1.length+S2.length:=by rw [AbF Aai];simp
    obtain ⟨bs',B,j1,j2,j3⟩:=ih (bs*2) (P++sortS z7 (S1++S2)) (by omega) (by omega) (by omega) (by simp;omega) (by rw [Nat.mul_comm];exact k2.blks (.last (by omega) (Abc Aai _)))
    refine ⟨bs',B,?_,j2,j3.trans (StEq.trans ?_ k5)⟩
    ·clear ih j2 j3 k2 k3 k5
     have e1:(P++(S1++S2)).length=n:=by simp;omega
     have e2:(P++sortS z7 (S1++S2)).length=n:=by simp;omega
     generalize P++(S1++S2)=X at*
     generalize P++sortS z7 (S1++S2)=Y at*
     refine qq ?_
     refine gg [.b (decide ((bs:Int)<(n:Int))) true,.i zd (2*(bs:Int)) ((↑(2*bs):Int)),.a _ _,.i zd ((↑(zq P):Int)+(bs:Int)) ((↑(zq P+bs):Int)),.b (decide ((↑(zq P+bs):Int)<(n:Int))) true,.a _ _,.i zd ((bs:Int)*2) ((↑(bs*2):Int)),.a _ _] ⟨tP,oI,o_a k1,oI,tP,o_a hm,oI,o_a j1,trivial⟩ ?_
     exact ge
    ·exact (StEq.refl _).append (AaN Aai _)
   ·obtain ⟨bs',B,j1,j2,j3⟩:=ih (bs*2) (P++R) (by omega) (by omega) (by omega) k6 (by rw [Nat.mul_comm];exact k2.blks (.last (by omega) (k3.sd (by omega))))
    refine ⟨bs',B,?_,j2,j3.trans k5⟩
    clear ih j2 j3 k2 k3 k5
    rw [List.length_append] at k6
    generalize P++R=X at*
    refine qq ?_
    refine gg [.b (decide ((bs:Int)<(n:Int))) true,.i zd (2*(bs:Int)) ((↑(2*bs):Int)),.a _ _,.i zd ((↑(zq P):Int)+(bs:Int)) ((↑(zq P+bs):Int)),.b (decide ((↑(zq P+bs):Int)<(n:Int))) false,.i zd ((bs:Int)*2) ((↑(bs*2):Int)),.a _ _] ⟨tP,oI,o_a k1,oI,fP,oI,o_a j1,trivial⟩ ?_
    exact ge
  ·refine ⟨bs,A,?_,hB.sd (by omega),.refl _⟩
   clear ih
   refine qq ?_
   refine gg [.b (decide ((bs:Int)<(n:Int))) false] ⟨fP,trivial⟩ ?_
   exact ge
theorem Acw (A:List Cross) (hn:small A):Is cx (.call 172 [.all 0 none,vi A.length,.t (.clo 129 [])] [.arr 15 (A.map zn) none false])
  ⟨.ret,[],[.arr 15 ((sortS z7 A).map zn) none false]⟩:=by
 unfold small at hn
 obtain ⟨P,R,k1,k2,k3,k4,k5⟩:=AcK A.length hn A.length [] A 0 rfl (Nat.le_refl _) (by simp) .nil
 rw [List.nil_append,Nat.zero_add] at k1
 rw [List.nil_append] at k4
 rw [List.length_append] at k5
 have hi:=AaP (P++R) P.length A.length (by omega) (by simp;omega) (by unfold small;simp;omega)
 rw [show srt z7 (P++R) P.length A.length=P++sortS z7 R by have:=Ajt (lt:=z7) P R [] rfl k5.symm;simpa using this] at hi
 have hs:(sortS z7 R).length=R.length:=AbF Aai R
 obtain ⟨bs,B,j1,j2,j3⟩:=AcJ A.length hn A.length 20 (P++sortS z7 R) (by omega) (by omega) (by omega) (by simp;omega) (k2.blks (.last (by omega) (Abc Aai _)))
 rw [Ae4 Aai j2 (j3.trans (((StEq.refl _).append (AaN Aai _)).trans k4))] at j1
 clear j2 j3 k2 k4
 have e1:(P++R).length=A.length:=by simp;omega
 have e2:(P++sortS z7 R).length=A.length:=by simp;omega
 generalize P++R=X at*
 generalize P++sortS z7 R=Y at*
 refine qq ?_
 refine gg [.a _ _,.a _ _,.a _ _] ⟨o_a k1,o_a hi,o_a j1,trivial⟩ ?_
 exact ge
theorem Acc (A:List Cross) (hn:small A):Is cx (.call 128 [.all 0 none,.t (.clo 129 [])] [.arr 15 (A.map zn) none false])
  ⟨.ret,[],[.arr 15 ((sortS z7 A).map zn) none false]⟩:=by
 have h:=Acw A hn
 unfold small at hn
 refine qq ?_
 refine gg [.n (zq (zz zn A)) (zq A),.a _ _] ⟨o_n (by simp),o_a h,trivial⟩ ?_
 exact ge
end Go.Eva.S5
namespace Go.Eva.S5
theorem Agh (n:Nat) (hn:n≤1000000):Is cx (.call 171 [.fit 15 [],vi n] []) ⟨.ret,[.all 0 none],[.arr 15 [] none false]⟩:=by
 refine qq ?_
 refine gg [.b (decide ((n:Int)<0)) false,.l 0,.l 0,.i zd 0 0,.i zd ((n:Int)-0) ((n:Int)-0)] ⟨bK,oK,o_i (w64 (by (simp [room,appendMax];omega))),trivial⟩ ?_
 refine brp (p:=(n:Int)-0>0) (by kernel_rfl) (fun h1=> ?_) (fun h1=> ?_)
 ·refine gg [.l 0,.w (0≤(0:Int)),.l 0,.w ((0:Nat)≤(0:Nat)∧(0:Nat)≤(0:Nat)),.b (decide (0=0)) true,.s (qk 15 []),.w (0≤(n:Int)-(0:Int)∧room (zy ((n:Int)-(0:Int))) (120:Nat)),.n (zy ((n:Int)-0)) n,.s (qk 0 (zj n (T.agg [ti 0,ti 0,ti 0,ti 0,ti 0,ti 0,ti 0,ti 0,ti 0,ti 0,ti 0,ti 0,ti 0,ti 0,ti 0]))),.w (room (zq (zj n (T.agg [ti (0:Int),ti (0:Int),ti (0:Int),ti (0:Int),ti (0:Int),ti (0:Int),ti (0:Int),ti (0:Int),ti (0:Int),ti (0:Int),ti (0:Int),ti (0:Int),ti (0:Int),ti (0:Int),ti (0:Int)]))) (120:Nat)),.l 0,.w (0≤(0:Int)),.l 0,.w ((0:Nat)≤(0:Nat)∧(0:Nat)≤zq (zj n (T.agg [ti (0:Int),ti (0:Int),ti (0:Int),ti (0:Int),ti (0:Int),ti (0:Int),ti (0:Int),ti (0:Int),ti (0:Int),ti (0:Int),ti (0:Int),ti (0:Int),ti (0:Int),ti (0:Int),ti (0:Int)]))),.l 0,.l 0] ⟨oW,o_w ⟨(Nat.le_of_ble_eq_true (by kernel_rfl)),(Nat.le_of_ble_eq_true (by kernel_rfl))⟩,bK,o_w ⟨(by omega),(by (simp [room,appendMax];omega))⟩,nK,o_w (by (simp [room,appendMax];omega)),oW,o_w ⟨(Nat.le_of_ble_eq_true (by kernel_rfl)),(by omega)⟩,trivial⟩ ?_
  refine gg [.s (qk 0 [])] trivial ?_
  refine rT (a:=qz qj [qy 0 none] [qv 15 [] none false]) ?_
  simp
 ·refine rT (a:=qz qj [qy 0 none] [qv 15 [] none false]) ?_
  simp
theorem Acn (ls:List (List Cross)) (hl:ls.length≤1000) (ht:total ls≤1000000): ∀(d i s:Nat),i+d=ls.length→s+total (ls.drop i)=total ls→
  Is cx (.loop 127 [0,1,0,1,1] 0 [.t (.sl 1 (ls.map encL)),vi s,.t (.sl 1 (ls.map encL)),vi ls.length,vi i] [])
   ⟨.exit 0,[.t (.sl 1 (ls.map encL)),vi (total ls),.t (.sl 1 (ls.map encL)),vi ls.length,vi ls.length],[]⟩:=by
 intro d
 induction d with
 |zero=>
  intro i s hi hs
  rw [AiR (by omega)] at hs
  refine qq ?_
  refine gg [.b (decide ((i:Int)<(↑(zq ls):Int))) false] ⟨fP,trivial⟩ ?_
  refine rT (a:=qz (qx 0) [V.t (qk 1 (zz encL ls)),vi (s:Int),V.t (qk 1 (zz encL ls)),vi (↑(zq ls):Int),vi (i:Int)] []) ?_
  ((have hq:i=ls.length:=by omega);subst hq;(have hq2:s=total ls:=by omega);subst hq2;rfl)
 |succ d ih=>
  intro i s hi hs
  have hlt:i<ls.length:=by omega
  rw [Ail hlt] at hs
  have ih1:=ih (i+1) (s+(gt ls i).length) (by omega) (by omega)
  clear ih
  refine qq ?_
  refine gg [.b (decide ((i:Int)<(↑(zq ls):Int))) true,.w (0≤(i:Int)),.n (zy (i:Int)) i,.g (zz encL ls) i (encL (gt ls i)),.n (zq (zz zn (gt ls i))) (zq (gt ls i)),.i zd ((s:Int)+(↑(zq (gt ls i)):Int)) ((↑(s+zq (gt ls i)):Int)),.b (decide ((↑(s+zq (gt ls i)):Int)<0)) false,.i zd ((i:Int)+1) ((↑(i+1):Int)),.a _ _] ⟨tP,oW,nK,o_gt rfl (by assumption) (by intro h;cases h),o_n (by simp),oI,bK,oI,o_a ih1,trivial⟩ ?_
  exact ge
theorem Add (ls:List (List Cross)) (hl:ls.length≤1000) (ht:total ls≤1000000): ∀(d i:Nat) (A:List Cross),i+d=ls.length→A.length+total (ls.drop i)=total ls→
  Is cx (.loop 127 [0,1,0,1,1,1,1] 0 [.all 0 none,.t (.sl 1 (ls.map encL)),vi ls.length,vi i] [.arr 15 (A.map zn) none false])
   ⟨.exit 2,[.all 0 none,.t (.sl 1 (ls.map encL)),vi ls.length,vi ls.length],[.arr 15 ((A++(ls.drop i).flatten).map zn) none false]⟩:=by
 intro d
 induction d with
 |zero=>
  intro i A hi hs
  rw [Aaf (by omega)]
  refine qq ?_
  refine gg [.b (decide ((i:Int)<(↑(zq ls):Int))) false] ⟨fP,trivial⟩ ?_
  refine rT (a:=qz (qx 2) [qy 0 none,V.t (qk 1 (zz encL ls)),vi (↑(zq ls):Int),vi (i:Int)] [qv 15 (zz zn A) none false]) ?_
  ((have hq:i=ls.length:=by omega);subst hq;simp)
 |succ d ih=>
  intro i A hi hs
  have hlt:i<ls.length:=by omega
  rw [Ail hlt] at hs
  have ih1:=ih (i+1) (A++gt ls i) (by omega) (by simp;omega)
  clear ih
  rw [Ak7 hlt]
  refine qq ?_
  refine gg [.b (decide ((i:Int)<(↑(zq ls):Int))) true,.w (0≤(i:Int)),.n (zy (i:Int)) i,.g (zz encL ls) i (encL (gt ls i)),.w ((0:Nat)<(120:Nat)),.s (qk 0 (zz zn (gt ls i))),.t (qk 0 (zz zn A++zz zn (gt ls i))) (qk 0 (zz zn (A++gt ls i))),.w (room (zq (zz zn (A++gt ls i))) (120:Nat)),.i zd ((i:Int)+1) ((↑(i+1):Int)),.a _ _] ⟨tP,oW,nK,o_gt rfl (by assumption) (by intro h;cases h),oW,o_l (Aa1 rfl rfl),o_w (by (simp [room,appendMax];omega)),o_i (w64 (by (simp [room,appendMax];omega))),o_a ih1,trivial⟩ ?_
  refine rT (a:=qz (qx 2) [qy 0 none,V.t (qk 1 (zz encL ls)),vi (↑(zq ls):Int),vi (↑(zq ls):Int)] [qv 15 (zz zn (A++gt ls i++List.flatten (zk (i+1) ls))) none false]) ?_
  simp
theorem Afa (ls:List (List Cross)) (hl:ls.length≤1000) (ht:total ls≤1000000):
  Is cx (.call 127 [.t (.sl 1 (ls.map encL))] []) ⟨.ret,[.all 0 none],[.arr 15 (ls.flatten.map zn) none false]⟩:=by
 have h1:=Acn ls hl ht ls.length 0 0 (by omega) (by simp)
 have h2:=Add ls hl ht ls.length 0 [] (by omega) (by simp)
 rw [List.drop_zero,List.nil_append] at h2
 have h3:=Agh (total ls) ht
 refine qq ?_
 refine gg [.n (zq (zz encL ls)) (zq ls),.a _ _,.a _ _,.n (zq (zz encL ls)) (zq ls),.a _ _] ⟨o_n (by simp),o_a h1,o_a h3,o_n (by simp),o_a h2,trivial⟩ ?_
 exact ge
theorem Ag8 (ls:List (List Cross)) (hl:ls.length≤1000) (ht:total ls≤1000000):
  Is cx (.call 70 [.t (.sl 1 (ls.map encL))] []) ⟨.ret,[.all 0 none],[.arr 15 ((sortS z7 ls.flatten).map zn) none false]⟩:=by
 have h1:=Afa ls hl ht
 have h2:=Acc ls.flatten (by unfold small;rw [Aka];exact ht)
 refine qq ?_
 refine gg [.a _ _,.a _ _] ⟨o_a h1,o_a h2,trivial⟩ ?_
 exact ge
theorem Aaz (l:List Cross) (h:small l):Is cx (.call 70 [.t (.sl 1 [.sl 15 (l.map zn)])] []) ⟨.ret,[.all 0 none],[.arr 15 ((sortS z7 l).map zn) none false]⟩:=by
 have:=Ag8 [l] (by simp) (by unfold small at h;simpa [total] using h)
 rw [show [l].flatten=l by simp] at this
 exact this
end Go.Eva.S5
namespace Go.Eva.S5
theorem AaG (c:Config) (r:Int) (s:Region) (ins:List Input) (inbox:List Cross) (hn:s.ents.length≤100000) (hi:small ins) (hb:inbox.length≤100000) (h:askedE c r s ins inbox=0):
  Is cx (.call 23 [.t c.enc,vi r,.t s.enc,.t (.sl 3 (ins.map zr)),.t (.sl 15 (inbox.map zn))] []) ⟨.ret,[.t (zt ⟨s.frame+1,(stepS c r s ins inbox).l⟩),.t (.sl 15 ((sortS z7 (stepS c r s ins inbox).out).map zn)),vi 0],[]⟩:=by
 have hfine:=Afx h
 have hrc:=Config.is_right hfine.is
 have ha:=Afn c r s ins inbox (by unfold small;omega) hi (by unfold small;omega)
 rw [h] at ha
 have hA:=Acy c r s inbox hn hb
 have hsane:=hfine.sane
 obtain ⟨hst1,hst2⟩:=Agt hfine
 have hr:=Config.is_le hfine.is
 have hreg:= @Config.regions_le c
 have hf:=hfine.frame
 have hst:=Afs c r s.frame ins (arriveL s.ents inbox) hi (by omega) (by omega) (Nat.le_trans (hsane.len hrc) (by omega)) fun p hp=>by
  have hpr:=(hsane.ents p hp).1
  refine ⟨?_,fun hk=> ?_⟩
  ·have:=AgR hpr;omega
  ·have:=Entity.right_player hpr hk
   have:=hfine.len
   omega
 unfold stepS restS
 have hnear:=Akq hfine.is
 generalize steerS c r s.frame ins ⟨arriveL s.ents inbox,0,[]⟩=S at*
 generalize arriveL s.ents inbox=L at*
 obtain ⟨A,made,o⟩:=S
 simp only at hst hst1 hst2⊢
 subst hst2
 have hmade:=hst1.made
 simp only at hmade
 have hAs:=hst1.sane
 simp only at hAs
 have hAl:=hAs.len hrc
 have hmv:=Agq c r s.frame made A (by unfold small;omega) fun e he=>by have:=AgR (hAs.ents e he).1;omega
 obtain ⟨hM,hMr⟩:=AdX hAs
 have hMl:=hM.len hrc
 have hHm:=(AdR (inbox:=inbox) hM).1
 have hHl:=hHm.len hrc
 have hsh:=Afh (moveL c A) (by unfold small;omega)
 have h1l:(shotsL (moveL c A)).length≤30:=by
  have:=(Afd (l:=moveL c A) fun e he _=>AgC (hMr e he)).moved hM
  exact this.len hrc
 have hge:=Afv (shotsL (moveL c A)) (by unfold small;omega)
 have h2l:(gemsL (shotsL (moveL c A))).length≤30:=by
  have k1:=Afd (l:=moveL c A) fun e he _=>AgC (hMr e he)
  have:=(AhA (l:=shotsL (moveL c A)) k1.low).moved (k1.moved hM)
  exact this.len hrc
 have hbl:=Aet (gemsL (shotsL (moveL c A))) inbox (by unfold small;omega) (by unfold small;omega)
 clear hHm hM hMr hst1 hsane hfine h hAs
 generalize blastsL (gemsL (shotsL (moveL c A))) inbox=H at*
 generalize gemsL (shotsL (moveL c A))=M2 at*
 generalize shotsL (moveL c A)=M1 at*
 generalize moveL c A=M at*
 obtain ⟨f,l⟩:=s
 simp only at*
 by_cases hfl:fallenL H= []
 ·have hfa:=AeG c r f made H (by omega) hfl
  have e1:fallS c r f ⟨H,made,[]⟩=⟨H,made,[]⟩:=by unfold fallS;simp only;rw [hfl];rfl
  rw [e1]
  by_cases hg:below 8 c.seed [3,f,r]≠0∨3≤(H.countP fun e=>e.kind==3)∨Stg.room ⟨H,made,[]⟩=false
  ·have hgr:=Adv c r f made H [] (by omega) hg
   have e2:growS c r f ⟨H,made,[]⟩=⟨H,made,[]⟩:=by unfold growS;rw [if_pos hg]
   rw [e2]
   clear e1 e2 hg hfl
   have hlv:=AbX c r f made H (by omega)
   have hso:=Aaz (leaveS c r f ⟨H,made,[]⟩).out (by have:= @Ac0 c r f ⟨H,made,[]⟩;unfold small;simp only [List.length_nil] at this;omega)
   split at hlv
   ·rename_i hq
    rw [hq] at hso⊢
    change Is cx _ ⟨_,[_,.t (.sl 15 []),_],_⟩
    replace hso:=Aaz [] (by simp [small])
    clear hq
    generalize (leaveS c r f ⟨H,made,[]⟩).l=Z at*
    rcases hst with hst|⟨X,hst⟩
    ·refine qq ?_
     refine gg [.a _ _,.b (0 !=0) false,.a _ _,.a _ _,.a _ _,.a _ _,.a _ _,.a _ _,.a _ _,.a _ _,.a _ _] ⟨o_a ha,bK,o_a hA,o_a hst,o_a hmv,o_a hsh,o_a hge,o_a hbl,o_a hfa,o_a hgr,o_a hlv,trivial⟩ ?_
     refine gg [.i zd (f+1) (f+1),.a _ _] ⟨oI,o_a hso,trivial⟩ ?_
     exact ge
    ·refine qq ?_
     refine gg [.a _ _,.b (0 !=0) false,.a _ _,.a _ _,.a _ _,.a _ _,.a _ _,.a _ _,.a _ _,.a _ _,.a _ _] ⟨o_a ha,bK,o_a hA,o_a hst,o_a hmv,o_a hsh,o_a hge,o_a hbl,o_a hfa,o_a hgr,o_a hlv,trivial⟩ ?_
     refine gg [.i zd (f+1) (f+1),.a _ _] ⟨oI,o_a hso,trivial⟩ ?_
     exact ge
   ·rename_i hq
    clear hq
    generalize (leaveS c r f ⟨H,made,[]⟩).l=Z at*
    generalize hoo:(leaveS c r f ⟨H,made,[]⟩).out=oo at*
    generalize sortS z7 oo=so at*
    rcases hst with hst|⟨X,hst⟩
    ·refine qq ?_
     refine gg [.a _ _,.b (0 !=0) false,.a _ _,.a _ _,.a _ _,.a _ _,.a _ _,.a _ _,.a _ _,.a _ _,.a _ _] ⟨o_a ha,bK,o_a hA,o_a hst,o_a hmv,o_a hsh,o_a hge,o_a hbl,o_a hfa,o_a hgr,o_a hlv,trivial⟩ ?_
     refine gg [.i zd (f+1) (f+1),.s (qk 15 (zz zn oo)),.a _ _] ⟨oI,o_a hso,trivial⟩ ?_
     exact ge
    ·refine qq ?_
     refine gg [.a _ _,.b (0 !=0) false,.a _ _,.a _ _,.a _ _,.a _ _,.a _ _,.a _ _,.a _ _,.a _ _,.a _ _] ⟨o_a ha,bK,o_a hA,o_a hst,o_a hmv,o_a hsh,o_a hge,o_a hbl,o_a hfa,o_a hgr,o_a hlv,trivial⟩ ?_
     refine gg [.i zd (f+1) (f+1),.s (qk 15 (zz zn oo)),.a _ _] ⟨oI,o_a hso,trivial⟩ ?_
     exact ge
  ·have hgr:=AcR c r f made H (by omega) (by omega) (by omega) (by omega) hg
   have e2:growS c r f ⟨H,made,[]⟩=⟨put1 H (gemE c r f made),made+1,[]⟩:=by unfold growS;rw [if_neg hg]
   rw [e2]
   clear e1 e2 hg hfl
   have hpl:=(@Aa6 H (gemE c r f made)).2
   generalize put1 H (gemE c r f made)=G at*
   have hlv:=AbX c r f (made+1) G (by omega)
   have hso:=Aaz (leaveS c r f ⟨G,made+1,[]⟩).out (by have:= @Ac0 c r f ⟨G,made+1,[]⟩;unfold small;simp only [List.length_nil] at this;omega)
   split at hlv
   ·rename_i hq
    rw [hq] at hso⊢
    change Is cx _ ⟨_,[_,.t (.sl 15 []),_],_⟩
    replace hso:=Aaz [] (by simp [small])
    clear hq
    generalize (leaveS c r f ⟨G,made+1,[]⟩).l=Z at*
    rcases hst with hst|⟨X,hst⟩
    ·refine qq ?_
     refine gg [.a _ _,.b (0 !=0) false,.a _ _,.a _ _,.a _ _,.a _ _,.a _ _,.a _ _,.a _ _,.a _ _,.a _ _] ⟨o_a ha,bK,o_a hA,o_a hst,o_a hmv,o_a hsh,o_a hge,o_a hbl,o_a hfa,o_a hgr,o_a hlv,trivial⟩ ?_
     refine gg [.i zd (f+1) (f+1),.a _ _] ⟨oI,o_a hso,trivial⟩ ?_
     exact ge
    ·refine qq ?_
     refine gg [.a _ _,.b (0 !=0) false,.a _ _,.a _ _,.a _ _,.a _ _,.a _ _,.a _ _,.a _ _,.a _ _,.a _ _] ⟨o_a ha,bK,o_a hA,o_a hst,o_a hmv,o_a hsh,o_a hge,o_a hbl,o_a hfa,o_a hgr,o_a hlv,trivial⟩ ?_
     refine gg [.i zd (f+1) (f+1),.a _ _] ⟨oI,o_a hso,trivial⟩ ?_
     exact ge
   ·rename_i hq
    clear hq
    generalize (leaveS c r f ⟨G,made+1,[]⟩).l=Z at*
    generalize hoo:(leaveS c r f ⟨G,made+1,[]⟩).out=oo at*
    generalize sortS z7 oo=so at*
    rcases hst with hst|⟨X,hst⟩
    ·refine qq ?_
     refine gg [.a _ _,.b (0 !=0) false,.a _ _,.a _ _,.a _ _,.a _ _,.a _ _,.a _ _,.a _ _,.a _ _,.a _ _] ⟨o_a ha,bK,o_a hA,o_a hst,o_a hmv,o_a hsh,o_a hge,o_a hbl,o_a hfa,o_a hgr,o_a hlv,trivial⟩ ?_
     refine gg [.i zd (f+1) (f+1),.s (qk 15 (zz zn oo)),.a _ _] ⟨oI,o_a hso,trivial⟩ ?_
     exact ge
    ·refine qq ?_
     refine gg [.a _ _,.b (0 !=0) false,.a _ _,.a _ _,.a _ _,.a _ _,.a _ _,.a _ _,.a _ _,.a _ _,.a _ _] ⟨o_a ha,bK,o_a hA,o_a hst,o_a hmv,o_a hsh,o_a hge,o_a hbl,o_a hfa,o_a hgr,o_a hlv,trivial⟩ ?_
     refine gg [.i zd (f+1) (f+1),.s (qk 15 (zz zn oo)),.a _ _] ⟨oI,o_a hso,trivial⟩ ?_
     exact ge
 ·have hfa:=AeO c r f made H (by omega) hnear hfl
  have hlen:(fallS c r f ⟨H,made,[]⟩).l.length=H.length∧(fallS c r f ⟨H,made,[]⟩).made=made∧(fallS c r f ⟨H,made,[]⟩).out.length≤1000:=by
   obtain ⟨k1,k2,k3⟩:= @AfX c r f (fallenL H) ⟨H,made,[]⟩
   refine ⟨k1,k2,?_⟩
   change ((fallenL H).foldl (fall1 c r f) ⟨H,made,[]⟩).out.length≤1000
   rw [k3]
   have hfn:= @Af9 H
   have hns:= @AbH c r
   have:=Nat.mul_le_mul (Nat.le_trans hfn hHl) hns
   simp only [List.length_nil]
   omega
  generalize fallS c r f ⟨H,made,[]⟩=F at*
  obtain ⟨FL,fm,o⟩:=F
  simp only at hlen hfa⊢
  obtain ⟨hl1,rfl,hl3⟩:=hlen
  by_cases hg:below 8 c.seed [3,f,r]≠0∨3≤(FL.countP fun e=>e.kind==3)∨Stg.room ⟨FL,fm,o⟩=false
  ·have hgr:=Adu c r f fm FL o (by omega) hg
   have e2:growS c r f ⟨FL,fm,o⟩=⟨FL,fm,o⟩:=by unfold growS;rw [if_pos hg]
   rw [e2]
   clear e2 hg hfl
   have hlv:=AbY c r f fm FL o (by omega) (by omega)
   have hso:=Aaz (leaveS c r f ⟨FL,fm,o⟩).out (by have:= @Ac0 c r f ⟨FL,fm,o⟩;unfold small;simp only at this;omega)
   split at hlv
   ·rename_i hq
    rw [show (leaveS c r f ⟨FL,fm,o⟩).out=o from Afw hq] at hso⊢
    clear hq
    generalize (leaveS c r f ⟨FL,fm,o⟩).l=Z at*
    generalize sortS z7 o=so at*
    rcases hst with hst|⟨X,hst⟩
    ·refine qq ?_
     refine gg [.a _ _,.b (0 !=0) false,.a _ _,.a _ _,.a _ _,.a _ _,.a _ _,.a _ _,.a _ _,.a _ _,.a _ _] ⟨o_a ha,bK,o_a hA,o_a hst,o_a hmv,o_a hsh,o_a hge,o_a hbl,o_a hfa,o_a hgr,o_a hlv,trivial⟩ ?_
     refine gg [.i zd (f+1) (f+1),.s (qk 15 (zz zn o)),.a _ _] ⟨oI,o_a hso,trivial⟩ ?_
     exact ge
    ·refine qq ?_
     refine gg [.a _ _,.b (0 !=0) false,.a _ _,.a _ _,.a _ _,.a _ _,.a _ _,.a _ _,.a _ _,.a _ _,.a _ _] ⟨o_a ha,bK,o_a hA,o_a hst,o_a hmv,o_a hsh,o_a hge,o_a hbl,o_a hfa,o_a hgr,o_a hlv,trivial⟩ ?_
     refine gg [.i zd (f+1) (f+1),.s (qk 15 (zz zn o)),.a _ _] ⟨oI,o_a hso,trivial⟩ ?_
     exact ge
   ·rename_i hq
    clear hq
    generalize (leaveS c r f ⟨FL,fm,o⟩).l=Z at*
    generalize hoo:(leaveS c r f ⟨FL,fm,o⟩).out=oo at*
    generalize sortS z7 oo=so at*
    rcases hst with hst|⟨X,hst⟩
    ·refine qq ?_
     refine gg [.a _ _,.b (0 !=0) false,.a _ _,.a _ _,.a _ _,.a _ _,.a _ _,.a _ _,.a _ _,.a _ _,.a _ _] ⟨o_a ha,bK,o_a hA,o_a hst,o_a hmv,o_a hsh,o_a hge,o_a hbl,o_a hfa,o_a hgr,o_a hlv,trivial⟩ ?_
     refine gg [.i zd (f+1) (f+1),.s (qk 15 (zz zn oo)),.a _ _] ⟨oI,o_a hso,trivial⟩ ?_
     exact ge
    ·refine qq ?_
     refine gg [.a _ _,.b (0 !=0) false,.a _ _,.a _ _,.a _ _,.a _ _,.a _ _,.a _ _,.a _ _,.a _ _,.a _ _] ⟨o_a ha,bK,o_a hA,o_a hst,o_a hmv,o_a hsh,o_a hge,o_a hbl,o_a hfa,o_a hgr,o_a hlv,trivial⟩ ?_
     refine gg [.i zd (f+1) (f+1),.s (qk 15 (zz zn oo)),.a _ _] ⟨oI,o_a hso,trivial⟩ ?_
     exact ge
  ·have hgr:=AcT c r f fm FL o (by omega) (by omega) (by omega) (by omega) hg
   have e2:growS c r f ⟨FL,fm,o⟩=⟨put1 FL (gemE c r f fm),fm+1,o⟩:=by unfold growS;rw [if_neg hg]
   rw [e2]
   clear e2 hg hfl
   have hpl:=(@Aa6 FL (gemE c r f fm)).2
   generalize put1 FL (gemE c r f fm)=G at*
   have hlv:=AbY c r f (fm+1) G o (by omega) (by omega)
   have hso:=Aaz (leaveS c r f ⟨G,fm+1,o⟩).out (by have:= @Ac0 c r f ⟨G,fm+1,o⟩;unfold small;simp only at this;omega)
   split at hlv
   ·rename_i hq
    rw [show (leaveS c r f ⟨G,fm+1,o⟩).out=o from Afw hq] at hso⊢
    clear hq
    generalize (leaveS c r f ⟨G,fm+1,o⟩).l=Z at*
    generalize sortS z7 o=so at*
    rcases hst with hst|⟨X,hst⟩
    ·refine qq ?_
     refine gg [.a _ _,.b (0 !=0) false,.a _ _,.a _ _,.a _ _,.a _ _,.a _ _,.a _ _,.a _ _,.a _ _,.a _ _] ⟨o_a ha,bK,o_a hA,o_a hst,o_a hmv,o_a hsh,o_a hge,o_a hbl,o_a hfa,o_a hgr,o_a hlv,trivial⟩ ?_
     refine gg [.i zd (f+1) (f+1),.s (qk 15 (zz zn o)),.a _ _] ⟨oI,o_a hso,trivial⟩ ?_
     exact ge
    ·refine qq ?_
     refine gg [.a _ _,.b (0 !=0) false,.a _ _,.a _ _,.a _ _,.a _ _,.a _ _,.a _ _,.a _ _,.a _ _,.a _ _] ⟨o_a ha,bK,o_a hA,o_a hst,o_a hmv,o_a hsh,o_a hge,o_a hbl,o_a hfa,o_a hgr,o_a hlv,trivial⟩ ?_
     refine gg [.i zd (f+1) (f+1),.s (qk 15 (zz zn o)),.a _ _] ⟨oI,o_a hso,trivial⟩ ?_
     exact ge
   ·rename_i hq
    clear hq
    generalize (leaveS c r f ⟨G,fm+1,o⟩).l=Z at*
    generalize hoo:(leaveS c r f ⟨G,fm+1,o⟩).out=oo at*
    generalize sortS z7 oo=so at*
    rcases hst with hst|⟨X,hst⟩
    ·refine qq ?_
     refine gg [.a _ _,.b (0 !=0) false,.a _ _,.a _ _,.a _ _,.a _ _,.a _ _,.a _ _,.a _ _,.a _ _,.a _ _] ⟨o_a ha,bK,o_a hA,o_a hst,o_a hmv,o_a hsh,o_a hge,o_a hbl,o_a hfa,o_a hgr,o_a hlv,trivial⟩ ?_
     refine gg [.i zd (f+1) (f+1),.s (qk 15 (zz zn oo)),.a _ _] ⟨oI,o_a hso,trivial⟩ ?_
     exact ge
    ·refine qq ?_
     refine gg [.a _ _,.b (0 !=0) false,.a _ _,.a _ _,.a _ _,.a _ _,.a _ _,.a _ _,.a _ _,.a _ _,.a _ _] ⟨o_a ha,bK,o_a hA,o_a hst,o_a hmv,o_a hsh,o_a hge,o_a hbl,o_a hfa,o_a hgr,o_a hlv,trivial⟩ ?_
     refine gg [.i zd (f+1) (f+1),.s (qk 15 (zz zn oo)),.a _ _] ⟨oI,o_a hso,trivial⟩ ?_
     exact ge
end Go.Eva.S5
namespace Go.Eva.S5
def c111:Config:=⟨1,1,1,1,0⟩
theorem Ad8:Fn cx 18 [] (.bool true):=by
 have hN:=Af2 c111
 rw [show c111.grid=c111 from Config.grid_of (by decide),show c111.err=0 from Config.err_of (by decide)] at hN
 have hS:=AaG c111 0 ⟨3,[]⟩ [Input.zero] [] (by simp) (by simp [small]) (by simp) (by decide)
 have hR:=AcN c111 0 ⟨0,[]⟩ (by simp [small])
 rw [show regionRight c111 0 ⟨0,[]⟩=true by decide] at hR
 simp only [c111,Input.zero] at hN hS hR
 generalize (stepS _ _ _ _ _).l=X at*
 generalize sortS z7 (stepS _ _ _ _ _).out=Y at*
 refine qq ?_
 refine gg [.a _ _] ⟨o_a hN,trivial⟩ ?_
 refine bO ?_ ?_
 ·refine gg [.w (0≤(1:Int)∧(1:Int)≤(1:Int)∧room (1:Nat) (24:Nat)),.l 1,.l 1] ⟨o_w ⟨(by omega),⟨(by omega),(by (simp [room,appendMax]))⟩⟩,trivial⟩ ?_
  refine bO ?_ ?_
  all_goals
   refine gg [.s (qk 3 [T.agg [ti 0,ti 0,T.bool false]]),.a _ _,.b (flats [zt (Region.mk 4 X),qk 15 (zz zn Y),ti 0]) false,.b (0==0) true,.tt,.tt,.tt,.b (4==4) true,.tt,.tt,.a _ _,.tt] ⟨o_a hS,bK,bK,bK,o_a hR,trivial⟩ ?_
   exact ge
 ·refine gg [.w (0≤(1:Int)∧(1:Int)≤(1:Int)∧room (1:Nat) (24:Nat)),.l 1,.l 1,.s (qk 3 [T.agg [ti 0,ti 0,T.bool false]]),.a _ _,.b (flats [zt (Region.mk 4 X),qk 15 (zz zn Y),ti 0]) false,.b (0==0) true,.tt,.tt,.tt,.b (4==4) true,.tt,.tt,.a _ _,.tt] ⟨o_w ⟨(by omega),⟨(by omega),(by (simp [room,appendMax]))⟩⟩,o_a hS,bK,bK,bK,o_a hR,trivial⟩ ?_
  exact ge
end Go.Eva.S5
namespace Go.Eva
theorem Agv {α:Type} {lt:α→α→Bool} {x:α}: ∀ {l:List α},(insS lt l x).Perm (x::l)
 | []=> .refl _
 |y::l=>by
  unfold insS
  split
  ·exact .refl _
  ·exact (List.Perm.cons y Agv).trans (.swap x y l)
theorem AgN {α:Type} {lt:α→α→Bool}: ∀ {l acc:List α},(l.foldl (insS lt) acc).Perm (acc++l)
 | [],acc=>by simp
 |x::l,acc=>by
  rw [List.foldl_cons]
  refine AgN.trans ?_
  refine (Agv.append_right l).trans ?_
  exact List.perm_middle.symm
theorem Ajo {α:Type} {lt:α→α→Bool} {l:List α}:(sortS lt l).Perm l:=AgN
theorem Aip {c:Config} {r:Int} {s:Region} {ins:List Input} {inbox:List Cross} (h:Fine c r s ins inbox):(sortS z7 (stepS c r s ins inbox).out).length≤400:=by
 rw [Ajo.length_eq]
 have hrc:=Config.is_right h.is
 obtain ⟨hst1,hst2⟩:=Agt h
 unfold stepS restS
 generalize steerS c r s.frame ins ⟨arriveL s.ents inbox,0,[]⟩=S at*
 obtain ⟨A,made,o⟩:=S
 simp only at hst1 hst2⊢
 subst hst2
 have hM:=(AdX hst1.sane).1
 have hH:=((AdR (inbox:=inbox) hM).1).len hrc
 simp only at hH
 generalize blastsL (gemsL (shotsL (moveL c A))) inbox=H at*
 obtain ⟨hF,_,hO⟩:= @AfX c r s.frame (fallenL H) ⟨H,made,[]⟩
 change (fallS c r s.frame ⟨H,made,[]⟩).l.length=H.length at hF
 change (fallS c r s.frame ⟨H,made,[]⟩).out.length=_ at hO
 have hids:(fallenL H).length≤30:=by
  unfold fallenL
  rw [List.length_map]
  exact Nat.le_trans (List.length_filter_le ..) hH
 have hns:(c.near r).length≤9:=AbH
 have hmul:(fallenL H).length*(c.near r).length≤30*9:=Nat.mul_le_mul hids hns
 simp only [List.length_nil,Nat.zero_add] at hO
 have hG:(growS c r s.frame (fallS c r s.frame ⟨H,made,[]⟩)).l.length≤31∧(growS c r s.frame (fallS c r s.frame ⟨H,made,[]⟩)).out.length≤270:=by
  rcases @AfH c r s.frame (fallS c r s.frame ⟨H,made,[]⟩) with h|h
  ·rw [h];omega
  ·rw [h]
   have:=(@Aa6 (fallS c r s.frame ⟨H,made,[]⟩).l (gemE c r s.frame (fallS c r s.frame ⟨H,made,[]⟩).made)).2
   simp only;omega
 have:= @Ac0 c r s.frame (growS c r s.frame (fallS c r s.frame ⟨H,made,[]⟩))
 omega
end Go.Eva
namespace Go.Eva
theorem Aha {c:Config} {r f:Int} {a b:List Input} {s:Stg} {p:Entity} (h:p.kind=1→inAt a p.id=inAt b p.id):steer1 c r f a s p=steer1 c r f b s p:=by
 unfold steer1
 by_cases hk:p.kind=1
 ·rw [h hk]
 ·rw [if_pos hk,if_pos hk]
theorem AeK {c:Config} {r f:Int} {a b:List Input}: ∀ {l:List Entity} {s:Stg},(∀p∈l,p.kind=1→inAt a p.id=inAt b p.id)→l.foldl (steer1 c r f a) s=l.foldl (steer1 c r f b) s
 | [],s,_=>rfl
 |p::l,s,h=>by
  rw [List.foldl_cons,List.foldl_cons,Aha (h p (by simp))]
  exact AeK fun q hq=>h q (by simp [hq])
theorem Ai4 {c:Config} {r:Int} {s:Region} {a b:List Input} {inbox:List Cross} (h: ∀id∈presentL s.ents inbox,inAt a id=inAt b id):stepS c r s a inbox=stepS c r s b inbox:=by
 unfold stepS steerS
 rw [AeK (a:=a) (b:=b) fun p hp hk=>h p.id (List.mem_map.2 ⟨p,List.mem_filter.2 ⟨hp,by simpa using hk⟩,rfl⟩)]
def mergeI (there:List Int) (x y:List Input) (i:Nat):List Input:=y.mapIdx fun k v=>if ((k:Int)+1)∈there.take i then gt x k else v
theorem Ac8 {there:List Int} {x y:List Input} {i:Nat}:(mergeI there x y i).length=y.length:=by simp [mergeI]
theorem Aho {there:List Int} {x y:List Input}:mergeI there x y 0=y:=by
 unfold mergeI
 apply List.ext_getElem?
 intro k
 simp
theorem Ain {there:List Int} {x y:List Input} {i:Nat} (hi:i<there.length) (h1:1≤gt there i) (h2:(gt there i-1).toNat<y.length):
  (mergeI there x y i).set (gt there i-1).toNat (gt x (gt there i-1).toNat)=mergeI there x y (i+1):=by
 have ht:there.take (i+1)=there.take i++ [gt there i]:=by
  rw [List.take_add_one,gt_eq hi]
  simp [hi]
 apply List.ext_getElem?
 intro k
 rw [List.getElem?_set]
 unfold mergeI
 by_cases hk:(gt there i-1).toNat=k
 ·subst hk
  simp only [if_true,List.length_mapIdx,h2,List.getElem?_mapIdx,ht,List.getElem?_eq_getElem h2,Option.map_some]
  rw [if_pos]
  have:(((gt there i-1).toNat:Int)+1)=gt there i:=by omega
  rw [this]
  simp
 ·rw [if_neg hk]
  simp only [List.getElem?_mapIdx,ht]
  congr 1
  funext v
  have:((k:Int)+1)≠gt there i:=by omega
  simp [this]
theorem AiW {there:List Int} {x y:List Input} {id:Int} (h:id∈there) (h1:1≤id) (h2:(id-1).toNat<y.length):inAt (mergeI there x y there.length) id=inAt x id:=by
 unfold inAt
 have hl:(id-1).toNat<(mergeI there x y there.length).length:=by rw [Ac8];exact h2
 rw [gt_eq hl]
 unfold mergeI
 simp only [List.getElem_mapIdx,List.take_length]
 rw [if_pos]
 have:(((id-1).toNat:Int)+1)=id:=by omega
 rw [this]
 exact h
theorem AgD {there:List Int} {x y:List Input} {i:Nat} (hl:y.length≤x.length) (hx: ∀v∈x,v.right=true) (hy: ∀v∈y,v.right=true): ∀v∈mergeI there x y i,v.right=true:=by
 intro v hv
 unfold mergeI at hv
 obtain ⟨k,hk,rfl⟩:=List.mem_mapIdx.1 hv
 split
 ·exact hx _ (Abu (by omega))
 ·exact hy _ (List.getElem_mem hk)
theorem Ahp {c:Config} {r:Int} {s:Region} {ins:List Input} {inbox:List Cross} (h:Fine c r s ins inbox): ∀id∈presentL s.ents inbox,1≤id∧id≤c.players:=by
 intro id hid
 unfold presentL at hid
 obtain ⟨e,he,rfl⟩:=List.mem_map.1 hid
 obtain ⟨he,hk⟩:=List.mem_filter.1 he
 have:=(h.sane.ents e he).1
 exact Entity.right_player this (by simpa using hk)
end Go.Eva
namespace Go.Eva.S5
theorem AdA (a:Region) (hn:small a.ents):Fn cx 29 [a.enc,a.enc] (.bool true):=by
 have hP:=Ab6 a.ents a.ents hn
 rw [show plain a.ents a.ents=true by simp [plain]] at hP
 obtain ⟨f,l⟩:=a
 simp only at hP
 refine qq ?_
 refine gg [.b (f==f) true,.tt,.tt,.tt,.tt,.a _ _,.tt] ⟨t_bre rfl,o_a hP,trivial⟩ ?_
 refine rT (a:=qz qj [vb true] []) ?_
 (simp;done)
theorem AaS (g:Config) (q:Int) (s:Region) (x y:InputL) (there:List Int) (hx:x.length=y.length) (hy:y.length≤6) (hn:there.length≤431) (hi: ∀id∈there,1≤id∧id≤(y.length:Int)): ∀(d i:Nat),i+d=there.length→
  Is cx (.loop 6 [0,1,0,1,1,1,1,1,1,1,1,1] 0 [vi q,.ptr 0 0 0,.ptr 1 0 0,.all 2 none,.all 3 none,.t (.sl 1 (there.map ti)),vi i] [.one 5 (.t g.enc) false,.one 2 (.t s.enc) false,.arr 3 (x.map zr) (some 0) false,.arr 3 ((mergeI there x y (i)).map zr) (some 0) false])
   ⟨.exit 0,[vi q,.ptr 0 0 0,.ptr 1 0 0,.all 2 none,.all 3 none,.t (.sl 1 (there.map ti)),vi there.length],[.one 5 (.t g.enc) false,.one 2 (.t s.enc) false,.arr 3 (x.map zr) (some 0) false,.arr 3 ((mergeI there x y (there.length)).map zr) (some 0) false]⟩:=by
 intro d
 induction d with
 |zero=>
  intro i hd
  obtain rfl:i=there.length:=by omega
  generalize mergeI there x y there.length=R at*
  clear hi
  refine qq ?_
  refine gg [.n (zq (zz ti there)) (zq there),.b (decide ((↑(zq there):Int)<(↑(zq there):Int))) false] ⟨o_n (by simp),fP,trivial⟩ ?_
  exact ge
 |succ d ih=>
  intro i hd
  have hlt:i<there.length:=by omega
  have ih1:=ih (i+1) (by omega)
  obtain ⟨h1,h2⟩:=hi _ (Abu hlt)
  have hs:=Ain (x:=x) (y:=y) hlt (by omega) (by omega)
  rw [←hs] at ih1
  have hl:= @Ac8 there x y i
  clear ih hs hi
  generalize mergeI there x y i=R at*
  generalize mergeI there x y there.length=R2 at*
  refine qq ?_
  refine gg [.n (zq (zz ti there)) (zq there),.b (decide ((i:Int)<(↑(zq there):Int))) true,.w (0≤(i:Int)),.n (zy (i:Int)) i,.g (zz ti there) i (ti (gt there i)),.w (0≤(i:Int)),.n (zy (i:Int)) i,.g (zz ti there) i (ti (gt there i)),.i zd (gt there i-1) (gt there i-1),.i zd (gt there i-1) (gt there i-1),.w (0≤gt there i-(1:Int)),.l (zy (gt there i-1)),.w (zy (gt there i-(1:Int))<zq (zz zr x)),.g (zz zr x) (zy (gt there i-1)) (zr (gt x (zy (gt there i-1)))),.w (0≤gt there i-(1:Int)),.l (zy (gt there i-1))] ⟨o_n (by simp),tP,oW,nK,o_gt rfl (by assumption) (by intro h;cases h),oW,nK,o_gt rfl (by assumption) (by intro h;cases h),oI,oI,oW,o_w (by (simp;omega)),oT,oW,trivial⟩ ?_
  refine gg [.w (zy (gt there i-(1:Int))<zq (zz zr R)),.w (zy (gt there i-(1:Int))<zq (zz zr R)),.t (qk 0 (zx (zz zr R) (zy (gt there i-1)) (zr (gt x (zy (gt there i-1)))))) (qk 0 (zz zr (zx R (zy (gt there i-1)) (gt x (zy (gt there i-1)))))),.i zd ((i:Int)+1) ((↑(i+1):Int)),.a _ _] ⟨o_w (by (simp;omega)),o_w (by (simp;omega)),o_l (Aao rfl rfl),oI,o_a ih1,trivial⟩ ?_
  exact ge
theorem Ab4 (c:Config) (r frame:Int) (l:List Entity) (a b:InputL) (hl:long l) (ha1:long a) (hb1:long b):Fn cx 6 [c.enc,ti r,ti frame,.sl 9 (l.map zm),.sl 3 (a.map zr),.sl 3 (b.map zr)] (.bool true):=by
 have ha:=Ad8
 obtain ⟨hr,h1,h2,h3,h4⟩:= @Config.play_ok c
 have hC:=Ad2 c
 generalize c.play=g at*
 have hN:=Af2 g
 rw [Config.grid_of hr,Config.err_of hr] at hN
 have hG:=Aa4 g
 have hgr:g.regions=g.cols*g.rows:=by simp [z0,hr]
 have hml:=Config.mul_le hr
 have hgl:= @Config.regions_le g
 have hw:IntKind.u64.wrap g.regions=g.regions:=wu64 ⟨by omega,by omega,rfl⟩
 have hq:=AaK (n:=r) (k:=g.regions) (by omega)
 obtain ⟨q,hqe⟩: ∃q,(IntKind.u64.wrap r).tmod g.regions=q:=⟨_,rfl⟩
 rw [hqe] at hq
 have his:g.is q=true:=by simp only [Config.is,Aad];omega
 have hFa:Fine g q (playRegion g q frame l) (playRow g.players.toNat a) []:=AgF (frame:=frame) (l:=l) (ins:=a) (inbox:= []) his
 have hFb:Fine g q (playRegion g q frame l) (playRow g.players.toNat b) []:=AgF (frame:=frame) (l:=l) (ins:=b) (inbox:= []) his
 have hre:=Adr g q frame l his hl
 obtain ⟨k1,k2,k3⟩:= @Ad3 g q frame l his
 generalize playRegion g q frame l=s at*
 have hFra:=AaF g a g.players.toNat (by omega) (by omega) ha1
 have hFrb:=AaF g b g.players.toNat (by omega) (by omega) hb1
 have hla:= @AcV g.players.toNat a
 have hlb:= @AcV g.players.toNat b
 generalize playRow g.players.toNat a=x at*
 generalize playRow g.players.toNat b=y at*
 have hPr:=Aer g q s [] (by omega) (by simp)
 have hids:=Ahp hFa
 have hpl:(presentL s.ents []).length≤431:=by
  unfold presentL
  rw [List.length_map]
  refine Nat.le_trans (List.length_filter_le ..) ?_
  change s.ents.length≤431
  omega
 have hFm:Fine g q s (mergeI (presentL s.ents []) x y (presentL s.ents []).length) []:=
  ⟨hFb.is,hFb.frame,hFb.srt,hFb.things,hFb.ents,by rw [Ac8];exact hFb.len,AgD (by omega) hFa.ins hFb.ins,hFb.box⟩
 have hst:stepS g q s (mergeI (presentL s.ents []) x y (presentL s.ents []).length) []=stepS g q s x []:=
  Ai4 fun id hid=>AiW hid (hids id hid).1 (by have:=hids id hid;omega)
 have hLo:=AaS g q s x y (presentL s.ents []) (by omega) (by omega) hpl (fun id hid=>by have:=hids id hid;omega) (presentL s.ents []).length 0 (Nat.zero_add _)
 rw [Aho] at hLo
 have hml2:= @Ac8 (presentL s.ents []) x y (presentL s.ents []).length
 have hS:=AaG g q s x [] (by omega) (by unfold small;omega) (by simp) (AdJ hFa)
 have hSm:=AaG g q s (mergeI (presentL s.ents []) x y (presentL s.ents []).length) [] (by omega) (by unfold small;omega) (by simp) (AdJ hFm)
 rw [hst] at hSm
 have hn:=Aj6 (AdJ hFa)
 have hol:(sortS z7 (stepS g q s x []).out).length≤400:=Aip hFa
 generalize mergeI (presentL s.ents []) x y (presentL s.ents []).length=z at*
 generalize (stepS g q s x []).l=X at*
 generalize sortS z7 (stepS g q s x []).out=out at*
 generalize presentL s.ents []=there at*
 have hR:=AdA ⟨s.frame+1,X⟩ (by unfold small;simp only;omega)
 have hP:=AbQ out out (by unfold small;omega)
 rw [show plain out out=true by simp [plain]] at hP
 clear hids hFa hFb hFm hst hgr k1
 obtain ⟨f,L⟩:=s
 simp only at hre hS hSm hR hPr k2 k3 hn hLo⊢
 refine qq ?_
 refine gg [.a _ _,.a _ _,.a _ _,.b (!true) false,.ff,.ff,.b (0 !=0) false,.i zf r (zp zf r),.a _ _,.i zf (z0 g) (z0 g),.w (z0 g≠(0:Int)),.t (T.int zf (zg (zp zf r) (z0 g))) (T.int zf q),.i zd q q,.a _ _,.a _ _,.w (0≤(0:Int))] ⟨o_a hC,o_a hN,o_a ha,bK,bK,o_i rfl,o_a hG,oU,oW,o_t (by rw [hqe]),oI,o_a hre,o_a hFra,oW,trivial⟩ ?_
 refine gg [.l 0,.w ((0:Nat)<(1:Nat)),.a _ _,.w (0≤(0:Int)),.l 0,.w ((0:Nat)<(1:Nat)),.a _ _,.a _ _,.a _ _,.b (flats [zt (Region.mk (f+1) X),qk 15 (zz zn out),ti 0]) false,.a _ _,.b (flats [zt (Region.mk (f+1) X),qk 15 (zz zn out),ti 0]) false,.a _ _,.tt,.tt,.tt] ⟨oW,o_a hFrb,oW,oW,o_a hPr,o_a hLo,o_a hS,bK,o_a hSm,bK,o_a hR,trivial⟩ ?_
 refine gg [.a _ _,.tt,.tt,.tt,.tt,.tt] ⟨o_a hP,trivial⟩ ?_
 exact ge
end Go.Eva.S5
namespace Go.Eva.S5
open Go.Proofs
theorem cxTy:CxTy Tryz.prog cx:=AkO (by decide+kernel) (by decide+kernel) (⟨⟨Tryz.f179,by kernel_rfl,by decide+kernel,by kernel_rfl,by kernel_rfl,by kernel_rfl,by kernel_rfl,48,by kernel_rfl⟩,trivial⟩)
theorem ok6:FnOK Tryz.prog cx 6 fi6 Tryz.f6:=mkOk
theorem ok16:FnOK Tryz.prog cx 16 fi16 Tryz.f16:=mkOk
theorem ok17:FnOK Tryz.prog cx 17 fi17 Tryz.f17:=mkOk
theorem ok18:FnOK Tryz.prog cx 18 fi18 Tryz.f18:=mkOk
theorem ok19:FnOK Tryz.prog cx 19 fi19 Tryz.f19:=mkOk
theorem ok20:FnOK Tryz.prog cx 20 fi20 Tryz.f20:=mkOk
theorem ok22:FnOK Tryz.prog cx 22 fi22 Tryz.f22:=mkOk
theorem ok23:FnOK Tryz.prog cx 23 fi23 Tryz.f23:=mkOk
theorem ok29:FnOK Tryz.prog cx 29 fi29 Tryz.f29:=mkOk
theorem ok30:FnOK Tryz.prog cx 30 fi30 Tryz.f30:=mkOk
theorem ok31:FnOK Tryz.prog cx 31 fi31 Tryz.f31:=mkOk
theorem ok45:FnOK Tryz.prog cx 45 fi45 Tryz.f45:=mkOk
theorem ok52:FnOK Tryz.prog cx 52 fi52 Tryz.f52:=mkOk
theorem ok53:FnOK Tryz.prog cx 53 fi53 Tryz.f53:=mkOk
theorem ok54:FnOK Tryz.prog cx 54 fi54 Tryz.f54:=mkOk
theorem ok55:FnOK Tryz.prog cx 55 fi55 Tryz.f55:=mkOk
theorem ok56:FnOK Tryz.prog cx 56 fi56 Tryz.f56:=mkOk
theorem ok57:FnOK Tryz.prog cx 57 fi57 Tryz.f57:=mkOk
theorem ok58:FnOK Tryz.prog cx 58 fi58 Tryz.f58:=mkOk
theorem ok59:FnOK Tryz.prog cx 59 fi59 Tryz.f59:=mkOk
theorem ok60:FnOK Tryz.prog cx 60 fi60 Tryz.f60:=mkOk
theorem ok61:FnOK Tryz.prog cx 61 fi61 Tryz.f61:=mkOk
theorem ok62:FnOK Tryz.prog cx 62 fi62 Tryz.f62:=mkOk
theorem ok63:FnOK Tryz.prog cx 63 fi63 Tryz.f63:=mkOk
theorem ok64:FnOK Tryz.prog cx 64 fi64 Tryz.f64:=mkOk
theorem ok65:FnOK Tryz.prog cx 65 fi65 Tryz.f65:=mkOk
theorem ok66:FnOK Tryz.prog cx 66 fi66 Tryz.f66:=mkOk
theorem ok67:FnOK Tryz.prog cx 67 fi67 Tryz.f67:=mkOk
theorem ok68:FnOK Tryz.prog cx 68 fi68 Tryz.f68:=mkOk
theorem ok69:FnOK Tryz.prog cx 69 fi69 Tryz.f69:=mkOk
theorem ok70:FnOK Tryz.prog cx 70 fi70 Tryz.f70:=mkOk
theorem ok71:FnOK Tryz.prog cx 71 fi71 Tryz.f71:=mkOk
theorem ok75:FnOK Tryz.prog cx 75 fi75 Tryz.f75:=mkOk
theorem ok76:FnOK Tryz.prog cx 76 fi76 Tryz.f76:=mkOk
theorem ok77:FnOK Tryz.prog cx 77 fi77 Tryz.f77:=mkOk
theorem ok78:FnOK Tryz.prog cx 78 fi78 Tryz.f78:=mkOk
theorem ok79:FnOK Tryz.prog cx 79 fi79 Tryz.f79:=mkOk
theorem ok81:FnOK Tryz.prog cx 81 fi81 Tryz.f81:=mkOk
theorem ok82:FnOK Tryz.prog cx 82 fi82 Tryz.f82:=mkOk
theorem ok83:FnOK Tryz.prog cx 83 fi83 Tryz.f83:=mkOk
theorem ok85:FnOK Tryz.prog cx 85 fi85 Tryz.f85:=mkOk
theorem ok86:FnOK Tryz.prog cx 86 fi86 Tryz.f86:=mkOk
theorem ok89:FnOK Tryz.prog cx 89 fi89 Tryz.f89:=mkOk
theorem ok91:FnOK Tryz.prog cx 91 fi91 Tryz.f91:=mkOk
theorem ok92:FnOK Tryz.prog cx 92 fi92 Tryz.f92:=mkOk
theorem ok93:FnOK Tryz.prog cx 93 fi93 Tryz.f93:=mkOk
theorem ok94:FnOK Tryz.prog cx 94 fi94 Tryz.f94:=mkOk
theorem ok95:FnOK Tryz.prog cx 95 fi95 Tryz.f95:=mkOk
theorem ok96:FnOK Tryz.prog cx 96 fi96 Tryz.f96:=mkOk
theorem ok97:FnOK Tryz.prog cx 97 fi97 Tryz.f97:=mkOk
theorem ok98:FnOK Tryz.prog cx 98 fi98 Tryz.f98:=mkOk
theorem ok99:FnOK Tryz.prog cx 99 fi99 Tryz.f99:=mkOk
theorem ok100:FnOK Tryz.prog cx 100 fi100 Tryz.f100:=mkOk
theorem ok101:FnOK Tryz.prog cx 101 fi101 Tryz.f101:=mkOk
theorem ok102:FnOK Tryz.prog cx 102 fi102 Tryz.f102:=mkOk
theorem ok103:FnOK Tryz.prog cx 103 fi103 Tryz.f103:=mkOk
theorem ok104:FnOK Tryz.prog cx 104 fi104 Tryz.f104:=mkOk
theorem ok105:FnOK Tryz.prog cx 105 fi105 Tryz.f105:=mkOk
theorem ok106:FnOK Tryz.prog cx 106 fi106 Tryz.f106:=mkOk
theorem ok107:FnOK Tryz.prog cx 107 fi107 Tryz.f107:=mkOk
theorem ok108:FnOK Tryz.prog cx 108 fi108 Tryz.f108:=mkOk
theorem ok109:FnOK Tryz.prog cx 109 fi109 Tryz.f109:=mkOk
theorem ok110:FnOK Tryz.prog cx 110 fi110 Tryz.f110:=mkOk
theorem ok111:FnOK Tryz.prog cx 111 fi111 Tryz.f111:=mkOk
theorem ok112:FnOK Tryz.prog cx 112 fi112 Tryz.f112:=mkOk
theorem ok113:FnOK Tryz.prog cx 113 fi113 Tryz.f113:=mkOk
theorem ok114:FnOK Tryz.prog cx 114 fi114 Tryz.f114:=mkOk
theorem ok115:FnOK Tryz.prog cx 115 fi115 Tryz.f115:=mkOk
theorem ok116:FnOK Tryz.prog cx 116 fi116 Tryz.f116:=mkOk
theorem ok117:FnOK Tryz.prog cx 117 fi117 Tryz.f117:=mkOk
theorem ok118:FnOK Tryz.prog cx 118 fi118 Tryz.f118:=mkOk
theorem ok119:FnOK Tryz.prog cx 119 fi119 Tryz.f119:=mkOk
theorem ok120:FnOK Tryz.prog cx 120 fi120 Tryz.f120:=mkOk
theorem ok121:FnOK Tryz.prog cx 121 fi121 Tryz.f121:=mkOk
theorem ok122:FnOK Tryz.prog cx 122 fi122 Tryz.f122:=mkOk
theorem ok123:FnOK Tryz.prog cx 123 fi123 Tryz.f123:=mkOk
theorem ok124:FnOK Tryz.prog cx 124 fi124 Tryz.f124:=mkOk
theorem ok125:FnOK Tryz.prog cx 125 fi125 Tryz.f125:=mkOk
theorem ok126:FnOK Tryz.prog cx 126 fi126 Tryz.f126:=mkOk
theorem ok127:FnOK Tryz.prog cx 127 fi127 Tryz.f127:=mkOk
theorem ok128:FnOK Tryz.prog cx 128 fi128 Tryz.f128:=mkOk
theorem ok129:FnOK Tryz.prog cx 129 fi129 Tryz.f129:=mkOk
theorem ok146:FnOK Tryz.prog cx 146 fi146 Tryz.f146:=mkOk
theorem ok147:FnOK Tryz.prog cx 147 fi147 Tryz.f147:=mkOk
theorem ok148:FnOK Tryz.prog cx 148 fi148 Tryz.f148:=mkOk
theorem ok149:FnOK Tryz.prog cx 149 fi149 Tryz.f149:=mkOk
theorem ok154:FnOK Tryz.prog cx 154 fi154 Tryz.f154:=mkOk
theorem ok155:FnOK Tryz.prog cx 155 fi155 Tryz.f155:=mkOk
theorem ok156:FnOK Tryz.prog cx 156 fi156 Tryz.f156:=mkOk
theorem ok157:FnOK Tryz.prog cx 157 fi157 Tryz.f157:=mkOk
theorem ok158:FnOK Tryz.prog cx 158 fi158 Tryz.f158:=mkOk
theorem ok159:FnOK Tryz.prog cx 159 fi159 Tryz.f159:=mkOk
theorem ok160:FnOK Tryz.prog cx 160 fi160 Tryz.f160:=mkOk
theorem ok161:FnOK Tryz.prog cx 161 fi161 Tryz.f161:=mkOk
theorem ok162:FnOK Tryz.prog cx 162 fi162 Tryz.f162:=mkOk
theorem ok163:FnOK Tryz.prog cx 163 fi163 Tryz.f163:=mkOk
theorem ok164:FnOK Tryz.prog cx 164 fi164 Tryz.f164:=mkOk
theorem ok165:FnOK Tryz.prog cx 165 fi165 Tryz.f165:=mkOk
theorem ok166:FnOK Tryz.prog cx 166 fi166 Tryz.f166:=mkOk
theorem ok167:FnOK Tryz.prog cx 167 fi167 Tryz.f167:=mkOk
theorem ok168:FnOK Tryz.prog cx 168 fi168 Tryz.f168:=mkOk
theorem ok169:FnOK Tryz.prog cx 169 fi169 Tryz.f169:=mkOk
theorem ok170:FnOK Tryz.prog cx 170 fi170 Tryz.f170:=mkOk
theorem ok171:FnOK Tryz.prog cx 171 fi171 Tryz.f171:=mkOk
theorem ok172:FnOK Tryz.prog cx 172 fi172 Tryz.f172:=mkOk
theorem ok173:FnOK Tryz.prog cx 173 fi173 Tryz.f173:=mkOk
theorem ok180:FnOK Tryz.prog cx 180 fi180 Tryz.f180:=mkOk
theorem ok183:FnOK Tryz.prog cx 183 fi183 Tryz.f183:=mkOk
theorem ok184:FnOK Tryz.prog cx 184 fi184 Tryz.f184:=mkOk
theorem ok185:FnOK Tryz.prog cx 185 fi185 Tryz.f185:=mkOk
theorem ok186:FnOK Tryz.prog cx 186 fi186 Tryz.f186:=mkOk
theorem ok187:FnOK Tryz.prog cx 187 fi187 Tryz.f187:=mkOk
theorem ok192:FnOK Tryz.prog cx 192 fi192 Tryz.f192:=mkOk
theorem ok194:FnOK Tryz.prog cx 194 fi194 Tryz.f194:=mkOk
theorem ok195:FnOK Tryz.prog cx 195 fi195 Tryz.f195:=mkOk
theorem ok197:FnOK Tryz.prog cx 197 fi197 Tryz.f197:=mkOk
theorem fnsOK:FnsOK Tryz.prog cx:=Akh (⟨Aac _,⟨Aac _,⟨Aac _,⟨Aac _,⟨Aac _,⟨Aab ok31,⟨Aab ok63,⟨Aab ok127,trivial,trivial⟩,⟨Aac _,trivial,trivial⟩⟩,⟨Aab ok95,⟨Aab ok159,trivial,trivial⟩,trivial⟩⟩,⟨Aac _,⟨Aab ok79,⟨Aac _,trivial,trivial⟩,⟨Aac _,trivial,trivial⟩⟩,⟨Aab ok111,⟨Aac _,trivial,trivial⟩,trivial⟩⟩⟩,⟨Aab ok23,⟨Aac _,⟨Aab ok71,⟨Aac _,trivial,trivial⟩,⟨Aac _,trivial,trivial⟩⟩,⟨Aab ok103,⟨Aab ok167,trivial,trivial⟩,trivial⟩⟩,⟨Aab ok55,⟨Aac _,⟨Aac _,trivial,trivial⟩,trivial⟩,⟨Aab ok119,⟨Aab ok183,trivial,trivial⟩,trivial⟩⟩⟩⟩,⟨Aac _,⟨Aab ok19,⟨Aac _,⟨Aab ok67,⟨Aac _,trivial,trivial⟩,⟨Aab ok195,trivial,trivial⟩⟩,⟨Aab ok99,⟨Aab ok163,trivial,trivial⟩,trivial⟩⟩,⟨Aac _,⟨Aab ok83,⟨Aab ok147,trivial,trivial⟩,⟨Aac _,trivial,trivial⟩⟩,⟨Aab ok115,⟨Aac _,trivial,trivial⟩,trivial⟩⟩⟩,⟨Aac _,⟨Aac _,⟨Aab ok75,⟨Aac _,trivial,trivial⟩,⟨Aac _,trivial,trivial⟩⟩,⟨Aab ok107,⟨Aab ok171,trivial,trivial⟩,trivial⟩⟩,⟨Aab ok59,⟨Aab ok91,⟨Aab ok155,trivial,trivial⟩,trivial⟩,⟨Aab ok123,⟨Aab ok187,trivial,trivial⟩,trivial⟩⟩⟩⟩⟩,⟨Aac _,⟨Aac _,⟨Aab ok17,⟨Aac _,⟨Aab ok65,⟨Aab ok129,trivial,trivial⟩,⟨Aac _,trivial,trivial⟩⟩,⟨Aab ok97,⟨Aab ok161,trivial,trivial⟩,trivial⟩⟩,⟨Aac _,⟨Aab ok81,⟨Aac _,trivial,trivial⟩,⟨Aac _,trivial,trivial⟩⟩,⟨Aab ok113,⟨Aac _,trivial,trivial⟩,trivial⟩⟩⟩,⟨Aac _,⟨Aac _,⟨Aac _,⟨Aac _,trivial,trivial⟩,⟨Aac _,trivial,trivial⟩⟩,⟨Aab ok105,⟨Aab ok169,trivial,trivial⟩,trivial⟩⟩,⟨Aab ok57,⟨Aab ok89,⟨Aac _,trivial,trivial⟩,trivial⟩,⟨Aab ok121,⟨Aab ok185,trivial,trivial⟩,trivial⟩⟩⟩⟩,⟨Aac _,⟨Aac _,⟨Aac _,⟨Aab ok69,⟨Aac _,trivial,trivial⟩,⟨Aab ok197,trivial,trivial⟩⟩,⟨Aab ok101,⟨Aab ok165,trivial,trivial⟩,trivial⟩⟩,⟨Aab ok53,⟨Aab ok85,⟨Aab ok149,trivial,trivial⟩,⟨Aac _,trivial,trivial⟩⟩,⟨Aab ok117,⟨Aac _,trivial,trivial⟩,trivial⟩⟩⟩,⟨Aab ok29,⟨Aab ok45,⟨Aab ok77,⟨Aac _,trivial,trivial⟩,⟨Aac _,trivial,trivial⟩⟩,⟨Aab ok109,⟨Aab ok173,trivial,trivial⟩,trivial⟩⟩,⟨Aab ok61,⟨Aab ok93,⟨Aab ok157,trivial,trivial⟩,trivial⟩,⟨Aab ok125,⟨Aac _,trivial,trivial⟩,trivial⟩⟩⟩⟩⟩⟩,⟨Aac _,⟨Aac _,⟨Aac _,⟨Aab ok16,⟨Aac _,⟨Aab ok64,⟨Aab ok128,trivial,trivial⟩,⟨Aab ok192,trivial,trivial⟩⟩,⟨Aab ok96,⟨Aab ok160,trivial,trivial⟩,trivial⟩⟩,⟨Aac _,⟨Aac _,⟨Aac _,trivial,trivial⟩,⟨Aac _,trivial,trivial⟩⟩,⟨Aab ok112,⟨Aac _,trivial,trivial⟩,trivial⟩⟩⟩,⟨Aac _,⟨Aac _,⟨Aac _,⟨Aac _,trivial,trivial⟩,⟨Aac _,trivial,trivial⟩⟩,⟨Aab ok104,⟨Aab ok168,trivial,trivial⟩,trivial⟩⟩,⟨Aab ok56,⟨Aac _,⟨Aac _,trivial,trivial⟩,trivial⟩,⟨Aab ok120,⟨Aab ok184,trivial,trivial⟩,trivial⟩⟩⟩⟩,⟨Aac _,⟨Aab ok20,⟨Aac _,⟨Aab ok68,⟨Aac _,trivial,trivial⟩,⟨Aac _,trivial,trivial⟩⟩,⟨Aab ok100,⟨Aab ok164,trivial,trivial⟩,trivial⟩⟩,⟨Aab ok52,⟨Aac _,⟨Aab ok148,trivial,trivial⟩,⟨Aac _,trivial,trivial⟩⟩,⟨Aab ok116,⟨Aab ok180,trivial,trivial⟩,trivial⟩⟩⟩,⟨Aac _,⟨Aac _,⟨Aab ok76,⟨Aac _,trivial,trivial⟩,⟨Aac _,trivial,trivial⟩⟩,⟨Aab ok108,⟨Aab ok172,trivial,trivial⟩,trivial⟩⟩,⟨Aab ok60,⟨Aab ok92,⟨Aab ok156,trivial,trivial⟩,trivial⟩,⟨Aab ok124,⟨Aac _,trivial,trivial⟩,trivial⟩⟩⟩⟩⟩,⟨Aab ok6,⟨Aac _,⟨Aab ok18,⟨Aac _,⟨Aab ok66,⟨Aac _,trivial,trivial⟩,⟨Aab ok194,trivial,trivial⟩⟩,⟨Aab ok98,⟨Aab ok162,trivial,trivial⟩,trivial⟩⟩,⟨Aac _,⟨Aab ok82,⟨Aab ok146,trivial,trivial⟩,⟨Aac _,trivial,trivial⟩⟩,⟨Aab ok114,⟨Aac _,trivial,trivial⟩,trivial⟩⟩⟩,⟨Aac _,⟨Aac _,⟨Aac _,⟨Aac _,trivial,trivial⟩,⟨Aac _,trivial,trivial⟩⟩,⟨Aab ok106,⟨Aab ok170,trivial,trivial⟩,trivial⟩⟩,⟨Aab ok58,⟨Aac _,⟨Aab ok154,trivial,trivial⟩,trivial⟩,⟨Aab ok122,⟨Aab ok186,trivial,trivial⟩,trivial⟩⟩⟩⟩,⟨Aac _,⟨Aab ok22,⟨Aac _,⟨Aab ok70,⟨Aac _,trivial,trivial⟩,⟨Aac _,trivial,trivial⟩⟩,⟨Aab ok102,⟨Aab ok166,trivial,trivial⟩,trivial⟩⟩,⟨Aab ok54,⟨Aab ok86,⟨Aac _,trivial,trivial⟩,trivial⟩,⟨Aab ok118,⟨Aac _,trivial,trivial⟩,trivial⟩⟩⟩,⟨Aab ok30,⟨Aac _,⟨Aab ok78,⟨Aac _,trivial,trivial⟩,⟨Aac _,trivial,trivial⟩⟩,⟨Aab ok110,⟨Aac _,trivial,trivial⟩,trivial⟩⟩,⟨Aab ok62,⟨Aab ok94,⟨Aab ok158,trivial,trivial⟩,trivial⟩,⟨Aab ok126,⟨Aac _,trivial,trivial⟩,trivial⟩⟩⟩⟩⟩⟩⟩)
end Go.Eva.S5
namespace Go.Eva
section
variable {cx:Cx} {t m:Nat} {ts:List T} {i:TI}
theorem AhR (hti:cx.ti.get t=some i) (hk:i.ty= .int .i64) (h:Conf cx m t ts): ∃n,ts= [ti n]∧i64 n:=by
 cases m with
 |zero=>exact h.elim
 |succ m=>
  simp only [Conf,hti,hk] at h
  obtain ⟨n,rfl,hw⟩:=h
  refine ⟨n,rfl,?_⟩
  simp [Lit.wf,IntKind.min,IntKind.max,IntKind.signed,IntKind.bits] at hw
  exact ⟨by omega,by omega⟩
theorem Akt (hti:cx.ti.get t=some i) (hk:i.ty= .int .u64) (h:Conf cx m t ts): ∃n,ts= [.int .u64 n]∧0≤n∧n≤18446744073709551615:=by
 cases m with
 |zero=>exact h.elim
 |succ m=>
  simp only [Conf,hti,hk] at h
  obtain ⟨n,rfl,hw⟩:=h
  refine ⟨n,rfl,?_⟩
  simp [Lit.wf,IntKind.min,IntKind.max,IntKind.signed,IntKind.bits] at hw
  exact ⟨by omega,by omega⟩
theorem AiM (hti:cx.ti.get t=some i) (hk:i.ty= .bool) (h:Conf cx m t ts): ∃b,ts= [.bool b]:=by
 cases m with
 |zero=>exact h.elim
 |succ m=>simpa only [Conf,hti,hk] using h
theorem Ade {fs:List (Nat×Nat)} (hti:cx.ti.get t=some i) (hk:i.ty= .struct fs) (h:Conf cx (m+1) t ts):ts.length=i.size∧ ∀p∈fs,Conf cx m p.2 ((ts.drop p.1).take (sizeOf cx p.2)):=by
 simpa only [Conf,hti,hk] using h
theorem Ait {e:Nat} (hti:cx.ti.get t=some i) (hk:i.ty= .slice e) (h:Conf cx (m+1) t ts):
  ∃xs,ts= [.sl (sizeOf cx e) xs]∧xs.length≤maxLen∧xs.length*bytesOf cx e≤reachBytes∧ ∀x∈xs,x≠ .any∧(isStruct cx e=true→ ∃l,x= .agg l)∧(isStruct cx e=false→x.cells= [x])∧Conf cx m e x.cells:=by
 simpa only [Conf,hti,hk] using h
theorem Aa7 {j k:Nat} {fs:List (Nat×Nat)} (hi:cx.ti.get k=some i) (hk:i.ty= .int .i64) (hs:sizeOf cx k=1) (h: ∀p∈fs,Conf cx m p.2 ((ts.drop p.1).take (sizeOf cx p.2))) (hp:(j,k)∈fs): ∃n,ts[j]?=some (ti n)∧i64 n:=by
 have:=h _ hp
 simp only [hs] at this
 obtain ⟨n,h1,h2⟩:=AhR hi hk this
 refine ⟨n,?_,h2⟩
 have h3:=congrArg (fun l=>l[0]?) h1
 simpa [List.getElem?_take,List.getElem?_drop] using h3
theorem AjL {α:Type} {f:α→T} {P:α→Prop}: ∀ {xs:List T},(∀x∈xs,∃e,x=f e∧P e)→ ∃l:List α,xs=l.map f∧ ∀e∈l,P e
 | [],_=>⟨[],rfl,by simp⟩
 |x::xs,h=>by
  obtain ⟨e,rfl,he⟩:=h x (List.mem_cons_self ..)
  obtain ⟨l,rfl,hl⟩:=AjL fun y hy=>h y (List.mem_cons_of_mem _ hy)
  exact ⟨e::l,rfl,fun y hy=>by
   rcases List.mem_cons.1 hy with rfl|hy
   ·exact he
   ·exact hl y hy⟩
def Entity.ok (e:Entity):Prop:=i64 e.id∧i64 e.kind∧i64 e.x∧i64 e.y∧i64 e.vx∧i64 e.vy∧i64 e.health∧i64 e.age∧i64 e.owner
def Input.ok (e:Input):Prop:=i64 e.dx∧i64 e.dy
def Cross.ok (c:Cross):Prop:=i64 c.kind∧i64 c.frm∧i64 c.to∧i64 c.frame∧c.ent.ok∧i64 c.x∧i64 c.y
theorem nine {ts:List T} (h:ts.length=9) {a0 a1 a2 a3 a4 a5 a6 a7 a8:T} (h0:ts[0]?=some a0) (h1:ts[1]?=some a1) (h2:ts[2]?=some a2) (h3:ts[3]?=some a3) (h4:ts[4]?=some a4)
  (h5:ts[5]?=some a5) (h6:ts[6]?=some a6) (h7:ts[7]?=some a7) (h8:ts[8]?=some a8):ts= [a0,a1,a2,a3,a4,a5,a6,a7,a8]:=by
 match ts,h with
 | [_,_,_,_,_,_,_,_,_],_=>simp_all
theorem Ahj {k:Nat} {j:TI} (hk:cx.ti.get k=some j) (hkt:j.ty= .int .i64) (hs:sizeOf cx k=1) (hti:cx.ti.get t=some i) (hty:i.ty= .struct [(0,k),(1,k),(2,k),(3,k),(4,k),(5,k),(6,k),(7,k),(8,k)]) (hsz:i.size=9)
  (h:Conf cx (m+1) t ts): ∃e:Entity,ts=e.enc.cells∧e.ok:=by
 obtain ⟨h1,h2⟩:=Ade hti hty h
 rw [hsz] at h1
 obtain ⟨n0,a0,b0⟩:=Aa7 (j:=0) hk hkt hs h2 (by simp)
 obtain ⟨n1,a1,b1⟩:=Aa7 (j:=1) hk hkt hs h2 (by simp)
 obtain ⟨n2,a2,b2⟩:=Aa7 (j:=2) hk hkt hs h2 (by simp)
 obtain ⟨n3,a3,b3⟩:=Aa7 (j:=3) hk hkt hs h2 (by simp)
 obtain ⟨n4,a4,b4⟩:=Aa7 (j:=4) hk hkt hs h2 (by simp)
 obtain ⟨n5,a5,b5⟩:=Aa7 (j:=5) hk hkt hs h2 (by simp)
 obtain ⟨n6,a6,b6⟩:=Aa7 (j:=6) hk hkt hs h2 (by simp)
 obtain ⟨n7,a7,b7⟩:=Aa7 (j:=7) hk hkt hs h2 (by simp)
 obtain ⟨n8,a8,b8⟩:=Aa7 (j:=8) hk hkt hs h2 (by simp)
 exact ⟨⟨n0,n1,n2,n3,n4,n5,n6,n7,n8⟩,nine h1 a0 a1 a2 a3 a4 a5 a6 a7 a8,b0,b1,b2,b3,b4,b5,b6,b7,b8⟩
theorem Ahe {k u:Nat} {j v:TI} (hk:cx.ti.get k=some j) (hkt:j.ty= .int .i64) (hs:sizeOf cx k=1) (hu:cx.ti.get u=some v) (hut:v.ty= .int .u64) (hus:sizeOf cx u=1) (hti:cx.ti.get t=some i)
  (hty:i.ty= .struct [(0,k),(1,k),(2,k),(3,k),(4,u)]) (hsz:i.size=5) (h:Conf cx (m+1) t ts): ∃c:Config,ts=c.enc.cells∧c.ok:=by
 obtain ⟨h1,h2⟩:=Ade hti hty h
 rw [hsz] at h1
 obtain ⟨n0,a0,b0⟩:=Aa7 (j:=0) hk hkt hs h2 (by simp)
 obtain ⟨n1,a1,b1⟩:=Aa7 (j:=1) hk hkt hs h2 (by simp)
 obtain ⟨n2,a2,b2⟩:=Aa7 (j:=2) hk hkt hs h2 (by simp)
 obtain ⟨n3,a3,b3⟩:=Aa7 (j:=3) hk hkt hs h2 (by simp)
 have h4:=h2 (4,u) (by simp)
 simp only [hus] at h4
 obtain ⟨n4,a4,b4⟩:=Akt hu hut h4
 refine ⟨⟨n0,n1,n2,n3,n4⟩,?_,b0,b1,b2,b3,b4⟩
 match ts,h1 with
 | [_,_,_,_,_],_=>simp_all [Config.enc,T.cells]
theorem Af4 {k u:Nat} {j v:TI} (hk:cx.ti.get k=some j) (hkt:j.ty= .int .i64) (hs:sizeOf cx k=1) (hu:cx.ti.get u=some v) (hut:v.ty= .bool) (hus:sizeOf cx u=1) (hti:cx.ti.get t=some i)
  (hty:i.ty= .struct [(0,k),(1,k),(2,u)]) (hsz:i.size=3) (h:Conf cx (m+1) t ts): ∃c:Input,ts=c.enc.cells∧c.ok:=by
 obtain ⟨h1,h2⟩:=Ade hti hty h
 rw [hsz] at h1
 obtain ⟨n0,a0,b0⟩:=Aa7 (j:=0) hk hkt hs h2 (by simp)
 obtain ⟨n1,a1,b1⟩:=Aa7 (j:=1) hk hkt hs h2 (by simp)
 have h4:=h2 (2,u) (by simp)
 simp only [hus] at h4
 obtain ⟨n2,a2⟩:=AiM hu hut h4
 refine ⟨⟨n0,n1,n2⟩,?_,b0,b1⟩
 match ts,h1 with
 | [_,_,_],_=>simp_all [zr,T.cells]
theorem Af8 (hti:cx.ti.get t=some i) (h: ∀fs,i.ty≠ .struct fs):isStruct cx t=false:=by
 unfold isStruct
 rw [hti]
 cases i with
 |mk ty s b q=>cases ty<;>simp_all
theorem AiD {fs:List (Nat×Nat)} (hti:cx.ti.get t=some i) (h:i.ty= .struct fs):isStruct cx t=true:=by
 unfold isStruct
 rw [hti]
 cases i with
 |mk ty s b q=>simp only at h;subst h;rfl
theorem AiY (hti:cx.ti.get t=some i) (hk:i.ty= .int .i64) {x:T} (h:Arg cx m t x): ∃n,x=ti n∧i64 n:=by
 obtain ⟨h1,h2,h3,h4⟩:=h
 obtain ⟨n,h5,h6⟩:=AhR hti hk h4
 rw [h3 (Af8 hti (by rw [hk];simp))] at h5
 exact ⟨n,by simpa using h5,h6⟩
theorem AhW {α:Type} {f:α→T} {P:α→Prop} {fs:List (Nat×Nat)} (hti:cx.ti.get t=some i) (hk:i.ty= .struct fs) (hf: ∀e,∃l,f e= .agg l) (hc: ∀ {ts},Conf cx m t ts→ ∃e,ts=(f e).cells∧P e) {x:T} (h:Arg cx m t x): ∃e,x=f e∧P e:=by
 obtain ⟨h1,h2,h3,h4⟩:=h
 obtain ⟨l,rfl⟩:=h2 (AiD hti hk)
 obtain ⟨e,h5,h6⟩:=hc h4
 obtain ⟨l',hl⟩:=hf e
 rw [hl] at h5
 simp only [T.cells] at h5
 exact ⟨e,by rw [hl,h5],h6⟩
theorem AeZ {α:Type} {f:α→T} {P:α→Prop} {e s:Nat} (hti:cx.ti.get t=some i) (hk:i.ty= .slice e) (hs:sizeOf cx e=s) (hc: ∀ {x},Arg cx m e x→ ∃a,x=f a∧P a) {x:T} (h:Arg cx (m+1) t x):
  ∃l:List α,x= .sl s (l.map f)∧(∀a∈l,P a)∧l.length≤maxLen∧l.length*bytesOf cx e≤reachBytes:=by
 obtain ⟨h1,h2,h3,h4⟩:=h
 obtain ⟨xs,h5,h6,h7,h8⟩:=Ait hti hk h4
 rw [h3 (Af8 hti (by rw [hk];simp))] at h5
 obtain ⟨l,rfl,hl⟩:=AjL (f:=f) (P:=P) fun x hx=>hc (h8 x hx)
 refine ⟨l,?_,hl,by simpa using h6,by simpa using h7⟩
 rw [←hs]
 simpa using h5
end
end Go.Eva