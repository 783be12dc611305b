/- A reading of the program, proved sound against the model, and what its functions answer by it: part 3. -/
import Derived.Test.YtdlmgaiiheeigaaGreatEva2
set_option linter.unusedSimpArgs false
set_option linter.unusedVariables false
open List renaming length → zq, map → zz, replicate → zj, set → zx, take → zw, drop → zk
open Int renaming toNat → zy, tmod → zg, fdiv → zh
open Go.IntKind renaming i64 → zd, u64 → zf, wrap → zp
open BitVec renaming ofInt → zb
open Go.Eva.Entity renaming enc → zm, less → z8, right → z9, mk → qw
open Go.Eva.Cross renaming enc → zn, less → z7
open Go.Eva.Input renaming enc → zr
open Go.Eva.Region renaming enc → zt
open Go.Eva.Config renaming regions → z0, near → z6
open Go.Eva.Wp renaming ev → qq
open Go.Eva.Res renaming mk → qz
open Go.Eva.Ex renaming ret → qj, exit → qx
open Go.Eva.Ob renaming arr → qv, one → qg
open Go.Eva.T renaming sl → qk
open Go.Eva.V renaming all → qy
namespace Go.Eva.S4
def Ready (ins:List Input) (A:List Entity) (p:Entity):Prop:=(-1000000≤p.age∧p.age≤1000000)∧(p.kind=1→(1≤p.id∧p.id≤ins.length)∧ ∃x∈A,x.id=p.id)
theorem AlG (c:Config) (r f:Int) (ins:List Input) (hi0:ins.length≤1000000) (hr:0≤r∧r≤16) (hf:0≤f∧f≤10000) (R:List Entity) (hR:R.length≤1000): ∀(d i:Nat) (A:List Entity) (made:Int),i+d=R.length→A.length≤1000+i→0≤made∧made≤8→(∀j,i≤j→j<R.length→Ready ins A (gt R j))→
  Is cx (.loop 62 [0,1] 2 [.ptr 0 0 0,.t (.sl 3 (ins.map zr)),.all 1 none,vi R.length,vi i] [.one 10 (stepV c r f made (.all 2 none) (.fit 15 [])) false,.arr 9 (R.map zm) none true,.arr 9 (A.map zm) none false])
   ⟨.exit 0,[.ptr 0 0 0,.t (.sl 3 (ins.map zr)),.all 1 none,vi R.length,vi R.length],[.one 10 (stepV c r f ((R.drop i).foldl (steer1 c r f ins) ⟨A,made,[]⟩).made (.all 2 none) (.fit 15 [])) false,.arr 9 (R.map zm) none true,.arr 9 (((R.drop i).foldl (steer1 c r f ins) ⟨A,made,[]⟩).l.map zm) none false]⟩:=by
 intro d
 induction d with
 |zero=>
  intro i A made hi hA hm hP
  rw [Aac (by omega),List.foldl_nil]
  refine qq ?_
  refine gg [.b (decide ((i:Int)<(↑(zq R):Int))) false] ⟨fP,trivial⟩ ?_
  refine rT (a:=qz (qx 0) [V.ptr 0 0 0,V.t (qk 3 (zz zr ins)),qy 1 none,vi (↑(zq R):Int),vi (i:Int)] [qg 10 (V.agg [vi c.cols,vi c.rows,vi c.players,vi c.window,V.t (T.int zf c.seed),vi r,vi f,qy 2 none,vi made,V.fit 15 []]) false,qv 9 (zz zm R) none true,qv 9 (zz zm A) none false]) ?_
  ((have hq:i=R.length:=by omega);subst hq;rfl)
 |succ d ih=>
  intro i A made hi hA hm hP
  have hlt:i<R.length:=by omega
  rw [Aaf hlt,List.foldl_cons]
  obtain ⟨hage,hp⟩:=hP i (Nat.le_refl _) hlt
  by_cases hk:(gt R i).kind=1
  ·obtain ⟨hid,hx⟩:=hp hk
   have hS:=Aej (gt R i) (inAt ins (gt R i).id) hage
   have hSid:=(@AcF (gt R i) (inAt ins (gt R i).id)).1
   cases hb:(steerE (gt R i) (inAt ins (gt R i).id)).2 with
   |true=>
    rw [hb] at hS
    cases hroom:Stg.room ⟨A,made,[]⟩ with
    |true=>
     obtain ⟨hm1,_⟩:=Stg.room_iff.1 hroom
     simp only at hm1
     have hrm:=Aa2 c r f ⟨A,made,[]⟩ (by unfold small;simp only;omega)
     rw [hroom] at hrm
     have hnum:=Abj c r f made A [] hr hf (by omega)
     have e1:steer1 c r f ins ⟨A,made,[]⟩ (gt R i)=⟨setId (put1 A (shootE (steerE (gt R i) (inAt ins (gt R i).id)).1 (inAt ins (gt R i).id) (numI c r f made))) (gt R i).id (steerE (gt R i) (inAt ins (gt R i).id)).1,made+1,[]⟩:=by simp [steer1,hk,hb,hroom]
     rw [e1]
     have hsh:=Ael (steerE (gt R i) (inAt ins (gt R i).id)).1 (inAt ins (gt R i).id) (numI c r f made)
     generalize hE:(steerE (gt R i) (inAt ins (gt R i).id)).1=E at*
     generalize shootE E (inAt ins (gt R i).id) (numI c r f made)=sh at*
     have hput:=AaP A [sh] (by omega) (by simp)
     change Is cx _ ⟨_,_,[.arr 9 ((put1 A sh).map zm) none false]⟩ at hput
     have hpl:= @Abb A sh
     have hx1:=Ag0 (e:=sh) hx
     have ih1:=ih (i+1) (setId (put1 A sh) (gt R i).id E) (made+1) (by omega) (by rw [AeX];omega) (by omega) fun j h1 h2=>by
      obtain ⟨g1,g2⟩:=hP j (by omega) h2
      exact ⟨g1,fun hk=>⟨(g2 hk).1,Ad4 hx1 hSid (Ag0 (g2 hk).2)⟩⟩
     obtain ⟨k,hk1,hk2,_⟩:=AbC hx1
     rw [Abm hk1] at ih1⊢
     have hF:=Aay (put1 A sh) (gt R i).id (by unfold small;omega)
     rw [hk1] at hF
     generalize put1 A sh=B at*
     generalize numI c r f made=nn at*
     clear ih hP e1 hE hroom hx hx1 hk1
     unfold inAt at hS hsh
     refine qq ?_
     refine gg [.b (decide ((i:Int)<(↑(zq R):Int))) true,.w (0≤(i:Int)),.n (zy (i:Int)) i,.w (i<zq (zz zm R)),.g (zz zm R) i (zm (gt R i)),.b ((gt R i).kind !=1) false,.i zd ((gt R i).id-1) ((gt R i).id-1),.w (0≤(gt R i).id-(1:Int)),.l (zy ((gt R i).id-1)),.g (zz zr ins) (zy ((gt R i).id-1)) (zr (gt ins (zy ((gt R i).id-1)))),.a _ _,.tt,.tt,.a _ _,.b (flats [T.bool true]) true,.tt] ⟨tP,oW,nK,o_w (by (simp;omega)),o_gt rfl (by assumption) (by intro h;cases h),f_brn (by assumption),oI,oW,oT,o_a hS,o_a hrm,bK,trivial⟩ ?_
     refine gg [.tt] trivial ?_
     refine bO (bO (bO ?_ ?_) (bO (bO ?_ ?_) ?_)) (bO (bO (bO ?_ ?_) (bO (bO ?_ ?_) ?_)) (bO (bO (bO ?_ ?_) (bO (bO ?_ ?_) ?_)) ?_))
     all_goals
      refine gg [.a _ _,.a _ _,.a _ _,.a _ _,.b (flats [ti (k:Int)]) true,.w (0≤(k:Int)),.n (zy (k:Int)) k,.w (k<zq (zz zm B)),.w (k<zq (zz zm B)),.t (qk 0 (zx (zz zm B) k (zm E))) (qk 0 (zz zm (zx B k E))),.i zd ((i:Int)+1) ((↑(i+1):Int)),.a _ _] ⟨o_a hnum,o_a hsh,o_a hput,o_a hF,bK,oW,nK,o_w (by (simp;omega)),o_w (by (simp;omega)),o_l (Aam rfl rfl),oI,o_a ih1,trivial⟩ ?_
      exact ge
    |false=>
     have hrm:=Aa2 c r f ⟨A,made,[]⟩ (by unfold small;simp only;omega)
     rw [hroom] at hrm
     have e1:steer1 c r f ins ⟨A,made,[]⟩ (gt R i)=⟨setId A (gt R i).id {(steerE (gt R i) (inAt ins (gt R i).id)).1 with age:=0},made,[]⟩:=by simp [steer1,hk,hb,hroom]
     rw [e1]
     generalize hE:(steerE (gt R i) (inAt ins (gt R i).id)).1=E at*
     have ih1:=ih (i+1) (setId A (gt R i).id {E with age:=0}) made (by omega) (by rw [AeX];omega) hm fun j h1 h2=>by
      obtain ⟨g1,g2⟩:=hP j (by omega) h2
      exact ⟨g1,fun hk=>⟨(g2 hk).1,Ad4 hx hSid (g2 hk).2⟩⟩
     obtain ⟨k,hk1,hk2,_⟩:=AbC hx
     rw [Abm hk1] at ih1⊢
     have hF:=Aay A (gt R i).id (by unfold small;omega)
     rw [hk1] at hF
     clear ih hP e1 hE hroom hx hk1
     unfold inAt at hS
     refine qq ?_
     refine gg [.b (decide ((i:Int)<(↑(zq R):Int))) true,.w (0≤(i:Int)),.n (zy (i:Int)) i,.w (i<zq (zz zm R)),.g (zz zm R) i (zm (gt R i)),.b ((gt R i).kind !=1) false,.i zd ((gt R i).id-1) ((gt R i).id-1),.w (0≤(gt R i).id-(1:Int)),.l (zy ((gt R i).id-1)),.g (zz zr ins) (zy ((gt R i).id-1)) (zr (gt ins (zy ((gt R i).id-1)))),.a _ _,.tt,.tt,.a _ _,.b (flats [T.bool false]) true,.tt] ⟨tP,oW,nK,o_w (by (simp;omega)),o_gt rfl (by assumption) (by intro h;cases h),f_brn (by assumption),oI,oW,oT,o_a hS,o_a hrm,bK,trivial⟩ ?_
     refine gg [.ff,.tt,.a _ _,.b (flats [ti (k:Int)]) true,.w (0≤(k:Int)),.n (zy (k:Int)) k,.w (k<zq (zz zm A)),.w (k<zq (zz zm A)),.t (qk 0 (zx (zz zm A) k (T.agg [ti E.id,ti E.kind,ti E.x,ti E.y,ti E.vx,ti E.vy,ti E.health,ti 0,ti E.owner]))) (qk 0 (zz zm (zx A k (qw E.id E.kind E.x E.y E.vx E.vy E.health 0 E.owner)))),.i zd ((i:Int)+1) ((↑(i+1):Int)),.a _ _] ⟨o_a hF,bK,oW,nK,o_w (by (simp;omega)),o_w (by (simp;omega)),o_l (Aam (e:=qw E.id E.kind E.x E.y E.vx E.vy E.health 0 E.owner) rfl rfl),oI,o_a ih1,trivial⟩ ?_
     exact ge
   |false=>
    rw [hb] at hS
    have e1:steer1 c r f ins ⟨A,made,[]⟩ (gt R i)=⟨setId A (gt R i).id (steerE (gt R i) (inAt ins (gt R i).id)).1,made,[]⟩:=by simp [steer1,hk,hb]
    rw [e1]
    generalize hE:(steerE (gt R i) (inAt ins (gt R i).id)).1=E at*
    have ih1:=ih (i+1) (setId A (gt R i).id E) made (by omega) (by rw [AeX];omega) hm fun j h1 h2=>by
     obtain ⟨g1,g2⟩:=hP j (by omega) h2
     exact ⟨g1,fun hk=>⟨(g2 hk).1,Ad4 hx hSid (g2 hk).2⟩⟩
    obtain ⟨k,hk1,hk2,_⟩:=AbC hx
    rw [Abm hk1] at ih1⊢
    have hF:=Aay A (gt R i).id (by unfold small;omega)
    rw [hk1] at hF
    clear ih hP e1 hE hx hk1
    unfold inAt at hS
    refine qq ?_
    refine gg [.b (decide ((i:Int)<(↑(zq R):Int))) true,.w (0≤(i:Int)),.n (zy (i:Int)) i,.w (i<zq (zz zm R)),.g (zz zm R) i (zm (gt R i)),.b ((gt R i).kind !=1) false,.i zd ((gt R i).id-1) ((gt R i).id-1),.w (0≤(gt R i).id-(1:Int)),.l (zy ((gt R i).id-1)),.g (zz zr ins) (zy ((gt R i).id-1)) (zr (gt ins (zy ((gt R i).id-1)))),.a _ _,.ff,.ff,.ff,.ff,.ff] ⟨tP,oW,nK,o_w (by (simp;omega)),o_gt rfl (by assumption) (by intro h;cases h),f_brn (by assumption),oI,oW,oT,o_a hS,trivial⟩ ?_
    refine gg [.a _ _,.b (flats [ti (k:Int)]) true,.w (0≤(k:Int)),.n (zy (k:Int)) k,.w (k<zq (zz zm A)),.w (k<zq (zz zm A)),.t (qk 0 (zx (zz zm A) k (zm E))) (qk 0 (zz zm (zx A k E))),.i zd ((i:Int)+1) ((↑(i+1):Int)),.a _ _] ⟨o_a hF,bK,oW,nK,o_w (by (simp;omega)),o_w (by (simp;omega)),o_l (Aam rfl rfl),oI,o_a ih1,trivial⟩ ?_
    exact ge
  ·have e1:steer1 c r f ins ⟨A,made,[]⟩ (gt R i)=⟨A,made,[]⟩:=by simp [steer1,hk]
   rw [e1]
   have ih1:=ih (i+1) A made (by omega) (by omega) hm fun j h1 h2=>hP j (by omega) h2
   clear ih hP e1
   refine qq ?_
   refine gg [.b (decide ((i:Int)<(↑(zq R):Int))) true,.w (0≤(i:Int)),.n (zy (i:Int)) i,.w (i<zq (zz zm R)),.g (zz zm R) i (zm (gt R i)),.b ((gt R i).kind !=1) true,.i zd ((i:Int)+1) ((↑(i+1):Int)),.a _ _] ⟨tP,oW,nK,o_w (by (simp;omega)),o_gt rfl (by assumption) (by intro h;cases h),t_brn (by assumption),oI,o_a ih1,trivial⟩ ?_
   exact ge
theorem Amh (c:Config) (r f:Int) (ins:List Input) (hi0:ins.length≤1000000) (hr:0≤r∧r≤16) (hf:0≤f∧f≤10000): ∀(d i:Nat) (A:List Entity) (made:Int),i+d=A.length→A.length≤1000→0≤made∧made≤8→(∀j,i≤j→j<A.length→Ready ins A (gt A j))→
  Is cx (.loop 62 [0,1] 2 [.ptr 0 0 0,.t (.sl 3 (ins.map zr)),.all 1 none,vi A.length,vi i] [.one 10 (stepV c r f made (.all 1 none) (.fit 15 [])) false,.arr 9 (A.map zm) none false])
   ⟨.exit 0,[.ptr 0 0 0,.t (.sl 3 (ins.map zr)),.all 1 none,vi A.length,vi A.length],[.one 10 (stepV c r f ((A.drop i).foldl (steer1 c r f ins) ⟨A,made,[]⟩).made (.all 1 none) (.fit 15 [])) false,.arr 9 (((A.drop i).foldl (steer1 c r f ins) ⟨A,made,[]⟩).l.map zm) none false]⟩∨
  ∃X:List Entity,Is cx (.loop 62 [0,1] 2 [.ptr 0 0 0,.t (.sl 3 (ins.map zr)),.all 1 none,vi A.length,vi i] [.one 10 (stepV c r f made (.all 1 none) (.fit 15 [])) false,.arr 9 (A.map zm) none false])
   ⟨.exit 0,[.ptr 0 0 0,.t (.sl 3 (ins.map zr)),.all 1 none,vi A.length,vi A.length],[.one 10 (stepV c r f ((A.drop i).foldl (steer1 c r f ins) ⟨A,made,[]⟩).made (.all 2 none) (.fit 15 [])) false,.arr 9 (X.map zm) none true,.arr 9 (((A.drop i).foldl (steer1 c r f ins) ⟨A,made,[]⟩).l.map zm) none false]⟩:=by
 intro d
 induction d with
 |zero=>
  intro i A made hi hA hm hP
  left
  rw [Aac (by omega),List.foldl_nil]
  refine qq ?_
  refine gg [.b (decide ((i:Int)<(↑(zq A):Int))) false] ⟨fP,trivial⟩ ?_
  refine rT (a:=qz (qx 0) [V.ptr 0 0 0,V.t (qk 3 (zz zr ins)),qy 1 none,vi (↑(zq A):Int),vi (i:Int)] [qg 10 (V.agg [vi c.cols,vi c.rows,vi c.players,vi c.window,V.t (T.int zf c.seed),vi r,vi f,qy 1 none,vi made,V.fit 15 []]) false,qv 9 (zz zm A) none false]) ?_
  ((have hq:i=A.length:=by omega);subst hq;rfl)
 |succ d ih=>
  intro i A made hi hA hm hP
  have hlt:i<A.length:=by omega
  obtain ⟨hage,hp⟩:=hP i (Nat.le_refl _) hlt
  rw [Aaf hlt,List.foldl_cons]
  have step: ∀(k:Nat) (E:Entity),find A (gt A i).id=k→(∃x∈A,x.id=(gt A i).id)→E.id=(gt A i).id→(A.set k E).drop (i+1)=A.drop (i+1)∧(A.set k E).length=A.length∧ ∀j,i+1≤j→j<(A.set k E).length→Ready ins (A.set k E) (gt (A.set k E) j):=by
   intro k E hk hx hE
   have hki:=AnL hlt rfl hk
   refine ⟨AlZ (by simp) fun j h1 _=>AiS (by omega),by simp,fun j h1 h2=> ?_⟩
   rw [AiS (by omega)]
   obtain ⟨g1,g2⟩:=hP j (by omega) (by simpa using h2)
   refine ⟨g1,fun hk2=>⟨(g2 hk2).1,?_⟩⟩
   have:=Ad4 hx hE (g2 hk2).2
   rwa [Abm hk] at this
  by_cases hk:(gt A i).kind=1
  ·obtain ⟨hid,hx⟩:=hp hk
   have hS:=Aej (gt A i) (inAt ins (gt A i).id) hage
   have hSid:=(@AcF (gt A i) (inAt ins (gt A i).id)).1
   cases hb:(steerE (gt A i) (inAt ins (gt A i).id)).2 with
   |true=>
    rw [hb] at hS
    cases hroom:Stg.room ⟨A,made,[]⟩ with
    |true=>
     right
     refine ⟨A,?_⟩
     obtain ⟨hm1,_⟩:=Stg.room_iff.1 hroom
     simp only at hm1
     have hrm:=Aa2 c r f ⟨A,made,[]⟩ (by unfold small;simp only;omega)
     rw [hroom] at hrm
     have hnum:=Abj c r f made A [] hr hf (by omega)
     have e1:steer1 c r f ins ⟨A,made,[]⟩ (gt A i)=⟨setId (put1 A (shootE (steerE (gt A i) (inAt ins (gt A i).id)).1 (inAt ins (gt A i).id) (numI c r f made))) (gt A i).id (steerE (gt A i) (inAt ins (gt A i).id)).1,made+1,[]⟩:=by simp [steer1,hk,hb,hroom]
     rw [e1]
     have hsh:=Ael (steerE (gt A i) (inAt ins (gt A i).id)).1 (inAt ins (gt A i).id) (numI c r f made)
     generalize hE:(steerE (gt A i) (inAt ins (gt A i).id)).1=E at*
     generalize shootE E (inAt ins (gt A i).id) (numI c r f made)=sh at*
     have hput:=AaP A [sh] (by omega) (by simp)
     change Is cx _ ⟨_,_,[.arr 9 ((put1 A sh).map zm) none false]⟩ at hput
     have hpl:= @Abb A sh
     have hx1:=Ag0 (e:=sh) hx
     have ih1:=AlG c r f ins hi0 hr hf A hA d (i+1) (setId (put1 A sh) (gt A i).id E) (made+1) (by omega) (by rw [AeX];omega) (by omega) fun j h1 h2=>by
      obtain ⟨g1,g2⟩:=hP j (by omega) h2
      exact ⟨g1,fun hk=>⟨(g2 hk).1,Ad4 hx1 hSid (Ag0 (g2 hk).2)⟩⟩
     obtain ⟨k,hk1,hk2,_⟩:=AbC hx1
     rw [Abm hk1] at ih1⊢
     have hF:=Aay (put1 A sh) (gt A i).id (by unfold small;omega)
     rw [hk1] at hF
     generalize put1 A sh=B at*
     generalize numI c r f made=nn at*
     clear ih hP e1 hE hroom hx hx1 hk1 step
     unfold inAt at hS hsh
     refine qq ?_
     refine gg [.b (decide ((i:Int)<(↑(zq A):Int))) true,.w (0≤(i:Int)),.n (zy (i:Int)) i,.w (i<zq (zz zm A)),.g (zz zm A) i (zm (gt A i)),.b ((gt A i).kind !=1) false,.i zd ((gt A i).id-1) ((gt A i).id-1),.w (0≤(gt A i).id-(1:Int)),.l (zy ((gt A i).id-1)),.g (zz zr ins) (zy ((gt A i).id-1)) (zr (gt ins (zy ((gt A i).id-1)))),.a _ _,.tt,.tt,.a _ _,.b (flats [T.bool true]) true,.tt] ⟨tP,oW,nK,o_w (by (simp;omega)),o_gt rfl (by assumption) (by intro h;cases h),f_brn (by assumption),oI,oW,oT,o_a hS,o_a hrm,bK,trivial⟩ ?_
     refine gg [.tt] trivial ?_
     refine bO (bO (bO ?_ ?_) (bO (bO ?_ ?_) ?_)) (bO (bO (bO ?_ ?_) (bO (bO ?_ ?_) ?_)) (bO (bO (bO ?_ ?_) (bO (bO ?_ ?_) ?_)) ?_))
     all_goals
      refine gg [.a _ _,.a _ _,.a _ _,.a _ _,.b (flats [ti (k:Int)]) true,.w (0≤(k:Int)),.n (zy (k:Int)) k,.w (k<zq (zz zm B)),.w (k<zq (zz zm B)),.t (qk 0 (zx (zz zm B) k (zm E))) (qk 0 (zz zm (zx B k E))),.i zd ((i:Int)+1) ((↑(i+1):Int)),.a _ _] ⟨o_a hnum,o_a hsh,o_a hput,o_a hF,bK,oW,nK,o_w (by (simp;omega)),o_w (by (simp;omega)),o_l (Aam rfl rfl),oI,o_a ih1,trivial⟩ ?_
      exact ge
    |false=>
     have hrm:=Aa2 c r f ⟨A,made,[]⟩ (by unfold small;simp only;omega)
     rw [hroom] at hrm
     have e1:steer1 c r f ins ⟨A,made,[]⟩ (gt A i)=⟨setId A (gt A i).id {(steerE (gt A i) (inAt ins (gt A i).id)).1 with age:=0},made,[]⟩:=by simp [steer1,hk,hb,hroom]
     rw [e1]
     generalize hE:(steerE (gt A i) (inAt ins (gt A i).id)).1=E at*
     obtain ⟨k,hk1,hk2,_⟩:=AbC hx
     obtain ⟨s1,s2,s3⟩:=step k {E with age:=0} hk1 hx hSid
     rw [Abm hk1]
     have ih1:=ih (i+1) (A.set k {E with age:=0}) made (by omega) (by omega) hm s3
     rw [s1,s2] at ih1
     have hF:=Aay A (gt A i).id (by unfold small;omega)
     rw [hk1] at hF
     clear ih hP e1 hE hroom hx hk1 step s1 s2 s3
     unfold inAt at hS
     rcases ih1 with ih1|⟨X,ih1⟩
     ·left
      refine qq ?_
      refine gg [.b (decide ((i:Int)<(↑(zq A):Int))) true,.w (0≤(i:Int)),.n (zy (i:Int)) i,.w (i<zq (zz zm A)),.g (zz zm A) i (zm (gt A i)),.b ((gt A i).kind !=1) false,.i zd ((gt A i).id-1) ((gt A i).id-1),.w (0≤(gt A i).id-(1:Int)),.l (zy ((gt A i).id-1)),.g (zz zr ins) (zy ((gt A i).id-1)) (zr (gt ins (zy ((gt A i).id-1)))),.a _ _,.tt,.tt,.a _ _,.b (flats [T.bool false]) true,.tt] ⟨tP,oW,nK,o_w (by (simp;omega)),o_gt rfl (by assumption) (by intro h;cases h),f_brn (by assumption),oI,oW,oT,o_a hS,o_a hrm,bK,trivial⟩ ?_
      refine gg [.ff,.tt,.a _ _,.b (flats [ti (k:Int)]) true,.w (0≤(k:Int)),.n (zy (k:Int)) k,.w (k<zq (zz zm A)),.w (k<zq (zz zm A)),.t (qk 0 (zx (zz zm A) k (T.agg [ti E.id,ti E.kind,ti E.x,ti E.y,ti E.vx,ti E.vy,ti E.health,ti 0,ti E.owner]))) (qk 0 (zz zm (zx A k (qw E.id E.kind E.x E.y E.vx E.vy E.health 0 E.owner)))),.i zd ((i:Int)+1) ((↑(i+1):Int)),.a _ _] ⟨o_a hF,bK,oW,nK,o_w (by (simp;omega)),o_w (by (simp;omega)),o_l (Aam (e:=qw E.id E.kind E.x E.y E.vx E.vy E.health 0 E.owner) rfl rfl),oI,o_a ih1,trivial⟩ ?_
      exact ge
     ·right
      refine ⟨X,?_⟩
      refine qq ?_
      refine gg [.b (decide ((i:Int)<(↑(zq A):Int))) true,.w (0≤(i:Int)),.n (zy (i:Int)) i,.w (i<zq (zz zm A)),.g (zz zm A) i (zm (gt A i)),.b ((gt A i).kind !=1) false,.i zd ((gt A i).id-1) ((gt A i).id-1),.w (0≤(gt A i).id-(1:Int)),.l (zy ((gt A i).id-1)),.g (zz zr ins) (zy ((gt A i).id-1)) (zr (gt ins (zy ((gt A i).id-1)))),.a _ _,.tt,.tt,.a _ _,.b (flats [T.bool false]) true,.tt] ⟨tP,oW,nK,o_w (by (simp;omega)),o_gt rfl (by assumption) (by intro h;cases h),f_brn (by assumption),oI,oW,oT,o_a hS,o_a hrm,bK,trivial⟩ ?_
      refine gg [.ff,.tt,.a _ _,.b (flats [ti (k:Int)]) true,.w (0≤(k:Int)),.n (zy (k:Int)) k,.w (k<zq (zz zm A)),.w (k<zq (zz zm A)),.t (qk 0 (zx (zz zm A) k (T.agg [ti E.id,ti E.kind,ti E.x,ti E.y,ti E.vx,ti E.vy,ti E.health,ti 0,ti E.owner]))) (qk 0 (zz zm (zx A k (qw E.id E.kind E.x E.y E.vx E.vy E.health 0 E.owner)))),.i zd ((i:Int)+1) ((↑(i+1):Int)),.a _ _] ⟨o_a hF,bK,oW,nK,o_w (by (simp;omega)),o_w (by (simp;omega)),o_l (Aam (e:=qw E.id E.kind E.x E.y E.vx E.vy E.health 0 E.owner) rfl rfl),oI,o_a ih1,trivial⟩ ?_
      exact ge
   |false=>
    rw [hb] at hS
    have e1:steer1 c r f ins ⟨A,made,[]⟩ (gt A i)=⟨setId A (gt A i).id (steerE (gt A i) (inAt ins (gt A i).id)).1,made,[]⟩:=by simp [steer1,hk,hb]
    rw [e1]
    generalize hE:(steerE (gt A i) (inAt ins (gt A i).id)).1=E at*
    obtain ⟨k,hk1,hk2,_⟩:=AbC hx
    obtain ⟨s1,s2,s3⟩:=step k E hk1 hx hSid
    rw [Abm hk1]
    have ih1:=ih (i+1) (A.set k E) made (by omega) (by omega) hm s3
    rw [s1,s2] at ih1
    have hF:=Aay A (gt A i).id (by unfold small;omega)
    rw [hk1] at hF
    clear ih hP e1 hE hx hk1 step s1 s2 s3
    unfold inAt at hS
    rcases ih1 with ih1|⟨X,ih1⟩
    ·left
     refine qq ?_
     refine gg [.b (decide ((i:Int)<(↑(zq A):Int))) true,.w (0≤(i:Int)),.n (zy (i:Int)) i,.w (i<zq (zz zm A)),.g (zz zm A) i (zm (gt A i)),.b ((gt A i).kind !=1) false,.i zd ((gt A i).id-1) ((gt A i).id-1),.w (0≤(gt A i).id-(1:Int)),.l (zy ((gt A i).id-1)),.g (zz zr ins) (zy ((gt A i).id-1)) (zr (gt ins (zy ((gt A i).id-1)))),.a _ _,.ff,.ff,.ff,.ff,.ff] ⟨tP,oW,nK,o_w (by (simp;omega)),o_gt rfl (by assumption) (by intro h;cases h),f_brn (by assumption),oI,oW,oT,o_a hS,trivial⟩ ?_
     refine gg [.a _ _,.b (flats [ti (k:Int)]) true,.w (0≤(k:Int)),.n (zy (k:Int)) k,.w (k<zq (zz zm A)),.w (k<zq (zz zm A)),.t (qk 0 (zx (zz zm A) k (zm E))) (qk 0 (zz zm (zx A k E))),.i zd ((i:Int)+1) ((↑(i+1):Int)),.a _ _] ⟨o_a hF,bK,oW,nK,o_w (by (simp;omega)),o_w (by (simp;omega)),o_l (Aam rfl rfl),oI,o_a ih1,trivial⟩ ?_
     exact ge
    ·right
     refine ⟨X,?_⟩
     refine qq ?_
     refine gg [.b (decide ((i:Int)<(↑(zq A):Int))) true,.w (0≤(i:Int)),.n (zy (i:Int)) i,.w (i<zq (zz zm A)),.g (zz zm A) i (zm (gt A i)),.b ((gt A i).kind !=1) false,.i zd ((gt A i).id-1) ((gt A i).id-1),.w (0≤(gt A i).id-(1:Int)),.l (zy ((gt A i).id-1)),.g (zz zr ins) (zy ((gt A i).id-1)) (zr (gt ins (zy ((gt A i).id-1)))),.a _ _,.ff,.ff,.ff,.ff,.ff] ⟨tP,oW,nK,o_w (by (simp;omega)),o_gt rfl (by assumption) (by intro h;cases h),f_brn (by assumption),oI,oW,oT,o_a hS,trivial⟩ ?_
     refine gg [.a _ _,.b (flats [ti (k:Int)]) true,.w (0≤(k:Int)),.n (zy (k:Int)) k,.w (k<zq (zz zm A)),.w (k<zq (zz zm A)),.t (qk 0 (zx (zz zm A) k (zm E))) (qk 0 (zz zm (zx A k E))),.i zd ((i:Int)+1) ((↑(i+1):Int)),.a _ _] ⟨o_a hF,bK,oW,nK,o_w (by (simp;omega)),o_w (by (simp;omega)),o_l (Aam rfl rfl),oI,o_a ih1,trivial⟩ ?_
     exact ge
  ·have e1:steer1 c r f ins ⟨A,made,[]⟩ (gt A i)=⟨A,made,[]⟩:=by simp [steer1,hk]
   rw [e1]
   have ih1:=ih (i+1) A made (by omega) hA hm fun j h1 h2=>hP j (by omega) h2
   clear ih hP e1 step
   rcases ih1 with ih1|⟨X,ih1⟩
   ·left
    refine qq ?_
    refine gg [.b (decide ((i:Int)<(↑(zq A):Int))) true,.w (0≤(i:Int)),.n (zy (i:Int)) i,.w (i<zq (zz zm A)),.g (zz zm A) i (zm (gt A i)),.b ((gt A i).kind !=1) true,.i zd ((i:Int)+1) ((↑(i+1):Int)),.a _ _] ⟨tP,oW,nK,o_w (by (simp;omega)),o_gt rfl (by assumption) (by intro h;cases h),t_brn (by assumption),oI,o_a ih1,trivial⟩ ?_
    exact ge
   ·right
    refine ⟨X,?_⟩
    refine qq ?_
    refine gg [.b (decide ((i:Int)<(↑(zq A):Int))) true,.w (0≤(i:Int)),.n (zy (i:Int)) i,.w (i<zq (zz zm A)),.g (zz zm A) i (zm (gt A i)),.b ((gt A i).kind !=1) true,.i zd ((i:Int)+1) ((↑(i+1):Int)),.a _ _] ⟨tP,oW,nK,o_w (by (simp;omega)),o_gt rfl (by assumption) (by intro h;cases h),t_brn (by assumption),oI,o_a ih1,trivial⟩ ?_
    exact ge
theorem Ah1 (c:Config) (r f:Int) (ins:List Input) (L:List Entity) (hi0:ins.length≤1000000) (hr:0≤r∧r≤16) (hf:0≤f∧f≤10000) (hL:L.length≤1000) (hP: ∀p∈L,(-1000000≤p.age∧p.age≤1000000)∧(p.kind=1→1≤p.id∧p.id≤ins.length)):
  Is cx (.call 62 [.ptr 0 0 0,.t (.sl 3 (ins.map zr))] [.one 10 (stepV c r f 0 (.all 1 none) (.fit 15 [])) false,.arr 9 (L.map zm) none false])
   ⟨.ret,[],[.one 10 (stepV c r f (steerS c r f ins ⟨L,0,[]⟩).made (.all 1 none) (.fit 15 [])) false,.arr 9 ((steerS c r f ins ⟨L,0,[]⟩).l.map zm) none false]⟩∨
  ∃X:List Entity,Is cx (.call 62 [.ptr 0 0 0,.t (.sl 3 (ins.map zr))] [.one 10 (stepV c r f 0 (.all 1 none) (.fit 15 [])) false,.arr 9 (L.map zm) none false])
   ⟨.ret,[],[.one 10 (stepV c r f (steerS c r f ins ⟨L,0,[]⟩).made (.all 2 none) (.fit 15 [])) false,.arr 9 (X.map zm) none true,.arr 9 ((steerS c r f ins ⟨L,0,[]⟩).l.map zm) none false]⟩:=by
 have h:=Amh c r f ins hi0 hr hf L.length 0 L 0 (by omega) hL (by omega) fun j _ h2=>by
  obtain ⟨g1,g2⟩:=hP _ (Aav h2)
  exact ⟨g1,fun hk=>⟨g2 hk,_,Aav h2,rfl⟩⟩
 rw [List.drop_zero] at h
 change _∨ ∃X,_ at h
 unfold steerS
 simp only
 generalize L.foldl (steer1 c r f ins) ⟨L,0,[]⟩=S at*
 obtain ⟨A,made,o⟩:=S
 simp only at h⊢
 rcases h with h|⟨X,h⟩
 ·left
  refine qq ?_
  refine gg [.n (zq (zz zm L)) (zq L),.a _ _] ⟨o_n (by simp),o_a h,trivial⟩ ?_
  exact ge
 ·right
  refine ⟨X,?_⟩
  refine qq ?_
  refine gg [.n (zq (zz zm L)) (zq L),.a _ _] ⟨o_n (by simp),o_a h,trivial⟩ ?_
  exact ge
theorem AkQ {c:Config} {e:Entity} {l:List Entity}:moveL c (e::l)=(if (goE c e).2=true then [(goE c e).1] else [])++moveL c l:=by
 unfold moveL
 rw [List.filter_cons]
 split<;>simp
theorem Aj8 (c:Config) (r f made:Int) (L:List Entity) (hn:small L) (ha: ∀e∈L,-1000000≤e.age∧e.age≤1000000): ∀(d i:Nat) (A:List Entity),i+d=L.length→A.length≤i→
  Is cx (.loop 63 [0,1,0,1] 2 [.ptr 0 0 0,.all 2 none,.all 1 none,vi L.length,vi i] [.one 10 (stepV c r f made (.all 1 none) (.fit 15 [])) false,.arr 9 (L.map zm) none false,.arr 9 (A.map zm) none false])
   ⟨.exit 0,[.ptr 0 0 0,.all 2 none,.all 1 none,vi L.length,vi L.length],[.one 10 (stepV c r f made (.all 1 none) (.fit 15 [])) false,.arr 9 (L.map zm) none false,.arr 9 ((A++moveL c (L.drop i)).map zm) none false]⟩:=by
 unfold small at hn
 intro d
 induction d with
 |zero=>
  intro i A hi hA
  rw [Aac (by omega)]
  refine qq ?_
  refine gg [.b (decide ((i:Int)<(↑(zq L):Int))) false] ⟨fP,trivial⟩ ?_
  refine rT (a:=qz (qx 0) [V.ptr 0 0 0,qy 2 none,qy 1 none,vi (↑(zq L):Int),vi (i:Int)] [qg 10 (V.agg [vi c.cols,vi c.rows,vi c.players,vi c.window,V.t (T.int zf c.seed),vi r,vi f,qy 1 none,vi made,V.fit 15 []]) false,qv 9 (zz zm L) none false,qv 9 (zz zm A) none false]) ?_
  ((have hq:i=L.length:=by omega);subst hq;simp [moveL])
 |succ d ih=>
  intro i A hi hA
  have hlt:i<L.length:=by omega
  have hG:=Aj6 c (gt L i) (ha _ (Aav hlt))
  have ih1:=ih (i+1) A (by omega) (by omega)
  have ih2:=ih (i+1) (A++ [(goE c (gt L i)).1]) (by omega) (by simp;omega)
  clear ih
  rw [Aaf hlt,AkQ]
  generalize goE c (gt L i)=eb at*
  obtain ⟨e,b⟩:=eb
  cases b with
  |true=>
   simp only [if_true]
   rw [←List.append_assoc]
   clear ih1
   refine qq ?_
   refine gg [.b (decide ((i:Int)<(↑(zq L):Int))) true,.w (0≤(i:Int)),.n (zy (i:Int)) i,.w (i<zq (zz zm L)),.g (zz zm L) i (zm (gt L i))] ⟨tP,oW,nK,o_w (by (simp [room,appendMax];omega)),o_gt rfl (by assumption) (by intro h;cases h),trivial⟩ ?_
   refine bO ?_ ?_
   all_goals
    refine gg [.a _ _,.tt,.w ((0:Nat)<(72:Nat)),.t (qk 0 [zm e]) (qk 0 (zz zm [e])),.t (qk 0 (zz zm A++zz zm [e])) (qk 0 (zz zm (A++ [e]))),.w (room (zq (zz zm (A++ [e]))) (72:Nat)),.i zd ((i:Int)+1) ((↑(i+1):Int)),.a _ _] ⟨o_a hG,oW,o_l (Aae rfl Aah),o_l (Aag rfl rfl),o_w (by (simp [room,appendMax];omega)),o_i (w64 (by (simp [room,appendMax];omega))),o_a ih2,trivial⟩ ?_
    exact ge
  |false=>
   simp only [Bool.false_eq_true,if_false,List.nil_append]
   clear ih2
   refine qq ?_
   refine gg [.b (decide ((i:Int)<(↑(zq L):Int))) true,.w (0≤(i:Int)),.n (zy (i:Int)) i,.w (i<zq (zz zm L)),.g (zz zm L) i (zm (gt L i))] ⟨tP,oW,nK,o_w (by (simp;omega)),o_gt rfl (by assumption) (by intro h;cases h),trivial⟩ ?_
   refine bO ?_ ?_
   all_goals
    refine gg [.a _ _,.ff,.i zd ((i:Int)+1) ((↑(i+1):Int)),.a _ _] ⟨o_a hG,oI,o_a ih1,trivial⟩ ?_
    exact ge
theorem Ai3 (c:Config) (r f made:Int) (L:List Entity) (hn:small L) (ha: ∀e∈L,-1000000≤e.age∧e.age≤1000000):
  Is cx (.call 63 [.ptr 0 0 0] [.one 10 (stepV c r f made (.all 1 none) (.fit 15 [])) false,.arr 9 (L.map zm) none false])
   ⟨.ret,[],[.one 10 (stepV c r f made (.all 2 none) (.fit 15 [])) false,.arr 9 (L.map zm) none false,.arr 9 ((moveL c L).map zm) none false]⟩:=by
 have h:=Aj8 c r f made L hn ha L.length 0 [] (by omega) (by simp)
 rw [List.drop_zero,List.nil_append] at h
 generalize moveL c L=X at*
 refine qq ?_
 refine gg [.n (zq (zz zm L)) (zq L),.a _ _] ⟨o_n (by simp),o_a h,trivial⟩ ?_
 exact ge
end Go.Eva.S4
namespace Go.Eva.S4
def blastAt (r f q:Int) (e:Entity):Cross:=⟨2,r,q,f,Entity.zero,e.x,e.y⟩
theorem Aen (c:Config) (r f made:Int) (A:List Entity) (k:Nat) (id:Int) (ids near:List Int) (i:Nat) (hk:k<A.length) (hA:A.length≤1000) (hids:ids.length≤1000) (hn:near.length≤9): ∀(d j:Nat) (o:List Cross),j+d=near.length→o.length≤50000+j→
  Is cx (.loop 67 [0,1,0,1,1,0,0,1,1,0,0,1] 2 [.ptr 0 0 0,vi id,.ptr 1 k 0,.all 2 none,vi ids.length,vi i,.t (.sl 1 (near.map ti)),vi near.length,vi j] [.one 10 (stepV c r f made (.all 1 none) (.all 3 none)) false,.arr 9 (A.map zm) none false,.arr 1 (ids.map ti) none false,.arr 15 (o.map zn) none false])
   ⟨.exit 2,[.ptr 0 0 0,vi id,.ptr 1 k 0,.all 2 none,vi ids.length,vi i,.t (.sl 1 (near.map ti)),vi near.length,vi near.length],[.one 10 (stepV c r f made (.all 1 none) (.all 3 none)) false,.arr 9 (A.map zm) none false,.arr 1 (ids.map ti) none false,.arr 15 ((o++(near.drop j).map fun q=>blastAt r f q (gt A k)).map zn) none false]⟩:=by
 intro d
 induction d with
 |zero=>
  intro j o hj ho
  rw [Aac (by omega)]
  refine qq ?_
  refine gg [.b (decide ((j:Int)<(↑(zq near):Int))) false] ⟨fP,trivial⟩ ?_
  refine rT (a:=qz (qx 2) [V.ptr 0 0 0,vi id,V.ptr 1 k 0,qy 2 none,vi (↑(zq ids):Int),vi (i:Int),V.t (qk 1 (zz ti near)),vi (↑(zq near):Int),vi (j:Int)] [qg 10 (V.agg [vi c.cols,vi c.rows,vi c.players,vi c.window,V.t (T.int zf c.seed),vi r,vi f,qy 1 none,vi made,qy 3 none]) false,qv 9 (zz zm A) none false,qv 1 (zz ti ids) none false,qv 15 (zz zn o) none false]) ?_
  ((have hq:j=near.length:=by omega);subst hq;simp)
 |succ d ih=>
  intro j o hj ho
  have hlt:j<near.length:=by omega
  have ih1:=ih (j+1) (o++ [blastAt r f (gt near j) (gt A k)]) (by omega) (by simp;omega)
  clear ih
  rw [Aaf hlt,List.map_cons,List.append_cons]
  have hs:=AaT c r f made A o ⟨2,0,gt near j,0,Entity.zero,(gt A k).x,(gt A k).y⟩ (by omega)
  unfold blastAt at ih1⊢
  unfold Entity.zero at*
  refine qq ?_
  refine gg [.b (decide ((j:Int)<(↑(zq near):Int))) true,.w (0≤(j:Int)),.n (zy (j:Int)) j,.g (zz ti near) j (ti (gt near j)),.g (zz zm A) k (zm (gt A k)),.g (zz zm A) k (zm (gt A k)),.a _ _,.i zd ((j:Int)+1) ((↑(j+1):Int)),.a _ _] ⟨tP,oW,nK,o_gt rfl (by assumption) (by intro h;cases h),o_gt rfl (by assumption) (by intro h;cases h),o_gt rfl (by assumption) (by intro h;cases h),o_a hs,oI,o_a ih1,trivial⟩ ?_
  exact ge
theorem Ah4 (c:Config) (r f made:Int) (A:List Entity) (k:Nat) (id:Int) (ids near:List Int) (i:Nat) (hk:k<A.length) (hA:A.length≤1000) (hids:ids.length≤1000) (hn:near.length≤9) (h0:0<near.length):
  Is cx (.loop 67 [0,1,0,1,1,0,0,1,1,0,0,1] 2 [.ptr 0 0 0,vi id,.ptr 1 k 0,.all 2 none,vi ids.length,vi i,.t (.sl 1 (near.map ti)),vi near.length,vi 0] [.one 10 (stepV c r f made (.all 1 none) (.fit 15 [])) false,.arr 9 (A.map zm) none false,.arr 1 (ids.map ti) none false])
   ⟨.exit 2,[.ptr 0 0 0,vi id,.ptr 1 k 0,.all 2 none,vi ids.length,vi i,.t (.sl 1 (near.map ti)),vi near.length,vi near.length],[.one 10 (stepV c r f made (.all 1 none) (.all 3 none)) false,.arr 9 (A.map zm) none false,.arr 1 (ids.map ti) none false,.arr 15 ((near.map fun q=>blastAt r f q (gt A k)).map zn) none false]⟩:=by
 have hs:=AdN c r f made A ⟨2,0,gt near 0,0,Entity.zero,(gt A k).x,(gt A k).y⟩
 have ih1:=Aen c r f made A k id ids near i hk hA hids hn (near.length-1) 1 [blastAt r f (gt near 0) (gt A k)] (by omega) (by simp)
 have e:near.map (fun q=>blastAt r f q (gt A k))= [blastAt r f (gt near 0) (gt A k)]++(near.drop 1).map fun q=>blastAt r f q (gt A k):=by
  have:=Aaf h0
  rw [List.drop_zero] at this
  conv=>lhs;rw [this,List.map_cons]
  rfl
 rw [e]
 unfold blastAt at ih1⊢
 unfold Entity.zero at*
 refine qq ?_
 refine gg [.b (decide (0<(↑(zq near):Int))) true,.w (0≤(0:Int)),.l 0,.g (zz ti near) 0 (ti (gt near 0)),.g (zz zm A) k (zm (gt A k)),.g (zz zm A) k (zm (gt A k)),.a _ _,.i zd 1 1,.a _ _] ⟨tP,oW,o_gt rfl (by assumption) (by intro h;cases h),o_gt rfl (by assumption) (by intro h;cases h),o_gt rfl (by assumption) (by intro h;cases h),o_a hs,oK,o_a ih1,trivial⟩ ?_
 exact ge
theorem Ahz (c:Config) (r f made:Int) (ids:List Int) (hids:ids.length≤1000): ∀(d i:Nat) (A:List Entity) (o:List Cross),i+d=ids.length→A.length≤1000→o.length≤9*i+9→(∀id∈ids.drop i,∃x∈A,x.id=id)→
  Is cx (.loop 67 [0,1] 2 [.ptr 0 0 0,.all 2 none,vi ids.length,vi i] [.one 10 (stepV c r f made (.all 1 none) (.all 3 none)) false,.arr 9 (A.map zm) none false,.arr 1 (ids.map ti) none false,.arr 15 (o.map zn) none false])
   ⟨.exit 0,[.ptr 0 0 0,.all 2 none,vi ids.length,vi ids.length],[.one 10 (stepV c r f made (.all 1 none) (.all 3 none)) false,.arr 9 (((ids.drop i).foldl (fall1 c r f) ⟨A,made,o⟩).l.map zm) none false,.arr 1 (ids.map ti) none false,.arr 15 (((ids.drop i).foldl (fall1 c r f) ⟨A,made,o⟩).out.map zn) none false]⟩:=by
 intro d
 induction d with
 |zero=>
  intro i A o hi hA ho hP
  rw [Aac (by omega),List.foldl_nil]
  refine qq ?_
  refine gg [.b (decide ((i:Int)<(↑(zq ids):Int))) false] ⟨fP,trivial⟩ ?_
  refine rT (a:=qz (qx 0) [V.ptr 0 0 0,qy 2 none,vi (↑(zq ids):Int),vi (i:Int)] [qg 10 (V.agg [vi c.cols,vi c.rows,vi c.players,vi c.window,V.t (T.int zf c.seed),vi r,vi f,qy 1 none,vi made,qy 3 none]) false,qv 9 (zz zm A) none false,qv 1 (zz ti ids) none false,qv 15 (zz zn o) none false]) ?_
  ((have hq:i=ids.length:=by omega);subst hq;rfl)
 |succ d ih=>
  intro i A o hi hA ho hP
  have hlt:i<ids.length:=by omega
  have hd:=Aaf hlt
  have hx:=hP (gt ids i) (by rw [hd];exact List.mem_cons_self ..)
  obtain ⟨k,hk1,hk2,_⟩:=AbC hx
  have hns:= @Aaz c r
  have hlenb:(o++blastsAt c r f (gt A k)).length≤9*(i+1)+9:=by simp [blastsAt];omega
  have ih1:=ih (i+1) (A.set k (anewE c r f (gt ids i) (gt A k))) (o++blastsAt c r f (gt A k)) (by omega) (by simpa using hA) hlenb fun id hid=>by
   have:=hP id (by rw [hd];exact List.mem_cons_of_mem _ hid)
   exact Ai4 (Ac4 (e:=anewE c r f (gt ids i) (gt A k)) hk2 rfl).symm this
  rw [hd,List.foldl_cons]
  have e1:fall1 c r f ⟨A,made,o⟩ (gt ids i)=⟨A.set k (anewE c r f (gt ids i) (gt A k)),made,o++blastsAt c r f (gt A k)⟩:=by simp [fall1,hk1]
  rw [e1]
  have hF:=Aay A (gt ids i) (by unfold small;omega)
  rw [hk1] at hF
  have hN:=AcP c r
  have hB:=Aen c r f made A k (gt ids i) ids (c.near r) i hk2 hA hids hns (c.near r).length 0 o (by omega) (by omega)
  rw [List.drop_zero] at hB
  change Is cx _ ⟨_,_,[_,_,_,.arr 15 ((o++blastsAt c r f (gt A k)).map zn) none false]⟩ at hB
  generalize blastsAt c r f (gt A k)=bl at*
  have hpl:=Abp c r f 1 2 (gt ids i) ⟨A.set k {gt A k with health:=100,vx:=0,vy:=0,age:=0},made,o++bl⟩
  clear ih hP e1 hx hk1 hd hlenb
  unfold anewE at ih1⊢
  refine qq ?_
  refine gg [.b (decide ((i:Int)<(↑(zq ids):Int))) true,.w (0≤(i:Int)),.n (zy (i:Int)) i,.w (i<zq (zz ti ids)),.g (zz ti ids) i (ti (gt ids i)),.a _ _,.b (flats [ti (k:Int)]) true,.w (0≤(k:Int)),.n (zy (k:Int)) k,.w (k<zq (zz zm A)),.a _ _,.n (zq (zz ti (z6 c r))) (zq (z6 c r)),.a _ _,.g (zz zm A) k (zm (gt A k)),.t (qk 0 (zx (zz zm A) k (T.agg [ti (gt A k).id,ti (gt A k).kind,ti (gt A k).x,ti (gt A k).y,ti (gt A k).vx,ti (gt A k).vy,ti 100,ti (gt A k).age,ti (gt A k).owner]))) (qk 0 (zz zm (zx A k (qw (gt A k).id (gt A k).kind (gt A k).x (gt A k).y (gt A k).vx (gt A k).vy 100 (gt A k).age (gt A k).owner)))),.g (zz zm (zx A k (qw (gt A k).id (gt A k).kind (gt A k).x (gt A k).y (gt A k).vx (gt A k).vy 100 (gt A k).age (gt A k).owner))) k (zm (qw (gt A k).id (gt A k).kind (gt A k).x (gt A k).y (gt A k).vx (gt A k).vy 100 (gt A k).age (gt A k).owner))] ⟨tP,oW,nK,o_w (by (simp;omega)),o_gt rfl (by assumption) (by intro h;cases h),o_a hF,bK,oW,nK,o_w (by (simp;omega)),o_a hN,o_n (by simp),o_a hB,o_gt rfl (by assumption) (by intro h;cases h),o_l (Aam (e:=qw (gt A k).id (gt A k).kind (gt A k).x (gt A k).y (gt A k).vx (gt A k).vy 100 (gt A k).age (gt A k).owner) rfl rfl),o_gm rfl (AaN (by omega)) (by intro h;cases h),trivial⟩ ?_
  refine gg [.t (qk 0 (zx (zz zm (zx A k (qw (gt A k).id (gt A k).kind (gt A k).x (gt A k).y (gt A k).vx (gt A k).vy 100 (gt A k).age (gt A k).owner))) k (T.agg [ti (gt A k).id,ti (gt A k).kind,ti (gt A k).x,ti (gt A k).y,ti 0,ti (gt A k).vy,ti 100,ti (gt A k).age,ti (gt A k).owner]))) (qk 0 (zz zm (zx A k (qw (gt A k).id (gt A k).kind (gt A k).x (gt A k).y 0 (gt A k).vy 100 (gt A k).age (gt A k).owner)))),.g (zz zm (zx A k (qw (gt A k).id (gt A k).kind (gt A k).x (gt A k).y 0 (gt A k).vy 100 (gt A k).age (gt A k).owner))) k (zm (qw (gt A k).id (gt A k).kind (gt A k).x (gt A k).y 0 (gt A k).vy 100 (gt A k).age (gt A k).owner)),.t (qk 0 (zx (zz zm (zx A k (qw (gt A k).id (gt A k).kind (gt A k).x (gt A k).y 0 (gt A k).vy 100 (gt A k).age (gt A k).owner))) k (T.agg [ti (gt A k).id,ti (gt A k).kind,ti (gt A k).x,ti (gt A k).y,ti 0,ti 0,ti 100,ti (gt A k).age,ti (gt A k).owner]))) (qk 0 (zz zm (zx A k (qw (gt A k).id (gt A k).kind (gt A k).x (gt A k).y 0 0 100 (gt A k).age (gt A k).owner)))),.g (zz zm (zx A k (qw (gt A k).id (gt A k).kind (gt A k).x (gt A k).y 0 0 100 (gt A k).age (gt A k).owner))) k (zm (qw (gt A k).id (gt A k).kind (gt A k).x (gt A k).y 0 0 100 (gt A k).age (gt A k).owner)),.t (qk 0 (zx (zz zm (zx A k (qw (gt A k).id (gt A k).kind (gt A k).x (gt A k).y 0 0 100 (gt A k).age (gt A k).owner))) k (T.agg [ti (gt A k).id,ti (gt A k).kind,ti (gt A k).x,ti (gt A k).y,ti 0,ti 0,ti 100,ti 0,ti (gt A k).owner]))) (qk 0 (zz zm (zx A k (qw (gt A k).id (gt A k).kind (gt A k).x (gt A k).y 0 0 100 0 (gt A k).owner)))),.a _ _,.b (flats [ti (placeX c r f 1 (gt ids i)),ti (placeY c r f 2 (gt ids i))]) true,.g (zz zm (zx A k (qw (gt A k).id (gt A k).kind (gt A k).x (gt A k).y 0 0 100 0 (gt A k).owner))) k (zm (qw (gt A k).id (gt A k).kind (gt A k).x (gt A k).y 0 0 100 0 (gt A k).owner)),.t (qk 0 (zx (zz zm (zx A k (qw (gt A k).id (gt A k).kind (gt A k).x (gt A k).y 0 0 100 0 (gt A k).owner))) k (T.agg [ti (gt A k).id,ti (gt A k).kind,ti (placeX c r f 1 (gt ids i)),ti (gt A k).y,ti 0,ti 0,ti 100,ti 0,ti (gt A k).owner]))) (qk 0 (zz zm (zx A k (qw (gt A k).id (gt A k).kind (placeX c r f 1 (gt ids i)) (gt A k).y 0 0 100 0 (gt A k).owner)))),.g (zz zm (zx A k (qw (gt A k).id (gt A k).kind (placeX c r f 1 (gt ids i)) (gt A k).y 0 0 100 0 (gt A k).owner))) k (zm (qw (gt A k).id (gt A k).kind (placeX c r f 1 (gt ids i)) (gt A k).y 0 0 100 0 (gt A k).owner))] ⟨o_l (nm_eq (Aam (e:=qw (gt A k).id (gt A k).kind (gt A k).x (gt A k).y 0 (gt A k).vy 100 (gt A k).age (gt A k).owner) rfl rfl) (by simp)),o_gm rfl (AaN (by omega)) (by intro h;cases h),o_l (nm_eq (Aam (e:=qw (gt A k).id (gt A k).kind (gt A k).x (gt A k).y 0 0 100 (gt A k).age (gt A k).owner) rfl rfl) (by simp)),o_gm rfl (AaN (by omega)) (by intro h;cases h),o_l (nm_eq (Aam (e:=qw (gt A k).id (gt A k).kind (gt A k).x (gt A k).y 0 0 100 0 (gt A k).owner) rfl rfl) (by simp)),o_a hpl,bK,o_gm rfl (AaN (by omega)) (by intro h;cases h),o_l (nm_eq (Aam (e:=qw (gt A k).id (gt A k).kind (placeX c r f 1 (gt ids i)) (gt A k).y 0 0 100 0 (gt A k).owner) rfl rfl) (by simp)),o_gm rfl (AaN (by omega)) (by intro h;cases h),trivial⟩ ?_
  refine gg [.t (qk 0 (zx (zz zm (zx A k (qw (gt A k).id (gt A k).kind (placeX c r f 1 (gt ids i)) (gt A k).y 0 0 100 0 (gt A k).owner))) k (T.agg [ti (gt A k).id,ti (gt A k).kind,ti (placeX c r f 1 (gt ids i)),ti (placeY c r f 2 (gt ids i)),ti 0,ti 0,ti 100,ti 0,ti (gt A k).owner]))) (qk 0 (zz zm (zx A k (qw (gt A k).id (gt A k).kind (placeX c r f 1 (gt ids i)) (placeY c r f 2 (gt ids i)) 0 0 100 0 (gt A k).owner)))),.i zd ((i:Int)+1) ((↑(i+1):Int)),.a _ _] ⟨o_l (nm_eq (Aam (e:=qw (gt A k).id (gt A k).kind (placeX c r f 1 (gt ids i)) (placeY c r f 2 (gt ids i)) 0 0 100 0 (gt A k).owner) rfl rfl) (by simp)),oI,o_a ih1,trivial⟩ ?_
  exact ge
theorem Aht (c:Config) (r f made:Int) (ids:List Int) (hids:ids.length≤1000) (A:List Entity) (hA:A.length≤1000) (h0:0<ids.length) (hnr:0<(c.near r).length) (hP: ∀id∈ids,∃x∈A,x.id=id):
  Is cx (.loop 67 [0,1] 2 [.ptr 0 0 0,.all 2 none,vi ids.length,vi 0] [.one 10 (stepV c r f made (.all 1 none) (.fit 15 [])) false,.arr 9 (A.map zm) none false,.arr 1 (ids.map ti) none false])
   ⟨.exit 0,[.ptr 0 0 0,.all 2 none,vi ids.length,vi ids.length],[.one 10 (stepV c r f made (.all 1 none) (.all 3 none)) false,.arr 9 ((ids.foldl (fall1 c r f) ⟨A,made,[]⟩).l.map zm) none false,.arr 1 (ids.map ti) none false,.arr 15 ((ids.foldl (fall1 c r f) ⟨A,made,[]⟩).out.map zn) none false]⟩:=by
 have hd:=Aaf h0
 rw [List.drop_zero] at hd
 have hx:=hP (gt ids 0) (Aav h0)
 obtain ⟨k,hk1,hk2,_⟩:=AbC hx
 have hns:= @Aaz c r
 have hlenb:(blastsAt c r f (gt A k)).length≤9*1+9:=by simp [blastsAt];omega
 have ih1:=Ahz c r f made ids hids (ids.length-1) 1 (A.set k (anewE c r f (gt ids 0) (gt A k))) (blastsAt c r f (gt A k)) (by omega) (by simpa using hA) hlenb fun id hid=>by
  have:=hP id (by rw [hd];exact List.mem_cons_of_mem _ hid)
  exact Ai4 (Ac4 (e:=anewE c r f (gt ids 0) (gt A k)) hk2 rfl).symm this
 have e0:ids.foldl (fall1 c r f) ⟨A,made,[]⟩=(ids.drop 1).foldl (fall1 c r f) (fall1 c r f ⟨A,made,[]⟩ (gt ids 0)):=by
  conv=>lhs;rw [hd]
  rfl
 rw [e0]
 have e1:fall1 c r f ⟨A,made,[]⟩ (gt ids 0)=⟨A.set k (anewE c r f (gt ids 0) (gt A k)),made,blastsAt c r f (gt A k)⟩:=by simp [fall1,hk1]
 rw [e1]
 have hF:=Aay A (gt ids 0) (by unfold small;omega)
 rw [hk1] at hF
 have hN:=AcP c r
 have hB:=Ah4 c r f made A k (gt ids 0) ids (c.near r) 0 hk2 hA hids hns hnr
 change Is cx _ ⟨_,_,[_,_,_,.arr 15 ((blastsAt c r f (gt A k)).map zn) none false]⟩ at hB
 generalize blastsAt c r f (gt A k)=bl at*
 have hpl:=Abp c r f 1 2 (gt ids 0) ⟨A.set k {gt A k with health:=100,vx:=0,vy:=0,age:=0},made,bl⟩
 clear hP e1 hx hk1 hd hlenb e0
 unfold anewE at ih1⊢
 refine qq ?_
 refine gg [.b (decide (0<(↑(zq ids):Int))) true,.w (0≤(0:Int)),.l 0,.w ((0:Nat)<zq (zz ti ids)),.g (zz ti ids) 0 (ti (gt ids 0)),.a _ _,.b (flats [ti (k:Int)]) true,.w (0≤(k:Int)),.n (zy (k:Int)) k,.w (k<zq (zz zm A)),.a _ _,.n (zq (zz ti (z6 c r))) (zq (z6 c r)),.a _ _,.g (zz zm A) k (zm (gt A k)),.t (qk 0 (zx (zz zm A) k (T.agg [ti (gt A k).id,ti (gt A k).kind,ti (gt A k).x,ti (gt A k).y,ti (gt A k).vx,ti (gt A k).vy,ti 100,ti (gt A k).age,ti (gt A k).owner]))) (qk 0 (zz zm (zx A k (qw (gt A k).id (gt A k).kind (gt A k).x (gt A k).y (gt A k).vx (gt A k).vy 100 (gt A k).age (gt A k).owner)))),.g (zz zm (zx A k (qw (gt A k).id (gt A k).kind (gt A k).x (gt A k).y (gt A k).vx (gt A k).vy 100 (gt A k).age (gt A k).owner))) k (zm (qw (gt A k).id (gt A k).kind (gt A k).x (gt A k).y (gt A k).vx (gt A k).vy 100 (gt A k).age (gt A k).owner))] ⟨tP,oW,o_w (by (simp;omega)),o_gt rfl (by assumption) (by intro h;cases h),o_a hF,bK,oW,nK,o_w (by (simp;omega)),o_a hN,o_n (by simp),o_a hB,o_gt rfl (by assumption) (by intro h;cases h),o_l (Aam (e:=qw (gt A k).id (gt A k).kind (gt A k).x (gt A k).y (gt A k).vx (gt A k).vy 100 (gt A k).age (gt A k).owner) rfl rfl),o_gm rfl (AaN (by omega)) (by intro h;cases h),trivial⟩ ?_
 refine gg [.t (qk 0 (zx (zz zm (zx A k (qw (gt A k).id (gt A k).kind (gt A k).x (gt A k).y (gt A k).vx (gt A k).vy 100 (gt A k).age (gt A k).owner))) k (T.agg [ti (gt A k).id,ti (gt A k).kind,ti (gt A k).x,ti (gt A k).y,ti 0,ti (gt A k).vy,ti 100,ti (gt A k).age,ti (gt A k).owner]))) (qk 0 (zz zm (zx A k (qw (gt A k).id (gt A k).kind (gt A k).x (gt A k).y 0 (gt A k).vy 100 (gt A k).age (gt A k).owner)))),.g (zz zm (zx A k (qw (gt A k).id (gt A k).kind (gt A k).x (gt A k).y 0 (gt A k).vy 100 (gt A k).age (gt A k).owner))) k (zm (qw (gt A k).id (gt A k).kind (gt A k).x (gt A k).y 0 (gt A k).vy 100 (gt A k).age (gt A k).owner)),.t (qk 0 (zx (zz zm (zx A k (qw (gt A k).id (gt A k).kind (gt A k).x (gt A k).y 0 (gt A k).vy 100 (gt A k).age (gt A k).owner))) k (T.agg [ti (gt A k).id,ti (gt A k).kind,ti (gt A k).x,ti (gt A k).y,ti 0,ti 0,ti 100,ti (gt A k).age,ti (gt A k).owner]))) (qk 0 (zz zm (zx A k (qw (gt A k).id (gt A k).kind (gt A k).x (gt A k).y 0 0 100 (gt A k).age (gt A k).owner)))),.g (zz zm (zx A k (qw (gt A k).id (gt A k).kind (gt A k).x (gt A k).y 0 0 100 (gt A k).age (gt A k).owner))) k (zm (qw (gt A k).id (gt A k).kind (gt A k).x (gt A k).y 0 0 100 (gt A k).age (gt A k).owner)),.t (qk 0 (zx (zz zm (zx A k (qw (gt A k).id (gt A k).kind (gt A k).x (gt A k).y 0 0 100 (gt A k).age (gt A k).owner))) k (T.agg [ti (gt A k).id,ti (gt A k).kind,ti (gt A k).x,ti (gt A k).y,ti 0,ti 0,ti 100,ti 0,ti (gt A k).owner]))) (qk 0 (zz zm (zx A k (qw (gt A k).id (gt A k).kind (gt A k).x (gt A k).y 0 0 100 0 (gt A k).owner)))),.a _ _,.b (flats [ti (placeX c r f 1 (gt ids 0)),ti (placeY c r f 2 (gt ids 0))]) true,.g (zz zm (zx A k (qw (gt A k).id (gt A k).kind (gt A k).x (gt A k).y 0 0 100 0 (gt A k).owner))) k (zm (qw (gt A k).id (gt A k).kind (gt A k).x (gt A k).y 0 0 100 0 (gt A k).owner)),.t (qk 0 (zx (zz zm (zx A k (qw (gt A k).id (gt A k).kind (gt A k).x (gt A k).y 0 0 100 0 (gt A k).owner))) k (T.agg [ti (gt A k).id,ti (gt A k).kind,ti (placeX c r f 1 (gt ids 0)),ti (gt A k).y,ti 0,ti 0,ti 100,ti 0,ti (gt A k).owner]))) (qk 0 (zz zm (zx A k (qw (gt A k).id (gt A k).kind (placeX c r f 1 (gt ids 0)) (gt A k).y 0 0 100 0 (gt A k).owner)))),.g (zz zm (zx A k (qw (gt A k).id (gt A k).kind (placeX c r f 1 (gt ids 0)) (gt A k).y 0 0 100 0 (gt A k).owner))) k (zm (qw (gt A k).id (gt A k).kind (placeX c r f 1 (gt ids 0)) (gt A k).y 0 0 100 0 (gt A k).owner))] ⟨o_l (nm_eq (Aam (e:=qw (gt A k).id (gt A k).kind (gt A k).x (gt A k).y 0 (gt A k).vy 100 (gt A k).age (gt A k).owner) rfl rfl) (by simp)),o_gm rfl (AaN (by omega)) (by intro h;cases h),o_l (nm_eq (Aam (e:=qw (gt A k).id (gt A k).kind (gt A k).x (gt A k).y 0 0 100 (gt A k).age (gt A k).owner) rfl rfl) (by simp)),o_gm rfl (AaN (by omega)) (by intro h;cases h),o_l (nm_eq (Aam (e:=qw (gt A k).id (gt A k).kind (gt A k).x (gt A k).y 0 0 100 0 (gt A k).owner) rfl rfl) (by simp)),o_a hpl,bK,o_gm rfl (AaN (by omega)) (by intro h;cases h),o_l (nm_eq (Aam (e:=qw (gt A k).id (gt A k).kind (placeX c r f 1 (gt ids 0)) (gt A k).y 0 0 100 0 (gt A k).owner) rfl rfl) (by simp)),o_gm rfl (AaN (by omega)) (by intro h;cases h),trivial⟩ ?_
 refine gg [.t (qk 0 (zx (zz zm (zx A k (qw (gt A k).id (gt A k).kind (placeX c r f 1 (gt ids 0)) (gt A k).y 0 0 100 0 (gt A k).owner))) k (T.agg [ti (gt A k).id,ti (gt A k).kind,ti (placeX c r f 1 (gt ids 0)),ti (placeY c r f 2 (gt ids 0)),ti 0,ti 0,ti 100,ti 0,ti (gt A k).owner]))) (qk 0 (zz zm (zx A k (qw (gt A k).id (gt A k).kind (placeX c r f 1 (gt ids 0)) (placeY c r f 2 (gt ids 0)) 0 0 100 0 (gt A k).owner)))),.i zd 1 1,.a _ _] ⟨o_l (nm_eq (Aam (e:=qw (gt A k).id (gt A k).kind (placeX c r f 1 (gt ids 0)) (placeY c r f 2 (gt ids 0)) 0 0 100 0 (gt A k).owner) rfl rfl) (by simp)),oK,o_a ih1,trivial⟩ ?_
 exact ge
theorem Alk {L:List Entity}: ∀id∈fallenL L,∃x∈L,x.id=id:=by
 intro id h
 obtain ⟨x,h1,h2⟩:=List.mem_map.1 h
 exact ⟨x,(List.mem_filter.1 h1).1,h2⟩
theorem Aid {L:List Entity}:(fallenL L).length≤L.length:=by
 unfold fallenL;rw [List.length_map];exact List.length_filter_le ..
theorem Ahn (c:Config) (r f made:Int) (L:List Entity) (hL:L.length≤1000) (h:fallenL L= []):
  Is cx (.call 67 [.ptr 0 0 0] [.one 10 (stepV c r f made (.all 1 none) (.fit 15 [])) false,.arr 9 (L.map zm) none false])
   ⟨.ret,[],[.one 10 (stepV c r f made (.all 1 none) (.fit 15 [])) false,.arr 9 (L.map zm) none false]⟩:=by
 have hF:=Adb L (by unfold small;omega)
 rw [h] at hF
 have hl:Is cx (.loop 67 [0,1] 2 [.ptr 0 0 0,.all 2 none,vi 0,vi 0] [.one 10 (stepV c r f made (.all 1 none) (.fit 15 [])) false,.arr 9 (L.map zm) none false,.arr 1 [] none false])
   ⟨.exit 0,[.ptr 0 0 0,.all 2 none,vi 0,vi 0],[.one 10 (stepV c r f made (.all 1 none) (.fit 15 [])) false,.arr 9 (L.map zm) none false,.arr 1 [] none false]⟩:=by
  refine qq ?_
  refine gg [.b (decide (0<0)) false] ⟨bK,trivial⟩ ?_
  exact ge
 refine qq ?_
 refine gg [.a _ _,.l 0,.a _ _] ⟨o_a hF,o_a hl,trivial⟩ ?_
 exact ge
theorem Ahq (c:Config) (r f made:Int) (L:List Entity) (hL:L.length≤1000) (hnr:0<(c.near r).length) (h:fallenL L≠ []):
  Is cx (.call 67 [.ptr 0 0 0] [.one 10 (stepV c r f made (.all 1 none) (.fit 15 [])) false,.arr 9 (L.map zm) none false])
   ⟨.ret,[],[.one 10 (stepV c r f made (.all 1 none) (.all 2 none)) false,.arr 9 ((fallS c r f ⟨L,made,[]⟩).l.map zm) none false,.arr 15 ((fallS c r f ⟨L,made,[]⟩).out.map zn) none false]⟩:=by
 have hF:=Adb L (by unfold small;omega)
 have hlen:= @Aid L
 have hP:= @Alk L
 unfold fallS
 simp only
 have h0:0<(fallenL L).length:=List.length_pos_iff.2 h
 generalize fallenL L=ids at*
 have hl:=Aht c r f made ids (by omega) L hL h0 hnr hP
 clear hP h
 generalize ids.foldl (fall1 c r f) ⟨L,made,[]⟩=S at*
 obtain ⟨A,m2,o⟩:=S
 simp only at hl⊢
 refine qq ?_
 refine gg [.a _ _,.n (zq (zz ti ids)) (zq ids),.a _ _] ⟨o_a hF,o_n (by simp),o_a hl,trivial⟩ ?_
 exact ge
theorem Af2 (c:Config) (r f made:Int) (L:List Entity) (o:List Cross) (hL:L.length≤1000): ∀(d i n:Nat),i+d=L.length→n≤i→
  Is cx (.loop 68 [0,1,0,1] 2 [.ptr 0 0 0,vi n,.all 1 none,vi L.length,vi i] [.one 10 (stepV c r f made (.all 1 none) (.fit 15 [])) false,.arr 9 (L.map zm) none false])
   ⟨.exit 0,[.ptr 0 0 0,vi (n+(L.drop i).countP fun e=>e.kind==3:Nat),.all 1 none,vi L.length,vi L.length],[.one 10 (stepV c r f made (.all 1 none) (.fit 15 [])) false,.arr 9 (L.map zm) none false]⟩:=by
 intro d
 induction d with
 |zero=>
  intro i n hi hm
  rw [Aac (by omega)]
  refine qq ?_
  refine gg [.b (decide ((i:Int)<(↑(zq L):Int))) false] ⟨fP,trivial⟩ ?_
  refine rT (a:=qz (qx 0) [V.ptr 0 0 0,vi (n:Int),qy 1 none,vi (↑(zq L):Int),vi (i:Int)] [qg 10 (V.agg [vi c.cols,vi c.rows,vi c.players,vi c.window,V.t (T.int zf c.seed),vi r,vi f,qy 1 none,vi made,V.fit 15 []]) false,qv 9 (zz zm L) none false]) ?_
  ((have hq:i=L.length:=by omega);subst hq;rfl)
 |succ d ih=>
  intro i n hi hm
  have hlt:i<L.length:=by omega
  have ih1:=ih (i+1) n (by omega) (by omega)
  have ih2:=ih (i+1) (n+1) (by omega) (by omega)
  clear ih
  rw [AdG _ hlt]
  refine qq ?_
  refine gg [.b (decide ((i:Int)<(↑(zq L):Int))) true,.w (0≤(i:Int)),.n (zy (i:Int)) i,.w (i<zq (zz zm L)),.g (zz zm L) i (zm (gt L i))] ⟨tP,oW,nK,o_w (by (simp;omega)),o_gt rfl (by assumption) (by intro h;cases h),trivial⟩ ?_
  refine bre (x:=(gt L i).kind) (y:=3) (by kernel_rfl) (fun h1=> ?_) (fun h1=> ?_)
  ·refine gg [.i zd ((n:Int)+1) ((↑(n+1):Int)),.i zd ((i:Int)+1) ((↑(i+1):Int)),.a _ _] ⟨oI,oI,o_a ih2,trivial⟩ ?_
   refine rT (a:=qz (qx 0) [V.ptr 0 0 0,vi (↑(n+1+List.countP (fun (e:Entity)↦e.kind==3) (zk (i+1) L)):Int),qy 1 none,vi (↑(zq L):Int),vi (↑(zq L):Int)] [qg 10 (V.agg [vi c.cols,vi c.rows,vi c.players,vi c.window,V.t (T.int zf c.seed),vi r,vi f,qy 1 none,vi made,V.fit 15 []]) false,qv 9 (zz zm L) none false]) ?_
   (simp_all;try omega)
  ·refine gg [.i zd ((i:Int)+1) ((↑(i+1):Int)),.a _ _] ⟨oI,o_a ih1,trivial⟩ ?_
   refine rT (a:=qz (qx 0) [V.ptr 0 0 0,vi (↑(n+List.countP (fun (e:Entity)↦e.kind==3) (zk (i+1) L)):Int),qy 1 none,vi (↑(zq L):Int),vi (↑(zq L):Int)] [qg 10 (V.agg [vi c.cols,vi c.rows,vi c.players,vi c.window,V.t (T.int zf c.seed),vi r,vi f,qy 1 none,vi made,V.fit 15 []]) false,qv 9 (zz zm L) none false]) ?_
   (simp_all;try omega)
theorem AeE (c:Config) (r f made:Int) (L:List Entity) (o:List Cross) (hL:L.length≤1000) (h:below 8 c.seed [3,f,r]≠0∨3≤(L.countP fun e=>e.kind==3)∨Stg.room ⟨L,made,[]⟩=false):
  Is cx (.call 68 [.ptr 0 0 0] [.one 10 (stepV c r f made (.all 1 none) (.fit 15 [])) false,.arr 9 (L.map zm) none false])
   ⟨.ret,[],[.one 10 (stepV c r f made (.all 1 none) (.fit 15 [])) false,.arr 9 (L.map zm) none false]⟩:=by
 have hl:=Af2 c r f made L o hL L.length 0 0 (by omega) (by omega)
 rw [List.drop_zero,Nat.zero_add] at hl
 have hb:=AaE 8 c.seed [3,f,r] (by decide) (by simp [small])
 have hrm:=Aa2 c r f ⟨L,made,[]⟩ (by unfold small;simp only;omega)
 have hc:(L.countP fun e=>e.kind==3)≤L.length:=List.countP_le_length
 generalize (L.countP fun e=>e.kind==3)=n at*
 generalize below 8 c.seed [3,f,r]=b at*
 generalize Stg.room ⟨L,made,[]⟩=rm at*
 by_cases h1:b=0
 ·by_cases h2:3≤n
  ·refine qq ?_
   refine gg [.n (zq (zz zm L)) (zq L),.a _ _,.a _ _,.b (b !=0) false,.ff,.ff,.b (decide ((n:Int)≥3)) true,.tt,.tt,.tt,.tt] ⟨o_n (by simp),o_a hl,o_a hb,f_brn (by assumption),tP,trivial⟩ ?_
   exact ge
  ·have h3:rm=false:=by rcases h with h|h|h;exact absurd h1 h;exact absurd h h2;exact h
   subst h3
   refine qq ?_
   refine gg [.n (zq (zz zm L)) (zq L),.a _ _,.a _ _,.b (b !=0) false,.ff,.ff,.b (decide ((n:Int)≥3)) false,.ff,.a _ _,.b (flats [T.bool false]) true,.ff,.ff,.b (!false) true] ⟨o_n (by simp),o_a hl,o_a hb,f_brn (by assumption),fP,o_a hrm,bK,bK,trivial⟩ ?_
   exact ge
 ·refine qq ?_
  refine gg [.n (zq (zz zm L)) (zq L),.a _ _,.a _ _,.b (b !=0) true,.tt,.tt,.tt,.tt,.tt,.tt,.tt] ⟨o_n (by simp),o_a hl,o_a hb,t_brn (by assumption),trivial⟩ ?_
  exact ge
theorem Afx (c:Config) (r f made:Int) (L:List Entity) (o:List Cross) (hL:L.length≤1000): ∀(d i n:Nat),i+d=L.length→n≤i→
  Is cx (.loop 68 [0,1,0,1] 3 [.ptr 0 0 0,vi n,.all 1 none,vi L.length,vi i] [.one 10 (stepV c r f made (.all 1 none) (.all 2 none)) false,.arr 9 (L.map zm) none false,.arr 15 (o.map zn) none false])
   ⟨.exit 0,[.ptr 0 0 0,vi (n+(L.drop i).countP fun e=>e.kind==3:Nat),.all 1 none,vi L.length,vi L.length],[.one 10 (stepV c r f made (.all 1 none) (.all 2 none)) false,.arr 9 (L.map zm) none false,.arr 15 (o.map zn) none false]⟩:=by
 intro d
 induction d with
 |zero=>
  intro i n hi hm
  rw [Aac (by omega)]
  refine qq ?_
  refine gg [.b (decide ((i:Int)<(↑(zq L):Int))) false] ⟨fP,trivial⟩ ?_
  refine rT (a:=qz (qx 0) [V.ptr 0 0 0,vi (n:Int),qy 1 none,vi (↑(zq L):Int),vi (i:Int)] [qg 10 (V.agg [vi c.cols,vi c.rows,vi c.players,vi c.window,V.t (T.int zf c.seed),vi r,vi f,qy 1 none,vi made,qy 2 none]) false,qv 9 (zz zm L) none false,qv 15 (zz zn o) none false]) ?_
  ((have hq:i=L.length:=by omega);subst hq;rfl)
 |succ d ih=>
  intro i n hi hm
  have hlt:i<L.length:=by omega
  have ih1:=ih (i+1) n (by omega) (by omega)
  have ih2:=ih (i+1) (n+1) (by omega) (by omega)
  clear ih
  rw [AdG _ hlt]
  refine qq ?_
  refine gg [.b (decide ((i:Int)<(↑(zq L):Int))) true,.w (0≤(i:Int)),.n (zy (i:Int)) i,.w (i<zq (zz zm L)),.g (zz zm L) i (zm (gt L i))] ⟨tP,oW,nK,o_w (by (simp;omega)),o_gt rfl (by assumption) (by intro h;cases h),trivial⟩ ?_
  refine bre (x:=(gt L i).kind) (y:=3) (by kernel_rfl) (fun h1=> ?_) (fun h1=> ?_)
  ·refine gg [.i zd ((n:Int)+1) ((↑(n+1):Int)),.i zd ((i:Int)+1) ((↑(i+1):Int)),.a _ _] ⟨oI,oI,o_a ih2,trivial⟩ ?_
   refine rT (a:=qz (qx 0) [V.ptr 0 0 0,vi (↑(n+1+List.countP (fun (e:Entity)↦e.kind==3) (zk (i+1) L)):Int),qy 1 none,vi (↑(zq L):Int),vi (↑(zq L):Int)] [qg 10 (V.agg [vi c.cols,vi c.rows,vi c.players,vi c.window,V.t (T.int zf c.seed),vi r,vi f,qy 1 none,vi made,qy 2 none]) false,qv 9 (zz zm L) none false,qv 15 (zz zn o) none false]) ?_
   (simp_all;try omega)
  ·refine gg [.i zd ((i:Int)+1) ((↑(i+1):Int)),.a _ _] ⟨oI,o_a ih1,trivial⟩ ?_
   refine rT (a:=qz (qx 0) [V.ptr 0 0 0,vi (↑(n+List.countP (fun (e:Entity)↦e.kind==3) (zk (i+1) L)):Int),qy 1 none,vi (↑(zq L):Int),vi (↑(zq L):Int)] [qg 10 (V.agg [vi c.cols,vi c.rows,vi c.players,vi c.window,V.t (T.int zf c.seed),vi r,vi f,qy 1 none,vi made,qy 2 none]) false,qv 9 (zz zm L) none false,qv 15 (zz zn o) none false]) ?_
   (simp_all;try omega)
theorem Afu (c:Config) (r f made:Int) (L:List Entity) (o:List Cross) (hL:L.length≤1000) (h:below 8 c.seed [3,f,r]≠0∨3≤(L.countP fun e=>e.kind==3)∨Stg.room ⟨L,made,o⟩=false):
  Is cx (.call 68 [.ptr 0 0 0] [.one 10 (stepV c r f made (.all 1 none) (.all 2 none)) false,.arr 9 (L.map zm) none false,.arr 15 (o.map zn) none false])
   ⟨.ret,[],[.one 10 (stepV c r f made (.all 1 none) (.all 2 none)) false,.arr 9 (L.map zm) none false,.arr 15 (o.map zn) none false]⟩:=by
 have hl:=Afx c r f made L o hL L.length 0 0 (by omega) (by omega)
 rw [List.drop_zero,Nat.zero_add] at hl
 have hb:=AaE 8 c.seed [3,f,r] (by decide) (by simp [small])
 have hrm:=Aa2 c r f ⟨L,made,o⟩ (by unfold small;simp only;omega)
 have hc:(L.countP fun e=>e.kind==3)≤L.length:=List.countP_le_length
 generalize (L.countP fun e=>e.kind==3)=n at*
 generalize below 8 c.seed [3,f,r]=b at*
 generalize Stg.room ⟨L,made,o⟩=rm at*
 by_cases h1:b=0
 ·by_cases h2:3≤n
  ·refine qq ?_
   refine gg [.n (zq (zz zm L)) (zq L),.a _ _,.a _ _,.b (b !=0) false,.ff,.ff,.b (decide ((n:Int)≥3)) true,.tt,.tt,.tt,.tt] ⟨o_n (by simp),o_a hl,o_a hb,f_brn (by assumption),tP,trivial⟩ ?_
   exact ge
  ·have h3:rm=false:=by rcases h with h|h|h;exact absurd h1 h;exact absurd h h2;exact h
   subst h3
   refine qq ?_
   refine gg [.n (zq (zz zm L)) (zq L),.a _ _,.a _ _,.b (b !=0) false,.ff,.ff,.b (decide ((n:Int)≥3)) false,.ff,.a _ _,.b (flats [T.bool false]) true,.ff,.ff,.b (!false) true] ⟨o_n (by simp),o_a hl,o_a hb,f_brn (by assumption),fP,o_a hrm,bK,bK,trivial⟩ ?_
   exact ge
 ·refine qq ?_
  refine gg [.n (zq (zz zm L)) (zq L),.a _ _,.a _ _,.b (b !=0) true,.tt,.tt,.tt,.tt,.tt,.tt,.tt] ⟨o_n (by simp),o_a hl,o_a hb,t_brn (by assumption),trivial⟩ ?_
  exact ge
theorem Ae9 (c:Config) (r f made:Int) (L:List Entity) (hL:L.length≤1000) (hr:0≤r∧r≤16) (hf:0≤f∧f≤10000) (hm:0≤made∧made≤1000) (h: ¬(below 8 c.seed [3,f,r]≠0∨3≤(L.countP fun e=>e.kind==3)∨Stg.room ⟨L,made,[]⟩=false)):
  Is cx (.call 68 [.ptr 0 0 0] [.one 10 (stepV c r f made (.all 1 none) (.fit 15 [])) false,.arr 9 (L.map zm) none false])
   ⟨.ret,[],[.one 10 (stepV c r f (made+1) (.all 2 none) (.fit 15 [])) false,.arr 9 (L.map zm) none true,.arr 9 ((put1 L (gemE c r f made)).map zm) none false]⟩:=by
 have hl:=Af2 c r f made L [] hL L.length 0 0 (by omega) (by omega)
 rw [List.drop_zero,Nat.zero_add] at hl
 have hb:=AaE 8 c.seed [3,f,r] (by decide) (by simp [small])
 have hrm:=Aa2 c r f ⟨L,made,[]⟩ (by unfold small;simp only;omega)
 have hc:(L.countP fun e=>e.kind==3)≤L.length:=List.countP_le_length
 have hpl:=Abp c r f 4 5 r ⟨L,made,[]⟩
 have hnum:=Abj c r f made L [] hr hf hm
 have hput:=AaP L [gemE c r f made] (by omega) (by simp)
 change Is cx _ ⟨_,_,[.arr 9 ((put1 L (gemE c r f made)).map zm) none false]⟩ at hput
 unfold gemE at*
 generalize (L.countP fun e=>e.kind==3)=n at*
 generalize below 8 c.seed [3,f,r]=b at*
 generalize Stg.room ⟨L,made,[]⟩=rm at*
 generalize numI c r f made=nn at*
 have h1:b=0:=by
  by_cases q:b=0
  ·exact q
  ·exact absurd (Or.inl q) h
 have h2: ¬3≤n:=fun q=>h (.inr (.inl q))
 have h3:rm=true:=by
  cases rm with
  |true=>rfl
  |false=>exact absurd (Or.inr (Or.inr rfl)) h
 subst h1 h3
 clear h
 refine qq ?_
 refine gg [.n (zq (zz zm L)) (zq L),.a _ _,.a _ _,.b (0 !=0) false,.ff,.ff,.b (decide ((n:Int)≥3)) false,.ff,.a _ _,.b (flats [T.bool true]) true,.ff,.ff,.b (!true) false,.a _ _,.b (flats [ti (placeX c r f 4 r),ti (placeY c r f 5 r)]) true] ⟨o_n (by simp),o_a hl,o_a hb,bK,fP,o_a hrm,bK,bK,o_a hpl,bK,trivial⟩ ?_
 refine bO ?_ ?_
 all_goals
  refine gg [.a _ _,.a _ _] ⟨o_a hnum,o_a hput,trivial⟩ ?_
  exact ge
theorem Aey (c:Config) (r f made:Int) (L:List Entity) (o:List Cross) (hL:L.length≤1000) (hr:0≤r∧r≤16) (hf:0≤f∧f≤10000) (hm:0≤made∧made≤1000) (h: ¬(below 8 c.seed [3,f,r]≠0∨3≤(L.countP fun e=>e.kind==3)∨Stg.room ⟨L,made,o⟩=false)):
  Is cx (.call 68 [.ptr 0 0 0] [.one 10 (stepV c r f made (.all 1 none) (.all 2 none)) false,.arr 9 (L.map zm) none false,.arr 15 (o.map zn) none false])
   ⟨.ret,[],[.one 10 (stepV c r f (made+1) (.all 3 none) (.all 2 none)) false,.arr 9 (L.map zm) none true,.arr 15 (o.map zn) none false,.arr 9 ((put1 L (gemE c r f made)).map zm) none false]⟩:=by
 have hl:=Afx c r f made L o hL L.length 0 0 (by omega) (by omega)
 rw [List.drop_zero,Nat.zero_add] at hl
 have hb:=AaE 8 c.seed [3,f,r] (by decide) (by simp [small])
 have hrm:=Aa2 c r f ⟨L,made,o⟩ (by unfold small;simp only;omega)
 have hc:(L.countP fun e=>e.kind==3)≤L.length:=List.countP_le_length
 have hpl:=Abp c r f 4 5 r ⟨L,made,o⟩
 have hnum:=AfK c r f made L o hr hf hm
 have hput:=AaP L [gemE c r f made] (by omega) (by simp)
 change Is cx _ ⟨_,_,[.arr 9 ((put1 L (gemE c r f made)).map zm) none false]⟩ at hput
 unfold gemE at*
 generalize (L.countP fun e=>e.kind==3)=n at*
 generalize below 8 c.seed [3,f,r]=b at*
 generalize Stg.room ⟨L,made,o⟩=rm at*
 generalize numI c r f made=nn at*
 have h1:b=0:=by
  by_cases q:b=0
  ·exact q
  ·exact absurd (Or.inl q) h
 have h2: ¬3≤n:=fun q=>h (.inr (.inl q))
 have h3:rm=true:=by
  cases rm with
  |true=>rfl
  |false=>exact absurd (Or.inr (Or.inr rfl)) h
 subst h1 h3
 clear h
 refine qq ?_
 refine gg [.n (zq (zz zm L)) (zq L),.a _ _,.a _ _,.b (0 !=0) false,.ff,.ff,.b (decide ((n:Int)≥3)) false,.ff,.a _ _,.b (flats [T.bool true]) true,.ff,.ff,.b (!true) false,.a _ _,.b (flats [ti (placeX c r f 4 r),ti (placeY c r f 5 r)]) true] ⟨o_n (by simp),o_a hl,o_a hb,bK,fP,o_a hrm,bK,bK,o_a hpl,bK,trivial⟩ ?_
 refine bO ?_ ?_
 all_goals
  refine gg [.a _ _,.a _ _] ⟨o_a hnum,o_a hput,trivial⟩ ?_
  exact ge
theorem AgX (c:Config) (r f made:Int) (L:List Entity) (hL:L.length≤1000): ∀(d i:Nat) (A:List Entity) (o:List Cross),i+d=L.length→A.length≤i→o.length≤50000+i→
  Is cx (.loop 69 [0,1,0,1] 2 [.ptr 0 0 0,.all 2 none,.all 1 none,vi L.length,vi i] [.one 10 (stepV c r f made (.all 1 none) (.all 3 none)) false,.arr 9 (L.map zm) none false,.arr 9 (A.map zm) none false,.arr 15 (o.map zn) none false])
   ⟨.exit 0,[.ptr 0 0 0,.all 2 none,.all 1 none,vi L.length,vi L.length],[.one 10 (stepV c r f made (.all 1 none) (.all 3 none)) false,.arr 9 (L.map zm) none false,.arr 9 ((A++(L.drop i).filter fun e=>decide (c.of e.x e.y=r)).map zm) none false,.arr 15 ((o++((L.drop i).filter fun e=> !decide (c.of e.x e.y=r)).map (handE c r f)).map zn) none false]⟩:=by
 intro d
 induction d with
 |zero=>
  intro i A o hi hA ho
  rw [Aac (by omega)]
  refine qq ?_
  refine gg [.b (decide ((i:Int)<(↑(zq L):Int))) false] ⟨fP,trivial⟩ ?_
  refine rT (a:=qz (qx 0) [V.ptr 0 0 0,qy 2 none,qy 1 none,vi (↑(zq L):Int),vi (i:Int)] [qg 10 (V.agg [vi c.cols,vi c.rows,vi c.players,vi c.window,V.t (T.int zf c.seed),vi r,vi f,qy 1 none,vi made,qy 3 none]) false,qv 9 (zz zm L) none false,qv 9 (zz zm A) none false,qv 15 (zz zn o) none false]) ?_
  ((have hq:i=L.length:=by omega);subst hq;simp)
 |succ d ih=>
  intro i A o hi hA ho
  have hlt:i<L.length:=by omega
  have hO:=Ac0 c (gt L i).x (gt L i).y
  rw [Aaf hlt,List.filter_cons,List.filter_cons]
  by_cases h:c.of (gt L i).x (gt L i).y=r
  ·rw [if_pos (by simpa using h),if_neg (by simpa using h),List.append_cons]
   have ih1:=ih (i+1) (A++ [gt L i]) o (by omega) (by simp;omega) (by omega)
   clear ih
   refine qq ?_
   refine gg [.b (decide ((i:Int)<(↑(zq L):Int))) true,.w (0≤(i:Int)),.n (zy (i:Int)) i,.w (i<zq (zz zm L)),.g (zz zm L) i (zm (gt L i)),.a _ _,.b (Config.of c (gt L i).x (gt L i).y !=r) false,.w ((0:Nat)<(72:Nat)),.t (qk 0 [zm (gt L i)]) (qk 0 (zz zm [gt L i])),.t (qk 0 (zz zm A++zz zm [gt L i])) (qk 0 (zz zm (A++ [gt L i]))),.w (room (zq (zz zm (A++ [gt L i]))) (72:Nat)),.i zd ((i:Int)+1) ((↑(i+1):Int)),.a _ _] ⟨tP,oW,nK,o_w (by (simp [room,appendMax];omega)),o_gt rfl (by assumption) (by intro h;cases h),o_a hO,f_brn (by assumption),oW,o_l (Aae rfl Aah),o_l (Aag rfl rfl),o_w (by (simp [room,appendMax];omega)),o_i (w64 (by (simp [room,appendMax];omega))),o_a ih1,trivial⟩ ?_
   exact ge
  ·rw [if_neg (by simpa using h),if_pos (by simpa using h),List.map_cons,List.append_cons]
   have ih1:=ih (i+1) A (o++ [handE c r f (gt L i)]) (by omega) (by omega) (by simp;omega)
   have hs:=AaT c r f made L o ⟨1,0,c.of (gt L i).x (gt L i).y,0,gt L i,0,0⟩ (by omega)
   clear ih
   unfold handE at ih1⊢
   refine qq ?_
   refine gg [.b (decide ((i:Int)<(↑(zq L):Int))) true,.w (0≤(i:Int)),.n (zy (i:Int)) i,.w (i<zq (zz zm L)),.g (zz zm L) i (zm (gt L i)),.a _ _,.b (Config.of c (gt L i).x (gt L i).y !=r) true,.a _ _,.i zd ((i:Int)+1) ((↑(i+1):Int)),.a _ _] ⟨tP,oW,nK,o_w (by (simp;omega)),o_gt rfl (by assumption) (by intro h;cases h),o_a hO,t_brn (by assumption),o_a hs,oI,o_a ih1,trivial⟩ ?_
   exact ge
theorem AgD (c:Config) (r f made:Int) (L:List Entity) (hL:L.length≤1000): ∀(d i:Nat) (A:List Entity) (o:List Cross),i+d=L.length→A.length≤i→o.length≤50000+i→
  Is cx (.loop 69 [0,1,0,1] 3 [.ptr 0 0 0,.all 3 none,.all 1 none,vi L.length,vi i] [.one 10 (stepV c r f made (.all 1 none) (.all 4 none)) false,.arr 9 (L.map zm) none false,.dead,.arr 9 (A.map zm) none false,.arr 15 (o.map zn) none false])
   ⟨.exit 0,[.ptr 0 0 0,.all 3 none,.all 1 none,vi L.length,vi L.length],[.one 10 (stepV c r f made (.all 1 none) (.all 4 none)) false,.arr 9 (L.map zm) none false,.dead,.arr 9 ((A++(L.drop i).filter fun e=>decide (c.of e.x e.y=r)).map zm) none false,.arr 15 ((o++((L.drop i).filter fun e=> !decide (c.of e.x e.y=r)).map (handE c r f)).map zn) none false]⟩:=by
 intro d
 induction d with
 |zero=>
  intro i A o hi hA ho
  rw [Aac (by omega)]
  refine qq ?_
  refine gg [.b (decide ((i:Int)<(↑(zq L):Int))) false] ⟨fP,trivial⟩ ?_
  refine rT (a:=qz (qx 0) [V.ptr 0 0 0,qy 3 none,qy 1 none,vi (↑(zq L):Int),vi (i:Int)] [qg 10 (V.agg [vi c.cols,vi c.rows,vi c.players,vi c.window,V.t (T.int zf c.seed),vi r,vi f,qy 1 none,vi made,qy 4 none]) false,qv 9 (zz zm L) none false,Ob.dead,qv 9 (zz zm A) none false,qv 15 (zz zn o) none false]) ?_
  ((have hq:i=L.length:=by omega);subst hq;simp)
 |succ d ih=>
  intro i A o hi hA ho
  have hlt:i<L.length:=by omega
  have hO:=Ac0 c (gt L i).x (gt L i).y
  rw [Aaf hlt,List.filter_cons,List.filter_cons]
  by_cases h:c.of (gt L i).x (gt L i).y=r
  ·rw [if_pos (by simpa using h),if_neg (by simpa using h),List.append_cons]
   have ih1:=ih (i+1) (A++ [gt L i]) o (by omega) (by simp;omega) (by omega)
   clear ih
   refine qq ?_
   refine gg [.b (decide ((i:Int)<(↑(zq L):Int))) true,.w (0≤(i:Int)),.n (zy (i:Int)) i,.w (i<zq (zz zm L)),.g (zz zm L) i (zm (gt L i)),.a _ _,.b (Config.of c (gt L i).x (gt L i).y !=r) false,.w ((0:Nat)<(72:Nat)),.t (qk 0 [zm (gt L i)]) (qk 0 (zz zm [gt L i])),.t (qk 0 (zz zm A++zz zm [gt L i])) (qk 0 (zz zm (A++ [gt L i]))),.w (room (zq (zz zm (A++ [gt L i]))) (72:Nat)),.i zd ((i:Int)+1) ((↑(i+1):Int)),.a _ _] ⟨tP,oW,nK,o_w (by (simp [room,appendMax];omega)),o_gt rfl (by assumption) (by intro h;cases h),o_a hO,f_brn (by assumption),oW,o_l (Aae rfl Aah),o_l (Aag rfl rfl),o_w (by (simp [room,appendMax];omega)),o_i (w64 (by (simp [room,appendMax];omega))),o_a ih1,trivial⟩ ?_
   exact ge
  ·rw [if_neg (by simpa using h),if_pos (by simpa using h),List.map_cons,List.append_cons]
   have ih1:=ih (i+1) A (o++ [handE c r f (gt L i)]) (by omega) (by omega) (by simp;omega)
   have hs:=AaT c r f made L o ⟨1,0,c.of (gt L i).x (gt L i).y,0,gt L i,0,0⟩ (by omega)
   clear ih
   unfold handE at ih1⊢
   refine qq ?_
   refine gg [.b (decide ((i:Int)<(↑(zq L):Int))) true,.w (0≤(i:Int)),.n (zy (i:Int)) i,.w (i<zq (zz zm L)),.g (zz zm L) i (zm (gt L i)),.a _ _,.b (Config.of c (gt L i).x (gt L i).y !=r) true,.a _ _,.i zd ((i:Int)+1) ((↑(i+1):Int)),.a _ _] ⟨tP,oW,nK,o_w (by (simp;omega)),o_gt rfl (by assumption) (by intro h;cases h),o_a hO,t_brn (by assumption),o_a hs,oI,o_a ih1,trivial⟩ ?_
   exact ge
theorem AgH (c:Config) (r f made:Int) (L:List Entity) (hL:L.length≤1000): ∀(d i:Nat) (A:List Entity),i+d=L.length→A.length≤i→
  Is cx (.loop 69 [0,1,0,1] 2 [.ptr 0 0 0,.all 2 none,.all 1 none,vi L.length,vi i] [.one 10 (stepV c r f made (.all 1 none) (.fit 15 [])) false,.arr 9 (L.map zm) none false,.arr 9 (A.map zm) none false])
   (if ((L.drop i).filter fun e=> !decide (c.of e.x e.y=r))= [] then
    ⟨.exit 0,[.ptr 0 0 0,.all 2 none,.all 1 none,vi L.length,vi L.length],[.one 10 (stepV c r f made (.all 1 none) (.fit 15 [])) false,.arr 9 (L.map zm) none false,.arr 9 ((A++(L.drop i).filter fun e=>decide (c.of e.x e.y=r)).map zm) none false]⟩
   else ⟨.exit 0,[.ptr 0 0 0,.all 2 none,.all 1 none,vi L.length,vi L.length],[.one 10 (stepV c r f made (.all 1 none) (.all 3 none)) false,.arr 9 (L.map zm) none false,.arr 9 ((A++(L.drop i).filter fun e=>decide (c.of e.x e.y=r)).map zm) none false,.arr 15 ((((L.drop i).filter fun e=> !decide (c.of e.x e.y=r)).map (handE c r f)).map zn) none false]⟩):=by
 intro d
 induction d with
 |zero=>
  intro i A hi hA
  rw [Aac (by omega),List.filter_nil,List.filter_nil,if_pos rfl]
  refine qq ?_
  refine gg [.b (decide ((i:Int)<(↑(zq L):Int))) false] ⟨fP,trivial⟩ ?_
  refine rT (a:=qz (qx 0) [V.ptr 0 0 0,qy 2 none,qy 1 none,vi (↑(zq L):Int),vi (i:Int)] [qg 10 (V.agg [vi c.cols,vi c.rows,vi c.players,vi c.window,V.t (T.int zf c.seed),vi r,vi f,qy 1 none,vi made,V.fit 15 []]) false,qv 9 (zz zm L) none false,qv 9 (zz zm A) none false]) ?_
  ((have hq:i=L.length:=by omega);subst hq;simp)
 |succ d ih=>
  intro i A hi hA
  have hlt:i<L.length:=by omega
  have hO:=Ac0 c (gt L i).x (gt L i).y
  rw [Aaf hlt,List.filter_cons,List.filter_cons]
  by_cases h:c.of (gt L i).x (gt L i).y=r
  ·rw [if_pos (c:=decide (c.of (gt L i).x (gt L i).y=r)=true) (by simpa using h),if_neg (c:=(!decide (c.of (gt L i).x (gt L i).y=r))=true) (by simpa using h),List.append_cons]
   have ih1:=ih (i+1) (A++ [gt L i]) (by omega) (by simp;omega)
   clear ih
   split at ih1
   ·rename_i hq
    rw [if_pos hq]
    refine qq ?_
    refine gg [.b (decide ((i:Int)<(↑(zq L):Int))) true,.w (0≤(i:Int)),.n (zy (i:Int)) i,.w (i<zq (zz zm L)),.g (zz zm L) i (zm (gt L i)),.a _ _,.b (Config.of c (gt L i).x (gt L i).y !=r) false,.w ((0:Nat)<(72:Nat)),.t (qk 0 [zm (gt L i)]) (qk 0 (zz zm [gt L i])),.t (qk 0 (zz zm A++zz zm [gt L i])) (qk 0 (zz zm (A++ [gt L i]))),.w (room (zq (zz zm (A++ [gt L i]))) (72:Nat)),.i zd ((i:Int)+1) ((↑(i+1):Int)),.a _ _] ⟨tP,oW,nK,o_w (by (simp [room,appendMax];omega)),o_gt rfl (by assumption) (by intro h;cases h),o_a hO,f_brn (by assumption),oW,o_l (Aae rfl Aah),o_l (Aag rfl rfl),o_w (by (simp [room,appendMax];omega)),o_i (w64 (by (simp [room,appendMax];omega))),o_a ih1,trivial⟩ ?_
    exact ge
   ·rename_i hq
    rw [if_neg hq]
    refine qq ?_
    refine gg [.b (decide ((i:Int)<(↑(zq L):Int))) true,.w (0≤(i:Int)),.n (zy (i:Int)) i,.w (i<zq (zz zm L)),.g (zz zm L) i (zm (gt L i)),.a _ _,.b (Config.of c (gt L i).x (gt L i).y !=r) false,.w ((0:Nat)<(72:Nat)),.t (qk 0 [zm (gt L i)]) (qk 0 (zz zm [gt L i])),.t (qk 0 (zz zm A++zz zm [gt L i])) (qk 0 (zz zm (A++ [gt L i]))),.w (room (zq (zz zm (A++ [gt L i]))) (72:Nat)),.i zd ((i:Int)+1) ((↑(i+1):Int)),.a _ _] ⟨tP,oW,nK,o_w (by (simp [room,appendMax];omega)),o_gt rfl (by assumption) (by intro h;cases h),o_a hO,f_brn (by assumption),oW,o_l (Aae rfl Aah),o_l (Aag rfl rfl),o_w (by (simp [room,appendMax];omega)),o_i (w64 (by (simp [room,appendMax];omega))),o_a ih1,trivial⟩ ?_
    exact ge
  ·rw [if_neg (c:=decide (c.of (gt L i).x (gt L i).y=r)=true) (by simpa using h),if_pos (c:=(!decide (c.of (gt L i).x (gt L i).y=r))=true) (by simpa using h),if_neg (by simp),List.map_cons]
   have ih1:=AgX c r f made L hL d (i+1) A [handE c r f (gt L i)] (by omega) (by omega) (by simp;omega)
   have hs:=AdN c r f made L ⟨1,0,c.of (gt L i).x (gt L i).y,0,gt L i,0,0⟩
   clear ih
   unfold handE at ih1⊢
   refine qq ?_
   refine gg [.b (decide ((i:Int)<(↑(zq L):Int))) true,.w (0≤(i:Int)),.n (zy (i:Int)) i,.w (i<zq (zz zm L)),.g (zz zm L) i (zm (gt L i)),.a _ _,.b (Config.of c (gt L i).x (gt L i).y !=r) true,.a _ _,.i zd ((i:Int)+1) ((↑(i+1):Int)),.a _ _] ⟨tP,oW,nK,o_w (by (simp;omega)),o_gt rfl (by assumption) (by intro h;cases h),o_a hO,t_brn (by assumption),o_a hs,oI,o_a ih1,trivial⟩ ?_
   exact ge
theorem Ahg (c:Config) (r f made:Int) (L:List Entity) (hL:L.length≤1000) (o:List Cross) (ho:o.length≤50000): ∀(d i:Nat) (A:List Entity),i+d=L.length→A.length≤i→
  Is cx (.loop 69 [0,1,0,1] 3 [.ptr 0 0 0,.all 3 none,.all 1 none,vi L.length,vi i] [.one 10 (stepV c r f made (.all 1 none) (.all 2 none)) false,.arr 9 (L.map zm) none false,.arr 15 (o.map zn) none false,.arr 9 (A.map zm) none false])
   (if ((L.drop i).filter fun e=> !decide (c.of e.x e.y=r))= [] then
    ⟨.exit 0,[.ptr 0 0 0,.all 3 none,.all 1 none,vi L.length,vi L.length],[.one 10 (stepV c r f made (.all 1 none) (.all 2 none)) false,.arr 9 (L.map zm) none false,.arr 15 (o.map zn) none false,.arr 9 ((A++(L.drop i).filter fun e=>decide (c.of e.x e.y=r)).map zm) none false]⟩
   else ⟨.exit 0,[.ptr 0 0 0,.all 3 none,.all 1 none,vi L.length,vi L.length],[.one 10 (stepV c r f made (.all 1 none) (.all 4 none)) false,.arr 9 (L.map zm) none false,.dead,.arr 9 ((A++(L.drop i).filter fun e=>decide (c.of e.x e.y=r)).map zm) none false,.arr 15 ((o++((L.drop i).filter fun e=> !decide (c.of e.x e.y=r)).map (handE c r f)).map zn) none false]⟩):=by
 intro d
 induction d with
 |zero=>
  intro i A hi hA
  rw [Aac (by omega),List.filter_nil,List.filter_nil,if_pos rfl]
  refine qq ?_
  refine gg [.b (decide ((i:Int)<(↑(zq L):Int))) false] ⟨fP,trivial⟩ ?_
  refine rT (a:=qz (qx 0) [V.ptr 0 0 0,qy 3 none,qy 1 none,vi (↑(zq L):Int),vi (i:Int)] [qg 10 (V.agg [vi c.cols,vi c.rows,vi c.players,vi c.window,V.t (T.int zf c.seed),vi r,vi f,qy 1 none,vi made,qy 2 none]) false,qv 9 (zz zm L) none false,qv 15 (zz zn o) none false,qv 9 (zz zm A) none false]) ?_
  ((have hq:i=L.length:=by omega);subst hq;simp)
 |succ d ih=>
  intro i A hi hA
  have hlt:i<L.length:=by omega
  have hO:=Ac0 c (gt L i).x (gt L i).y
  rw [Aaf hlt,List.filter_cons,List.filter_cons]
  by_cases h:c.of (gt L i).x (gt L i).y=r
  ·rw [if_pos (c:=decide (c.of (gt L i).x (gt L i).y=r)=true) (by simpa using h),if_neg (c:=(!decide (c.of (gt L i).x (gt L i).y=r))=true) (by simpa using h),List.append_cons]
   have ih1:=ih (i+1) (A++ [gt L i]) (by omega) (by simp;omega)
   clear ih
   split at ih1
   ·rename_i hq
    rw [if_pos hq]
    refine qq ?_
    refine gg [.b (decide ((i:Int)<(↑(zq L):Int))) true,.w (0≤(i:Int)),.n (zy (i:Int)) i,.w (i<zq (zz zm L)),.g (zz zm L) i (zm (gt L i)),.a _ _,.b (Config.of c (gt L i).x (gt L i).y !=r) false,.w ((0:Nat)<(72:Nat)),.t (qk 0 [zm (gt L i)]) (qk 0 (zz zm [gt L i])),.t (qk 0 (zz zm A++zz zm [gt L i])) (qk 0 (zz zm (A++ [gt L i]))),.w (room (zq (zz zm (A++ [gt L i]))) (72:Nat)),.i zd ((i:Int)+1) ((↑(i+1):Int)),.a _ _] ⟨tP,oW,nK,o_w (by (simp [room,appendMax];omega)),o_gt rfl (by assumption) (by intro h;cases h),o_a hO,f_brn (by assumption),oW,o_l (Aae rfl Aah),o_l (Aag rfl rfl),o_w (by (simp [room,appendMax];omega)),o_i (w64 (by (simp [room,appendMax];omega))),o_a ih1,trivial⟩ ?_
    exact ge
   ·rename_i hq
    rw [if_neg hq]
    refine qq ?_
    refine gg [.b (decide ((i:Int)<(↑(zq L):Int))) true,.w (0≤(i:Int)),.n (zy (i:Int)) i,.w (i<zq (zz zm L)),.g (zz zm L) i (zm (gt L i)),.a _ _,.b (Config.of c (gt L i).x (gt L i).y !=r) false,.w ((0:Nat)<(72:Nat)),.t (qk 0 [zm (gt L i)]) (qk 0 (zz zm [gt L i])),.t (qk 0 (zz zm A++zz zm [gt L i])) (qk 0 (zz zm (A++ [gt L i]))),.w (room (zq (zz zm (A++ [gt L i]))) (72:Nat)),.i zd ((i:Int)+1) ((↑(i+1):Int)),.a _ _] ⟨tP,oW,nK,o_w (by (simp [room,appendMax];omega)),o_gt rfl (by assumption) (by intro h;cases h),o_a hO,f_brn (by assumption),oW,o_l (Aae rfl Aah),o_l (Aag rfl rfl),o_w (by (simp [room,appendMax];omega)),o_i (w64 (by (simp [room,appendMax];omega))),o_a ih1,trivial⟩ ?_
    exact ge
  ·rw [if_neg (c:=decide (c.of (gt L i).x (gt L i).y=r)=true) (by simpa using h),if_pos (c:=(!decide (c.of (gt L i).x (gt L i).y=r))=true) (by simpa using h),if_neg (by simp),List.map_cons,List.append_cons]
   have ih1:=AgD c r f made L hL d (i+1) A (o++ [handE c r f (gt L i)]) (by omega) (by omega) (by simp;omega)
   have hs:=AaT c r f made L o ⟨1,0,c.of (gt L i).x (gt L i).y,0,gt L i,0,0⟩ (by omega)
   clear ih
   unfold handE at ih1⊢
   refine qq ?_
   refine gg [.b (decide ((i:Int)<(↑(zq L):Int))) true,.w (0≤(i:Int)),.n (zy (i:Int)) i,.w (i<zq (zz zm L)),.g (zz zm L) i (zm (gt L i)),.a _ _,.b (Config.of c (gt L i).x (gt L i).y !=r) true,.a _ _,.i zd ((i:Int)+1) ((↑(i+1):Int)),.a _ _] ⟨tP,oW,nK,o_w (by (simp;omega)),o_gt rfl (by assumption) (by intro h;cases h),o_a hO,t_brn (by assumption),o_a hs,oI,o_a ih1,trivial⟩ ?_
   exact ge
theorem Adf (c:Config) (r f made:Int) (L:List Entity) (hL:L.length≤1000):
  Is cx (.call 69 [.ptr 0 0 0] [.one 10 (stepV c r f made (.all 1 none) (.fit 15 [])) false,.arr 9 (L.map zm) none false])
   (if (leaveS c r f ⟨L,made,[]⟩).out= [] then ⟨.ret,[],[.one 10 (stepV c r f made (.all 2 none) (.fit 15 [])) false,.arr 9 (L.map zm) none false,.arr 9 ((leaveS c r f ⟨L,made,[]⟩).l.map zm) none false]⟩
    else ⟨.ret,[],[.one 10 (stepV c r f made (.all 2 none) (.all 3 none)) false,.arr 9 (L.map zm) none false,.arr 9 ((leaveS c r f ⟨L,made,[]⟩).l.map zm) none false,.arr 15 ((leaveS c r f ⟨L,made,[]⟩).out.map zn) none false]⟩):=by
 have h:=AgH c r f made L hL L.length 0 [] (by omega) (by simp)
 simp only [List.drop_zero,List.nil_append] at h
 unfold leaveS
 simp only [List.nil_append,List.map_eq_nil_iff]
 generalize (L.filter fun e=>decide (c.of e.x e.y=r))=X at*
 generalize (L.filter fun e=> !decide (c.of e.x e.y=r))=Y at*
 generalize Y.map (handE c r f)=Z at*
 split at h
 ·rename_i hq
  rw [if_pos hq]
  refine qq ?_
  refine gg [.n (zq (zz zm L)) (zq L),.a _ _] ⟨o_n (by simp),o_a h,trivial⟩ ?_
  exact ge
 ·rename_i hq
  rw [if_neg hq]
  refine qq ?_
  refine gg [.n (zq (zz zm L)) (zq L),.a _ _] ⟨o_n (by simp),o_a h,trivial⟩ ?_
  exact ge
theorem Adj (c:Config) (r f made:Int) (L:List Entity) (o:List Cross) (hL:L.length≤1000) (ho:o.length≤50000):
  Is cx (.call 69 [.ptr 0 0 0] [.one 10 (stepV c r f made (.all 1 none) (.all 2 none)) false,.arr 9 (L.map zm) none false,.arr 15 (o.map zn) none false])
   (if (L.filter fun e=> !decide (c.of e.x e.y=r))= [] then ⟨.ret,[],[.one 10 (stepV c r f made (.all 3 none) (.all 2 none)) false,.arr 9 (L.map zm) none false,.arr 15 (o.map zn) none false,.arr 9 ((leaveS c r f ⟨L,made,o⟩).l.map zm) none false]⟩
    else ⟨.ret,[],[.one 10 (stepV c r f made (.all 3 none) (.all 4 none)) false,.arr 9 (L.map zm) none false,.dead,.arr 9 ((leaveS c r f ⟨L,made,o⟩).l.map zm) none false,.arr 15 ((leaveS c r f ⟨L,made,o⟩).out.map zn) none false]⟩):=by
 have h:=Ahg c r f made L hL o ho L.length 0 [] (by omega) (by simp)
 simp only [List.drop_zero,List.nil_append] at h
 unfold leaveS
 simp only
 generalize (L.filter fun e=>decide (c.of e.x e.y=r))=X at*
 generalize (L.filter fun e=> !decide (c.of e.x e.y=r))=Y at*
 generalize o++Y.map (handE c r f)=Z at*
 split at h
 ·rename_i hq
  rw [if_pos hq]
  refine qq ?_
  refine gg [.n (zq (zz zm L)) (zq L),.a _ _] ⟨o_n (by simp),o_a h,trivial⟩ ?_
  exact ge
 ·rename_i hq
  rw [if_neg hq]
  refine qq ?_
  refine gg [.n (zq (zz zm L)) (zq L),.a _ _] ⟨o_n (by simp),o_a h,trivial⟩ ?_
  exact ge
end Go.Eva.S4
namespace Go.Eva.S4
theorem Adu (a b n:Nat) (h1:a+n≤b): ∀(d i:Nat) (A:List Cross),i+d=n→b+n≤A.length→small A→
  Is cx (.loop 197 [0,1] 1 [.all 0 none,vi a,vi b,vi n,vi i] [.arr 15 (A.map zn) none false])
   ⟨.exit 0,[.all 0 none,vi a,vi b,vi n,vi n],[.arr 15 ((swR d A (a+i) (b+i)).map zn) none false]⟩:=by
 intro d
 induction d with
 |zero=>
  intro i A hi h2 hn
  unfold small at hn
  refine qq ?_
  refine gg [.b (decide ((i:Int)<(n:Int))) false] ⟨fP,trivial⟩ ?_
  refine rT (a:=qz (qx 0) [qy 0 none,vi (a:Int),vi (b:Int),vi (n:Int),vi (i:Int)] [qv 15 (zz zn A) none false]) ?_
  ((have hq:i=n:=by omega);subst hq;rfl)
 |succ d ih=>
  intro i A hi h2 hn
  have ih1:=ih (i+1) (sw A (a+i) (b+i)) (by omega) (by rw [Ade];omega) (by unfold small;rw [Ade];exact hn)
  unfold small at hn
  clear ih
  unfold sw at ih1
  refine qq ?_
  refine gg [.b (decide ((i:Int)<(n:Int))) true,.i zd ((a:Int)+(i:Int)) ((↑(a+i):Int)),.i zd ((b:Int)+(i:Int)) ((↑(b+i):Int)),.i zd ((b:Int)+(i:Int)) ((↑(b+i):Int)),.w (0≤(↑(b+i):Int)),.n (zy (↑(b+i):Int)) (b+i),.w (b+i<zq (zz zn A)),.i zd ((a:Int)+(i:Int)) ((↑(a+i):Int)),.w (0≤(↑(a+i):Int)),.n (zy (↑(a+i):Int)) (a+i),.w (a+i<zq (zz zn A)),.g (zz zn A) (b+i) (zn (gt A (b+i))),.g (zz zn A) (a+i) (zn (gt A (a+i))),.w (0≤(↑(a+i):Int)),.n (zy (↑(a+i):Int)) (a+i),.w (a+i<zq (zz zn A))] ⟨tP,oI,oI,oI,oW,nK,o_w (by (simp;omega)),oI,oW,nK,o_w (by (simp;omega)),oT,oT,oW,nK,o_w (by (simp;omega)),trivial⟩ ?_
  refine gg [.w (a+i<zq (zz zn A)),.t (qk 0 (zx (zz zn A) (a+i) (zn (gt A (b+i))))) (qk 0 (zz zn (zx A (a+i) (gt A (b+i))))),.w (0≤(↑(b+i):Int)),.n (zy (↑(b+i):Int)) (b+i),.w (b+i<zq (zz zn (zx A (a+i) (gt A (b+i))))),.w (b+i<zq (zz zn (zx A (a+i) (gt A (b+i))))),.t (qk 0 (zx (zz zn (zx A (a+i) (gt A (b+i)))) (b+i) (zn (gt A (a+i))))) (qk 0 (zz zn (zx (zx A (a+i) (gt A (b+i))) (b+i) (gt A (a+i))))),.i zd ((i:Int)+1) ((↑(i+1):Int)),.a _ _] ⟨o_w (by (simp;omega)),o_l (Aam rfl rfl),oW,nK,o_w (by (simp;omega)),o_w (by (simp;omega)),o_l (Aam rfl rfl),oI,o_a ih1,trivial⟩ ?_
  refine rT (a:=qz (qx 0) [qy 0 none,vi (a:Int),vi (b:Int),vi (n:Int),vi (n:Int)] [qv 15 (zz zn (swR d (zx (zx A (a+i) (gt A (b+i))) (b+i) (gt A (a+i))) (a+(i+1)) (b+(i+1)))) none false]) ?_
  (simp_all [swR,sw,Nat.add_assoc];try omega)
theorem Abh (A:List Cross) (a b n:Nat) (h1:a+n≤b) (h2:b+n≤A.length) (hn:small A):Is cx (.call 197 [.all 0 none,vi a,vi b,vi n,.t (.clo 129 [])] [.arr 15 (A.map zn) none false])
  ⟨.ret,[],[.arr 15 ((swR n A a b).map zn) none false]⟩:=by
 have h:=Adu a b n h1 n 0 A (by omega) h2 hn
 rw [Nat.add_zero,Nat.add_zero] at h
 unfold small at hn
 refine qq ?_
 refine gg [.a _ _] ⟨o_a h,trivial⟩ ?_
 exact ge
theorem AcQ (a b i:Nat): ∀(j:Nat) (A:List Cross),a≤j→j<A.length→small A→ ∃k:Nat,
  Is cx (.loop 186 [0,1,0,0,1,0,0,1] 1 [.all 0 none,vi a,vi b,.t (.clo 129 []),vi i,vi j] [.arr 15 (A.map zn) none false])
   ⟨.exit 2,[.all 0 none,vi a,vi b,.t (.clo 129 []),vi i,vi k],[.arr 15 ((insIn z7 a j A).map zn) none false]⟩:=by
 intro j
 induction j with
 |zero=>
  intro A h1 h2 hn
  unfold small at hn
  refine ⟨0,?_⟩
  refine qq ?_
  refine gg [.b (decide (0>(a:Int))) false,.ff,.ff,.ff,.ff,.ff,.ff,.ff,.ff,.ff,.ff,.ff,.ff,.ff] ⟨bK,trivial⟩ ?_
  exact ge
 |succ j ih=>
  intro A h1 h2 hn
  by_cases hj:a<j+1
  ·cases hl:z7 (gt A (j+1)) (gt A j) with
   |true=>
    obtain ⟨k,ih1⟩:=ih (sw A (j+1) j) (by omega) (by rw [Ade];omega) (by unfold small;rw [Ade];exact hn)
    unfold small at hn
    clear ih
    refine ⟨k,?_⟩
    have e:insIn z7 a (j+1) A=insIn z7 a j (sw A (j+1) j):=by rw [insIn,if_pos hj,hl]
    rw [e]
    unfold sw at*
    have ej:((j+1:Nat):Int)-1=(j:Nat):=by omega
    have hl:(gt A (j+1)).cmp (gt A j)<0:=by simpa [z7] using hl
    refine qq ?_
    refine gg [.b (decide ((↑(j+1):Int)>(a:Int))) true,.tt,.tt,.tt,.w (0≤(↑(j+(1:Nat)):Int)),.n (zy (↑(j+1):Int)) (j+1),.w (j+(1:Nat)<zq (zz zn A)),.tt,.tt,.tt,.i zd ((↑(j+1):Int)-1) (j:Int),.tt,.w (0≤(j:Int)),.n (zy (j:Int)) j,.w (j<zq (zz zn A)),.tt] ⟨tP,oW,nK,o_w (by (simp;omega)),oI,oW,nK,o_w (by (simp;omega)),trivial⟩ ?_
    refine gg [.g (zz zn A) (j+1) (zn (gt A (j+1))),.tt,.g (zz zn A) j (zn (gt A j)),.tt,.w (isFnB cx (129:Nat)=true),.a _ _,.tt,.tt,.b (decide (Cross.cmp (gt A (j+1)) (gt A j)<0)) true,.i zd ((↑(j+1):Int)-1) (j:Int),.i zd ((↑(j+1):Int)-1) (j:Int),.w (0≤(j:Int)),.n (zy (j:Int)) j,.w (j<zq (zz zn A)),.w (0≤(↑(j+(1:Nat)):Int)),.n (zy (↑(j+1):Int)) (j+1)] ⟨o_gt rfl (by assumption) (by intro h;cases h),oT,o_w (by kernel_rfl),o_a (Aaw (gt A (j+1)) (gt A j)),t_brp (by assumption),oI,oI,oW,nK,o_w (by (simp;omega)),oW,nK,trivial⟩ ?_
    refine gg [.w (j+(1:Nat)<zq (zz zn A)),.g (zz zn A) j (zn (gt A j)),.g (zz zn A) (j+1) (zn (gt A (j+1))),.w (0≤(↑(j+(1:Nat)):Int)),.n (zy (↑(j+1):Int)) (j+1),.w (j+(1:Nat)<zq (zz zn A)),.w (j+(1:Nat)<zq (zz zn A)),.t (qk 0 (zx (zz zn A) (j+1) (zn (gt A j)))) (qk 0 (zz zn (zx A (j+1) (gt A j)))),.w (0≤(j:Int)),.n (zy (j:Int)) j,.w (j<zq (zz zn (zx A (j+(1:Nat)) (gt A j)))),.w (j<zq (zz zn (zx A (j+(1:Nat)) (gt A j)))),.t (qk 0 (zx (zz zn (zx A (j+1) (gt A j))) j (zn (gt A (j+1))))) (qk 0 (zz zn (zx (zx A (j+1) (gt A j)) j (gt A (j+1))))),.i zd ((↑(j+1):Int)-1) (j:Int),.a _ _] ⟨o_w (by (simp;omega)),oT,o_gt rfl (by assumption) (by intro h;cases h),oW,nK,o_w (by (simp;omega)),o_w (by (simp;omega)),o_l (Aam rfl rfl),oW,nK,o_w (by (simp;omega)),o_w (by (simp;omega)),o_l (Aam rfl rfl),oI,o_a ih1,trivial⟩ ?_
    refine rT (a:=qz (qx 2) [qy 0 none,vi (a:Int),vi (b:Int),V.t (T.clo 129 []),vi (i:Int),vi (k:Int)] [qv 15 (zz zn (insIn z7 a j (zx (zx A (j+1) (gt A j)) j (gt A (j+1))))) none false]) ?_
    simp_all
   |false=>
    unfold small at hn
    clear ih
    refine ⟨j+1,?_⟩
    have e:insIn z7 a (j+1) A=A:=by rw [insIn,if_pos hj,hl]
    rw [e]
    have hl: ¬(gt A (j+1)).cmp (gt A j)<0:=by simpa [z7] using hl
    refine qq ?_
    refine gg [.b (decide ((↑(j+1):Int)>(a:Int))) true,.tt,.tt,.tt,.w (0≤(↑(j+(1:Nat)):Int)),.n (zy (↑(j+1):Int)) (j+1),.w (j+(1:Nat)<zq (zz zn A)),.tt,.tt,.tt,.i zd ((↑(j+1):Int)-1) ((↑(j+1):Int)-1),.tt,.w (0≤(↑(j+(1:Nat)):Int)-(1:Int)),.n (zy ((↑(j+1):Int)-1)) j,.w (j<zq (zz zn A)),.tt] ⟨tP,oW,nK,o_w (by (simp;omega)),oI,oW,oN,o_w (by (simp;omega)),trivial⟩ ?_
    refine gg [.g (zz zn A) (j+1) (zn (gt A (j+1))),.tt,.g (zz zn A) j (zn (gt A j)),.tt,.w (isFnB cx (129:Nat)=true),.a _ _,.tt,.tt,.b (decide (Cross.cmp (gt A (j+1)) (gt A j)<0)) false] ⟨o_gt rfl (by assumption) (by intro h;cases h),oT,o_w (by kernel_rfl),o_a (Aaw (gt A (j+1)) (gt A j)),f_brp (by assumption),trivial⟩ ?_
    refine rT (a:=qz (qx 2) [qy 0 none,vi (a:Int),vi (b:Int),V.t (T.clo 129 []),vi (i:Int),vi (↑(j+1):Int)] [qv 15 (zz zn A) none false]) ?_
    simp_all
  ·unfold small at hn
   clear ih
   refine ⟨j+1,?_⟩
   have e:insIn z7 a (j+1) A=A:=by rw [insIn,if_neg hj]
   rw [e]
   refine qq ?_
   refine gg [.b (decide ((↑(j+1):Int)>(a:Int))) false,.ff,.ff,.ff,.ff,.ff,.ff,.ff,.ff,.ff,.ff,.ff,.ff,.ff] ⟨fP,trivial⟩ ?_
   refine rT (a:=qz (qx 2) [qy 0 none,vi (a:Int),vi (b:Int),V.t (T.clo 129 []),vi (i:Int),vi (↑(j+1):Int)] [qv 15 (zz zn A) none false]) ?_
   simp_all
theorem AcI (a b:Nat): ∀(d i:Nat) (A:List Cross),i+d=b→a≤i→b≤A.length→small A→ ∃k:Nat,
  Is cx (.loop 186 [0,1] 1 [.all 0 none,vi a,vi b,.t (.clo 129 []),vi i] [.arr 15 (A.map zn) none false])
   ⟨.exit 0,[.all 0 none,vi a,vi b,.t (.clo 129 []),vi k],[.arr 15 ((insOut z7 a d i A).map zn) none false]⟩:=by
 intro d
 induction d with
 |zero=>
  intro i A hi h1 h2 hn
  unfold small at hn
  refine ⟨i,?_⟩
  refine qq ?_
  refine gg [.b (decide ((i:Int)<(b:Int))) false] ⟨fP,trivial⟩ ?_
  exact ge
 |succ d ih=>
  intro i A hi h1 h2 hn
  obtain ⟨k0,h0⟩:=AcQ a b i i A h1 (by omega) hn
  obtain ⟨k,ih1⟩:=ih (i+1) (insIn z7 a i A) (by omega) (by omega) (by rw [AeU];omega) (by unfold small;rw [AeU];exact hn)
  unfold small at hn
  clear ih
  refine ⟨k,?_⟩
  have hlen:(insIn z7 a i A).length=A.length:=AeU ..
  rw [insOut]
  refine qq ?_
  refine gg [.b (decide ((i:Int)<(b:Int))) true,.a _ _,.i zd ((i:Int)+1) ((↑(i+1):Int)),.a _ _] ⟨tP,o_a h0,oI,o_a ih1,trivial⟩ ?_
  exact ge
theorem Abu (A:List Cross) (a b:Nat) (h1:a≤b) (h2:b≤A.length) (hn:small A):Is cx (.call 186 [.all 0 none,vi a,vi b,.t (.clo 129 [])] [.arr 15 (A.map zn) none false])
  ⟨.ret,[],[.arr 15 ((srt z7 A a b).map zn) none false]⟩:=by
 by_cases hab:a<b
 ·rw [←Alt Aap hab h2]
  obtain ⟨k,h⟩:=AcI a b (b-a-1) (a+1) A (by omega) (by omega) h2 hn
  unfold small at hn
  refine qq ?_
  refine gg [.i zd ((a:Int)+1) ((↑(a+1):Int)),.a _ _] ⟨oI,o_a h,trivial⟩ ?_
  exact ge
 ·obtain rfl:a=b:=by omega
  rw [AlC Aap (by omega) (by omega)]
  unfold small at hn
  have h:Is cx (.loop 186 [0,1] 1 [.all 0 none,vi a,vi a,.t (.clo 129 []),vi (a+1:Nat)] [.arr 15 (A.map zn) none false])
   ⟨.exit 0,[.all 0 none,vi a,vi a,.t (.clo 129 []),vi (a+1:Nat)],[.arr 15 (A.map zn) none false]⟩:=by
   refine qq ?_
   refine gg [.b (decide ((↑(a+1):Int)<(a:Int))) false] ⟨fP,trivial⟩ ?_
   exact ge
  refine qq ?_
  refine gg [.i zd ((a:Int)+1) ((↑(a+1):Int)),.a _ _] ⟨oI,o_a h,trivial⟩ ?_
  exact ge
theorem Aeq (m:Nat): ∀(d i j:Nat) (A:List Cross),i+j≤d→0<i→0<j→i≤m→m+j≤A.length→small A→ ∃(k:Nat) (B:List Cross),
  Is cx (.loop 194 [0,0,1,1] 1 [.all 0 none,vi m,.t (.clo 129 []),vi i,vi j] [.arr 15 (A.map zn) none false])
   ⟨.exit 0,[.all 0 none,vi m,.t (.clo 129 []),vi k,vi k],[.arr 15 (B.map zn) none false]⟩∧k≤m∧m+k≤A.length∧B.length=A.length∧swR k B (m-k) m=rotL d A m i j:=by
 intro d
 induction d with
 |zero=>intros;omega
 |succ d ih=>
  intro i j A hd h1 h2 h3 h4 hn
  by_cases hij:i=j
  ·subst hij
   refine ⟨i,A,?_,h3,h4,rfl,by rw [rotL,if_pos rfl]⟩
   unfold small at hn
   refine qq ?_
   refine gg [.b ((i:Int) !=(i:Int)) false] ⟨f_brn rfl,trivial⟩ ?_
   exact ge
  ·by_cases hj:j<i
   ·obtain ⟨k,B,ih1,k1,k2,k3,k4⟩:=ih (i-j) j (swR j A (m-i) m) (by omega) (by omega) h2 (by omega) (by rw [Ack];omega) (by unfold small;rw [Ack];exact hn)
    rw [Ack] at k2 k3
    refine ⟨k,B,?_,k1,k2,k3,by rw [rotL,if_neg hij,if_pos hj,k4]⟩
    have h0:=Abh A (m-i) m j (by omega) (by omega) hn
    have hlen:(swR j A (m-i) m).length=A.length:=Ack ..
    unfold small at hn
    clear ih
    have e1:(m:Int)-i=(m-i:Nat):=by omega
    have e2:(i:Int)-j=(i-j:Nat):=by omega
    refine qq ?_
    refine gg [.b ((i:Int) !=(j:Int)) true,.b (decide ((i:Int)>(j:Int))) true,.i zd ((m:Int)-(i:Int)) ((↑(m-i):Int)),.a _ _,.i zd ((i:Int)-(j:Int)) ((↑(i-j):Int)),.a _ _] ⟨tN,tP,oI,o_a h0,oI,o_a ih1,trivial⟩ ?_
    exact ge
   ·obtain ⟨k,B,ih1,k1,k2,k3,k4⟩:=ih i (j-i) (swR i A (m-i) (m+j-i)) (by omega) h1 (by omega) h3 (by rw [Ack];omega) (by unfold small;rw [Ack];exact hn)
    rw [Ack] at k2 k3
    refine ⟨k,B,?_,k1,k2,k3,by rw [rotL,if_neg hij,if_neg hj,k4]⟩
    have h0:=Abh A (m-i) (m+j-i) i (by omega) (by omega) hn
    have hlen:(swR i A (m-i) (m+j-i)).length=A.length:=Ack ..
    unfold small at hn
    clear ih
    have e1:(m:Int)-i=(m-i:Nat):=by omega
    have e2:(j:Int)-i=(j-i:Nat):=by omega
    have e3:(m+j:Nat)-(i:Int)=(m+j-i:Nat):=by omega
    refine qq ?_
    refine gg [.b ((i:Int) !=(j:Int)) true,.b (decide ((i:Int)>(j:Int))) false,.i zd ((m:Int)-(i:Int)) ((↑(m-i):Int)),.i zd ((m:Int)+(j:Int)) ((↑(m+j):Int)),.i zd ((↑(m+j):Int)-(i:Int)) ((↑(m+j-i):Int)),.a _ _,.i zd ((j:Int)-(i:Int)) ((↑(j-i):Int)),.a _ _] ⟨tN,fP,oI,oI,oI,o_a h0,oI,o_a ih1,trivial⟩ ?_
    exact ge
theorem Ahx (A:List Cross) (a m b:Nat) (h1:a<m) (h2:m<b) (h3:b≤A.length) (hn:small A):Is cx (.call 194 [.all 0 none,vi a,vi m,vi b,.t (.clo 129 [])] [.arr 15 (A.map zn) none false])
  ⟨.ret,[],[.arr 15 ((A.take a++seg A m b++seg A a m++A.drop b).map zn) none false]⟩:=by
 rw [←AmL h1 h2 h3 (Nat.le_refl _)]
 obtain ⟨k,B,h,k1,k2,k3,k4⟩:=Aeq m (b-a) (m-a) (b-m) A (by omega) (by omega) (by omega) (by omega) (by omega) hn
 rw [←k4]
 have h0:=Abh B (m-k) m k (by omega) (by omega) (by unfold small;rw [k3];exact hn)
 unfold small at hn
 have e1:(m:Int)-a=(m-a:Nat):=by omega
 have e2:(b:Int)-m=(b-m:Nat):=by omega
 have e3:(m:Int)-k=(m-k:Nat):=by omega
 refine qq ?_
 refine gg [.i zd ((m:Int)-(a:Int)) ((↑(m-a):Int)),.i zd ((b:Int)-(m:Int)) ((↑(b-m):Int)),.a _ _,.i zd ((m:Int)-(k:Int)) ((↑(m-k):Int)),.a _ _] ⟨oI,oI,o_a h,oI,o_a h0,trivial⟩ ?_
 exact ge
end Go.Eva.S4
namespace Go.Eva.S4
theorem Aeg (A:List Cross) (a:Nat) (ha:a<A.length) (hn:small A): ∀(d i j:Nat),i≤j→j≤i+d→j≤A.length→
  Is cx (.loop 187 [0,0,1,1,0,1,0] 1 [.all 0 none,vi a,.t (.clo 129 []),vi i,vi j] [.arr 15 (A.map zn) none false])
   ⟨.exit 0,[.all 0 none,vi a,.t (.clo 129 []),vi (bs (fun h=>z7 (gt A h) (gt A a)) d i j:Nat),vi (bs (fun h=>z7 (gt A h) (gt A a)) d i j:Nat)],[.arr 15 (A.map zn) none false]⟩:=by
 intro d
 induction d with
 |zero=>
  intro i j h1 h2 h3
  obtain rfl:i=j:=by omega
  unfold small at hn
  unfold bs
  refine qq ?_
  refine gg [.b (decide ((i:Int)<(i:Int))) false] ⟨fP,trivial⟩ ?_
  exact ge
 |succ d ih=>
  intro i j h1 h2 h3
  by_cases hij:i<j
  ·obtain ⟨h,hh⟩: ∃h,(i+j)/2=h:=⟨_,rfl⟩
   have hf:zh ((i+j:Nat):Int) 2=(h:Nat):=by rw [Int.fdiv_eq_ediv_of_nonneg _ (by omega)];omega
   have ih1:=ih (h+1) j (by omega) (by omega) (by omega)
   have ih2:=ih i h (by omega) (by omega) (by omega)
   unfold small at hn
   clear ih
   cases hl:(fun h=>z7 (gt A h) (gt A a)) h with
   |true=>
    have e:bs (fun h=>z7 (gt A h) (gt A a)) (d+1) i j=bs (fun h=>z7 (gt A h) (gt A a)) d (h+1) j:=by exact bs_t hij hh hl
    rw [e]
    have hl:(gt A h).cmp (gt A a)<0:=by simpa [z7] using hl
    refine qq ?_
    refine gg [.b (decide ((i:Int)<(j:Int))) true,.i zd ((i:Int)+(j:Int)) ((↑(i+j):Int)),.i zf ((↑(i+j):Int)) ((↑(i+j):Int)),.w (0≤(1:Int)),.t (T.int zf (zh (↑(i+j):Int) 2)) (T.int zf (h:Int)),.i zd (h:Int) (h:Int),.w (0≤(h:Int)),.n (zy (h:Int)) h,.w (h<zq (zz zn A)),.w (0≤(a:Int)),.n (zy (a:Int)) a,.w (a<zq (zz zn A)),.g (zz zn A) h (zn (gt A h)),.g (zz zn A) a (zn (gt A a)),.w (isFnB cx (129:Nat)=true),.a _ _] ⟨tP,oI,oU,oW,o_t (by rw [hf]),oI,oW,nK,o_w (by (simp;omega)),oW,nK,o_w (by (simp;omega)),oT,o_gt rfl (by assumption) (by intro h;cases h),o_w (by kernel_rfl),o_a (Aaw (gt A h) (gt A a)),trivial⟩ ?_
    refine gg [.b (decide (Cross.cmp (gt A h) (gt A a)<0)) true,.i zd ((h:Int)+1) ((↑(h+1):Int)),.a _ _] ⟨t_brp (by assumption),oI,o_a ih1,trivial⟩ ?_
    refine rT (a:=qz (qx 0) [qy 0 none,vi (a:Int),V.t (T.clo 129 []),vi (↑(bs (fun (h:Nat)↦z7 (gt A h) (gt A a)) d (h+1) j):Int),vi (↑(bs (fun (h:Nat)↦z7 (gt A h) (gt A a)) d (h+1) j):Int)] [qv 15 (zz zn A) none false]) ?_
    (first|rfl|omega|(simp_all;done)|(simp_all;omega))
   |false=>
    have e:bs (fun h=>z7 (gt A h) (gt A a)) (d+1) i j=bs (fun h=>z7 (gt A h) (gt A a)) d i h:=by exact bs_f hij hh hl
    rw [e]
    have hl: ¬(gt A h).cmp (gt A a)<0:=by simpa [z7] using hl
    refine qq ?_
    refine gg [.b (decide ((i:Int)<(j:Int))) true,.i zd ((i:Int)+(j:Int)) ((↑(i+j):Int)),.i zf ((↑(i+j):Int)) ((↑(i+j):Int)),.w (0≤(1:Int)),.t (T.int zf (zh (↑(i+j):Int) 2)) (T.int zf (h:Int)),.i zd (h:Int) (h:Int),.w (0≤(h:Int)),.n (zy (h:Int)) h,.w (h<zq (zz zn A)),.w (0≤(a:Int)),.n (zy (a:Int)) a,.w (a<zq (zz zn A)),.g (zz zn A) h (zn (gt A h)),.g (zz zn A) a (zn (gt A a)),.w (isFnB cx (129:Nat)=true),.a _ _] ⟨tP,oI,oU,oW,o_t (by rw [hf]),oI,oW,nK,o_w (by (simp;omega)),oW,nK,o_w (by (simp;omega)),oT,o_gt rfl (by assumption) (by intro h;cases h),o_w (by kernel_rfl),o_a (Aaw (gt A h) (gt A a)),trivial⟩ ?_
    refine gg [.b (decide (Cross.cmp (gt A h) (gt A a)<0)) false,.a _ _] ⟨f_brp (by assumption),o_a ih2,trivial⟩ ?_
    refine rT (a:=qz (qx 0) [qy 0 none,vi (a:Int),V.t (T.clo 129 []),vi (↑(bs (fun (h:Nat)↦z7 (gt A h) (gt A a)) d i h):Int),vi (↑(bs (fun (h:Nat)↦z7 (gt A h) (gt A a)) d i h):Int)] [qv 15 (zz zn A) none false]) ?_
    (first|rfl|omega|(simp_all;done)|(simp_all;omega))
  ·obtain rfl:i=j:=by omega
   unfold small at hn
   have e:bs (fun h=>z7 (gt A h) (gt A a)) (d+1) i i=i:=by rw [bs,if_neg hij]
   rw [e]
   refine qq ?_
   refine gg [.b (decide ((i:Int)<(i:Int))) false] ⟨fP,trivial⟩ ?_
   exact ge
theorem Aee (A:List Cross) (m:Nat) (hm:m<A.length) (hn:small A): ∀(d i j:Nat),i≤j→j≤i+d→j≤A.length→
  Is cx (.loop 187 [0,0,1,1,0,1,0,1] 1 [.all 0 none,vi m,.t (.clo 129 []),vi i,vi j] [.arr 15 (A.map zn) none false])
   ⟨.exit 4,[.all 0 none,vi m,.t (.clo 129 []),vi (bs (fun h=> !z7 (gt A m) (gt A h)) d i j:Nat),vi (bs (fun h=> !z7 (gt A m) (gt A h)) d i j:Nat)],[.arr 15 (A.map zn) none false]⟩:=by
 intro d
 induction d with
 |zero=>
  intro i j h1 h2 h3
  obtain rfl:i=j:=by omega
  unfold small at hn
  unfold bs
  refine qq ?_
  refine gg [.b (decide ((i:Int)<(i:Int))) false] ⟨fP,trivial⟩ ?_
  exact ge
 |succ d ih=>
  intro i j h1 h2 h3
  by_cases hij:i<j
  ·obtain ⟨h,hh⟩: ∃h,(i+j)/2=h:=⟨_,rfl⟩
   have hf:zh ((i+j:Nat):Int) 2=(h:Nat):=by rw [Int.fdiv_eq_ediv_of_nonneg _ (by omega)];omega
   have ih1:=ih (h+1) j (by omega) (by omega) (by omega)
   have ih2:=ih i h (by omega) (by omega) (by omega)
   unfold small at hn
   clear ih
   cases hl:(fun h=> !z7 (gt A m) (gt A h)) h with
   |true=>
    have e:bs (fun h=> !z7 (gt A m) (gt A h)) (d+1) i j=bs (fun h=> !z7 (gt A m) (gt A h)) d (h+1) j:=by exact bs_t hij hh hl
    rw [e]
    have hl: ¬(gt A m).cmp (gt A h)<0:=by simpa [z7] using hl
    refine qq ?_
    refine gg [.b (decide ((i:Int)<(j:Int))) true,.i zd ((i:Int)+(j:Int)) ((↑(i+j):Int)),.i zf ((↑(i+j):Int)) ((↑(i+j):Int)),.w (0≤(1:Int)),.t (T.int zf (zh (↑(i+j):Int) 2)) (T.int zf (h:Int)),.i zd (h:Int) (h:Int),.w (0≤(m:Int)),.n (zy (m:Int)) m,.w (m<zq (zz zn A)),.w (0≤(h:Int)),.n (zy (h:Int)) h,.w (h<zq (zz zn A)),.g (zz zn A) m (zn (gt A m)),.g (zz zn A) h (zn (gt A h)),.w (isFnB cx (129:Nat)=true),.a _ _] ⟨tP,oI,oU,oW,o_t (by rw [hf]),oI,oW,nK,o_w (by (simp;omega)),oW,nK,o_w (by (simp;omega)),o_gt rfl (by assumption) (by intro h;cases h),oT,o_w (by kernel_rfl),o_a (Aaw (gt A m) (gt A h)),trivial⟩ ?_
    refine brnot (b:=decide (Cross.cmp (gt A m) (gt A h)<0)) (by kernel_rfl) (fun h1=> ?_) (fun h1=> ?_)
    ·refine gg [.i zd ((h:Int)+1) ((↑(h+1):Int)),.a _ _] ⟨oI,o_a ih1,trivial⟩ ?_
     refine rT (a:=qz (qx 4) [qy 0 none,vi (m:Int),V.t (T.clo 129 []),vi (↑(bs (fun (h:Nat)↦ !z7 (gt A m) (gt A h)) d (h+1) j):Int),vi (↑(bs (fun (h:Nat)↦ !z7 (gt A m) (gt A h)) d (h+1) j):Int)] [qv 15 (zz zn A) none false]) ?_
     (first|rfl|omega|(simp_all;done)|(simp_all;omega))
    ·refine gg [.a _ _] ⟨o_a ih2,trivial⟩ ?_
     refine rT (a:=qz (qx 4) [qy 0 none,vi (m:Int),V.t (T.clo 129 []),vi (↑(bs (fun (h:Nat)↦ !z7 (gt A m) (gt A h)) d i h):Int),vi (↑(bs (fun (h:Nat)↦ !z7 (gt A m) (gt A h)) d i h):Int)] [qv 15 (zz zn A) none false]) ?_
     (first|rfl|omega|(simp_all;done)|(simp_all;omega))
   |false=>
    have e:bs (fun h=> !z7 (gt A m) (gt A h)) (d+1) i j=bs (fun h=> !z7 (gt A m) (gt A h)) d i h:=by exact bs_f hij hh hl
    rw [e]
    have hl:(gt A m).cmp (gt A h)<0:=by simpa [z7] using hl
    refine qq ?_
    refine gg [.b (decide ((i:Int)<(j:Int))) true,.i zd ((i:Int)+(j:Int)) ((↑(i+j):Int)),.i zf ((↑(i+j):Int)) ((↑(i+j):Int)),.w (0≤(1:Int)),.t (T.int zf (zh (↑(i+j):Int) 2)) (T.int zf (h:Int)),.i zd (h:Int) (h:Int),.w (0≤(m:Int)),.n (zy (m:Int)) m,.w (m<zq (zz zn A)),.w (0≤(h:Int)),.n (zy (h:Int)) h,.w (h<zq (zz zn A)),.g (zz zn A) m (zn (gt A m)),.g (zz zn A) h (zn (gt A h)),.w (isFnB cx (129:Nat)=true),.a _ _] ⟨tP,oI,oU,oW,o_t (by rw [hf]),oI,oW,nK,o_w (by (simp;omega)),oW,nK,o_w (by (simp;omega)),o_gt rfl (by assumption) (by intro h;cases h),oT,o_w (by kernel_rfl),o_a (Aaw (gt A m) (gt A h)),trivial⟩ ?_
    refine brnot (b:=decide (Cross.cmp (gt A m) (gt A h)<0)) (by kernel_rfl) (fun h1=> ?_) (fun h1=> ?_)
    ·refine gg [.i zd ((h:Int)+1) ((↑(h+1):Int)),.a _ _] ⟨oI,o_a ih1,trivial⟩ ?_
     refine rT (a:=qz (qx 4) [qy 0 none,vi (m:Int),V.t (T.clo 129 []),vi (↑(bs (fun (h:Nat)↦ !z7 (gt A m) (gt A h)) d (h+1) j):Int),vi (↑(bs (fun (h:Nat)↦ !z7 (gt A m) (gt A h)) d (h+1) j):Int)] [qv 15 (zz zn A) none false]) ?_
     (first|rfl|omega|(simp_all;done)|(simp_all;omega))
    ·refine gg [.a _ _] ⟨o_a ih2,trivial⟩ ?_
     refine rT (a:=qz (qx 4) [qy 0 none,vi (m:Int),V.t (T.clo 129 []),vi (↑(bs (fun (h:Nat)↦ !z7 (gt A m) (gt A h)) d i h):Int),vi (↑(bs (fun (h:Nat)↦ !z7 (gt A m) (gt A h)) d i h):Int)] [qv 15 (zz zn A) none false]) ?_
     (first|rfl|omega|(simp_all;done)|(simp_all;omega))
  ·obtain rfl:i=j:=by omega
   unfold small at hn
   have e:bs (fun h=> !z7 (gt A m) (gt A h)) (d+1) i i=i:=by rw [bs,if_neg hij]
   rw [e]
   refine qq ?_
   refine gg [.b (decide ((i:Int)<(i:Int))) false] ⟨fP,trivial⟩ ?_
   exact ge
theorem AdV (A:List Cross) (a m b mid n p:Nat) (hn:small A): ∀(d i j:Nat),i≤j→j≤i+d→j≤p+1→p<i+A.length→j≤A.length→
  Is cx (.loop 187 [0,0,1,1,1,1,1,1,1] 1 [.all 0 none,vi a,vi m,vi b,.t (.clo 129 []),vi mid,vi n,vi i,vi j,vi p] [.arr 15 (A.map zn) none false])
   ⟨.exit 8,[.all 0 none,vi a,vi m,vi b,.t (.clo 129 []),vi mid,vi n,vi (bs (fun c=> !z7 (gt A (p-c)) (gt A c)) d i j:Nat),vi (bs (fun c=> !z7 (gt A (p-c)) (gt A c)) d i j:Nat),vi p],[.arr 15 (A.map zn) none false]⟩:=by
 intro d
 induction d with
 |zero=>
  intro i j h1 h2 h3 h4 h5
  obtain rfl:i=j:=by omega
  unfold small at hn
  unfold bs
  refine qq ?_
  refine gg [.b (decide ((i:Int)<(i:Int))) false] ⟨fP,trivial⟩ ?_
  exact ge
 |succ d ih=>
  intro i j h1 h2 h3 h4 h5
  by_cases hij:i<j
  ·obtain ⟨h,hh⟩: ∃h,(i+j)/2=h:=⟨_,rfl⟩
   have hf:zh ((i+j:Nat):Int) 2=(h:Nat):=by rw [Int.fdiv_eq_ediv_of_nonneg _ (by omega)];omega
   have ih1:=ih (h+1) j (by omega) (by omega) (by omega) (by omega) (by omega)
   have ih2:=ih i h (by omega) (by omega) (by omega) (by omega) (by omega)
   unfold small at hn
   clear ih
   cases hl:(fun c=> !z7 (gt A (p-c)) (gt A c)) h with
   |true=>
    have e:bs (fun c=> !z7 (gt A (p-c)) (gt A c)) (d+1) i j=bs (fun c=> !z7 (gt A (p-c)) (gt A c)) d (h+1) j:=by exact bs_t hij hh hl
    rw [e]
    have hl: ¬(gt A (p-h)).cmp (gt A h)<0:=by simpa [z7] using hl
    have e1:(p:Int)-h=(p-h:Nat):=by omega
    refine qq ?_
    refine gg [.b (decide ((i:Int)<(j:Int))) true,.i zd ((i:Int)+(j:Int)) ((↑(i+j):Int)),.i zf ((↑(i+j):Int)) ((↑(i+j):Int)),.w (0≤(1:Int)),.t (T.int zf (zh (↑(i+j):Int) 2)) (T.int zf (h:Int)),.i zd (h:Int) (h:Int),.i zd ((p:Int)-(h:Int)) ((↑(p-h):Int)),.w (0≤(↑(p-h):Int)),.n (zy (↑(p-h):Int)) (p-h),.w (p-h<zq (zz zn A)),.w (0≤(h:Int)),.n (zy (h:Int)) h,.w (h<zq (zz zn A)),.g (zz zn A) (p-h) (zn (gt A (p-h))),.g (zz zn A) h (zn (gt A h)),.w (isFnB cx (129:Nat)=true)] ⟨tP,oI,oU,oW,o_t (by rw [hf]),oI,oI,oW,nK,o_w (by (simp;omega)),oW,nK,o_w (by (simp;omega)),oT,oT,o_w (by kernel_rfl),trivial⟩ ?_
    refine gg [.a _ _] ⟨o_a (Aaw (gt A (p-h)) (gt A h)),trivial⟩ ?_
    refine brnot (b:=decide (Cross.cmp (gt A (p-h)) (gt A h)<0)) (by kernel_rfl) (fun h1=> ?_) (fun h1=> ?_)
    ·refine gg [.i zd ((h:Int)+1) ((↑(h+1):Int)),.a _ _] ⟨oI,o_a ih1,trivial⟩ ?_
     refine rT (a:=qz (qx 8) [qy 0 none,vi (a:Int),vi (m:Int),vi (b:Int),V.t (T.clo 129 []),vi (mid:Int),vi (n:Int),vi (↑(bs (fun (c:Nat)↦ !z7 (gt A (p-c)) (gt A c)) d (h+1) j):Int),vi (↑(bs (fun (c:Nat)↦ !z7 (gt A (p-c)) (gt A c)) d (h+1) j):Int),vi (p:Int)] [qv 15 (zz zn A) none false]) ?_
     (first|rfl|omega|(simp_all;done)|(simp_all;omega))
    ·refine gg [.a _ _] ⟨o_a ih2,trivial⟩ ?_
     refine rT (a:=qz (qx 8) [qy 0 none,vi (a:Int),vi (m:Int),vi (b:Int),V.t (T.clo 129 []),vi (mid:Int),vi (n:Int),vi (↑(bs (fun (c:Nat)↦ !z7 (gt A (p-c)) (gt A c)) d i h):Int),vi (↑(bs (fun (c:Nat)↦ !z7 (gt A (p-c)) (gt A c)) d i h):Int),vi (p:Int)] [qv 15 (zz zn A) none false]) ?_
     (first|rfl|omega|(simp_all;done)|(simp_all;omega))
   |false=>
    have e:bs (fun c=> !z7 (gt A (p-c)) (gt A c)) (d+1) i j=bs (fun c=> !z7 (gt A (p-c)) (gt A c)) d i h:=by exact bs_f hij hh hl
    rw [e]
    have hl:(gt A (p-h)).cmp (gt A h)<0:=by simpa [z7] using hl
    have e1:(p:Int)-h=(p-h:Nat):=by omega
    refine qq ?_
    refine gg [.b (decide ((i:Int)<(j:Int))) true,.i zd ((i:Int)+(j:Int)) ((↑(i+j):Int)),.i zf ((↑(i+j):Int)) ((↑(i+j):Int)),.w (0≤(1:Int)),.t (T.int zf (zh (↑(i+j):Int) 2)) (T.int zf (h:Int)),.i zd (h:Int) (h:Int),.i zd ((p:Int)-(h:Int)) ((↑(p-h):Int)),.w (0≤(↑(p-h):Int)),.n (zy (↑(p-h):Int)) (p-h),.w (p-h<zq (zz zn A)),.w (0≤(h:Int)),.n (zy (h:Int)) h,.w (h<zq (zz zn A)),.g (zz zn A) (p-h) (zn (gt A (p-h))),.g (zz zn A) h (zn (gt A h)),.w (isFnB cx (129:Nat)=true)] ⟨tP,oI,oU,oW,o_t (by rw [hf]),oI,oI,oW,nK,o_w (by (simp;omega)),oW,nK,o_w (by (simp;omega)),oT,oT,o_w (by kernel_rfl),trivial⟩ ?_
    refine gg [.a _ _] ⟨o_a (Aaw (gt A (p-h)) (gt A h)),trivial⟩ ?_
    refine brnot (b:=decide (Cross.cmp (gt A (p-h)) (gt A h)<0)) (by kernel_rfl) (fun h1=> ?_) (fun h1=> ?_)
    ·refine gg [.i zd ((h:Int)+1) ((↑(h+1):Int)),.a _ _] ⟨oI,o_a ih1,trivial⟩ ?_
     refine rT (a:=qz (qx 8) [qy 0 none,vi (a:Int),vi (m:Int),vi (b:Int),V.t (T.clo 129 []),vi (mid:Int),vi (n:Int),vi (↑(bs (fun (c:Nat)↦ !z7 (gt A (p-c)) (gt A c)) d (h+1) j):Int),vi (↑(bs (fun (c:Nat)↦ !z7 (gt A (p-c)) (gt A c)) d (h+1) j):Int),vi (p:Int)] [qv 15 (zz zn A) none false]) ?_
     (first|rfl|omega|(simp_all;done)|(simp_all;omega))
    ·refine gg [.a _ _] ⟨o_a ih2,trivial⟩ ?_
     refine rT (a:=qz (qx 8) [qy 0 none,vi (a:Int),vi (m:Int),vi (b:Int),V.t (T.clo 129 []),vi (mid:Int),vi (n:Int),vi (↑(bs (fun (c:Nat)↦ !z7 (gt A (p-c)) (gt A c)) d i h):Int),vi (↑(bs (fun (c:Nat)↦ !z7 (gt A (p-c)) (gt A c)) d i h):Int),vi (p:Int)] [qv 15 (zz zn A) none false]) ?_
     (first|rfl|omega|(simp_all;done)|(simp_all;omega))
  ·obtain rfl:i=j:=by omega
   unfold small at hn
   have e:bs (fun c=> !z7 (gt A (p-c)) (gt A c)) (d+1) i i=i:=by rw [bs,if_neg hij]
   rw [e]
   refine qq ?_
   refine gg [.b (decide ((i:Int)<(i:Int))) false] ⟨fP,trivial⟩ ?_
   exact ge
theorem AeA: ∀(d k i:Nat) (A:List Cross),k+d=i-1→i≤A.length→small A→
  Is cx (.loop 187 [0,1,0,1,1,1,0,1,0] 1 [.all 0 none,vi i,vi k] [.arr 15 (A.map zn) none false])
   ⟨.exit 2,[.all 0 none,vi i,vi (i-1:Nat)],[.arr 15 ((up d A k).map zn) none false]⟩:=by
 intro d
 induction d with
 |zero=>
  intro k i A h1 h2 hn
  unfold small at hn
  obtain rfl:k=i-1:=by omega
  unfold up
  refine qq ?_
  refine gg [.i zd ((i:Int)-1) ((i:Int)-1),.b (decide ((↑(i-1):Int)<(i:Int)-1)) false] ⟨oI,fP,trivial⟩ ?_
  exact ge
 |succ d ih=>
  intro k i A h1 h2 hn
  have ih1:=ih (k+1) i (sw A k (k+1)) (by omega) (by rw [Ade];omega) (by unfold small;rw [Ade];exact hn)
  unfold small at hn
  clear ih
  unfold up
  unfold sw at*
  refine qq ?_
  refine gg [.i zd ((i:Int)-1) ((i:Int)-1),.b (decide ((k:Int)<(i:Int)-1)) true,.i zd ((k:Int)+1) ((↑(k+1):Int)),.i zd ((k:Int)+1) ((↑(k+1):Int)),.w (0≤(↑(k+(1:Nat)):Int)),.n (zy (↑(k+1):Int)) (k+1),.w (k+(1:Nat)<zq (zz zn A)),.w (0≤(k:Int)),.n (zy (k:Int)) k,.w (k<zq (zz zn A)),.g (zz zn A) (k+1) (zn (gt A (k+1))),.g (zz zn A) k (zn (gt A k)),.w (0≤(k:Int)),.n (zy (k:Int)) k,.w (k<zq (zz zn A)),.w (k<zq (zz zn A))] ⟨oI,tP,oI,oI,oW,nK,o_w (by (simp;omega)),oW,nK,o_w (by (simp;omega)),oT,oT,oW,nK,o_w (by (simp;omega)),o_w (by (simp;omega)),trivial⟩ ?_
  refine gg [.t (qk 0 (zx (zz zn A) k (zn (gt A (k+1))))) (qk 0 (zz zn (zx A k (gt A (k+1))))),.w (0≤(↑(k+(1:Nat)):Int)),.n (zy (↑(k+1):Int)) (k+1),.w (k+(1:Nat)<zq (zz zn (zx A k (gt A (k+(1:Nat)))))),.w (k+(1:Nat)<zq (zz zn (zx A k (gt A (k+(1:Nat)))))),.t (qk 0 (zx (zz zn (zx A k (gt A (k+1)))) (k+1) (zn (gt A k)))) (qk 0 (zz zn (zx (zx A k (gt A (k+1))) (k+1) (gt A k)))),.i zd ((k:Int)+1) ((↑(k+1):Int)),.a _ _] ⟨o_l (Aam rfl rfl),oW,nK,o_w (by (simp;omega)),o_w (by (simp;omega)),o_l (Aam rfl rfl),oI,o_a ih1,trivial⟩ ?_
  exact ge
theorem AdO (i:Nat): ∀(d k:Nat) (A:List Cross),k=i+d→k<A.length→small A→
  Is cx (.loop 187 [0,1,0,1,1,1,0,1,0,1] 1 [.all 0 none,vi i,vi k] [.arr 15 (A.map zn) none false])
   ⟨.exit 6,[.all 0 none,vi i,vi i],[.arr 15 ((down d A k).map zn) none false]⟩:=by
 intro d
 induction d with
 |zero=>
  intro k A h1 h2 hn
  unfold small at hn
  obtain rfl:k=i:=by omega
  unfold down
  refine qq ?_
  refine gg [.b (decide ((k:Int)>(k:Int))) false] ⟨fP,trivial⟩ ?_
  exact ge
 |succ d ih=>
  intro k A h1 h2 hn
  have ih1:=ih (k-1) (sw A k (k-1)) (by omega) (by rw [Ade];omega) (by unfold small;rw [Ade];exact hn)
  unfold small at hn
  clear ih
  have e1:(k:Int)-1=(k-1:Nat):=by omega
  unfold down
  unfold sw at*
  refine qq ?_
  refine gg [.b (decide ((k:Int)>(i:Int))) true,.i zd ((k:Int)-1) ((↑(k-1):Int)),.i zd ((k:Int)-1) ((↑(k-1):Int)),.w (0≤(↑(k-(1:Nat)):Int)),.n (zy (↑(k-1):Int)) (k-1),.w (k-(1:Nat)<zq (zz zn A)),.w (0≤(k:Int)),.n (zy (k:Int)) k,.w (k<zq (zz zn A)),.g (zz zn A) (k-1) (zn (gt A (k-1))),.g (zz zn A) k (zn (gt A k)),.w (0≤(k:Int)),.n (zy (k:Int)) k,.w (k<zq (zz zn A)),.w (k<zq (zz zn A)),.t (qk 0 (zx (zz zn A) k (zn (gt A (k-1))))) (qk 0 (zz zn (zx A k (gt A (k-1)))))] ⟨tP,oI,oI,oW,nK,o_w (by (simp;omega)),oW,nK,o_w (by (simp;omega)),oT,o_gt rfl (by assumption) (by intro h;cases h),oW,nK,o_w (by (simp;omega)),o_w (by (simp;omega)),o_l (Aam rfl rfl),trivial⟩ ?_
  refine gg [.w (0≤(↑(k-(1:Nat)):Int)),.n (zy (↑(k-1):Int)) (k-1),.w (k-(1:Nat)<zq (zz zn (zx A k (gt A (k-(1:Nat)))))),.w (k-(1:Nat)<zq (zz zn (zx A k (gt A (k-(1:Nat)))))),.t (qk 0 (zx (zz zn (zx A k (gt A (k-1)))) (k-1) (zn (gt A k)))) (qk 0 (zz zn (zx (zx A k (gt A (k-1))) (k-1) (gt A k)))),.i zd ((k:Int)-1) ((↑(k-1):Int)),.a _ _] ⟨oW,nK,o_w (by (simp;omega)),o_w (by (simp;omega)),o_l (Aam rfl rfl),oI,o_a ih1,trivial⟩ ?_
  exact ge
end Go.Eva.S4
namespace Go.Eva.S4
theorem Ad1 (P V Q:List Cross) (x:Cross) (a m b:Nat) (ha:a=P.length) (hm:m=a+1) (hb:b=m+V.length) (h0:0<V.length) (hV:Sd z7 V) (hn:small (P++ [x]++V++Q)):
   Is cx (.call 187 [.all 0 none,vi a,vi m,vi b,.t (.clo 129 [])] [.arr 15 ((P++ [x]++V++Q).map zn) none false])
  ⟨.ret,[],[.arr 15 ((P++sortS z7 ([x]++V)++Q).map zn) none false]⟩:=by
 have hl:(P++ [x]++V++Q).length=b+Q.length:=by simp;omega
 have hbs:=Aeg (P++ [x]++V++Q) a (by omega) hn (b-m) m b (by omega) (by omega) (by omega)
 obtain ⟨k1,k2,k3⟩:=AjL Aap (Q:=Q) (x:=x) (d:=b-m) ha hm hb (by omega) hV rfl
 generalize bs _ (b-m) m b=s at*
 have hup:=AeA (s-1-a) a s (P++ [x]++V++Q) (by omega) (by omega) hn
 rw [k3] at hup
 clear k3 hV
 generalize P++ [x]++V++Q=A at*
 generalize P++sortS z7 ([x]++V)++Q=B at*
 unfold small at hn
 refine qq ?_
 refine gg [.i zd ((m:Int)-(a:Int)) ((m:Int)-(a:Int)),.b ((m:Int)-(a:Int)==1) true,.a _ _,.a _ _] ⟨oI,tE,o_a hbs,o_a hup,trivial⟩ ?_
 exact ge
theorem Ad7 (P U Q:List Cross) (y:Cross) (a m b:Nat) (ha:a=P.length) (hm:m=a+U.length) (hb:b=m+1) (h0:1<U.length) (hU:Sd z7 U) (hn:small (P++U++ [y]++Q)):
   Is cx (.call 187 [.all 0 none,vi a,vi m,vi b,.t (.clo 129 [])] [.arr 15 ((P++U++ [y]++Q).map zn) none false])
  ⟨.ret,[],[.arr 15 ((P++sortS z7 (U++ [y])++Q).map zn) none false]⟩:=by
 have hl:(P++U++ [y]++Q).length=b+Q.length:=by simp;omega
 have hbs:=Aee (P++U++ [y]++Q) m (by omega) hn (m-a) a m (by omega) (by omega) (by omega)
 obtain ⟨k1,k2,k3⟩:=Alv Aap (Q:=Q) (y:=y) (d:=m-a) ha hm (by omega) hU rfl
 generalize bs _ (m-a) a m=s at*
 have hup:=AdO s (m-s) m (P++U++ [y]++Q) (by omega) (by omega) hn
 rw [k3] at hup
 clear k3 hU
 generalize P++U++ [y]++Q=A at*
 generalize P++sortS z7 (U++ [y])++Q=B at*
 unfold small at hn
 refine qq ?_
 refine gg [.i zd ((m:Int)-(a:Int)) ((m:Int)-(a:Int)),.b ((m:Int)-(a:Int)==1) false,.i zd ((b:Int)-(m:Int)) ((b:Int)-(m:Int)),.b ((b:Int)-(m:Int)==1) true,.a _ _,.a _ _] ⟨oI,fE,oI,tE,o_a hbs,o_a hup,trivial⟩ ?_
 exact ge
end Go.Eva.S4
namespace Go.Eva.S4
theorem AdK (A0 A1 A2 A3:List Cross) (a m b mid s:Nat) (hmid:(a+b)/2=mid) (hc:m≤mid)
  (h1:a+1<m) (h2:m+1<b) (hb:b≤A0.length) (hn:small A0) (hs:a≤s∧s≤m)
  (hbs:Is cx (.loop 187 [0,0,1,1,1,1,1,1,1] 1 [.all 0 none,vi a,vi m,vi b,.t (.clo 129 []),vi mid,vi (mid+m:Nat),vi a,vi m,vi (mid+m-1:Nat)] [.arr 15 (A0.map zn) none false])
   ⟨.exit 8,[.all 0 none,vi a,vi m,vi b,.t (.clo 129 []),vi mid,vi (mid+m:Nat),vi s,vi s,vi (mid+m-1:Nat)],[.arr 15 (A0.map zn) none false]⟩)
  (k1:s<m→s<mid→Is cx (.call 194 [.all 0 none,vi s,vi m,vi (mid+m-s:Nat),.t (.clo 129 [])] [.arr 15 (A0.map zn) none false]) ⟨.ret,[],[.arr 15 (A1.map zn) none false]⟩)
  (k1': ¬(s<m∧s<mid)→A0=A1)
  (k2:a<s→s<mid→Is cx (.call 187 [.all 0 none,vi a,vi s,vi mid,.t (.clo 129 [])] [.arr 15 (A1.map zn) none false]) ⟨.ret,[],[.arr 15 (A2.map zn) none false]⟩)
  (k2': ¬(a<s∧s<mid)→A1=A2)
  (k3:s<m→mid+m<b+s→Is cx (.call 187 [.all 0 none,vi mid,vi (mid+m-s:Nat),vi b,.t (.clo 129 [])] [.arr 15 (A2.map zn) none false]) ⟨.ret,[],[.arr 15 (A3.map zn) none false]⟩)
  (k3': ¬(s<m∧mid+m<b+s)→A2=A3):
  Is cx (.call 187 [.all 0 none,vi a,vi m,vi b,.t (.clo 129 [])] [.arr 15 (A0.map zn) none false])
  ⟨.ret,[],[.arr 15 (A3.map zn) none false]⟩:=by
 have hf:zh ((a+b:Nat):Int) 2=(mid:Nat):=by rw [Int.fdiv_eq_ediv_of_nonneg _ (by omega)];omega
 have hmm:a<mid∧mid<b:=by omega
 unfold small at hn
 have e1:((mid+m:Nat):Int)-1=(mid+m-1:Nat):=by omega
 have e2:((mid+m:Nat):Int)-s=(mid+m-s:Nat):=by omega
 by_cases c1:s<m∧s<mid
 ·have j1:=k1 c1.1 c1.2
  by_cases c2:a<s
  ·have j2:=k2 c2 c1.2
   by_cases c3:mid+m<b+s
   ·have j3:=k3 c1.1 c3
    clear k1' k2' k3' k1 k2 k3
    refine qq ?_
    refine gg [.i zd ((m:Int)-(a:Int)) ((m:Int)-(a:Int)),.b ((m:Int)-(a:Int)==1) false,.i zd ((b:Int)-(m:Int)) ((b:Int)-(m:Int)),.b ((b:Int)-(m:Int)==1) false,.i zd ((a:Int)+(b:Int)) ((↑(a+b):Int)),.i zf ((↑(a+b):Int)) ((↑(a+b):Int)),.w (0≤(1:Int)),.t (T.int zf (zh (↑(a+b):Int) 2)) (T.int zf (mid:Int)),.i zd (mid:Int) (mid:Int),.i zd ((mid:Int)+(m:Int)) ((↑(mid+m):Int)),.b (decide ((m:Int)>(mid:Int))) false,.i zd ((↑(mid+m):Int)-1) ((↑(mid+m-1):Int)),.a _ _,.i zd ((↑(mid+m):Int)-(s:Int)) ((↑(mid+m-s):Int)),.b (decide ((s:Int)<(m:Int))) true,.tt] ⟨oI,fE,oI,fE,oI,oU,oW,o_t (by rw [hf]),oI,oI,fP,oI,o_a hbs,oI,tP,trivial⟩ ?_
    refine gg [.tt,.tt,.b (decide ((m:Int)<(↑(mid+m-s):Int))) true,.a _ _,.b (decide ((a:Int)<(s:Int))) true,.tt,.tt,.tt,.b (decide ((s:Int)<(mid:Int))) true,.a _ _,.b (decide ((mid:Int)<(↑(mid+m-s):Int))) true,.tt,.tt,.tt,.b (decide ((↑(mid+m-s):Int)<(b:Int))) true,.a _ _] ⟨tP,o_a j1,tP,tP,o_a j2,tP,tP,o_a j3,trivial⟩ ?_
    exact ge
   ·obtain rfl:=k3' (fun h=>c3 h.2)
    clear k1' k2' k3' k1 k2 k3
    omega
  ·obtain rfl:=k2' (fun h=>c2 h.1)
   by_cases c3:mid+m<b+s
   ·have j3:=k3 c1.1 c3
    clear k1' k2' k3' k1 k2 k3
    refine qq ?_
    refine gg [.i zd ((m:Int)-(a:Int)) ((m:Int)-(a:Int)),.b ((m:Int)-(a:Int)==1) false,.i zd ((b:Int)-(m:Int)) ((b:Int)-(m:Int)),.b ((b:Int)-(m:Int)==1) false,.i zd ((a:Int)+(b:Int)) ((↑(a+b):Int)),.i zf ((↑(a+b):Int)) ((↑(a+b):Int)),.w (0≤(1:Int)),.t (T.int zf (zh (↑(a+b):Int) 2)) (T.int zf (mid:Int)),.i zd (mid:Int) (mid:Int),.i zd ((mid:Int)+(m:Int)) ((↑(mid+m):Int)),.b (decide ((m:Int)>(mid:Int))) false,.i zd ((↑(mid+m):Int)-1) ((↑(mid+m-1):Int)),.a _ _,.i zd ((↑(mid+m):Int)-(s:Int)) ((↑(mid+m-s):Int)),.b (decide ((s:Int)<(m:Int))) true,.tt] ⟨oI,fE,oI,fE,oI,oU,oW,o_t (by rw [hf]),oI,oI,fP,oI,o_a hbs,oI,tP,trivial⟩ ?_
    refine gg [.tt,.tt,.b (decide ((m:Int)<(↑(mid+m-s):Int))) true,.a _ _,.b (decide ((a:Int)<(s:Int))) false,.ff,.ff,.ff,.ff,.b (decide ((mid:Int)<(↑(mid+m-s):Int))) true,.tt,.tt,.tt,.b (decide ((↑(mid+m-s):Int)<(b:Int))) true,.a _ _] ⟨tP,o_a j1,fP,tP,tP,o_a j3,trivial⟩ ?_
    exact ge
   ·obtain rfl:=k3' (fun h=>c3 h.2)
    clear k1' k2' k3' k1 k2 k3
    refine qq ?_
    refine gg [.i zd ((m:Int)-(a:Int)) ((m:Int)-(a:Int)),.b ((m:Int)-(a:Int)==1) false,.i zd ((b:Int)-(m:Int)) ((b:Int)-(m:Int)),.b ((b:Int)-(m:Int)==1) false,.i zd ((a:Int)+(b:Int)) ((↑(a+b):Int)),.i zf ((↑(a+b):Int)) ((↑(a+b):Int)),.w (0≤(1:Int)),.t (T.int zf (zh (↑(a+b):Int) 2)) (T.int zf (mid:Int)),.i zd (mid:Int) (mid:Int),.i zd ((mid:Int)+(m:Int)) ((↑(mid+m):Int)),.b (decide ((m:Int)>(mid:Int))) false,.i zd ((↑(mid+m):Int)-1) ((↑(mid+m-1):Int)),.a _ _,.i zd ((↑(mid+m):Int)-(s:Int)) ((↑(mid+m-s):Int)),.b (decide ((s:Int)<(m:Int))) true,.tt] ⟨oI,fE,oI,fE,oI,oU,oW,o_t (by rw [hf]),oI,oI,fP,oI,o_a hbs,oI,tP,trivial⟩ ?_
    refine gg [.tt,.tt,.b (decide ((m:Int)<(↑(mid+m-s):Int))) true,.a _ _,.b (decide ((a:Int)<(s:Int))) false,.ff,.ff,.ff,.ff,.b (decide ((mid:Int)<(↑(mid+m-s):Int))) true,.tt,.tt,.tt,.b (decide ((↑(mid+m-s):Int)<(b:Int))) false] ⟨tP,o_a j1,fP,tP,fP,trivial⟩ ?_
    exact ge
 ·obtain rfl:=k1' c1
  by_cases c0:s<m
  ·have c4: ¬s<mid:=fun h=>c1 ⟨c0,h⟩
   obtain rfl:=k2' (fun h=>c4 h.2)
   by_cases c3:mid+m<b+s
   ·have j3:=k3 c0 c3
    clear k1' k2' k3' k1 k2 k3
    by_cases c2:a<s
    ·omega
    ·omega
   ·obtain rfl:=k3' (fun h=>c3 h.2)
    clear k1' k2' k3' k1 k2 k3
    by_cases c2:a<s
    ·omega
    ·omega
  ·obtain rfl:=k3' (fun h=>c0 h.1)
   by_cases c4:s<mid
   ·have j2:=k2 (by omega) c4
    clear k1' k2' k3' k1 k2 k3
    refine qq ?_
    refine gg [.i zd ((m:Int)-(a:Int)) ((m:Int)-(a:Int)),.b ((m:Int)-(a:Int)==1) false,.i zd ((b:Int)-(m:Int)) ((b:Int)-(m:Int)),.b ((b:Int)-(m:Int)==1) false,.i zd ((a:Int)+(b:Int)) ((↑(a+b):Int)),.i zf ((↑(a+b):Int)) ((↑(a+b):Int)),.w (0≤(1:Int)),.t (T.int zf (zh (↑(a+b):Int) 2)) (T.int zf (mid:Int)),.i zd (mid:Int) (mid:Int),.i zd ((mid:Int)+(m:Int)) ((↑(mid+m):Int)),.b (decide ((m:Int)>(mid:Int))) false,.i zd ((↑(mid+m):Int)-1) ((↑(mid+m-1):Int)),.a _ _,.i zd ((↑(mid+m):Int)-(s:Int)) ((↑(mid+m-s):Int)),.b (decide ((s:Int)<(m:Int))) false,.ff] ⟨oI,fE,oI,fE,oI,oU,oW,o_t (by rw [hf]),oI,oI,fP,oI,o_a hbs,oI,fP,trivial⟩ ?_
    refine gg [.ff,.ff,.ff,.b (decide ((a:Int)<(s:Int))) true,.tt,.tt,.tt,.b (decide ((s:Int)<(mid:Int))) true,.a _ _,.b (decide ((mid:Int)<(↑(mid+m-s):Int))) false,.ff,.ff,.ff,.ff] ⟨tP,tP,o_a j2,fP,trivial⟩ ?_
    exact ge
   ·obtain rfl:=k2' (fun h=>c4 h.2)
    clear k1' k2' k3' k1 k2 k3
    by_cases c2:a<s
    ·refine qq ?_
     refine gg [.i zd ((m:Int)-(a:Int)) ((m:Int)-(a:Int)),.b ((m:Int)-(a:Int)==1) false,.i zd ((b:Int)-(m:Int)) ((b:Int)-(m:Int)),.b ((b:Int)-(m:Int)==1) false,.i zd ((a:Int)+(b:Int)) ((↑(a+b):Int)),.i zf ((↑(a+b):Int)) ((↑(a+b):Int)),.w (0≤(1:Int)),.t (T.int zf (zh (↑(a+b):Int) 2)) (T.int zf (mid:Int)),.i zd (mid:Int) (mid:Int),.i zd ((mid:Int)+(m:Int)) ((↑(mid+m):Int)),.b (decide ((m:Int)>(mid:Int))) false,.i zd ((↑(mid+m):Int)-1) ((↑(mid+m-1):Int)),.a _ _,.i zd ((↑(mid+m):Int)-(s:Int)) ((↑(mid+m-s):Int)),.b (decide ((s:Int)<(m:Int))) false,.ff] ⟨oI,fE,oI,fE,oI,oU,oW,o_t (by rw [hf]),oI,oI,fP,oI,o_a hbs,oI,fP,trivial⟩ ?_
     refine gg [.ff,.ff,.ff,.b (decide ((a:Int)<(s:Int))) true,.tt,.tt,.tt,.b (decide ((s:Int)<(mid:Int))) false,.b (decide ((mid:Int)<(↑(mid+m-s):Int))) false,.ff,.ff,.ff,.ff] ⟨tP,fP,fP,trivial⟩ ?_
     exact ge
    ·omega
theorem AdD (A0 A1 A2 A3:List Cross) (a m b mid s:Nat) (hmid:(a+b)/2=mid) (hc:mid<m)
  (h1:a+1<m) (h2:m+1<b) (hb:b≤A0.length) (hn:small A0) (hs:mid+m-b≤s∧s≤mid)
  (hbs:Is cx (.loop 187 [0,0,1,1,1,1,1,1,1] 1 [.all 0 none,vi a,vi m,vi b,.t (.clo 129 []),vi mid,vi (mid+m:Nat),vi (mid+m-b:Nat),vi mid,vi (mid+m-1:Nat)] [.arr 15 (A0.map zn) none false])
   ⟨.exit 8,[.all 0 none,vi a,vi m,vi b,.t (.clo 129 []),vi mid,vi (mid+m:Nat),vi s,vi s,vi (mid+m-1:Nat)],[.arr 15 (A0.map zn) none false]⟩)
  (k1:s<m→s<mid→Is cx (.call 194 [.all 0 none,vi s,vi m,vi (mid+m-s:Nat),.t (.clo 129 [])] [.arr 15 (A0.map zn) none false]) ⟨.ret,[],[.arr 15 (A1.map zn) none false]⟩)
  (k1': ¬(s<m∧s<mid)→A0=A1)
  (k2:a<s→s<mid→Is cx (.call 187 [.all 0 none,vi a,vi s,vi mid,.t (.clo 129 [])] [.arr 15 (A1.map zn) none false]) ⟨.ret,[],[.arr 15 (A2.map zn) none false]⟩)
  (k2': ¬(a<s∧s<mid)→A1=A2)
  (k3:s<m→mid+m<b+s→Is cx (.call 187 [.all 0 none,vi mid,vi (mid+m-s:Nat),vi b,.t (.clo 129 [])] [.arr 15 (A2.map zn) none false]) ⟨.ret,[],[.arr 15 (A3.map zn) none false]⟩)
  (k3': ¬(s<m∧mid+m<b+s)→A2=A3):
  Is cx (.call 187 [.all 0 none,vi a,vi m,vi b,.t (.clo 129 [])] [.arr 15 (A0.map zn) none false])
  ⟨.ret,[],[.arr 15 (A3.map zn) none false]⟩:=by
 have hf:zh ((a+b:Nat):Int) 2=(mid:Nat):=by rw [Int.fdiv_eq_ediv_of_nonneg _ (by omega)];omega
 have hmm:a<mid∧mid<b:=by omega
 unfold small at hn
 have e1:((mid+m:Nat):Int)-1=(mid+m-1:Nat):=by omega
 have e2:((mid+m:Nat):Int)-s=(mid+m-s:Nat):=by omega
 have e3:((mid+m:Nat):Int)-b=(mid+m-b:Nat):=by omega
 by_cases c1:s<m∧s<mid
 ·have j1:=k1 c1.1 c1.2
  by_cases c2:a<s
  ·have j2:=k2 c2 c1.2
   by_cases c3:mid+m<b+s
   ·have j3:=k3 c1.1 c3
    clear k1' k2' k3' k1 k2 k3
    refine qq ?_
    refine gg [.i zd ((m:Int)-(a:Int)) ((m:Int)-(a:Int)),.b ((m:Int)-(a:Int)==1) false,.i zd ((b:Int)-(m:Int)) ((b:Int)-(m:Int)),.b ((b:Int)-(m:Int)==1) false,.i zd ((a:Int)+(b:Int)) ((↑(a+b):Int)),.i zf ((↑(a+b):Int)) ((↑(a+b):Int)),.w (0≤(1:Int)),.t (T.int zf (zh (↑(a+b):Int) 2)) (T.int zf (mid:Int)),.i zd (mid:Int) (mid:Int),.i zd ((mid:Int)+(m:Int)) ((↑(mid+m):Int)),.b (decide ((m:Int)>(mid:Int))) true,.i zd ((↑(mid+m):Int)-(b:Int)) ((↑(mid+m-b):Int)),.i zd ((↑(mid+m):Int)-1) ((↑(mid+m-1):Int)),.a _ _,.i zd ((↑(mid+m):Int)-(s:Int)) ((↑(mid+m-s):Int)),.b (decide ((s:Int)<(m:Int))) true] ⟨oI,fE,oI,fE,oI,oU,oW,o_t (by rw [hf]),oI,oI,tP,oI,oI,o_a hbs,oI,tP,trivial⟩ ?_
    refine gg [.tt,.tt,.tt,.b (decide ((m:Int)<(↑(mid+m-s):Int))) true,.a _ _,.b (decide ((a:Int)<(s:Int))) true,.tt,.tt,.tt,.b (decide ((s:Int)<(mid:Int))) true,.a _ _,.b (decide ((mid:Int)<(↑(mid+m-s):Int))) true,.tt,.tt,.tt,.b (decide ((↑(mid+m-s):Int)<(b:Int))) true] ⟨tP,o_a j1,tP,tP,o_a j2,tP,tP,trivial⟩ ?_
    refine gg [.a _ _] ⟨o_a j3,trivial⟩ ?_
    exact ge
   ·obtain rfl:=k3' (fun h=>c3 h.2)
    clear k1' k2' k3' k1 k2 k3
    refine qq ?_
    refine gg [.i zd ((m:Int)-(a:Int)) ((m:Int)-(a:Int)),.b ((m:Int)-(a:Int)==1) false,.i zd ((b:Int)-(m:Int)) ((b:Int)-(m:Int)),.b ((b:Int)-(m:Int)==1) false,.i zd ((a:Int)+(b:Int)) ((↑(a+b):Int)),.i zf ((↑(a+b):Int)) ((↑(a+b):Int)),.w (0≤(1:Int)),.t (T.int zf (zh (↑(a+b):Int) 2)) (T.int zf (mid:Int)),.i zd (mid:Int) (mid:Int),.i zd ((mid:Int)+(m:Int)) ((↑(mid+m):Int)),.b (decide ((m:Int)>(mid:Int))) true,.i zd ((↑(mid+m):Int)-(b:Int)) ((↑(mid+m-b):Int)),.i zd ((↑(mid+m):Int)-1) ((↑(mid+m-1):Int)),.a _ _,.i zd ((↑(mid+m):Int)-(s:Int)) ((↑(mid+m-s):Int)),.b (decide ((s:Int)<(m:Int))) true] ⟨oI,fE,oI,fE,oI,oU,oW,o_t (by rw [hf]),oI,oI,tP,oI,oI,o_a hbs,oI,tP,trivial⟩ ?_
    refine gg [.tt,.tt,.tt,.b (decide ((m:Int)<(↑(mid+m-s):Int))) true,.a _ _,.b (decide ((a:Int)<(s:Int))) true,.tt,.tt,.tt,.b (decide ((s:Int)<(mid:Int))) true,.a _ _,.b (decide ((mid:Int)<(↑(mid+m-s):Int))) true,.tt,.tt,.tt,.b (decide ((↑(mid+m-s):Int)<(b:Int))) false] ⟨tP,o_a j1,tP,tP,o_a j2,tP,fP,trivial⟩ ?_
    exact ge
  ·obtain rfl:=k2' (fun h=>c2 h.1)
   by_cases c3:mid+m<b+s
   ·have j3:=k3 c1.1 c3
    clear k1' k2' k3' k1 k2 k3
    omega
   ·obtain rfl:=k3' (fun h=>c3 h.2)
    clear k1' k2' k3' k1 k2 k3
    refine qq ?_
    refine gg [.i zd ((m:Int)-(a:Int)) ((m:Int)-(a:Int)),.b ((m:Int)-(a:Int)==1) false,.i zd ((b:Int)-(m:Int)) ((b:Int)-(m:Int)),.b ((b:Int)-(m:Int)==1) false,.i zd ((a:Int)+(b:Int)) ((↑(a+b):Int)),.i zf ((↑(a+b):Int)) ((↑(a+b):Int)),.w (0≤(1:Int)),.t (T.int zf (zh (↑(a+b):Int) 2)) (T.int zf (mid:Int)),.i zd (mid:Int) (mid:Int),.i zd ((mid:Int)+(m:Int)) ((↑(mid+m):Int)),.b (decide ((m:Int)>(mid:Int))) true,.i zd ((↑(mid+m):Int)-(b:Int)) ((↑(mid+m-b):Int)),.i zd ((↑(mid+m):Int)-1) ((↑(mid+m-1):Int)),.a _ _,.i zd ((↑(mid+m):Int)-(s:Int)) ((↑(mid+m-s):Int)),.b (decide ((s:Int)<(m:Int))) true] ⟨oI,fE,oI,fE,oI,oU,oW,o_t (by rw [hf]),oI,oI,tP,oI,oI,o_a hbs,oI,tP,trivial⟩ ?_
    refine gg [.tt,.tt,.tt,.b (decide ((m:Int)<(↑(mid+m-s):Int))) true,.a _ _,.b (decide ((a:Int)<(s:Int))) false,.ff,.ff,.ff,.ff,.b (decide ((mid:Int)<(↑(mid+m-s):Int))) true,.tt,.tt,.tt,.b (decide ((↑(mid+m-s):Int)<(b:Int))) false] ⟨tP,o_a j1,fP,tP,fP,trivial⟩ ?_
    exact ge
 ·obtain rfl:=k1' c1
  by_cases c0:s<m
  ·have c4: ¬s<mid:=fun h=>c1 ⟨c0,h⟩
   obtain rfl:=k2' (fun h=>c4 h.2)
   by_cases c3:mid+m<b+s
   ·have j3:=k3 c0 c3
    clear k1' k2' k3' k1 k2 k3
    by_cases c2:a<s
    ·refine qq ?_
     refine gg [.i zd ((m:Int)-(a:Int)) ((m:Int)-(a:Int)),.b ((m:Int)-(a:Int)==1) false,.i zd ((b:Int)-(m:Int)) ((b:Int)-(m:Int)),.b ((b:Int)-(m:Int)==1) false,.i zd ((a:Int)+(b:Int)) ((↑(a+b):Int)),.i zf ((↑(a+b):Int)) ((↑(a+b):Int)),.w (0≤(1:Int)),.t (T.int zf (zh (↑(a+b):Int) 2)) (T.int zf (mid:Int)),.i zd (mid:Int) (mid:Int),.i zd ((mid:Int)+(m:Int)) ((↑(mid+m):Int)),.b (decide ((m:Int)>(mid:Int))) true,.i zd ((↑(mid+m):Int)-(b:Int)) ((↑(mid+m-b):Int)),.i zd ((↑(mid+m):Int)-1) ((↑(mid+m-1):Int)),.a _ _,.i zd ((↑(mid+m):Int)-(s:Int)) ((↑(mid+m-s):Int)),.b (decide ((s:Int)<(m:Int))) true] ⟨oI,fE,oI,fE,oI,oU,oW,o_t (by rw [hf]),oI,oI,tP,oI,oI,o_a hbs,oI,tP,trivial⟩ ?_
     refine gg [.tt,.tt,.tt,.b (decide ((m:Int)<(↑(mid+m-s):Int))) false,.b (decide ((a:Int)<(s:Int))) true,.tt,.tt,.tt,.b (decide ((s:Int)<(mid:Int))) false,.b (decide ((mid:Int)<(↑(mid+m-s):Int))) true,.tt,.tt,.tt,.b (decide ((↑(mid+m-s):Int)<(b:Int))) true,.a _ _] ⟨fP,tP,fP,tP,tP,o_a j3,trivial⟩ ?_
     exact ge
    ·omega
   ·obtain rfl:=k3' (fun h=>c3 h.2)
    clear k1' k2' k3' k1 k2 k3
    by_cases c2:a<s
    ·omega
    ·omega
  ·obtain rfl:=k3' (fun h=>c0 h.1)
   by_cases c4:s<mid
   ·have j2:=k2 (by omega) c4
    clear k1' k2' k3' k1 k2 k3
    omega
   ·obtain rfl:=k2' (fun h=>c4 h.2)
    clear k1' k2' k3' k1 k2 k3
    by_cases c2:a<s
    ·omega
    ·omega
theorem Adg: ∀(n:Nat) (P U V Q:List Cross) (a m b:Nat),U.length+V.length≤n→a=P.length→m=a+U.length→b=m+V.length→0<U.length→0<V.length→Sd z7 U→Sd z7 V→small (P++U++V++Q)→
  Is cx (.call 187 [.all 0 none,vi a,vi m,vi b,.t (.clo 129 [])] [.arr 15 ((P++U++V++Q).map zn) none false])
  ⟨.ret,[],[.arr 15 ((P++sortS z7 (U++V)++Q).map zn) none false]⟩:=by
 intro n
 induction n with
 |zero=>intros;omega
 |succ n ih=>
  intro P U V Q a m b hl ha hm hb hu hv hU hV hn
  by_cases hu1:U.length=1
  ·obtain ⟨x,rfl⟩:=List.length_eq_one_iff.1 hu1
   exact Ad1 P V Q x a m b ha (by simpa using hm) hb hv hV hn
  ·by_cases hv1:V.length=1
   ·obtain ⟨y,rfl⟩:=List.length_eq_one_iff.1 hv1
    exact Ad7 P U Q y a m b ha hm (by simpa using hb) (by omega) hU hn
   ·obtain ⟨mid,hmid⟩: ∃mid,(a+b)/2=mid:=⟨_,rfl⟩
    obtain ⟨s0,r0,hs0⟩: ∃s0 r0,m≤mid∧s0=a∧r0=m∨mid<m∧s0=mid+m-b∧r0=mid:=by
     by_cases h:m≤mid
     ·exact ⟨a,m,.inl ⟨h,rfl,rfl⟩⟩
     ·exact ⟨mid+m-b,mid,.inr ⟨by omega,rfl,rfl⟩⟩
    have hlen:(P++U++V++Q).length=b+Q.length:=by simp;omega
    have hbs:=AdV (P++U++V++Q) a m b mid (mid+m) (mid+m-1) hn (r0-s0) s0 r0 (by omega) (by omega) (by omega) (by omega) (by omega)
    have hp:(fun c=> !z7 (gt (P++U++V++Q) (mid+m-1-c)) (gt (P++U++V++Q) c))=fun c=> !z7 (gt (P++U++V++Q) (mid+m-1-c)) (gt (P++U++V++Q) c):=rfl
    obtain ⟨k1,k2,U1,U2,V1,V2,e1,e2,l1,l2,e3,u1,u2,v1,v2⟩:=Amd Aap (Q:=Q) ha hm hb hU hV hu hv hmid hs0 (d:=r0-s0) (by omega) rfl
    generalize bs _ (r0-s0) s0 r0=s at*
    subst e1 e2
    simp only [List.length_append] at hl hm hb hu hv hlen hu1 hv1
    have hsm: ∀ {X Y:List Cross},X.length=Y.length→small Y→small X:=fun h k=>by unfold small at*;rw [h];exact k
    have g1:s<m→s<mid→Is cx (.call 194 [.all 0 none,vi s,vi m,vi (mid+m-s:Nat),.t (.clo 129 [])] [.arr 15 ((P++(U1++U2)++(V1++V2)++Q).map zn) none false]) ⟨.ret,[],[.arr 15 ((P++U1++V1++(U2++V2++Q)).map zn) none false]⟩:=by
     intro c1 c2
     have:=Ahx (P++(U1++U2)++(V1++V2)++Q) s m (mid+m-s) c1 (by omega) (by simp;omega) hn
     have e:(P++(U1++U2)++(V1++V2)++Q).take s++seg (P++(U1++U2)++(V1++V2)++Q) m (mid+m-s)++seg (P++(U1++U2)++(V1++V2)++Q) s m++(P++(U1++U2)++(V1++V2)++Q).drop (mid+m-s)=P++U1++V1++(U2++V2++Q):=by
      have f1:P++(U1++U2)++(V1++V2)++Q=(P++U1)++(U2++(V1++(V2++Q))):=by simp
      have f2:P++(U1++U2)++(V1++V2)++Q=(P++U1++U2)++(V1++(V2++Q)):=by simp
      have f3:P++(U1++U2)++(V1++V2)++Q=(P++U1++U2++V1)++(V2++Q):=by simp
      have g1:(P++(U1++U2)++(V1++V2)++Q).take s=P++U1:=by rw [f1,List.take_left' (by simp;omega)]
      have g2:seg (P++(U1++U2)++(V1++V2)++Q) m (mid+m-s)=V1:=by unfold seg;rw [f2,List.drop_left' (by simp;omega),List.take_left' (by omega)]
      have g3:seg (P++(U1++U2)++(V1++V2)++Q) s m=U2:=by unfold seg;rw [f1,List.drop_left' (by simp;omega),List.take_left' (by omega)]
      have g4:(P++(U1++U2)++(V1++V2)++Q).drop (mid+m-s)=V2++Q:=by rw [f3,List.drop_left' (by simp;omega)]
      rw [g1,g2,g3,g4];simp
     rw [e] at this
     exact this
    have g1': ¬(s<m∧s<mid)→(P++(U1++U2)++(V1++V2)++Q)=(P++U1++V1++(U2++V2++Q)):=by
     intro c
     have:U2= []∨V1= []:=by
      by_cases h:s<m
      ·right;exact List.eq_nil_of_length_eq_zero (by omega)
      ·left;exact List.eq_nil_of_length_eq_zero (by omega)
     rcases this with rfl|rfl<;>simp
    have g2:a<s→s<mid→Is cx (.call 187 [.all 0 none,vi a,vi s,vi mid,.t (.clo 129 [])] [.arr 15 ((P++U1++V1++(U2++V2++Q)).map zn) none false]) ⟨.ret,[],[.arr 15 ((P++sortS z7 (U1++V1)++(U2++V2++Q)).map zn) none false]⟩:=by
     intro c1 c2
     exact ih P U1 V1 (U2++V2++Q) a s mid (by omega) ha (by omega) (by omega) (by omega) (by omega) u1 v1 (hsm (by simp;omega) hn)
    have g2': ¬(a<s∧s<mid)→(P++U1++V1++(U2++V2++Q))=(P++sortS z7 (U1++V1)++(U2++V2++Q)):=by
     intro c
     have:U1= []∨V1= []:=by
      by_cases h:a<s
      ·right;exact List.eq_nil_of_length_eq_zero (by omega)
      ·left;exact List.eq_nil_of_length_eq_zero (by omega)
     rcases this with rfl|rfl
     ·simp [AaI Aap v1]
     ·simp [AaI Aap u1]
    have g3:s<m→mid+m<b+s→Is cx (.call 187 [.all 0 none,vi mid,vi (mid+m-s:Nat),vi b,.t (.clo 129 [])] [.arr 15 ((P++sortS z7 (U1++V1)++(U2++V2++Q)).map zn) none false]) ⟨.ret,[],[.arr 15 ((P++sortS z7 ((U1++U2)++(V1++V2))++Q).map zn) none false]⟩:=by
     intro c1 c2
     have hL:(sortS z7 (U1++V1)).length=U1.length+V1.length:=by rw [Acs Aap];simp
     have:=ih (P++sortS z7 (U1++V1)) U2 V2 Q mid (mid+m-s) b (by omega) (by simp;omega) (by omega) (by omega) (by omega) (by omega) u2 v2 (hsm (by simp;omega) hn)
     rw [←e3]
     simpa using this
    have g3': ¬(s<m∧mid+m<b+s)→(P++sortS z7 (U1++V1)++(U2++V2++Q))=(P++sortS z7 ((U1++U2)++(V1++V2))++Q):=by
     intro c
     have:U2= []∨V2= []:=by
      by_cases h:s<m
      ·right;exact List.eq_nil_of_length_eq_zero (by omega)
      ·left;exact List.eq_nil_of_length_eq_zero (by omega)
     rw [←e3]
     rcases this with rfl|rfl
     ·simp [AaI Aap v2]
     ·simp [AaI Aap u2]
    rcases hs0 with ⟨hc,rfl,rfl⟩|⟨hc,rfl,rfl⟩
    ·exact AdK _ _ _ _ s0 r0 b mid s hmid hc (by omega) (by omega) (by simp;omega) hn ⟨k1,k2⟩ hbs g1 g1' g2 g2' g3 g3'
    ·exact AdD _ _ _ _ a m b r0 s hmid hc (by omega) (by omega) (by simp;omega) hn ⟨k1,k2⟩ hbs g1 g1' g2 g2' g3 g3'
end Go.Eva.S4
namespace Go.Eva.S4
theorem Aed (n:Nat) (hn:n≤1000000): ∀(d:Nat) (P R:List Cross) (a:Nat),a=P.length→R.length≤d→(P++R).length=n→Full z7 20 P→
  ∃(P' R':List Cross),Is cx (.loop 172 [0,0,1,1] 1 [.all 0 none,vi n,.t (.clo 129 []),vi 20,vi a,vi (a+20:Nat)] [.arr 15 ((P++R).map zn) none false])
   ⟨.exit 0,[.all 0 none,vi n,.t (.clo 129 []),vi 20,vi P'.length,vi (P'.length+20:Nat)],[.arr 15 ((P'++R').map zn) none false]⟩∧
   Full z7 20 P'∧R'.length<20∧StEq z7 (P'++R') (P++R)∧(P'++R').length=n:=by
 intro d
 induction d with
 |zero=>
  intro P R a ha hR hl hP
  refine ⟨P,R,?_,hP,by omega,.refl _,hl⟩
  rw [List.length_append] at hl
  subst ha
  refine qq ?_
  refine gg [.b (decide ((↑(zq P+20):Int)≤(n:Int))) false] ⟨fP,trivial⟩ ?_
  exact ge
 |succ d ih=>
  intro P R a ha hR hl hP
  by_cases h:20≤R.length
  ·obtain ⟨S,R,rfl,hS⟩:=Anb R h
   rw [List.length_append] at hR
   have hs:(sortS z7 S).length=20:=by rw [Acs Aap,hS]
   have hl':((P++sortS z7 S)++R).length=n:=by rw [←hl];simp;omega
   obtain ⟨P',R',h1,h2,h3,h4,h5⟩:=ih (P++sortS z7 S) R (a+20) (by simp;omega) (by omega) hl' (.snoc hP hs (Ab7 Aap S))
   refine ⟨P',R',?_,h2,h3,?_,h5⟩
   ·clear ih
    have hA:(P++(S++R)).length=n:=hl
    have hi:=Abu (P++(S++R)) a (a+20) (by omega) (by simp;omega) (by unfold small;omega)
    rw [show srt z7 (P++(S++R)) a (a+20)=P++sortS z7 S++R by rw [←List.append_assoc];exact Amf P S R ha (by omega)] at hi
    simp only [List.length_append] at hA
    generalize P++(S++R)=A at*
    generalize P++sortS z7 S++R=B at*
    refine qq ?_
    refine gg [.b (decide ((↑(a+20):Int)≤(n:Int))) true,.a _ _,.i zd ((↑(a+20):Int)+20) ((↑(a+20+20):Int)),.a _ _] ⟨tP,o_a hi,oI,o_a h1,trivial⟩ ?_
    exact ge
   ·refine h4.trans ?_
    have:=StEq.mid (P:=P) (Q:=R) (Abl Aap S)
    simpa using this
  ·refine ⟨P,R,?_,hP,by omega,.refl _,hl⟩
   rw [List.length_append] at hl
   subst ha
   clear ih
   refine qq ?_
   refine gg [.b (decide ((↑(zq P+20):Int)≤(n:Int))) false] ⟨fP,trivial⟩ ?_
   exact ge
theorem AdX (n bs:Nat) (hn:n≤1000000) (hb:20≤bs) (hbs:bs≤n): ∀(d:Nat) (P R:List Cross) (a:Nat),a=P.length→R.length≤d→(P++R).length=n→Full z7 (2*bs) P→Blks z7 bs R→
  ∃(P' R':List Cross),Is cx (.loop 172 [0,0,1,0,1,0,0,1,1,1,1] 1 [.all 0 none,vi n,.t (.clo 129 []),vi bs,vi a,vi (a+2*bs:Nat)] [.arr 15 ((P++R).map zn) none false])
   ⟨.exit 4,[.all 0 none,vi n,.t (.clo 129 []),vi bs,vi P'.length,vi (P'.length+2*bs:Nat)],[.arr 15 ((P'++R').map zn) none false]⟩∧
   Full z7 (2*bs) P'∧Blks z7 bs R'∧R'.length<2*bs∧StEq z7 (P'++R') (P++R)∧(P'++R').length=n:=by
 intro d
 induction d with
 |zero=>
  intro P R a ha hR hl hP hB
  refine ⟨P,R,?_,hP,hB,by omega,.refl _,hl⟩
  rw [List.length_append] at hl
  subst ha
  refine qq ?_
  refine gg [.b (decide ((↑(zq P+2*bs):Int)≤(n:Int))) false] ⟨fP,trivial⟩ ?_
  exact ge
 |succ d ih=>
  intro P R a ha hR hl hP hB
  by_cases h:2*bs≤R.length
  ·obtain ⟨S1,S2,R,rfl,l1,l2,s1,s2,hB⟩:=hB.two (by omega) h
   simp only [List.length_append] at hR h
   have hs:(sortS z7 (S1++S2)).length=2*bs:=by rw [Acs Aap];simp;omega
   have hl':((P++sortS z7 (S1++S2))++R).length=n:=by rw [←hl];simp;omega
   obtain ⟨P',R',h1,h2,h3,h4,h5,h6⟩:=ih (P++sortS z7 (S1++S2)) R (a+2*bs) (by simp;omega) (by omega) hl' (.snoc hP hs (Ab7 Aap _)) hB
   refine ⟨P',R',?_,h2,h3,h4,?_,h6⟩
   ·clear ih
    have hA:(P++(S1++S2++R)).length=n:=hl
    have hi:=Adg (S1.length+S2.length) P S1 S2 R a (a+bs) (a+2*bs) (Nat.le_refl _) ha (by omega) (by omega) (by omega) (by omega) s1 s2 (by unfold small;simp at hA⊢;omega)
    rw [show P++S1++S2++R=P++(S1++S2++R) by simp] at hi
    simp only [List.length_append] at hA
    generalize P++(S1++S2++R)=A at*
    generalize P++sortS z7 (S1++S2)++R=B at*
    refine qq ?_
    refine gg [.b (decide ((↑(a+2*bs):Int)≤(n:Int))) true,.i zd ((a:Int)+(bs:Int)) ((↑(a+bs):Int)),.a _ _,.i zd (2*(bs:Int)) ((↑(2*bs):Int)),.i zd ((↑(a+2*bs):Int)+(↑(2*bs):Int)) ((↑(a+2*bs+2*bs):Int)),.a _ _] ⟨tP,oI,o_a hi,oI,oI,o_a h1,trivial⟩ ?_
    exact ge
   ·refine h5.trans ?_
    have:=StEq.mid (P:=P) (Q:=R) (Abl Aap (S1++S2))
    simpa using this
  ·refine ⟨P,R,?_,hP,hB,by omega,.refl _,hl⟩
   rw [List.length_append] at hl
   subst ha
   clear ih
   refine qq ?_
   refine gg [.b (decide ((↑(zq P+2*bs):Int)≤(n:Int))) false] ⟨fP,trivial⟩ ?_
   exact ge
theorem Aeb (n:Nat) (hn:n≤1000000): ∀(d bs:Nat) (A:List Cross),n≤bs+d→20≤bs→bs≤2000000→A.length=n→Blks z7 bs A→
  ∃(bs':Nat) (B:List Cross),Is cx (.loop 172 [0,1,1,1,1] 1 [.all 0 none,vi n,.t (.clo 129 []),vi bs] [.arr 15 (A.map zn) none false])
   ⟨.exit 2,[.all 0 none,vi n,.t (.clo 129 []),vi bs'],[.arr 15 (B.map zn) none false]⟩∧Sd z7 B∧StEq z7 B A:=by
 intro d
 induction d with
 |zero=>
  intro bs A h1 h2 h3 hl hB
  refine ⟨bs,A,?_,hB.sd (by omega),.refl _⟩
  refine qq ?_
  refine gg [.b (decide ((bs:Int)<(n:Int))) false] ⟨fP,trivial⟩ ?_
  exact ge
 |succ d ih=>
  intro bs A h1 h2 h3 hl hB
  by_cases h:bs<n
  ·obtain ⟨P,R,k1,k2,k3,k4,k5,k6⟩:=AdX n bs hn h2 (by omega) A.length [] A 0 rfl (Nat.le_refl _) (by simpa using hl) .nil hB
   rw [List.nil_append,Nat.zero_add] at k1
   rw [List.nil_append] at k5
   by_cases hr:bs<R.length
   ·obtain ⟨S1,S2,rfl,l1,s1,s2,l2⟩:=k3.one hr k4
    have hm:=Adg (S1.length+S2.length) P S1 S2 [] P.length (P.length+bs) n (Nat.le_refl _) rfl (by omega) (by simp at k6;omega) (by omega) l2 s1 s2 (by unfold small;simp at k6⊢;omega)
    simp only [List.append_nil] at hm
    rw [List.append_assoc] at hm
    simp only [List.length_append] at k4 k6 hr
    have hs:(sortS z7 (S1++S2)).length=S1.length+S2.length:=by rw [Acs Aap];simp
    obtain ⟨bs',B,j1,j2,j3⟩:=ih (bs*2) (P++sortS z7 (S1++S2)) (by omega) (by omega) (by omega) (by simp;omega) (by rw [Nat.mul_comm];exact k2.blks (.last (by omega) (Ab7 Aap _)))
    refine ⟨bs',B,?_,j2,j3.trans (StEq.trans ?_ k5)⟩
    ·clear ih j2 j3 k2 k3 k5
     have e1:(P++(S1++S2)).length=n:=by simp;omega
     have e2:(P++sortS z7 (S1++S2)).length=n:=by simp;omega
     generalize P++(S1++S2)=X at*
     generalize P++sortS z7 (S1++S2)=Y at*
     refine qq ?_
     refine gg [.b (decide ((bs:Int)<(n:Int))) true,.i zd (2*(bs:Int)) ((↑(2*bs):Int)),.a _ _,.i zd ((↑(zq P):Int)+(bs:Int)) ((↑(zq P+bs):Int)),.b (decide ((↑(zq P+bs):Int)<(n:Int))) true,.a _ _,.i zd ((bs:Int)*2) ((↑(bs*2):Int)),.a _ _] ⟨tP,oI,o_a k1,oI,tP,o_a hm,oI,o_a j1,trivial⟩ ?_
     exact ge
    ·exact (StEq.refl _).append (Abl Aap _)
   ·obtain ⟨bs',B,j1,j2,j3⟩:=ih (bs*2) (P++R) (by omega) (by omega) (by omega) k6 (by rw [Nat.mul_comm];exact k2.blks (.last (by omega) (k3.sd (by omega))))
    refine ⟨bs',B,?_,j2,j3.trans k5⟩
    clear ih j2 j3 k2 k3 k5
    rw [List.length_append] at k6
    generalize P++R=X at*
    refine qq ?_
    refine gg [.b (decide ((bs:Int)<(n:Int))) true,.i zd (2*(bs:Int)) ((↑(2*bs):Int)),.a _ _,.i zd ((↑(zq P):Int)+(bs:Int)) ((↑(zq P+bs):Int)),.b (decide ((↑(zq P+bs):Int)<(n:Int))) false,.i zd ((bs:Int)*2) ((↑(bs*2):Int)),.a _ _] ⟨tP,oI,o_a k1,oI,fP,oI,o_a j1,trivial⟩ ?_
    exact ge
  ·refine ⟨bs,A,?_,hB.sd (by omega),.refl _⟩
   clear ih
   refine qq ?_
   refine gg [.b (decide ((bs:Int)<(n:Int))) false] ⟨fP,trivial⟩ ?_
   exact ge
theorem Ad9 (A:List Cross) (hn:small A):Is cx (.call 172 [.all 0 none,vi A.length,.t (.clo 129 [])] [.arr 15 (A.map zn) none false])
  ⟨.ret,[],[.arr 15 ((sortS z7 A).map zn) none false]⟩:=by
 unfold small at hn
 obtain ⟨P,R,k1,k2,k3,k4,k5⟩:=Aed A.length hn A.length [] A 0 rfl (Nat.le_refl _) (by simp) .nil
 rw [List.nil_append,Nat.zero_add] at k1
 rw [List.nil_append] at k4
 rw [List.length_append] at k5
 have hi:=Abu (P++R) P.length A.length (by omega) (by simp;omega) (by unfold small;simp;omega)
 rw [show srt z7 (P++R) P.length A.length=P++sortS z7 R by have:=Amf (lt:=z7) P R [] rfl k5.symm;simpa using this] at hi
 have hs:(sortS z7 R).length=R.length:=Acs Aap R
 obtain ⟨bs,B,j1,j2,j3⟩:=Aeb A.length hn A.length 20 (P++sortS z7 R) (by omega) (by omega) (by omega) (by simp;omega) (k2.blks (.last (by omega) (Ab7 Aap _)))
 rw [Agy Aap j2 (j3.trans (((StEq.refl _).append (Abl Aap _)).trans k4))] at j1
 clear j2 j3 k2 k4
 have e1:(P++R).length=A.length:=by simp;omega
 have e2:(P++sortS z7 R).length=A.length:=by simp;omega
 generalize P++R=X at*
 generalize P++sortS z7 R=Y at*
 refine qq ?_
 refine gg [.a _ _,.a _ _,.a _ _] ⟨o_a k1,o_a hi,o_a j1,trivial⟩ ?_
 exact ge
theorem Adn (A:List Cross) (hn:small A):Is cx (.call 128 [.all 0 none,.t (.clo 129 [])] [.arr 15 (A.map zn) none false])
  ⟨.ret,[],[.arr 15 ((sortS z7 A).map zn) none false]⟩:=by
 have h:=Ad9 A hn
 unfold small at hn
 refine qq ?_
 refine gg [.n (zq (zz zn A)) (zq A),.a _ _] ⟨o_n (by simp),o_a h,trivial⟩ ?_
 exact ge
end Go.Eva.S4
namespace Go.Eva.S4
theorem Aix (n:Nat) (hn:n≤1000000):Is cx (.call 171 [.fit 15 [],vi n] []) ⟨.ret,[.all 0 none],[.arr 15 [] none false]⟩:=by
 refine qq ?_
 refine gg [.b (decide ((n:Int)<0)) false,.l 0,.l 0,.i zd 0 0,.i zd ((n:Int)-0) ((n:Int)-0)] ⟨bK,oK,o_i (w64 (by (simp [room,appendMax];omega))),trivial⟩ ?_
 refine brp (p:=(n:Int)-0>0) (by kernel_rfl) (fun h1=> ?_) (fun h1=> ?_)
 ·refine gg [.l 0,.w (0≤(0:Int)),.l 0,.w ((0:Nat)≤(0:Nat)∧(0:Nat)≤(0:Nat)),.b (decide (0=0)) true,.s (qk 15 []),.w (0≤(n:Int)-(0:Int)∧room (zy ((n:Int)-(0:Int))) (120:Nat)),.n (zy ((n:Int)-0)) n,.s (qk 0 (zj n (T.agg [ti 0,ti 0,ti 0,ti 0,ti 0,ti 0,ti 0,ti 0,ti 0,ti 0,ti 0,ti 0,ti 0,ti 0,ti 0]))),.w (room (zq (zj n (T.agg [ti (0:Int),ti (0:Int),ti (0:Int),ti (0:Int),ti (0:Int),ti (0:Int),ti (0:Int),ti (0:Int),ti (0:Int),ti (0:Int),ti (0:Int),ti (0:Int),ti (0:Int),ti (0:Int),ti (0:Int)]))) (120:Nat)),.l 0,.w (0≤(0:Int)),.l 0,.w ((0:Nat)≤(0:Nat)∧(0:Nat)≤zq (zj n (T.agg [ti (0:Int),ti (0:Int),ti (0:Int),ti (0:Int),ti (0:Int),ti (0:Int),ti (0:Int),ti (0:Int),ti (0:Int),ti (0:Int),ti (0:Int),ti (0:Int),ti (0:Int),ti (0:Int),ti (0:Int)]))),.l 0,.l 0] ⟨oW,o_w ⟨(Nat.le_of_ble_eq_true (by kernel_rfl)),(Nat.le_of_ble_eq_true (by kernel_rfl))⟩,bK,o_w ⟨(by omega),(by (simp [room,appendMax];omega))⟩,nK,o_w (by (simp [room,appendMax];omega)),oW,o_w ⟨(Nat.le_of_ble_eq_true (by kernel_rfl)),(by omega)⟩,trivial⟩ ?_
  refine gg [.s (qk 0 [])] trivial ?_
  refine rT (a:=qz qj [qy 0 none] [qv 15 [] none false]) ?_
  simp
 ·refine rT (a:=qz qj [qy 0 none] [qv 15 [] none false]) ?_
  simp
theorem AdP (ls:List (List Cross)) (hl:ls.length≤1000) (ht:total ls≤1000000): ∀(d i s:Nat),i+d=ls.length→s+total (ls.drop i)=total ls→
  Is cx (.loop 127 [0,1,0,1,1] 0 [.t (.sl 1 (ls.map encL)),vi s,.t (.sl 1 (ls.map encL)),vi ls.length,vi i] [])
   ⟨.exit 0,[.t (.sl 1 (ls.map encL)),vi (total ls),.t (.sl 1 (ls.map encL)),vi ls.length,vi ls.length],[]⟩:=by
 intro d
 induction d with
 |zero=>
  intro i s hi hs
  rw [Amc (by omega)] at hs
  refine qq ?_
  refine gg [.b (decide ((i:Int)<(↑(zq ls):Int))) false] ⟨fP,trivial⟩ ?_
  refine rT (a:=qz (qx 0) [V.t (qk 1 (zz encL ls)),vi (s:Int),V.t (qk 1 (zz encL ls)),vi (↑(zq ls):Int),vi (i:Int)] []) ?_
  ((have hq:i=ls.length:=by omega);subst hq;(have hq2:s=total ls:=by omega);subst hq2;rfl)
 |succ d ih=>
  intro i s hi hs
  have hlt:i<ls.length:=by omega
  rw [Akj hlt] at hs
  have ih1:=ih (i+1) (s+(gt ls i).length) (by omega) (by omega)
  clear ih
  refine qq ?_
  refine gg [.b (decide ((i:Int)<(↑(zq ls):Int))) true,.w (0≤(i:Int)),.n (zy (i:Int)) i,.g (zz encL ls) i (encL (gt ls i)),.n (zq (zz zn (gt ls i))) (zq (gt ls i)),.i zd ((s:Int)+(↑(zq (gt ls i)):Int)) ((↑(s+zq (gt ls i)):Int)),.b (decide ((↑(s+zq (gt ls i)):Int)<0)) false,.i zd ((i:Int)+1) ((↑(i+1):Int)),.a _ _] ⟨tP,oW,nK,o_gt rfl (by assumption) (by intro h;cases h),o_n (by simp),oI,bK,oI,o_a ih1,trivial⟩ ?_
  exact ge
theorem Ae7 (ls:List (List Cross)) (hl:ls.length≤1000) (ht:total ls≤1000000): ∀(d i:Nat) (A:List Cross),i+d=ls.length→A.length+total (ls.drop i)=total ls→
  Is cx (.loop 127 [0,1,0,1,1,1,1] 0 [.all 0 none,.t (.sl 1 (ls.map encL)),vi ls.length,vi i] [.arr 15 (A.map zn) none false])
   ⟨.exit 2,[.all 0 none,.t (.sl 1 (ls.map encL)),vi ls.length,vi ls.length],[.arr 15 ((A++(ls.drop i).flatten).map zn) none false]⟩:=by
 intro d
 induction d with
 |zero=>
  intro i A hi hs
  rw [Aac (by omega)]
  refine qq ?_
  refine gg [.b (decide ((i:Int)<(↑(zq ls):Int))) false] ⟨fP,trivial⟩ ?_
  refine rT (a:=qz (qx 2) [qy 0 none,V.t (qk 1 (zz encL ls)),vi (↑(zq ls):Int),vi (i:Int)] [qv 15 (zz zn A) none false]) ?_
  ((have hq:i=ls.length:=by omega);subst hq;simp)
 |succ d ih=>
  intro i A hi hs
  have hlt:i<ls.length:=by omega
  rw [Akj hlt] at hs
  have ih1:=ih (i+1) (A++gt ls i) (by omega) (by simp;omega)
  clear ih
  rw [AnW hlt]
  refine qq ?_
  refine gg [.b (decide ((i:Int)<(↑(zq ls):Int))) true,.w (0≤(i:Int)),.n (zy (i:Int)) i,.g (zz encL ls) i (encL (gt ls i)),.w ((0:Nat)<(120:Nat)),.s (qk 0 (zz zn (gt ls i))),.t (qk 0 (zz zn A++zz zn (gt ls i))) (qk 0 (zz zn (A++gt ls i))),.w (room (zq (zz zn (A++gt ls i))) (120:Nat)),.i zd ((i:Int)+1) ((↑(i+1):Int)),.a _ _] ⟨tP,oW,nK,o_gt rfl (by assumption) (by intro h;cases h),oW,o_l (Aag rfl rfl),o_w (by (simp [room,appendMax];omega)),o_i (w64 (by (simp [room,appendMax];omega))),o_a ih1,trivial⟩ ?_
  refine rT (a:=qz (qx 2) [qy 0 none,V.t (qk 1 (zz encL ls)),vi (↑(zq ls):Int),vi (↑(zq ls):Int)] [qv 15 (zz zn (A++gt ls i++List.flatten (zk (i+1) ls))) none false]) ?_
  simp
theorem AgU (ls:List (List Cross)) (hl:ls.length≤1000) (ht:total ls≤1000000):
  Is cx (.call 127 [.t (.sl 1 (ls.map encL))] []) ⟨.ret,[.all 0 none],[.arr 15 (ls.flatten.map zn) none false]⟩:=by
 have h1:=AdP ls hl ht ls.length 0 0 (by omega) (by simp)
 have h2:=Ae7 ls hl ht ls.length 0 [] (by omega) (by simp)
 rw [List.drop_zero,List.nil_append] at h2
 have h3:=Aix (total ls) ht
 refine qq ?_
 refine gg [.n (zq (zz encL ls)) (zq ls),.a _ _,.a _ _,.n (zq (zz encL ls)) (zq ls),.a _ _] ⟨o_n (by simp),o_a h1,o_a h3,o_n (by simp),o_a h2,trivial⟩ ?_
 exact ge
theorem AiN (ls:List (List Cross)) (hl:ls.length≤1000) (ht:total ls≤1000000):
  Is cx (.call 70 [.t (.sl 1 (ls.map encL))] []) ⟨.ret,[.all 0 none],[.arr 15 ((sortS z7 ls.flatten).map zn) none false]⟩:=by
 have h1:=AgU ls hl ht
 have h2:=Adn ls.flatten (by unfold small;rw [AmW];exact ht)
 refine qq ?_
 refine gg [.a _ _,.a _ _] ⟨o_a h1,o_a h2,trivial⟩ ?_
 exact ge
theorem AaF (l:List Cross) (h:small l):Is cx (.call 70 [.t (.sl 1 [.sl 15 (l.map zn)])] []) ⟨.ret,[.all 0 none],[.arr 15 ((sortS z7 l).map zn) none false]⟩:=by
 have:=AiN [l] (by simp) (by unfold small at h;simpa [total] using h)
 rw [show [l].flatten=l by simp] at this
 exact this
theorem AcL (l A:List Cross) (i:Nat) (hi:i<l.length) (hn:small l) (hA:small A): ∀(k:Nat),k≤A.length→
  Is cx (.loop 145 [0,0,1,0,0,1,0,0,1,0,1,1] 0 [.t (.sl 15 (l.map zn)),.all 0 none,vi i,vi k] [.arr 15 (A.map zn) none false])
   ⟨.exit 2,[.t (.sl 15 (l.map zn)),.all 0 none,vi i,vi (bk z7 (gt l i) A k:Nat)],[.arr 15 (A.map zn) none false]⟩:=by
 unfold small at hn hA
 intro k
 induction k with
 |zero=>
  intro hk
  refine qq ?_
  refine gg [.b (decide (0>0)) false,.ff,.ff,.ff,.ff,.ff,.ff,.ff,.ff,.ff,.ff,.ff] ⟨bK,trivial⟩ ?_
  exact ge
 |succ k ih=>
  intro hk
  have ih1:=ih (by omega)
  clear ih
  have ek:((k+1:Nat):Int)-1=(k:Nat):=by omega
  cases hl:z7 (gt l i) (gt A k) with
  |true=>
   have e:bk z7 (gt l i) A (k+1)=bk z7 (gt l i) A k:=by rw [bk,hl]
   rw [e]
   refine qq ?_
   refine gg [.b (decide ((↑(k+1):Int)>0)) true,.tt,.tt,.w (0≤(i:Int)),.n (zy (i:Int)) i,.g (zz zn l) i (zn (gt l i)),.tt,.tt,.tt,.i zd ((↑(k+1):Int)-1) (k:Int),.tt,.w (0≤(k:Int)),.n (zy (k:Int)) k,.w (k<zq (zz zn A)),.tt,.tt] ⟨tP,oW,nK,o_gt rfl (by assumption) (by intro h;cases h),oI,oW,nK,o_w (by (simp;omega)),trivial⟩ ?_
   refine gg [.g (zz zn A) k (zn (gt A k)),.tt,.a _ _,.tt,.b (z7 (gt l i) (gt A k)) true,.i zd ((↑(k+1):Int)-1) (k:Int),.a _ _] ⟨o_gt rfl (by assumption) (by intro h;cases h),o_a (Aco (gt l i) (gt A k)),tB,oI,o_a ih1,trivial⟩ ?_
   exact ge
  |false=>
   have e:bk z7 (gt l i) A (k+1)=k+1:=by rw [bk,hl]
   rw [e]
   refine qq ?_
   refine gg [.b (decide ((↑(k+1):Int)>0)) true,.tt,.tt,.w (0≤(i:Int)),.n (zy (i:Int)) i,.g (zz zn l) i (zn (gt l i)),.tt,.tt,.tt,.i zd ((↑(k+1):Int)-1) (k:Int),.tt,.w (0≤(k:Int)),.n (zy (k:Int)) k,.w (k<zq (zz zn A)),.tt,.tt] ⟨tP,oW,nK,o_gt rfl (by assumption) (by intro h;cases h),oI,oW,nK,o_w (by (simp;omega)),trivial⟩ ?_
   refine gg [.g (zz zn A) k (zn (gt A k)),.tt,.a _ _,.tt,.b (z7 (gt l i) (gt A k)) false] ⟨o_gt rfl (by assumption) (by intro h;cases h),o_a (Aco (gt l i) (gt A k)),fB,trivial⟩ ?_
   exact ge
theorem Adl (l:List Cross) (hn:small l): ∀(d i:Nat) (A:List Cross),i+d=l.length→A.length=i→Sd z7 A→
  Is cx (.loop 145 [0,1,0,1,1] 0 [.t (.sl 15 (l.map zn)),.all 0 none,vi i] [.arr 15 (A.map zn) none false])
   ⟨.exit 0,[.t (.sl 15 (l.map zn)),.all 0 none,vi l.length],[.arr 15 (((l.drop i).foldl (insS z7) A).map zn) none false]⟩:=by
 unfold small at hn
 intro d
 induction d with
 |zero=>
  intro i A hi hA hs
  rw [Aac (by omega)]
  refine qq ?_
  refine gg [.n (zq (zz zn l)) (zq l),.b (decide ((i:Int)<(↑(zq l):Int))) false] ⟨o_n (by simp),fP,trivial⟩ ?_
  refine rT (a:=qz (qx 0) [V.t (qk 15 (zz zn l)),qy 0 none,vi (i:Int)] [qv 15 (zz zn A) none false]) ?_
  ((have hq:i=l.length:=by omega);subst hq;rfl)
 |succ d ih=>
  intro i A hi hA hs
  have hlt:i<l.length:=by omega
  have hlen:(insS z7 A (gt l i)).length=i+1:=by rw [(Ajz AcZ hs).len AcZ (Aip AcZ hs)];simp;omega
  have ih1:=ih (i+1) (insS z7 A (gt l i)) (by omega) hlen (Aip AcZ hs)
  clear ih
  rw [Aaf hlt,List.foldl_cons]
  have hI:=AcL l A i hlt hn (by unfold small;omega) A.length (Nat.le_refl _)
  have hk:= @bk_le _ _ z7 (gt l i) A A.length
  rw [bk_eq AcZ hs] at ih1⊢
  rw [bk_eq AcZ hs] at hlen
  generalize bk z7 (gt l i) A A.length=k at*
  rw [List.append_cons] at ih1⊢
  rw [List.append_cons] at hlen
  have ht:zw (A.length-k) (A.drop k)=A.drop k:=List.take_of_length_le (by simp)
  refine qq ?_
  refine gg [.n (zq (zz zn l)) (zq l),.b (decide ((i:Int)<(↑(zq l):Int))) true,.n (zq (zz zn A)) (zq A),.a _ _,.w (0≤(k:Int)),.n (zy (k:Int)) k,.w ((0:Nat)≤k∧k≤zq (zz zn A)),.l 0,.n (k-0) k,.w (0≤(i:Int)),.n (zy (i:Int)) i,.g (zz zn l) i (zn (gt l i)),.w (0≤(k:Int)),.n (zy (k:Int)) k,.w (k≤zq (zz zn A)∧zq (zz zn A)≤zq (zz zn A)),.n (0+k) k] ⟨o_n (by simp),tP,o_n (by simp),o_a hI,oW,nK,o_w ⟨(by omega),(by (simp [room,appendMax];omega))⟩,nK,oW,nK,o_gt rfl (by assumption) (by intro h;cases h),oW,nK,o_w ⟨(by (simp [room,appendMax];omega)),(by omega)⟩,oN,trivial⟩ ?_
  refine gg [.n (zq (zz zn A)-k) (zq A-k)] ⟨o_n (by simp),trivial⟩ ?_
  refine bO ?_ ?_
  all_goals
   refine gg [.w ((0:Nat)<(120:Nat)),.t (qk 0 (zw k (zk 0 (zz zn A)))) (qk 0 (zz zn (zw k A))),.s (qk 0 (zz zn (zw k A))),.w (room (zq (zz zn (zw k A))) (120:Nat)),.w ((0:Nat)<(120:Nat)),.t (qk 0 [zn (gt l i)]) (qk 0 (zz zn [gt l i])),.t (qk 0 (zz zn (zw k A)++zz zn [gt l i])) (qk 0 (zz zn (zw k A++ [gt l i]))),.w (room (zq (zz zn (zw k A++ [gt l i]))) (120:Nat)),.w ((0:Nat)<(120:Nat)),.t (qk 0 (zw (zq A-k) (zk k (zz zn A)))) (qk 0 (zz zn (zk k A))),.t (qk 0 (zz zn (zw k A++ [gt l i])++zz zn (zk k A))) (qk 0 (zz zn (zw k A++ [gt l i]++zk k A))),.w (room (zq (zz zn (zw k A++ [gt l i]++zk k A))) (120:Nat)),.i zd ((i:Int)+1) ((↑(i+1):Int)),.a _ _] ⟨oW,o_l (nm_eq (AaL (AbO rfl)) (by kernel_rfl)),o_w (by (simp [room,appendMax];omega)),oW,o_l (Aae rfl Aah),o_l (Aag rfl rfl),o_w (by (simp [room,appendMax];omega)),oW,o_l (nm_eq (AaL (AbO rfl)) (by assumption)),o_l (Aag rfl rfl),o_w (by (simp [room,appendMax];omega)),o_i (w64 (by (simp [room,appendMax];omega))),o_a ih1,trivial⟩ ?_
   exact ge
theorem Ac7 (l:List Cross) (hn:small l):Fn cx 145 [.sl 15 (l.map zn)] (.sl 15 ((sortS z7 l).map zn)):=by
 have h:=Adl l hn l.length 0 [] (by omega) rfl (by simp [Sd])
 rw [List.drop_zero] at h
 change Is cx _ ⟨_,_,[.arr 15 ((sortS z7 l).map zn) none false]⟩ at h
 refine qq ?_
 refine gg [.a _ _] ⟨o_a h,trivial⟩ ?_
 exact ge
end Go.Eva.S4
namespace Go.Eva
theorem Alf {l:List Entity} {g:Entity→Entity} (h: ∀e∈l,(g e).kind=e.kind):things (l.map g)=things l:=by
 unfold things
 rw [List.countP_map]
 congr 1
 refine List.countP_congr fun e he=> ?_
 simp [h e he]
theorem Acn {c:Config} {r:Int} {A:List Entity} (h:Sane c r A):Moved c r (moveL c A)∧ ∀e∈moveL c A,e.right c=true:=by
 have hmem: ∀e∈moveL c A,∃x∈A,(goE c x).2=true∧e=(goE c x).1:=by
  intro e he
  unfold moveL at he
  obtain ⟨x,hx,rfl⟩:=List.mem_map.1 he
  obtain ⟨h1,h2⟩:=List.mem_filter.1 hx
  exact ⟨x,h1,h2,rfl⟩
 have hr: ∀e∈moveL c A,e.right c=true:=by
  intro e he
  obtain ⟨x,hx,hg,rfl⟩:=hmem e he
  exact (Akb hg).1
 refine ⟨⟨?_,?_,fun e he=>⟨(Acx (hr e he)).1,?_⟩⟩,hr⟩
 ·unfold moveL
  rw [Srt,List.pairwise_map]
  refine List.Pairwise.imp_of_mem ?_ (AdS h.srt)
  intro a b ha hb hab
  have h1:=(AkH (List.mem_filter.1 ha).2).1
  have h2:=(AkH (List.mem_filter.1 hb).2).1
  omega
 ·unfold moveL
  rw [Alf fun e he=>(AkH (List.mem_filter.1 he).2).2.1]
  have:=AfO (List.filter_sublist (p:=fun e=>(goE c e).2) (l:=A))
  have:=h.things
  omega
 ·obtain ⟨x,hx,hg,rfl⟩:=hmem e he
  obtain ⟨g1,g2,g3,g4⟩:=Akb hg
  obtain ⟨hxr,hxo⟩:=h.ents x hx
  obtain ⟨hc,p1,p2⟩:=AcU hxr
  obtain ⟨_,q1,q2⟩:=AcU g1
  have:=Amm hc p1 p2 q1 q2 g3 g4
  rwa [hxo] at this
theorem Moved.len {c:Config} {r:Int} {l:List Entity} (h:Moved c r l) (hc:c.right=true):l.length≤30:=by
 have h3:=Config.right_iff.1 hc
 have h1:=AlR (n:=c.players) h.srt (fun x hx hk=>by
  have:=Entity.right_player (h.ents x hx).1.1 hk
  exact this) (by omega)
 have h2:=h.things
 omega
theorem Afo {c:Config} {e:Entity} (h:e.right c=true):e.health≤100:=(Acx h).1.2.1
theorem Acv {c:Config} {r:Int} {M:List Entity} {inbox:List Cross} (h:Moved c r M):Moved c r (blastsL (gemsL (shotsL M)) inbox)∧((blastsL (gemsL (shotsL M)) inbox).filter fun e=>decide (e.kind=1)).map Entity.id=(M.filter fun e=>decide (e.kind=1)).map Entity.id:=by
 have l0: ∀e∈M,e.kind=1→e.health≤100:=fun e he _=>(h.ents e he).1.2.1
 have h1:=AdL l0
 have m1:=h1.moved h
 have h2:=Ais (l:=shotsL M) h1.low
 have m2:=h2.moved m1
 obtain ⟨b1,b2⟩:=Aj0 (bs:=inbox) (l:=gemsL (shotsL M)) h2.low
 refine ⟨Ald b1 m2 b2,?_⟩
 rw [An2 b1,h2.players,h1.players]
theorem AeW {c:Config} {r f:Int}: ∀ {ids:List Int} {s:Stg},(ids.foldl (fall1 c r f) s).l.length=s.l.length∧(ids.foldl (fall1 c r f) s).made=s.made∧(ids.foldl (fall1 c r f) s).out.length=s.out.length+ids.length*(c.near r).length:=by
 intro ids
 induction ids with
 |nil=>intro s;simp
 |cons id ids ih=>
  intro s
  obtain ⟨h1,h2,h3⟩:= @ih (fall1 c r f s id)
  rw [List.foldl_cons]
  refine ⟨by rw [h1];simp [fall1],by rw [h2];rfl,?_⟩
  rw [h3]
  simp only [fall1,blastsAt,List.length_append,List.length_map,List.length_cons]
  rw [Nat.add_mul];omega
theorem Ans {c:Config} {r:Int} (h:c.is r=true):0<(c.near r).length:=by
 have:=Ahj h
 cases hn:c.near r with
 |nil=>rw [hn] at this;simp [has] at this
 |cons a l=>simp
structure Still2 (c:Config) (r:Int) (l:List Entity):Prop where
 srt:Srt l
 things:things l≤24
 ents: ∀e∈l,e.right c=true∧has (c.near r) (c.of e.x e.y)=true
def blastOk (c:Config) (r f:Int) (m:Cross):Prop:=m.right c=true∧m.frm=r∧m.frame=f∧has (c.near r) m.to=true
theorem AjK {l:List Int} {x:Int}:has l x=true↔x∈l:=by
 unfold has
 rw [List.any_eq_true]
 constructor
 ·rintro ⟨y,h1,h2⟩;simp at h2;subst h2;exact h1
 ·intro h;exact ⟨x,h,by simp⟩
theorem AkS {c:Config} {r f:Int} {e:Entity} {id:Int} (h:weak c e) (hk:e.kind=1) (hr:c.is r=true):(anewE c r f id e).right c=true∧c.of (anewE c r f id e).x (anewE c r f id e).y=r:=by
 obtain ⟨h1,h2,h3⟩:=Aio (c:=c) (r:=r) (f:=f) (o1:=id) (o2:=id) (a:=1) (b:=2) hr
 refine ⟨?_,h3⟩
 have hin:c.inside (placeX c r f 1 id) (placeY c r f 2 id)=true:=by
  simp only [Config.inside,Bool.and_eq_true,Aad];omega
 have hp:=h.1
 simp only [z9,hk,if_true,Bool.and_eq_true,Aad,decide_eq_true_eq] at hp
 simp only [anewE,z9,hk,if_true,Bool.and_eq_true,Aad,decide_eq_true_eq]
 refine ⟨hin,?_⟩
 omega
theorem AmM {c:Config} {r f:Int} {e:Entity} {q:Int} (h:weak c e) (hr:c.is r=true) (hf:0≤f∧f<10000) (hq:q∈c.near r):blastOk c r f ⟨2,r,q,f,Entity.zero,e.x,e.y⟩:=by
 obtain ⟨h1,h2,h3⟩:=Alg h
 have hin:c.inside e.x e.y=true:=by simp only [Config.inside,Bool.and_eq_true,Aad];omega
 have hw:within f 0 9999=true:=Aad.2 (by omega)
 refine ⟨?_,rfl,rfl,AjK.2 hq⟩
 simp [Cross.right,AjK.2 hq,hw,hin]
theorem AmA {c:Config} {r f:Int} (hr:c.is r=true) (hf:0≤f∧f<10000): ∀ {ids:List Int} {s:Stg},Moved c r s.l→(∀id∈ids,∃x∈s.l,x.id=id∧x.kind=1)→(∀e∈s.l,e.health≤0→e.id∈ids)→(∀m∈s.out,blastOk c r f m)→
  Still2 c r (ids.foldl (fall1 c r f) s).l∧(∀m∈(ids.foldl (fall1 c r f) s).out,blastOk c r f m)∧((ids.foldl (fall1 c r f) s).l.filter fun e=>decide (e.kind=1)).map Entity.id=(s.l.filter fun e=>decide (e.kind=1)).map Entity.id:=by
 intro ids
 induction ids with
 |nil=>
  intro s hm _ hh ho
  refine ⟨⟨hm.srt,hm.things,fun e he=> ?_⟩,ho,rfl⟩
  obtain ⟨h1,h2⟩:=hm.ents e he
  refine ⟨Alp h1 ?_,h2⟩
  rcases Int.lt_or_le 0 e.health with h|h
  ·omega
  ·have:=hh e he h;simp at this
 |cons id ids ih=>
  intro s hm hp hh ho
  obtain ⟨x,hx,hxi,hxk⟩:=hp id (List.mem_cons_self ..)
  obtain ⟨k,k1,k2,k3⟩:=Aeu hm.srt hx
  rw [hxi] at k1
  have e1:fall1 c r f s id=⟨s.l.set k (anewE c r f id x),s.made,s.out++blastsAt c r f x⟩:=by
   unfold fall1
   rw [k1,Int.toNat_natCast,k3]
  rw [List.foldl_cons,e1]
  obtain ⟨wx,_⟩:=hm.ents x hx
  obtain ⟨a1,a2⟩:=AkS (f:=f) (id:=id) wx hxk hr
  have hids:(s.l.set k (anewE c r f id x)).map Entity.id=s.l.map Entity.id:=Ac4 k2 (by rw [k3];rfl)
  have hkinds:things (s.l.set k (anewE c r f id x))=things s.l:=by
   have:=AbZ (e:=anewE c r f id x) hm.srt hx rfl
   rwa [Abm (by rw [hxi];exact k1)] at this
  have hpl:((s.l.set k (anewE c r f id x)).filter fun e=>decide (e.kind=1)).map Entity.id=(s.l.filter fun e=>decide (e.kind=1)).map Entity.id:=by
   have hkk:(s.l.set k (anewE c r f id x)).map (fun e=>(e.id,e.kind))=s.l.map fun e=>(e.id,e.kind):=by
    rw [List.map_set]
    apply List.ext_getElem?
    intro i
    rw [List.getElem?_set]
    split
    ·rename_i hik
     subst hik
     rw [List.length_map,if_pos k2,List.getElem?_map,Acy k2,Option.map_some,k3]
     rfl
    ·rfl
   have e: ∀l:List Entity,(l.filter fun e=>decide (e.kind=1)).map Entity.id=((l.map fun e=>(e.id,e.kind)).filter fun p=>decide (p.2=1)).map Prod.fst:=fun l=>by
    rw [List.filter_map,List.map_map];rfl
   rw [e,e s.l,hkk]
  have:=ih (s:=⟨s.l.set k (anewE c r f id x),s.made,s.out++blastsAt c r f x⟩) ?_ ?_ ?_ ?_
  ·simp only at this
   rw [hpl] at this
   exact this
  ·refine ⟨Aiu hids.symm hm.srt,by simp only;rw [hkinds];exact hm.things,fun e he=> ?_⟩
   rcases Ag9 he with rfl|he
   ·exact ⟨(Acx a1).1,by rw [a2];exact Ahj hr⟩
   ·exact hm.ents e he
  ·intro id2 hid2
   obtain ⟨y,hy,hyi,hyk⟩:=hp id2 (List.mem_cons_of_mem _ hid2)
   by_cases hne:y.id=x.id
   ·have:y=x:=Ag5 hm.srt hy hx hne
    subst this
    exact ⟨anewE c r f id y,List.mem_set k2 _,hyi,hyk⟩
   ·have:=Abi (e:=anewE c r f id x) hm.srt hx hy hne
    rw [Abm (by rw [hxi];exact k1)] at this
    exact ⟨y,this,hyi,hyk⟩
  ·intro e he hle
   rcases Ag9 he with h|h
   ·subst h
    have:=(Acx a1).2
    omega
   ·have:=hh e h hle
    rcases List.mem_cons.1 this with h2|h2
    ·
     have:e=x:=Ag5 hm.srt h hx (by omega)
     subst this
     exfalso
     obtain ⟨j,hj⟩:=List.mem_iff_getElem?.1 he
     rw [List.getElem?_set] at hj
     split at hj
     ·rename_i hkj
      injection hj with hj
      have:=(Acx a1).2
      rw [hj] at this
      omega
     ·rename_i hkj
      have hj2:=(List.getElem?_eq_some_iff.1 hj).1
      have hg:gt s.l j=e:=by unfold gt;rw [hj];rfl
      have:=hm.srt
      rw [Srt,List.pairwise_iff_getElem] at this
      rw [gt_eq hj2] at hg
      rw [gt_eq k2] at k3
      rcases Nat.lt_or_gt_of_ne hkj with hlt|hlt
      ·have:=this k j k2 hj2 hlt
       rw [hg,k3] at this;omega
      ·have:=this j k hj2 k2 hlt
       rw [hg,k3] at this;omega
    ·exact h2
  ·intro m hm2
   rcases List.mem_append.1 hm2 with h|h
   ·exact ho m h
   ·unfold blastsAt at h
    obtain ⟨q,hq,rfl⟩:=List.mem_map.1 h
    exact AmM wx hr hf hq
theorem AnF {c:Config} {r f:Int} (hr:c.is r=true) (hf:0≤f∧f<10000) {H:List Entity} {made:Int} (hm:Moved c r H):Still2 c r (fallS c r f ⟨H,made,[]⟩).l∧(∀m∈(fallS c r f ⟨H,made,[]⟩).out,blastOk c r f m)∧((fallS c r f ⟨H,made,[]⟩).l.filter fun e=>decide (e.kind=1)).map Entity.id=(H.filter fun e=>decide (e.kind=1)).map Entity.id:=by
 refine AmA (s:=⟨H,made,[]⟩) hr hf hm ?_ ?_ (by simp)
 ·intro id hid
  obtain ⟨x,h1,h2⟩:=List.mem_map.1 hid
  obtain ⟨h3,h4⟩:=List.mem_filter.1 h1
  simp only [fallenP,Bool.and_eq_true,decide_eq_true_eq] at h4
  exact ⟨x,h3,h2,h4.1⟩
 ·intro e he hle
  have hk:e.kind=1:=by
   by_cases q:e.kind=1
   ·exact q
   ·have:=(hm.ents e he).1.2.2 q;omega
  exact List.mem_map.2 ⟨e,List.mem_filter.2 ⟨he,by simp [fallenP,hk,hle]⟩,rfl⟩
theorem Afj {c:Config} {e:Entity} (h:e.right c=true):0≤e.age∧e.age≤12:=by
 simp only [z9,Bool.and_eq_true] at h
 have h2:=h.2
 by_cases k1:e.kind=1
 ·rw [if_pos k1] at h2
  simp only [Bool.and_eq_true,Aad,decide_eq_true_eq] at h2
  omega
 ·rw [if_neg k1] at h2
  by_cases k2:e.kind=2
  ·rw [if_pos k2] at h2
   simp only [Bool.and_eq_true,Aad] at h2
   omega
  ·rw [if_neg k2] at h2
   by_cases k3:e.kind=3
   ·rw [if_pos k3] at h2
    simp only [Bool.and_eq_true,decide_eq_true_eq] at h2
    omega
   ·rw [if_neg k3] at h2;contradiction
theorem AbJ {c:Config} {r f:Int} {s:Stg}:(leaveS c r f s).out.length≤s.out.length+s.l.length:=by
 simp only [leaveS,List.length_append,List.length_map]
 have:=List.length_filter_le (fun e=> !decide (c.of e.x e.y=r)) s.l
 omega
theorem AhK {c:Config} {r f:Int} {s:Stg} (h:(s.l.filter fun e=> !decide (c.of e.x e.y=r))= []):(leaveS c r f s).out=s.out:=by
 simp [leaveS,h]
end Go.Eva
namespace Go.Eva.S4
theorem Af9 (c:Config) (r:Int) (s:Region) (ins:List Input) (inbox:List Cross) (hn:s.ents.length≤100000) (hi:small ins) (hb:inbox.length≤100000) (h:askedE c r s ins inbox=0):
  Is cx (.call 23 [.t c.enc,vi r,.t s.enc,.t (.sl 3 (ins.map zr)),.t (.sl 15 (inbox.map zn))] []) ⟨.ret,[.t (zt ⟨s.frame+1,(stepS c r s ins inbox).l⟩),.t (.sl 15 ((sortS z7 (stepS c r s ins inbox).out).map zn)),vi 0],[]⟩:=by
 have hfine:=AfP h
 have hrc:=Config.is_right hfine.is
 have ha:=Ahv c r s ins inbox (by unfold small;omega) hi (by unfold small;omega)
 rw [h] at ha
 have hA:=AgF c r s inbox hn hb
 have hsane:=hfine.sane
 obtain ⟨hst1,hst2⟩:=Afb hfine
 have hr:=Config.is_le hfine.is
 have hreg:= @Config.regions_le c
 have hf:=hfine.frame
 have hst:=Ah1 c r s.frame ins (arriveL s.ents inbox) hi (by omega) (by omega) (Nat.le_trans (hsane.len hrc) (by omega)) fun p hp=>by
  have hpr:=(hsane.ents p hp).1
  refine ⟨?_,fun hk=> ?_⟩
  ·have:=Afj hpr;omega
  ·have:=Entity.right_player hpr hk
   have:=hfine.len
   omega
 unfold stepS restS
 have hnear:=Ans hfine.is
 generalize steerS c r s.frame ins ⟨arriveL s.ents inbox,0,[]⟩=S at*
 generalize arriveL s.ents inbox=L at*
 obtain ⟨A,made,o⟩:=S
 simp only at hst hst1 hst2⊢
 subst hst2
 have hmade:=hst1.made
 simp only at hmade
 have hAs:=hst1.sane
 simp only at hAs
 have hAl:=hAs.len hrc
 have hmv:=Ai3 c r s.frame made A (by unfold small;omega) fun e he=>by have:=Afj (hAs.ents e he).1;omega
 obtain ⟨hM,hMr⟩:=Acn hAs
 have hMl:=hM.len hrc
 have hHm:=(Acv (inbox:=inbox) hM).1
 have hHl:=hHm.len hrc
 have hsh:=AgI (moveL c A) (by unfold small;omega)
 have h1l:(shotsL (moveL c A)).length≤30:=by
  have:=(AdL (l:=moveL c A) fun e he _=>Afo (hMr e he)).moved hM
  exact this.len hrc
 have hge:=Ah0 (shotsL (moveL c A)) (by unfold small;omega)
 have h2l:(gemsL (shotsL (moveL c A))).length≤30:=by
  have k1:=AdL (l:=moveL c A) fun e he _=>Afo (hMr e he)
  have:=(Ais (l:=shotsL (moveL c A)) k1.low).moved (k1.moved hM)
  exact this.len hrc
 have hbl:=Agv (gemsL (shotsL (moveL c A))) inbox (by unfold small;omega) (by unfold small;omega)
 clear hHm hM hMr hst1 hsane hfine h hAs
 generalize blastsL (gemsL (shotsL (moveL c A))) inbox=H at*
 generalize gemsL (shotsL (moveL c A))=M2 at*
 generalize shotsL (moveL c A)=M1 at*
 generalize moveL c A=M at*
 obtain ⟨f,l⟩:=s
 simp only at*
 by_cases hfl:fallenL H= []
 ·have hfa:=Ahn c r f made H (by omega) hfl
  have e1:fallS c r f ⟨H,made,[]⟩=⟨H,made,[]⟩:=by unfold fallS;simp only;rw [hfl];rfl
  rw [e1]
  by_cases hg:below 8 c.seed [3,f,r]≠0∨3≤(H.countP fun e=>e.kind==3)∨Stg.room ⟨H,made,[]⟩=false
  ·have hgr:=AeE c r f made H [] (by omega) hg
   have e2:growS c r f ⟨H,made,[]⟩=⟨H,made,[]⟩:=by unfold growS;rw [if_pos hg]
   rw [e2]
   clear e1 e2 hg hfl
   have hlv:=Adf c r f made H (by omega)
   have hso:=AaF (leaveS c r f ⟨H,made,[]⟩).out (by have:= @AbJ c r f ⟨H,made,[]⟩;unfold small;simp only [List.length_nil] at this;omega)
   split at hlv
   ·rename_i hq
    rw [hq] at hso⊢
    change Is cx _ ⟨_,[_,.t (.sl 15 []),_],_⟩
    replace hso:=AaF [] (by simp [small])
    clear hq
    generalize (leaveS c r f ⟨H,made,[]⟩).l=Z at*
    rcases hst with hst|⟨X,hst⟩
    ·refine qq ?_
     refine gg [.a _ _,.b (0 !=0) false,.a _ _,.a _ _,.a _ _,.a _ _,.a _ _,.a _ _,.a _ _,.a _ _,.a _ _] ⟨o_a ha,bK,o_a hA,o_a hst,o_a hmv,o_a hsh,o_a hge,o_a hbl,o_a hfa,o_a hgr,o_a hlv,trivial⟩ ?_
     refine gg [.i zd (f+1) (f+1),.a _ _] ⟨oI,o_a hso,trivial⟩ ?_
     exact ge
    ·refine qq ?_
     refine gg [.a _ _,.b (0 !=0) false,.a _ _,.a _ _,.a _ _,.a _ _,.a _ _,.a _ _,.a _ _,.a _ _,.a _ _] ⟨o_a ha,bK,o_a hA,o_a hst,o_a hmv,o_a hsh,o_a hge,o_a hbl,o_a hfa,o_a hgr,o_a hlv,trivial⟩ ?_
     refine gg [.i zd (f+1) (f+1),.a _ _] ⟨oI,o_a hso,trivial⟩ ?_
     exact ge
   ·rename_i hq
    clear hq
    generalize (leaveS c r f ⟨H,made,[]⟩).l=Z at*
    generalize hoo:(leaveS c r f ⟨H,made,[]⟩).out=oo at*
    generalize sortS z7 oo=so at*
    rcases hst with hst|⟨X,hst⟩
    ·refine qq ?_
     refine gg [.a _ _,.b (0 !=0) false,.a _ _,.a _ _,.a _ _,.a _ _,.a _ _,.a _ _,.a _ _,.a _ _,.a _ _] ⟨o_a ha,bK,o_a hA,o_a hst,o_a hmv,o_a hsh,o_a hge,o_a hbl,o_a hfa,o_a hgr,o_a hlv,trivial⟩ ?_
     refine gg [.i zd (f+1) (f+1),.s (qk 15 (zz zn oo)),.a _ _] ⟨oI,o_a hso,trivial⟩ ?_
     exact ge
    ·refine qq ?_
     refine gg [.a _ _,.b (0 !=0) false,.a _ _,.a _ _,.a _ _,.a _ _,.a _ _,.a _ _,.a _ _,.a _ _,.a _ _] ⟨o_a ha,bK,o_a hA,o_a hst,o_a hmv,o_a hsh,o_a hge,o_a hbl,o_a hfa,o_a hgr,o_a hlv,trivial⟩ ?_
     refine gg [.i zd (f+1) (f+1),.s (qk 15 (zz zn oo)),.a _ _] ⟨oI,o_a hso,trivial⟩ ?_
     exact ge
  ·have hgr:=Ae9 c r f made H (by omega) (by omega) (by omega) (by omega) hg
   have e2:growS c r f ⟨H,made,[]⟩=⟨put1 H (gemE c r f made),made+1,[]⟩:=by unfold growS;rw [if_neg hg]
   rw [e2]
   clear e1 e2 hg hfl
   have hpl:=(@Abb H (gemE c r f made)).2
   generalize put1 H (gemE c r f made)=G at*
   have hlv:=Adf c r f (made+1) G (by omega)
   have hso:=AaF (leaveS c r f ⟨G,made+1,[]⟩).out (by have:= @AbJ c r f ⟨G,made+1,[]⟩;unfold small;simp only [List.length_nil] at this;omega)
   split at hlv
   ·rename_i hq
    rw [hq] at hso⊢
    change Is cx _ ⟨_,[_,.t (.sl 15 []),_],_⟩
    replace hso:=AaF [] (by simp [small])
    clear hq
    generalize (leaveS c r f ⟨G,made+1,[]⟩).l=Z at*
    rcases hst with hst|⟨X,hst⟩
    ·refine qq ?_
     refine gg [.a _ _,.b (0 !=0) false,.a _ _,.a _ _,.a _ _,.a _ _,.a _ _,.a _ _,.a _ _,.a _ _,.a _ _] ⟨o_a ha,bK,o_a hA,o_a hst,o_a hmv,o_a hsh,o_a hge,o_a hbl,o_a hfa,o_a hgr,o_a hlv,trivial⟩ ?_
     refine gg [.i zd (f+1) (f+1),.a _ _] ⟨oI,o_a hso,trivial⟩ ?_
     exact ge
    ·refine qq ?_
     refine gg [.a _ _,.b (0 !=0) false,.a _ _,.a _ _,.a _ _,.a _ _,.a _ _,.a _ _,.a _ _,.a _ _,.a _ _] ⟨o_a ha,bK,o_a hA,o_a hst,o_a hmv,o_a hsh,o_a hge,o_a hbl,o_a hfa,o_a hgr,o_a hlv,trivial⟩ ?_
     refine gg [.i zd (f+1) (f+1),.a _ _] ⟨oI,o_a hso,trivial⟩ ?_
     exact ge
   ·rename_i hq
    clear hq
    generalize (leaveS c r f ⟨G,made+1,[]⟩).l=Z at*
    generalize hoo:(leaveS c r f ⟨G,made+1,[]⟩).out=oo at*
    generalize sortS z7 oo=so at*
    rcases hst with hst|⟨X,hst⟩
    ·refine qq ?_
     refine gg [.a _ _,.b (0 !=0) false,.a _ _,.a _ _,.a _ _,.a _ _,.a _ _,.a _ _,.a _ _,.a _ _,.a _ _] ⟨o_a ha,bK,o_a hA,o_a hst,o_a hmv,o_a hsh,o_a hge,o_a hbl,o_a hfa,o_a hgr,o_a hlv,trivial⟩ ?_
     refine gg [.i zd (f+1) (f+1),.s (qk 15 (zz zn oo)),.a _ _] ⟨oI,o_a hso,trivial⟩ ?_
     exact ge
    ·refine qq ?_
     refine gg [.a _ _,.b (0 !=0) false,.a _ _,.a _ _,.a _ _,.a _ _,.a _ _,.a _ _,.a _ _,.a _ _,.a _ _] ⟨o_a ha,bK,o_a hA,o_a hst,o_a hmv,o_a hsh,o_a hge,o_a hbl,o_a hfa,o_a hgr,o_a hlv,trivial⟩ ?_
     refine gg [.i zd (f+1) (f+1),.s (qk 15 (zz zn oo)),.a _ _] ⟨oI,o_a hso,trivial⟩ ?_
     exact ge
 ·have hfa:=Ahq c r f made H (by omega) hnear hfl
  have hlen:(fallS c r f ⟨H,made,[]⟩).l.length=H.length∧(fallS c r f ⟨H,made,[]⟩).made=made∧(fallS c r f ⟨H,made,[]⟩).out.length≤1000:=by
   obtain ⟨k1,k2,k3⟩:= @AeW c r f (fallenL H) ⟨H,made,[]⟩
   refine ⟨k1,k2,?_⟩
   change ((fallenL H).foldl (fall1 c r f) ⟨H,made,[]⟩).out.length≤1000
   rw [k3]
   have hfn:= @Aid H
   have hns:= @Aaz c r
   have:=Nat.mul_le_mul (Nat.le_trans hfn hHl) hns
   simp only [List.length_nil]
   omega
  generalize fallS c r f ⟨H,made,[]⟩=F at*
  obtain ⟨FL,fm,o⟩:=F
  simp only at hlen hfa⊢
  obtain ⟨hl1,rfl,hl3⟩:=hlen
  by_cases hg:below 8 c.seed [3,f,r]≠0∨3≤(FL.countP fun e=>e.kind==3)∨Stg.room ⟨FL,fm,o⟩=false
  ·have hgr:=Afu c r f fm FL o (by omega) hg
   have e2:growS c r f ⟨FL,fm,o⟩=⟨FL,fm,o⟩:=by unfold growS;rw [if_pos hg]
   rw [e2]
   clear e2 hg hfl
   have hlv:=Adj c r f fm FL o (by omega) (by omega)
   have hso:=AaF (leaveS c r f ⟨FL,fm,o⟩).out (by have:= @AbJ c r f ⟨FL,fm,o⟩;unfold small;simp only at this;omega)
   split at hlv
   ·rename_i hq
    rw [show (leaveS c r f ⟨FL,fm,o⟩).out=o from AhK hq] at hso⊢
    clear hq
    generalize (leaveS c r f ⟨FL,fm,o⟩).l=Z at*
    generalize sortS z7 o=so at*
    rcases hst with hst|⟨X,hst⟩
    ·refine qq ?_
     refine gg [.a _ _,.b (0 !=0) false,.a _ _,.a _ _,.a _ _,.a _ _,.a _ _,.a _ _,.a _ _,.a _ _,.a _ _] ⟨o_a ha,bK,o_a hA,o_a hst,o_a hmv,o_a hsh,o_a hge,o_a hbl,o_a hfa,o_a hgr,o_a hlv,trivial⟩ ?_
     refine gg [.i zd (f+1) (f+1),.s (qk 15 (zz zn o)),.a _ _] ⟨oI,o_a hso,trivial⟩ ?_
     exact ge
    ·refine qq ?_
     refine gg [.a _ _,.b (0 !=0) false,.a _ _,.a _ _,.a _ _,.a _ _,.a _ _,.a _ _,.a _ _,.a _ _,.a _ _] ⟨o_a ha,bK,o_a hA,o_a hst,o_a hmv,o_a hsh,o_a hge,o_a hbl,o_a hfa,o_a hgr,o_a hlv,trivial⟩ ?_
     refine gg [.i zd (f+1) (f+1),.s (qk 15 (zz zn o)),.a _ _] ⟨oI,o_a hso,trivial⟩ ?_
     exact ge
   ·rename_i hq
    clear hq
    generalize (leaveS c r f ⟨FL,fm,o⟩).l=Z at*
    generalize hoo:(leaveS c r f ⟨FL,fm,o⟩).out=oo at*
    generalize sortS z7 oo=so at*
    rcases hst with hst|⟨X,hst⟩
    ·refine qq ?_
     refine gg [.a _ _,.b (0 !=0) false,.a _ _,.a _ _,.a _ _,.a _ _,.a _ _,.a _ _,.a _ _,.a _ _,.a _ _] ⟨o_a ha,bK,o_a hA,o_a hst,o_a hmv,o_a hsh,o_a hge,o_a hbl,o_a hfa,o_a hgr,o_a hlv,trivial⟩ ?_
     refine gg [.i zd (f+1) (f+1),.s (qk 15 (zz zn oo)),.a _ _] ⟨oI,o_a hso,trivial⟩ ?_
     exact ge
    ·refine qq ?_
     refine gg [.a _ _,.b (0 !=0) false,.a _ _,.a _ _,.a _ _,.a _ _,.a _ _,.a _ _,.a _ _,.a _ _,.a _ _] ⟨o_a ha,bK,o_a hA,o_a hst,o_a hmv,o_a hsh,o_a hge,o_a hbl,o_a hfa,o_a hgr,o_a hlv,trivial⟩ ?_
     refine gg [.i zd (f+1) (f+1),.s (qk 15 (zz zn oo)),.a _ _] ⟨oI,o_a hso,trivial⟩ ?_
     exact ge
  ·have hgr:=Aey c r f fm FL o (by omega) (by omega) (by omega) (by omega) hg
   have e2:growS c r f ⟨FL,fm,o⟩=⟨put1 FL (gemE c r f fm),fm+1,o⟩:=by unfold growS;rw [if_neg hg]
   rw [e2]
   clear e2 hg hfl
   have hpl:=(@Abb FL (gemE c r f fm)).2
   generalize put1 FL (gemE c r f fm)=G at*
   have hlv:=Adj c r f (fm+1) G o (by omega) (by omega)
   have hso:=AaF (leaveS c r f ⟨G,fm+1,o⟩).out (by have:= @AbJ c r f ⟨G,fm+1,o⟩;unfold small;simp only at this;omega)
   split at hlv
   ·rename_i hq
    rw [show (leaveS c r f ⟨G,fm+1,o⟩).out=o from AhK hq] at hso⊢
    clear hq
    generalize (leaveS c r f ⟨G,fm+1,o⟩).l=Z at*
    generalize sortS z7 o=so at*
    rcases hst with hst|⟨X,hst⟩
    ·refine qq ?_
     refine gg [.a _ _,.b (0 !=0) false,.a _ _,.a _ _,.a _ _,.a _ _,.a _ _,.a _ _,.a _ _,.a _ _,.a _ _] ⟨o_a ha,bK,o_a hA,o_a hst,o_a hmv,o_a hsh,o_a hge,o_a hbl,o_a hfa,o_a hgr,o_a hlv,trivial⟩ ?_
     refine gg [.i zd (f+1) (f+1),.s (qk 15 (zz zn o)),.a _ _] ⟨oI,o_a hso,trivial⟩ ?_
     exact ge
    ·refine qq ?_
     refine gg [.a _ _,.b (0 !=0) false,.a _ _,.a _ _,.a _ _,.a _ _,.a _ _,.a _ _,.a _ _,.a _ _,.a _ _] ⟨o_a ha,bK,o_a hA,o_a hst,o_a hmv,o_a hsh,o_a hge,o_a hbl,o_a hfa,o_a hgr,o_a hlv,trivial⟩ ?_
     refine gg [.i zd (f+1) (f+1),.s (qk 15 (zz zn o)),.a _ _] ⟨oI,o_a hso,trivial⟩ ?_
     exact ge
   ·rename_i hq
    clear hq
    generalize (leaveS c r f ⟨G,fm+1,o⟩).l=Z at*
    generalize hoo:(leaveS c r f ⟨G,fm+1,o⟩).out=oo at*
    generalize sortS z7 oo=so at*
    rcases hst with hst|⟨X,hst⟩
    ·refine qq ?_
     refine gg [.a _ _,.b (0 !=0) false,.a _ _,.a _ _,.a _ _,.a _ _,.a _ _,.a _ _,.a _ _,.a _ _,.a _ _] ⟨o_a ha,bK,o_a hA,o_a hst,o_a hmv,o_a hsh,o_a hge,o_a hbl,o_a hfa,o_a hgr,o_a hlv,trivial⟩ ?_
     refine gg [.i zd (f+1) (f+1),.s (qk 15 (zz zn oo)),.a _ _] ⟨oI,o_a hso,trivial⟩ ?_
     exact ge
    ·refine qq ?_
     refine gg [.a _ _,.b (0 !=0) false,.a _ _,.a _ _,.a _ _,.a _ _,.a _ _,.a _ _,.a _ _,.a _ _,.a _ _] ⟨o_a ha,bK,o_a hA,o_a hst,o_a hmv,o_a hsh,o_a hge,o_a hbl,o_a hfa,o_a hgr,o_a hlv,trivial⟩ ?_
     refine gg [.i zd (f+1) (f+1),.s (qk 15 (zz zn oo)),.a _ _] ⟨oI,o_a hso,trivial⟩ ?_
     exact ge
end Go.Eva.S4
namespace Go.Eva
theorem AhO {c:Config} {r f:Int} {s:Stg}:growS c r f s=s∨growS c r f s=⟨put1 s.l (gemE c r f s.made),s.made+1,s.out⟩:=by
 unfold growS
 split
 ·exact .inl rfl
 ·exact .inr rfl
theorem Aol {c:Config} {r f made:Int} (hr:c.is r=true):c.of (gemE c r f made).x (gemE c r f made).y=r:=(Aio (o1:=r) (o2:=r) (a:=4) (b:=5) hr).2.2
theorem Am7 {c:Config} {r:Int} {s:Region} {ins:List Input} {inbox:List Cross} (h:askedE c r s ins inbox=0):(stepS c r s ins inbox).l.length≤31:=by
 have hfine:=AfP h
 have hrc:=Config.is_right hfine.is
 obtain ⟨hst1,hst2⟩:=Afb hfine
 unfold stepS restS
 generalize steerS c r s.frame ins ⟨arriveL s.ents inbox,0,[]⟩=S at*
 obtain ⟨A,made,o⟩:=S
 simp only at hst1 hst2⊢
 have hM:=(Acn hst1.sane).1
 have hH:=((Acv (inbox:=inbox) hM).1).len hrc
 simp only at hH
 generalize blastsL (gemsL (shotsL (moveL c A))) inbox=H at*
 have hF:=(@AeW c r s.frame (fallenL H) ⟨H,made,o⟩).1
 change (fallS c r s.frame ⟨H,made,o⟩).l.length=H.length at hF
 have hG:(growS c r s.frame (fallS c r s.frame ⟨H,made,o⟩)).l.length≤31:=by
  rcases @AhO c r s.frame (fallS c r s.frame ⟨H,made,o⟩) with h|h
  ·rw [h];omega
  ·rw [h]
   have:=(@Abb (fallS c r s.frame ⟨H,made,o⟩).l (gemE c r s.frame (fallS c r s.frame ⟨H,made,o⟩).made)).2
   simp only;omega
 have:(leaveS c r s.frame (growS c r s.frame (fallS c r s.frame ⟨H,made,o⟩))).l.length≤(growS c r s.frame (fallS c r s.frame ⟨H,made,o⟩)).l.length:=List.length_filter_le ..
 omega
end Go.Eva
namespace Go.Eva
structure World where
 regions:List Region
 outs:List CrossL
deriving DecidableEq,Inhabited
def World.enc (w:World):T:= .agg [.sl 2 (w.regions.map zt),.sl 1 (w.outs.map encL)]
def playerP (cols n i:Int):Entity:=⟨i,1,((i-1).tmod n).tmod cols*1024+512,((i-1).tmod n).tdiv cols*1024+512,0,0,100,0,0⟩
def begin1 (cols n:Int) (rs:List Region) (i:Int):List Region:=rs.set ((i-1).tmod n).toNat ⟨(gt rs ((i-1).tmod n).toNat).frame,put1 (gt rs ((i-1).tmod n).toNat).ents (playerP cols n i)⟩
def beginP (cols n:Int):Nat→Int→List Region→List Region
 |0,_,rs=>rs
 |d+1,i,rs=>beginP cols n d (i+1) (begin1 cols n rs i)
def beginW (cols n:Int) (players:Nat):World:=⟨beginP cols n players 1 (zj n.toNat ⟨0,[]⟩),zj n.toNat []⟩
def handed (l:List Cross):List Entity:=(l.filter fun m=>decide (m.kind=1)).map Cross.ent
theorem AhS {cols n:Int}: ∀ {d:Nat} {i:Int} {rs:List Region},(beginP cols n d i rs).length=rs.length
 |0,_,_=>rfl
 |d+1,i,rs=>by rw [beginP,AhS];simp [begin1]
end Go.Eva
namespace Go.Eva.S4
theorem AeO (g:Config) (os:List T) (hg:g.right=true): ∀(d j:Nat) (rs:List Region),((j+d:Nat):Int)=g.players→(rs.length:Int)=g.regions→(∀s∈rs,s.ents.length≤j)→
  Is cx (.loop 37 [0,1,0,1,1,1,1] 0 [.ptr 0 0 0,.ptr 1 0 0,.ptr 2 0 0,vi (j+1:Nat)] [.one 2 (.agg [.fit 2 [],.fit 1 []]) false,.one 5 (.t g.enc) false,.one 2 (.agg [.all 3 none,.all 4 none]) false,.arr 2 (rs.map zt) (some 0) false,.arr 1 os (some 0) false])
   ⟨.exit 0,[.ptr 0 0 0,.ptr 1 0 0,.ptr 2 0 0,vi (j+d+1:Nat)],[.one 2 (.agg [.fit 2 [],.fit 1 []]) false,.one 5 (.t g.enc) false,.one 2 (.agg [.all 3 none,.all 4 none]) false,.arr 2 ((beginP g.cols g.regions d (j+1:Nat) rs).map zt) (some 0) false,.arr 1 os (some 0) false]⟩:=by
 have hgr:=Config.right_iff.1 hg
 have hgl:= @Config.regions_le g
 have hml:=Config.mul_le hg
 have hre:g.regions=g.cols*g.rows:=by simp [z0,hg]
 intro d
 induction d with
 |zero=>
  intro j rs hj hl hb
  rw [beginP]
  clear hre
  refine qq ?_
  refine gg [.b (decide ((↑(j+1):Int)≤g.players)) false] ⟨fP,trivial⟩ ?_
  exact ge
 |succ d ih=>
  intro j rs hj hl hb
  obtain ⟨k,hk⟩: ∃k:Nat,zg (j:Int) g.regions=k:=⟨(zg (j:Int) g.regions).toNat,by
   have:=AaC (v:=(j:Int)) (k:=g.regions) (by omega) (by omega);omega⟩
  have hk2:=AaC (v:=(j:Int)) (k:=g.regions) (by omega) (by omega)
  rw [hk] at hk2
  have hkl:k<rs.length:=by omega
  have ej:((j+1:Nat):Int)-1=(j:Nat):=by omega
  have eb:begin1 g.cols g.regions rs (j+1:Nat)=rs.set k ⟨(gt rs k).frame,put1 (gt rs k).ents ⟨(j+1:Nat),1,(k:Int).tmod g.cols*1024+512,(k:Int).tdiv g.cols*1024+512,0,0,100,0,0⟩⟩:=by
   unfold begin1 playerP
   rw [ej,hk]
   rfl
  rw [beginP,eb]
  have hpl:=(@Abb (gt rs k).ents ⟨(j+1:Nat),1,(k:Int).tmod g.cols*1024+512,(k:Int).tdiv g.cols*1024+512,0,0,100,0,0⟩).2
  have hbk:=hb _ (Aav hkl)
  have ih1:=ih (j+1) (rs.set k ⟨(gt rs k).frame,put1 (gt rs k).ents ⟨(j+1:Nat),1,(k:Int).tmod g.cols*1024+512,(k:Int).tdiv g.cols*1024+512,0,0,100,0,0⟩⟩) (by omega) (by simpa using hl) fun s hs=>by
   rcases Ag9 hs with rfl|hs
   ·simp only;omega
   ·have:=hb s hs;omega
  have hC:=Afs g k
  have his:g.is k=true:=by rw [Config.is_iff hg];omega
  simp only [Config.cornerX,Config.cornerY,his,if_true] at hC
  have q1:=AaJ (v:=(k:Int)) (k:=g.cols) (m:=g.rows) (by omega) (by omega) (by omega)
  have q2:=AaC (v:=(k:Int)) (k:=g.cols) (by omega) (by omega)
  have hG:=Aa6 g
  have hput:=AaP (gt rs k).ents [⟨(j+1:Nat),1,(k:Int).tmod g.cols*1024+512,(k:Int).tdiv g.cols*1024+512,0,0,100,0,0⟩] (by omega) (by simp)
  change Is cx _ ⟨_,_,[.arr 9 ((put1 (gt rs k).ents ⟨(j+1:Nat),1,(k:Int).tmod g.cols*1024+512,(k:Int).tdiv g.cols*1024+512,0,0,100,0,0⟩).map zm) none false]⟩ at hput
  generalize put1 (gt rs k).ents ⟨(j+1:Nat),1,(k:Int).tmod g.cols*1024+512,(k:Int).tdiv g.cols*1024+512,0,0,100,0,0⟩=B at*
  clear ih eb hre hb his
  rw [show j+1+d+1=j+(d+1)+1 by omega] at ih1
  refine qq ?_
  refine gg [.b (decide ((↑(j+1):Int)≤g.players)) true,.i zd ((↑(j+1):Int)-1) (j:Int),.a _ _,.w (z0 g≠(0:Int)),.t (ti (zg (j:Int) (z0 g))) (ti (k:Int)),.a _ _,.i zd (zg (k:Int) g.cols*1024+512) (zg (k:Int) g.cols*1024+512),.i zd (Int.tdiv (k:Int) g.cols*1024+512) (Int.tdiv (k:Int) g.cols*1024+512),.w (0≤(k:Int)),.n (zy (k:Int)) k,.w (k<zq (zz zt rs)),.g (zz zt rs) k (zt (gt rs k)),.a _ _,.w (0≤(k:Int)),.n (zy (k:Int)) k,.w (k<zq (zz zt rs))] ⟨tP,oI,o_a hG,oW,o_t (by rw [hk]),o_a hC,oI,oI,oW,nK,o_w (by (simp;omega)),o_gt rfl (by assumption) (by intro h;cases h),o_a hput,oW,nK,o_w (by (simp;omega)),trivial⟩ ?_
  refine gg [.s (qk 9 (zz zm B)),.g (zz zt rs) k (zt (gt rs k)),.t (qk 0 (zx (zz zt rs) k (T.agg [ti (gt rs k).frame,qk 9 (zz zm B)]))) (qk 0 (zz zt (zx rs k (Region.mk (gt rs k).frame B)))),.i zd ((↑(j+1):Int)+1) ((↑(j+1+1):Int)),.a _ _] ⟨o_gt rfl (by assumption) (by intro h;cases h),o_l (Aam (e:=Region.mk (gt rs k).frame B) rfl rfl),oI,o_a ih1,trivial⟩ ?_
  exact ge
theorem AfJ (c:Config) (h:c.right=true):Is cx (.call 37 [.t c.enc] []) ⟨.ret,[.t (beginW c.cols (c.cols*c.rows) c.players.toNat).enc,vi 0],[]⟩:=by
 have hgr:=Config.right_iff.1 h
 have hgl:= @Config.regions_le c
 have hre:c.regions=c.cols*c.rows:=by simp [z0,h]
 have hN:=Af6 c
 rw [Config.grid_of h,Config.err_of h] at hN
 have hG:=Aa6 c
 have hL:=AeO c (zj c.regions.toNat (qk 15 [])) h c.players.toNat 0 (zj c.regions.toNat ⟨0,[]⟩) (by omega) (by simp;omega) (fun s hs=>by rw [List.eq_of_mem_replicate hs];simp)
 have e1:beginP c.cols c.regions c.players.toNat ((0+1:Nat):Int) (zj c.regions.toNat ⟨0,[]⟩)=(beginW c.cols (c.cols*c.rows) c.players.toNat).regions:=by rw [←hre];rfl
 have e2:zj c.regions.toNat (qk 15 [])=(beginW c.cols (c.cols*c.rows) c.players.toNat).outs.map encL:=by rw [←hre];simp only [beginW,List.map_replicate];rfl
 rw [e1,List.map_replicate] at hL
 generalize hW:beginW c.cols (c.cols*c.rows) c.players.toNat=W at*
 obtain ⟨R,O⟩:=W
 simp only at hL e2⊢
 simp only [Nat.zero_add] at hL
 clear hre e1 hW
 have hfin:(World.enc ⟨R,O⟩)= .agg [.sl 2 (R.map zt),.sl 1 (zj c.regions.toNat (qk 15 []))]:=by rw [e2];rfl
 rw [hfin]
 clear hfin e2
 refine qq ?_
 refine gg [.a _ _,.b (0 !=0) false] ⟨o_a hN,bK,trivial⟩ ?_
 refine bO ?_ ?_
 ·refine gg [.a _ _] ⟨o_a hG,trivial⟩ ?_
  refine bO ?_ ?_
  ·refine gg [.s (T.agg [ti 0,qk 9 []]),.w (0≤z0 c∧z0 c≤z0 c∧room (zy (z0 c)) (32:Nat)),.l (zy (z0 c))] ⟨o_w ⟨(by omega),⟨(by omega),(by (simp [room,appendMax];omega))⟩⟩,trivial⟩ ?_
   refine bO ?_ ?_
   ·refine gg [.a _ _] ⟨o_a hG,trivial⟩ ?_
    refine bO ?_ ?_
    all_goals
     refine gg [.w (0≤z0 c∧z0 c≤z0 c∧room (zy (z0 c)) (24:Nat)),.l (zy (z0 c)),.a _ _] ⟨o_w ⟨(by omega),⟨(by omega),(by (simp [room,appendMax];omega))⟩⟩,o_a hL,trivial⟩ ?_
     exact ge
   ·refine gg [.a _ _,.w (0≤z0 c∧z0 c≤z0 c∧room (zy (z0 c)) (24:Nat)),.l (zy (z0 c)),.a _ _] ⟨o_a hG,o_w ⟨(by omega),⟨(by omega),(by (simp [room,appendMax];omega))⟩⟩,o_a hL,trivial⟩ ?_
    exact ge
  ·refine bO ?_ ?_
   ·refine gg [.a _ _] ⟨o_a hG,trivial⟩ ?_
    refine bO ?_ ?_
    ·refine gg [.s (T.agg [ti 0,qk 9 []]),.w (0≤z0 c∧z0 c≤z0 c∧room (zy (z0 c)) (32:Nat)),.l (zy (z0 c))] ⟨o_w ⟨(by omega),⟨(by omega),(by (simp [room,appendMax];omega))⟩⟩,trivial⟩ ?_
     refine bO ?_ ?_
     all_goals
      refine gg [.w (0≤z0 c∧z0 c≤z0 c∧room (zy (z0 c)) (24:Nat)),.l (zy (z0 c)),.a _ _] ⟨o_w ⟨(by omega),⟨(by omega),(by (simp [room,appendMax];omega))⟩⟩,o_a hL,trivial⟩ ?_
      exact ge
    ·refine bO ?_ ?_
     ·refine gg [.w (0≤z0 c∧z0 c≤z0 c∧room (zy (z0 c)) (24:Nat)),.l (zy (z0 c))] ⟨o_w ⟨(by omega),⟨(by omega),(by (simp [room,appendMax];omega))⟩⟩,trivial⟩ ?_
      refine bO ?_ ?_
      all_goals
       refine gg [.s (T.agg [ti 0,qk 9 []]),.w (0≤z0 c∧z0 c≤z0 c∧room (zy (z0 c)) (32:Nat)),.l (zy (z0 c)),.a _ _] ⟨o_w ⟨(by omega),⟨(by omega),(by (simp [room,appendMax];omega))⟩⟩,o_a hL,trivial⟩ ?_
       exact ge
     ·refine bO ?_ ?_
      ·refine gg [.s (T.agg [ti 0,qk 9 []]),.w (0≤z0 c∧z0 c≤z0 c∧room (zy (z0 c)) (32:Nat)),.l (zy (z0 c)),.w (0≤z0 c∧z0 c≤z0 c∧room (zy (z0 c)) (24:Nat)),.l (zy (z0 c)),.a _ _] ⟨o_w ⟨(by omega),⟨(by omega),(by (simp [room,appendMax];omega))⟩⟩,o_w ⟨(by omega),⟨(by omega),(by (simp [room,appendMax];omega))⟩⟩,o_a hL,trivial⟩ ?_
       exact ge
      ·refine gg [.w (0≤z0 c∧z0 c≤z0 c∧room (zy (z0 c)) (24:Nat)),.l (zy (z0 c)),.s (T.agg [ti 0,qk 9 []]),.w (0≤z0 c∧z0 c≤z0 c∧room (zy (z0 c)) (32:Nat)),.l (zy (z0 c)),.a _ _] ⟨o_w ⟨(by omega),⟨(by omega),(by (simp [room,appendMax];omega))⟩⟩,o_w ⟨(by omega),⟨(by omega),(by (simp [room,appendMax];omega))⟩⟩,o_a hL,trivial⟩ ?_
       exact ge
   ·refine bO ?_ ?_
    ·refine gg [.s (T.agg [ti 0,qk 9 []]),.w (0≤z0 c∧z0 c≤z0 c∧room (zy (z0 c)) (32:Nat)),.l (zy (z0 c)),.a _ _,.w (0≤z0 c∧z0 c≤z0 c∧room (zy (z0 c)) (24:Nat)),.l (zy (z0 c)),.a _ _] ⟨o_w ⟨(by omega),⟨(by omega),(by (simp [room,appendMax];omega))⟩⟩,o_a hG,o_w ⟨(by omega),⟨(by omega),(by (simp [room,appendMax];omega))⟩⟩,o_a hL,trivial⟩ ?_
     exact ge
    ·refine gg [.a _ _] ⟨o_a hG,trivial⟩ ?_
     refine bO ?_ ?_
     ·refine gg [.s (T.agg [ti 0,qk 9 []]),.w (0≤z0 c∧z0 c≤z0 c∧room (zy (z0 c)) (32:Nat)),.l (zy (z0 c)),.w (0≤z0 c∧z0 c≤z0 c∧room (zy (z0 c)) (24:Nat)),.l (zy (z0 c)),.a _ _] ⟨o_w ⟨(by omega),⟨(by omega),(by (simp [room,appendMax];omega))⟩⟩,o_w ⟨(by omega),⟨(by omega),(by (simp [room,appendMax];omega))⟩⟩,o_a hL,trivial⟩ ?_
      exact ge
     ·refine gg [.w (0≤z0 c∧z0 c≤z0 c∧room (zy (z0 c)) (24:Nat)),.l (zy (z0 c)),.s (T.agg [ti 0,qk 9 []]),.w (0≤z0 c∧z0 c≤z0 c∧room (zy (z0 c)) (32:Nat)),.l (zy (z0 c)),.a _ _] ⟨o_w ⟨(by omega),⟨(by omega),(by (simp [room,appendMax];omega))⟩⟩,o_w ⟨(by omega),⟨(by omega),(by (simp [room,appendMax];omega))⟩⟩,o_a hL,trivial⟩ ?_
      exact ge
 ·refine gg [.a _ _] ⟨o_a hG,trivial⟩ ?_
  refine bO ?_ ?_
  ·refine gg [.s (T.agg [ti 0,qk 9 []]),.w (0≤z0 c∧z0 c≤z0 c∧room (zy (z0 c)) (32:Nat)),.l (zy (z0 c)),.a _ _,.w (0≤z0 c∧z0 c≤z0 c∧room (zy (z0 c)) (24:Nat)),.l (zy (z0 c)),.a _ _] ⟨o_w ⟨(by omega),⟨(by omega),(by (simp [room,appendMax];omega))⟩⟩,o_a hG,o_w ⟨(by omega),⟨(by omega),(by (simp [room,appendMax];omega))⟩⟩,o_a hL,trivial⟩ ?_
   exact ge
  ·refine gg [.a _ _] ⟨o_a hG,trivial⟩ ?_
   refine bO ?_ ?_
   ·refine gg [.s (T.agg [ti 0,qk 9 []]),.w (0≤z0 c∧z0 c≤z0 c∧room (zy (z0 c)) (32:Nat)),.l (zy (z0 c)),.w (0≤z0 c∧z0 c≤z0 c∧room (zy (z0 c)) (24:Nat)),.l (zy (z0 c)),.a _ _] ⟨o_w ⟨(by omega),⟨(by omega),(by (simp [room,appendMax];omega))⟩⟩,o_w ⟨(by omega),⟨(by omega),(by (simp [room,appendMax];omega))⟩⟩,o_a hL,trivial⟩ ?_
    exact ge
   ·refine gg [.w (0≤z0 c∧z0 c≤z0 c∧room (zy (z0 c)) (24:Nat)),.l (zy (z0 c)),.s (T.agg [ti 0,qk 9 []]),.w (0≤z0 c∧z0 c≤z0 c∧room (zy (z0 c)) (32:Nat)),.l (zy (z0 c)),.a _ _] ⟨o_w ⟨(by omega),⟨(by omega),(by (simp [room,appendMax];omega))⟩⟩,o_w ⟨(by omega),⟨(by omega),(by (simp [room,appendMax];omega))⟩⟩,o_a hL,trivial⟩ ?_
    exact ge
end Go.Eva.S4
namespace Go.Eva
def long {α:Type} (l:List α):Prop:=l.length≤9223372036854775807
abbrev um (n k:Int):Int:=(IntKind.u64.wrap n).tmod k
theorem um_le {n k:Int} (h:0<k):0≤um n k∧um n k<k:=AaB h
def playInput (i:Input):Input:=if i.right=true then i else ⟨um i.dx 5-2,um i.dy 5-2,i.fire⟩
theorem AgP (i:Input):(playInput i).right=true:=by
 unfold playInput
 split
 ·assumption
 ·have h1:= @um_le i.dx 5 (by decide)
  have h2:= @um_le i.dy 5 (by decide)
  simp only [Input.right,Bool.and_eq_true,Aad];omega
def rowAt (n:Nat) (l:List Input) (k:Nat):List Input:=(l.take k).map playInput++zj (n-k) Input.zero
def playRow (n:Nat) (l:List Input):List Input:=rowAt n l (min n l.length)
abbrev InputL:=List Input
def encI (l:List Input):T:= .sl 3 (l.map zr)
def playFrames (n:Nat) (l:List InputL) (most:Nat):List InputL:=(l.take most).map (playRow n)
theorem AiH {n k:Nat} {l:List Input} (h:k≤n) (h2:k≤l.length):(rowAt n l k).length=n:=by simp [rowAt];omega
theorem Ajw {n:Nat} {l:List Input}:(playRow n l).length=n:=AiH (by omega) (by omega)
theorem Amt {n k:Nat} {l:List Input} (h:k<n) (h2:k<l.length):(rowAt n l k).set k (playInput (gt l k))=rowAt n l (k+1):=by
 have e1:(l.take (k+1))=l.take k++ [gt l k]:=by rw [List.take_add_one,Acy h2];rfl
 have e2:n-k=(n-(k+1))+1:=by omega
 unfold rowAt
 rw [e1,e2,List.replicate_succ,List.set_append,if_neg (by simp;omega),List.map_append]
 have e3:k-((l.take k).map playInput).length=0:=by simp;omega
 rw [e3]
 simp
theorem Aif {n:Nat} {l:List Input}: ∀i∈playRow n l,i.right=true:=by
 intro i hi
 unfold playRow rowAt at hi
 rcases List.mem_append.1 hi with h|h
 ·obtain ⟨x,_,rfl⟩:=List.mem_map.1 h
  exact AgP x
 ·rw [List.eq_of_mem_replicate h];decide
theorem Aff {c:Config} {r:Int}:(0≤c.cornerX r∧c.cornerX r≤4096)∧(0≤c.cornerY r∧c.cornerY r≤4096):=by
 unfold Config.cornerX Config.cornerY
 cases hr:c.is r with
 |false=>simp
 |true=>
  have h:=Config.is_right hr
  have hi:=(Config.is_iff h).1 hr
  obtain ⟨hc,hrr,_⟩:=Config.right_iff.1 h
  have k1:=AaJ (v:=r) (k:=c.cols) (m:=c.rows) (by omega) (by omega) (by omega)
  have k2:=AaC (v:=r) (k:=c.cols) (by omega) (by omega)
  simp only [if_true]
  omega
theorem Amg {c:Config} {r x y:Int} (hr:c.is r=true) (hx:0≤x∧x<1024) (hy:0≤y∧y<1024):c.inside (c.cornerX r+x) (c.cornerY r+y)=true∧c.of (c.cornerX r+x) (c.cornerY r+y)=r:=by
 have h:=Config.is_right hr
 have hi:=(Config.is_iff h).1 hr
 obtain ⟨hc,hrr,_⟩:=Config.right_iff.1 h
 have hw:c.width=c.cols*1024:=by simp [Config.width,h]
 have hh:c.height=c.rows*1024:=by simp [Config.height,h]
 have k1:=AaJ (v:=r) (k:=c.cols) (m:=c.rows) (by omega) (by omega) (by omega)
 have k2:=AaC (v:=r) (k:=c.cols) (by omega) (by omega)
 have e:=Int.tmod_add_tdiv_mul r c.cols
 have ex:c.cornerX r=r.tmod c.cols*1024:=by unfold Config.cornerX;rw [if_pos hr]
 have ey:c.cornerY r=r.tdiv c.cols*1024:=by unfold Config.cornerY;rw [if_pos hr]
 have hin:c.inside (c.cornerX r+x) (c.cornerY r+y)=true:=by
  simp only [Config.inside,Bool.and_eq_true,Aad];omega
 refine ⟨hin,?_⟩
 rw [(of_eq h (by omega) (by omega)).1,Int.tdiv_eq_ediv_of_nonneg (by omega),Int.tdiv_eq_ediv_of_nonneg (by omega),ex,ey]
 have d1:(r.tmod c.cols*1024+x)/1024=r.tmod c.cols:=by omega
 have d2:(r.tdiv c.cols*1024+y)/1024=r.tdiv c.cols:=by omega
 rw [d1,d2]
 omega
end Go.Eva
namespace Go.Eva.S4
theorem AfL (i:Input):Fn cx 59 [i.enc] (playInput i).enc:=by
 have h:=AaY i
 unfold playInput
 cases hr:i.right with
 |true=>
  rw [hr] at h
  refine qq ?_
  refine gg [.a _ _,.tt] ⟨o_a h,trivial⟩ ?_
  exact ge
 |false=>
  rw [hr] at h
  have h1:= @um_le i.dx 5 (by decide)
  have h2:= @um_le i.dy 5 (by decide)
  unfold um at h1 h2
  refine qq ?_
  refine gg [.a _ _,.ff,.i zf i.dx (zp zf i.dx),.w ((5:Int)≠(0:Int)),.s (T.int zf (zg (zp zf i.dx) 5)),.i zd (zg (zp zf i.dx) 5) (zg (zp zf i.dx) 5),.i zd (zg (zp zf i.dx) 5-2) (zg (zp zf i.dx) 5-2),.i zf i.dy (zp zf i.dy),.w ((5:Int)≠(0:Int)),.s (T.int zf (zg (zp zf i.dy) 5)),.i zd (zg (zp zf i.dy) 5) (zg (zp zf i.dy) 5),.i zd (zg (zp zf i.dy) 5-2) (zg (zp zf i.dy) 5-2)] ⟨o_a h,o_i rfl,o_w (by intro h;cases h),oI,oI,o_i rfl,o_w (by intro h;cases h),oI,oI,trivial⟩ ?_
  exact ge
theorem Ac8 (c:Config) (l:List InputL) (A:List InputL) (most:Int) (i n:Nat) (hc:c.players=(n:Int)) (hn:n≤100) (hi:i<l.length) (hl:long l) (hr:long (gt l i)): ∀(d k:Nat),k+d=min n (gt l i).length→
  Is cx (.loop 22 [0,1,0,1,0,0,1,0,0,1,0,1,1] 0 [.t (.sl 1 (l.map encI)),vi most,.ptr 0 0 0,.all 1 none,vi i,.all 2 none,vi k] [.one 5 (.t c.enc) false,.arr 1 (A.map encI) none false,.arr 3 ((rowAt n (gt l i) k).map zr) (some 0) false])
   ⟨.exit 2,[.t (.sl 1 (l.map encI)),vi most,.ptr 0 0 0,.all 1 none,vi i,.all 2 none,vi (min n (gt l i).length:Nat)],[.one 5 (.t c.enc) false,.arr 1 (A.map encI) none false,.arr 3 ((playRow n (gt l i)).map zr) (some 0) false]⟩:=by
 unfold long at hl hr
 intro d
 induction d with
 |zero=>
  intro k hk
  obtain rfl:k=min n (gt l i).length:=by omega
  unfold playRow
  generalize hm:min n (gt l i).length=m at*
  by_cases hmn:m=n
  ·subst hmn
   refine qq ?_
   refine gg [.b (decide ((m:Int)<c.players)) false,.ff,.ff,.ff,.ff,.ff,.ff,.ff,.ff] ⟨fP,trivial⟩ ?_
   exact ge
  ·have:m=(gt l i).length:=by omega
   refine qq ?_
   refine gg [.b (decide ((m:Int)<c.players)) true,.tt,.tt,.tt,.w (0≤(i:Int)),.n (zy (i:Int)) i,.g (zz encI l) i (encI (gt l i)),.tt,.tt,.n (zq (zz zr (gt l i))) (zq (gt l i)),.tt,.tt,.b (decide ((m:Int)<(↑(zq (gt l i)):Int))) false] ⟨tP,oW,nK,o_gt rfl (by assumption) (by intro h;cases h),o_n (by simp),fP,trivial⟩ ?_
   exact ge
 |succ d ih=>
  intro k hk
  have ih1:=ih (k+1) (by omega)
  rw [←Amt (by omega) (by omega)] at ih1
  have hlen:=AiH (n:=n) (k:=k) (l:=gt l i) (by omega) (by omega)
  clear ih
  generalize rowAt n (gt l i) k=R at*
  generalize hm:min n (gt l i).length=m at*
  have hkl:k<(gt l i).length:=by omega
  refine qq ?_
  refine gg [.b (decide ((k:Int)<c.players)) true,.tt,.tt,.tt,.w (0≤(i:Int)),.n (zy (i:Int)) i,.g (zz encI l) i (encI (gt l i)),.tt,.tt,.n (zq (zz zr (gt l i))) (zq (gt l i)),.tt,.tt,.b (decide ((k:Int)<(↑(zq (gt l i)):Int))) true,.w (0≤(i:Int)),.n (zy (i:Int)) i,.g (zz encI l) i (encI (gt l i))] ⟨tP,oW,nK,o_gt rfl (by assumption) (by intro h;cases h),o_n (by simp),tP,oW,nK,o_gt rfl (by assumption) (by intro h;cases h),trivial⟩ ?_
  refine gg [.w (0≤(k:Int)),.n (zy (k:Int)) k,.g (zz zr (gt l i)) k (zr (gt (gt l i) k)),.a _ _,.w (0≤(k:Int)),.n (zy (k:Int)) k,.w (k<zq (zz zr R)),.w (k<zq (zz zr R)),.t (qk 0 (zx (zz zr R) k (zr (playInput (gt (gt l i) k))))) (qk 0 (zz zr (zx R k (playInput (gt (gt l i) k))))),.i zd ((k:Int)+1) ((↑(k+1):Int)),.a _ _] ⟨oW,nK,o_gt rfl (by assumption) (by intro h;cases h),o_a (AfL (gt (gt l i) k)),oW,nK,o_w (by (simp;omega)),o_w (by (simp;omega)),o_l (Aam rfl rfl),oI,o_a ih1,trivial⟩ ?_
  exact ge
theorem Ac2 (c:Config) (l:List InputL) (most n:Nat) (hc:c.players=(n:Int)) (hn:n≤100) (hl:long l) (hmo:most≤1000) (hr: ∀x∈l,long x): ∀(d i:Nat) (A:List InputL),i+d=min l.length most→A.length=i→
  Is cx (.loop 22 [0,1,0,1,1] 0 [.t (.sl 1 (l.map encI)),vi most,.ptr 0 0 0,.all 1 none,vi i] [.one 5 (.t c.enc) false,.arr 1 (A.map encI) none false])
   ⟨.exit 0,[.t (.sl 1 (l.map encI)),vi most,.ptr 0 0 0,.all 1 none,vi (min l.length most:Nat)],[.one 5 (.t c.enc) false,.arr 1 ((A++((l.take most).drop i).map (playRow n)).map encI) none false]⟩:=by
 intro d
 induction d with
 |zero=>
  intro i A hi hA
  obtain rfl:i=min l.length most:=by omega
  rw [Aac (by simp;omega)]
  unfold long at hl
  clear hr
  generalize hm:min l.length most=m at*
  by_cases h:m=l.length
  ·refine qq ?_
   refine gg [.n (zq (zz encI l)) (zq l),.b (decide ((m:Int)<(↑(zq l):Int))) false,.ff,.ff,.ff,.ff] ⟨o_n (by simp),fP,trivial⟩ ?_
   refine rT (a:=qz (qx 0) [V.t (qk 1 (zz encI l)),vi (most:Int),V.ptr 0 0 0,qy 1 none,vi (m:Int)] [qg 5 (V.t (Config.enc c)) false,qv 1 (zz encI A) none false]) ?_
   simp
  ·have:m=most:=by omega
   refine qq ?_
   refine gg [.n (zq (zz encI l)) (zq l),.b (decide ((m:Int)<(↑(zq l):Int))) true,.tt,.tt,.tt,.b (decide ((m:Int)<(most:Int))) false] ⟨o_n (by simp),tP,fP,trivial⟩ ?_
   refine rT (a:=qz (qx 0) [V.t (qk 1 (zz encI l)),vi (most:Int),V.ptr 0 0 0,qy 1 none,vi (m:Int)] [qg 5 (V.t (Config.enc c)) false,qv 1 (zz encI A) none false]) ?_
   simp
 |succ d ih=>
  intro i A hi hA
  have hlt:i<l.length:=by omega
  have hrx:=hr _ (Aav hlt)
  have h1:=Ac8 c l A most i n hc hn hlt hl hrx (min n (gt l i).length) 0 (by omega)
  have ih1:=ih (i+1) (A++ [playRow n (gt l i)]) (by omega) (by simp;omega)
  have e:(l.take most).drop i=gt l i::(l.take most).drop (i+1):=by
   have hlt2:i<(l.take most).length:=by simp;omega
   have hg:gt (l.take most) i=gt l i:=by unfold gt;rw [List.getElem?_take,if_pos (by omega)]
   rw [Aaf hlt2,hg]
  rw [e,List.map_cons,List.append_cons]
  have e0:rowAt n (gt l i) 0=zj n Input.zero:=by simp [rowAt]
  rw [e0,List.map_replicate,show zj n (zr Input.zero)=zj c.players.toNat (zr Input.zero) by rw [hc,Int.toNat_natCast]] at h1
  clear ih hr e e0
  unfold long at hl hrx
  generalize playRow n (gt l i)=P at*
  generalize hm:min l.length most=m at*
  generalize min n (gt l i).length=q at*
  refine qq ?_
  refine gg [.n (zq (zz encI l)) (zq l),.b (decide ((i:Int)<(↑(zq l):Int))) true,.tt,.tt,.tt,.b (decide ((i:Int)<(most:Int))) true,.w (0≤c.players∧c.players≤c.players∧room (zy c.players) (24:Nat)),.l (zy c.players),.a _ _,.s (qk 3 (zz zr P)),.w ((0:Nat)<(24:Nat)),.s (qk 0 [qk 3 (zz zr P)]),.t (qk 0 (zz encI A++ [qk 3 (zz zr P)])) (qk 0 (zz encI (A++ [P]))),.w (room (zq (zz encI (A++ [P]))) (24:Nat)),.i zd ((i:Int)+1) ((↑(i+1):Int)),.a _ _] ⟨o_n (by simp),tP,tP,o_w ⟨(by omega),⟨(by omega),(by (simp [room,appendMax];omega))⟩⟩,o_a h1,oW,o_l (Aag rfl (Aae (e:=P) rfl Aah)),o_w (by (simp [room,appendMax];omega)),oI,o_a ih1,trivial⟩ ?_
  exact ge
theorem AeF (c:Config) (l:List InputL) (most n:Nat) (hc:c.players=(n:Int)) (hn:n≤100) (hl:long l) (hmo:most≤1000) (hr: ∀x∈l,long x):Is cx (.call 22 [.t c.enc,.t (.sl 1 (l.map encI)),vi most] []) ⟨.ret,[.all 0 none],[.arr 1 ((playFrames n l most).map encI) none false]⟩:=by
 have h:=Ac2 c l most n hc hn hl hmo hr (min l.length most) 0 [] (by omega) rfl
 rw [List.drop_zero,List.nil_append] at h
 unfold playFrames
 generalize (l.take most).map (playRow n)=X at*
 generalize min l.length most=m at*
 clear hr
 refine qq ?_
 refine gg [.a _ _] ⟨o_a h,trivial⟩ ?_
 exact ge
theorem AbQ (c:Config) (r:Int):Is cx (.call 56 [.t c.enc,vi r] []) ⟨.ret,[vi (c.cornerX r),vi (c.cornerY r)],[]⟩:=by
 have h:=Aa0 c r
 unfold Config.cornerX Config.cornerY
 cases hi:c.is r with
 |false=>
  rw [hi] at h
  refine qq ?_
  refine gg [.a _ _,.b (!false) true] ⟨o_a h,bK,trivial⟩ ?_
  exact ge
 |true=>
  rw [hi] at h
  have hr:=Config.is_right hi
  have hi2:=(Config.is_iff hr).1 hi
  obtain ⟨hc,hrr,_⟩:=Config.right_iff.1 hr
  have k1:=AaJ (v:=r) (k:=c.cols) (m:=c.rows) (by omega) (by omega) (by omega)
  have k2:=AaC (v:=r) (k:=c.cols) (by omega) (by omega)
  refine qq ?_
  refine gg [.a _ _,.b (!true) false,.w (c.cols≠(0:Int)),.s (ti (zg r c.cols)),.i zd (zg r c.cols*1024) (zg r c.cols*1024),.w (c.cols≠(0:Int)),.i zd (Int.tdiv r c.cols) (Int.tdiv r c.cols),.i zd (Int.tdiv r c.cols*1024) (Int.tdiv r c.cols*1024)] ⟨o_a h,bK,oW,oI,oW,oI,oI,trivial⟩ ?_
  exact ge
end Go.Eva.S4
namespace Go.Eva
theorem Ams {c:Config} {r f made:Int} (hr:c.is r=true) (hf:0≤f∧f<10000) (hm:0≤made∧made≤8):(gemE c r f made).right c=true∧c.of (gemE c r f made).x (gemE c r f made).y=r:=by
 refine ⟨?_,Aol hr⟩
 obtain ⟨h1,h2,_⟩:=Aio (c:=c) (r:=r) (f:=f) (o1:=r) (o2:=r) (a:=4) (b:=5) hr
 have hin:c.inside (placeX c r f 4 r) (placeY c r f 5 r)=true:=by simp only [Config.inside,Bool.and_eq_true,Aad];omega
 have hn:within (numI c r f made) 1000 2147483647=true:=Aad.2 (AlB (Config.is_le hr) hf hm)
 simp [z9,gemE,hin,hn]
theorem Aob {c:Config} {r f:Int} {e:Entity} (h:e.right c=true) (hn:has (c.near r) (c.of e.x e.y)=true) (hne:c.of e.x e.y≠r) (hf:0≤f∧f<10000):blastOk c r f (handE c r f e):=by
 have hw:within f 0 9999=true:=Aad.2 (by omega)
 refine ⟨?_,rfl,rfl,hn⟩
 simp [Cross.right,handE,hn,hw,h,hne]
def plI (l:List Entity):List Int:=(l.filter fun e=>decide (e.kind=1)).map Entity.id
theorem AkI: ∀ {l m:List Entity},l.map (fun e=>(e.id,decide (e.kind=1)))=m.map (fun e=>(e.id,decide (e.kind=1)))→plI l=plI m
 | [],[],_=>rfl
 | [],_::_,h=>by simp at h
 |_::_,[],h=>by simp at h
 |a::l,b::m,h=>by
  simp only [List.map_cons,List.cons.injEq,Prod.mk.injEq] at h
  have:=AkI h.2
  unfold plI at*
  rw [List.filter_cons,List.filter_cons,←h.1.2]
  split
  ·rw [List.map_cons,List.map_cons,this,h.1.1]
  ·exact this
theorem AgG {l:List Entity} {p e:Entity} (hs:Srt l) (h:p∈l) (hi:e.id=p.id) (hk:e.kind=p.kind):plI (setId l p.id e)=plI l:=by
 obtain ⟨k,h1,h2,h3⟩:=Aeu hs h
 rw [Abm h1]
 refine AkI ?_
 rw [List.map_set]
 apply List.ext_getElem?
 intro i
 rw [List.getElem?_set]
 split
 ·rename_i hik
  subst hik
  rw [List.length_map,if_pos h2,List.getElem?_map,Acy h2,Option.map_some,h3,hi,hk]
 ·rfl
theorem Akv {l:List Entity} {e:Entity} (hk:e.kind≠1):plI (put1 l e)=plI l:=by
 have hd:decide (e.kind=1)=false:=by simp [hk]
 have:plI (ins l e)=plI l:=by
  unfold ins plI
  split
  ·rename_i k hk2
   rw [List.filter_append,List.filter_cons,hd]
   conv=>rhs;rw [←List.take_append_drop k l,List.filter_append]
   rfl
  ·rw [List.filter_append,List.filter_cons,hd]
   simp
 unfold put1
 split
 ·rfl
 ·exact this
theorem Ahs {c:Config} {r f:Int} {ins:List Input} {s:Stg} {p:Entity} (hs:Srt s.l) (hp:p∈s.l):plI (steer1 c r f ins s p).l=plI s.l:=by
 unfold steer1
 split
 ·rfl
 ·rename_i hk
  obtain ⟨i1,i2,_⟩:= @AcF p (inAt ins p.id)
  split
  ·split
   ·simp only
    rw [AgG (Aa7 hs) (AbW p hp) i1 i2,Akv (by simp [shootE])]
   ·exact AgG hs hp i1 i2
  ·exact AgG hs hp i1 i2
theorem Afh {c:Config} {r f:Int} {ins:List Input} (hr:c.is r=true) (hf:0≤f∧f<10000) (hins:(ins.length:Int)=c.players) (hi: ∀i∈ins,i.right=true): ∀ {R:List Entity} {s:Stg},Steer c r s→Srt R→(∀p∈R,p∈s.l)→
  plI (R.foldl (steer1 c r f ins) s).l=plI s.l:=by
 intro R
 induction R with
 |nil=>intro s h _ _;rfl
 |cons p R ih=>
  intro s h hR hm
  have hp:=hm p (List.mem_cons_self ..)
  obtain ⟨h1,h2,h3⟩:=AgQ (f:=f) (ins:=ins) h hr hf hp fun hk=>by
   have:=Entity.right_player (h.sane.ents p hp).1 hk
   unfold inAt
   exact hi _ (Aav (by omega))
  obtain ⟨hR1,hR2⟩:=List.pairwise_cons.1 hR
  have:=ih h1 hR2 fun q hq=>h2 q (hm q (List.mem_cons_of_mem _ hq)) (by have:=hR1 q hq;omega)
  rw [List.foldl_cons,this,Ahs h.sane.srt hp]
theorem Anw {c:Config} {A:List Entity} (h: ∀e∈A,e.right c=true):plI (moveL c A)=plI A:=by
 induction A with
 |nil=>rfl
 |cons e A ih=>
  have ih:=ih fun x hx=>h x (List.mem_cons_of_mem _ hx)
  have he:=h e (List.mem_cons_self ..)
  unfold moveL plI at*
  by_cases hk:e.kind=1
  ·have hg:(goE c e).2=true∧(goE c e).1.id=e.id∧(goE c e).1.kind=1:=by
    unfold goE
    rw [if_neg (by simp [he]),if_neg (by omega)]
    exact ⟨rfl,rfl,hk⟩
   rw [List.filter_cons,if_pos hg.1,List.map_cons,List.filter_cons,if_pos (by simp [hg.2.2]),List.map_cons,hg.2.1,ih]
   rw [List.filter_cons,if_pos (by simp [hk]),List.map_cons]
  ·rw [List.filter_cons]
   conv=>rhs;rw [List.filter_cons,if_neg (by simp [hk])]
   split
   ·rename_i hg
    have:=(AkH hg).2.1
    rw [List.map_cons,List.filter_cons,if_neg (by simp [this,hk])]
    exact ih
   ·exact ih
theorem AiV {c:Config} {r f:Int}: ∀ {ids:List Int} {s:Stg},(∀m∈s.out,m.kind=2)→ ∀m∈(ids.foldl (fall1 c r f) s).out,m.kind=2
 | [],_,h=>h
 |id::ids,s,h=>by
  rw [List.foldl_cons]
  refine AiV fun m hm=> ?_
  rcases List.mem_append.1 hm with hm|hm
  ·exact h m hm
  ·obtain ⟨q,_,rfl⟩:=List.mem_map.1 hm
   rfl
theorem Aho {c:Config} {r:Int} {s:Region} {ins:List Input} {inbox:List Cross} (h:Fine c r s ins inbox):
  Sane c r (stepS c r s ins inbox).l∧(∀m∈(stepS c r s ins inbox).out,blastOk c r s.frame m)∧
  (plI (stepS c r s ins inbox).l++plI ((stepS c r s ins inbox).out.filter (fun m=>decide (m.kind=1))|>.map Cross.ent)).Perm (presentL s.ents inbox):=by
 have hrc:=Config.is_right h.is
 obtain ⟨hst1,hst2⟩:=Afb h
 have hpl:=Afh (ins:=ins) h.is h.frame h.len h.ins (R:=arriveL s.ents inbox) (s:=⟨arriveL s.ents inbox,0,[]⟩) ⟨h.sane,by simp⟩ h.sane.srt fun p hp=>hp
 change plI (steerS c r s.frame ins ⟨arriveL s.ents inbox,0,[]⟩).l=presentL s.ents inbox at hpl
 rw [←hpl]
 unfold stepS restS
 generalize steerS c r s.frame ins ⟨arriveL s.ents inbox,0,[]⟩=S at*
 obtain ⟨A,made,o⟩:=S
 simp only at hst1 hst2⊢
 subst hst2
 have hM:=(Acn hst1.sane).1
 have hpm:=Anw fun e he=>(hst1.sane.ents e he).1
 rw [←hpm]
 obtain ⟨hH,hph⟩:=Acv (inbox:=inbox) hM
 change plI _=plI _ at hph
 rw [←hph]
 generalize blastsL (gemsL (shotsL (moveL c A))) inbox=H at*
 obtain ⟨hF,hO,hpf⟩:=AnF (made:=made) h.is h.frame hH
 change plI _=plI _ at hpf
 rw [←hpf]
 have hmd:=(@AeW c r s.frame (fallenL H) ⟨H,made,[]⟩).2.1
 have hki: ∀m∈(fallS c r s.frame ⟨H,made,[]⟩).out,m.kind=2:=AiV (by simp)
 change (fallS c r s.frame ⟨H,made,[]⟩).made=made at hmd
 generalize fallS c r s.frame ⟨H,made,[]⟩=F at*
 have hG:Still2 c r (growS c r s.frame F).l∧(growS c r s.frame F).out=F.out∧plI (growS c r s.frame F).l=plI F.l:=by
  unfold growS
  split
  ·exact ⟨hF,rfl,rfl⟩
  ·rename_i hroom
   have hroom:F.room=true:=by
    cases hq:F.room with
    |true=>rfl
    |false=>exact absurd (.inr (.inr hq)) hroom
   have hroom:=Stg.room_iff.1 hroom
   obtain ⟨g1,g2⟩:=Ams (made:=F.made) h.is h.frame (by rw [hmd];exact hst1.made)
   have ht:= @AcT F.l (gemE c r s.frame F.made)
   refine ⟨⟨Aa7 hF.srt,?_,fun e he=> ?_⟩,rfl,Akv (by simp [gemE])⟩
   ·simp only
    split at ht<;>omega
   ·rcases AaR he with rfl|he
    ·exact ⟨g1,by rw [g2];exact Ahj h.is⟩
    ·exact hF.ents e he
 obtain ⟨hG1,hG2,hG3⟩:=hG
 rw [←hG3]
 rw [←hG2] at hO hki
 generalize growS c r s.frame F=G at*
 refine ⟨⟨AdS hG1.srt,?_,fun e he=> ?_⟩,fun m hm=> ?_,?_⟩
 ·have:=AfO (List.filter_sublist (p:=fun e=>decide (c.of e.x e.y=r)) (l:=G.l))
  have:=hG1.things
  show things (G.l.filter _)≤24
  omega
 ·obtain ⟨h1,h2⟩:=List.mem_filter.1 he
  exact ⟨(hG1.ents e h1).1,by simpa using h2⟩
 ·rcases List.mem_append.1 hm with hm|hm
  ·exact hO m hm
  ·obtain ⟨e,he,rfl⟩:=List.mem_map.1 hm
   obtain ⟨h1,h2⟩:=List.mem_filter.1 he
   exact Aob (hG1.ents e h1).1 (hG1.ents e h1).2 (by simpa using h2) h.frame
 ·have e1:(G.out++(G.l.filter fun e=> !decide (c.of e.x e.y=r)).map (handE c r s.frame)).filter (fun m=>decide (m.kind=1))=(G.l.filter fun e=> !decide (c.of e.x e.y=r)).map (handE c r s.frame):=by
   rw [List.filter_append,List.filter_eq_nil_iff.2 fun m hm=>by have:=hki m hm;simp;omega,List.nil_append,List.filter_eq_self]
   intro m hm
   obtain ⟨e,_,rfl⟩:=List.mem_map.1 hm
   rfl
  have e2:((G.l.filter fun e=> !decide (c.of e.x e.y=r)).map (handE c r s.frame)).map Cross.ent=G.l.filter fun e=> !decide (c.of e.x e.y=r):=by
   rw [List.map_map]
   exact List.map_id _
  show (plI (G.l.filter fun e=>decide (c.of e.x e.y=r))++plI (((G.out++(G.l.filter fun e=> !decide (c.of e.x e.y=r)).map (handE c r s.frame)).filter fun m=>decide (m.kind=1)).map Cross.ent)).Perm (plI G.l)
  rw [e1,e2]
  have hp:=((List.filter_append_perm (fun e:Entity=>decide (c.of e.x e.y=r)) G.l).filter (fun e:Entity=>decide (e.kind=1))).map Entity.id
  rw [List.filter_append,List.map_append] at hp
  exact hp
theorem Ajr {α:Type} {lt:α→α→Bool} {x:α}: ∀ {l:List α},(insS lt l x).Perm (x::l)
 | []=> .refl _
 |y::l=>by
  unfold insS
  split
  ·exact .refl _
  ·exact (List.Perm.cons y Ajr).trans (.swap x y l)
theorem Ajs {α:Type} {lt:α→α→Bool}: ∀ {l acc:List α},(l.foldl (insS lt) acc).Perm (acc++l)
 | [],acc=>by simp
 |x::l,acc=>by
  rw [List.foldl_cons]
  refine Ajs.trans ?_
  refine (Ajr.append_right l).trans ?_
  exact List.perm_middle.symm
theorem AiL {α:Type} {lt:α→α→Bool} {l:List α}:(sortS lt l).Perm l:=Ajs
theorem Alo {c:Config} {r:Int} {s:Region} {ins:List Input} {inbox:List Cross} (h:Fine c r s ins inbox): ∀m∈sortS z7 (stepS c r s ins inbox).out,blastOk c r s.frame m:=fun m hm=>(Aho h).2.1 m (AiL.mem_iff.1 hm)
theorem Alu {c:Config} {r:Int} {s:Region} {ins:List Input} {inbox:List Cross} (h:Fine c r s ins inbox):(sortS z7 (stepS c r s ins inbox).out).length≤400:=by
 rw [AiL.length_eq]
 have hrc:=Config.is_right h.is
 obtain ⟨hst1,hst2⟩:=Afb h
 unfold stepS restS
 generalize steerS c r s.frame ins ⟨arriveL s.ents inbox,0,[]⟩=S at*
 obtain ⟨A,made,o⟩:=S
 simp only at hst1 hst2⊢
 subst hst2
 have hM:=(Acn hst1.sane).1
 have hH:=((Acv (inbox:=inbox) hM).1).len hrc
 simp only at hH
 generalize blastsL (gemsL (shotsL (moveL c A))) inbox=H at*
 obtain ⟨hF,_,hO⟩:= @AeW c r s.frame (fallenL H) ⟨H,made,[]⟩
 change (fallS c r s.frame ⟨H,made,[]⟩).l.length=H.length at hF
 change (fallS c r s.frame ⟨H,made,[]⟩).out.length=_ at hO
 have hids:(fallenL H).length≤30:=by
  unfold fallenL
  rw [List.length_map]
  exact Nat.le_trans (List.length_filter_le ..) hH
 have hns:(c.near r).length≤9:=Aaz
 have hmul:(fallenL H).length*(c.near r).length≤30*9:=Nat.mul_le_mul hids hns
 simp only [List.length_nil,Nat.zero_add] at hO
 have hG:(growS c r s.frame (fallS c r s.frame ⟨H,made,[]⟩)).l.length≤31∧(growS c r s.frame (fallS c r s.frame ⟨H,made,[]⟩)).out.length≤270:=by
  rcases @AhO c r s.frame (fallS c r s.frame ⟨H,made,[]⟩) with h|h
  ·rw [h];omega
  ·rw [h]
   have:=(@Abb (fallS c r s.frame ⟨H,made,[]⟩).l (gemE c r s.frame (fallS c r s.frame ⟨H,made,[]⟩).made)).2
   simp only;omega
 have:= @AbJ c r s.frame (growS c r s.frame (fallS c r s.frame ⟨H,made,[]⟩))
 omega
end Go.Eva
namespace Go.Eva
def inboxL (c:Config) (outs:List CrossL) (r:Int):List Cross:=(((c.near r).filter fun q=>decide (q<(outs.length:Int))).map fun q=>toL (gt outs q.toNat) r).flatten
def stgW (c:Config) (w:World) (ins:List Input) (r:Nat):Stg:=stepS c r (gt w.regions r) ins (inboxL c w.outs r)
def nextR (c:Config) (w:World) (ins:List Input) (r:Nat):Region:=⟨(gt w.regions r).frame+1,(stgW c w ins r).l⟩
def nextO (c:Config) (w:World) (ins:List Input) (r:Nat):CrossL:=sortS z7 (stgW c w ins r).out
def nextW (c:Config) (w:World) (ins:List Input):World:=⟨(List.range w.regions.length).map (nextR c w ins),(List.range w.regions.length).map (nextO c w ins)⟩
def runW (c:Config) (w:World) (rows:List InputL):World:=rows.foldl (nextW c) w
structure WFine (c:Config) (w:World) (f:Int):Prop where
 right:c.right=true
 regs:(w.regions.length:Int)=c.regions
 outs:w.outs.length=w.regions.length
 sane: ∀r:Nat,r<w.regions.length→Sane c r (gt w.regions r).ents∧(gt w.regions r).frame=f∧(gt w.regions r).ents.length≤31
 sent: ∀q:Nat,q<w.outs.length→(∀m∈gt w.outs q,blastOk c q (f-1) m)∧(gt w.outs q).length≤400
theorem Amn {α β:Type} {g:α→List β} {n:Nat}: ∀ {l:List α},(∀x∈l,(g x).length≤n)→((l.map g).flatten).length≤l.length*n
 | [],_=>by simp
 |x::l,h=>by
  have h1:=h x (List.mem_cons_self ..)
  have h2:=Amn (l:=l) fun y hy=>h y (List.mem_cons_of_mem _ hy)
  have e:(l.length+1)*n=l.length*n+n:=Nat.succ_mul ..
  rw [List.map_cons,List.flatten_cons,List.length_append,List.length_cons]
  omega
theorem Ai7 {c:Config} {r q:Int} (hr:c.is r=true) (h:q∈c.near r):0≤q∧q<c.regions:=by
 have:=((AiE hr).1 (AjK.2 h)).1
 have e:c.regions=c.cols*c.rows:=by simp [z0,Config.is_right hr]
 omega
theorem Ain {c:Config} {w:World} {f:Int} (h:WFine c w f) {r:Nat} (hr:r<w.regions.length):
  (∀m∈inboxL c w.outs r,m.right c=true∧m.to=r∧m.frame=f-1)∧(inboxL c w.outs r).length≤3600:=by
 have hreg:=h.regs
 have hlen:=h.outs
 have his:c.is r=true:=by
  have e:c.regions=c.cols*c.rows:=by simp [z0,h.right]
  rw [Config.is_iff h.right];omega
 refine ⟨fun m hm=> ?_,?_⟩
 ·unfold inboxL at hm
  obtain ⟨l,h1,h2⟩:=List.mem_flatten.1 hm
  obtain ⟨q,h3,rfl⟩:=List.mem_map.1 h1
  obtain ⟨h4,h5⟩:=List.mem_filter.1 h3
  have h6:=Ai7 his h4
  obtain ⟨h7,h8⟩:=List.mem_filter.1 h2
  have h9:=(h.sent q.toNat (by omega)).1 m h7
  exact ⟨h9.1,by simpa using h8,h9.2.2.1⟩
 ·unfold inboxL
  have h1:=Amn (g:=fun q:Int=>toL (gt w.outs q.toNat) r) (n:=400) (l:=(c.near r).filter fun q=>decide (q<(w.outs.length:Int))) fun q hq=>by
   obtain ⟨h4,h5⟩:=List.mem_filter.1 hq
   have h6:=Ai7 his h4
   exact Nat.le_trans AjM (h.sent q.toNat (by omega)).2
  have h2:((c.near r).filter fun q=>decide (q<(w.outs.length:Int))).length≤9:=Nat.le_trans (List.length_filter_le ..) Aaz
  have h3:((c.near r).filter fun q=>decide (q<(w.outs.length:Int))).length*400≤9*400:=Nat.mul_le_mul_right _ h2
  omega
theorem AdR {c:Config} {w:World} {f:Int} (h:WFine c w f) (hf:0≤f∧f<10000) {ins:List Input} (hl:(ins.length:Int)=c.players) (hi: ∀i∈ins,i.right=true) {r:Nat} (hr:r<w.regions.length):
  Fine c r (gt w.regions r) ins (inboxL c w.outs r):=by
 have hreg:=h.regs
 have his:c.is r=true:=by
  have e:c.regions=c.cols*c.rows:=by simp [z0,h.right]
  rw [Config.is_iff h.right];omega
 obtain ⟨h1,h2,h3⟩:=h.sane r hr
 exact ⟨his,by omega,h1.srt,h1.things,h1.ents,hl,hi,by rw [h2];exact (Ain h hr).1⟩
theorem AkG {α:Type} [Inhabited α] {g:Nat→α} {n r:Nat} (h:r<n):gt ((List.range n).map g) r=g r:=by
 simp [gt,h]
theorem Ag8 {c:Config} {w:World} {f:Int} (h:WFine c w f) (hf:0≤f∧f<10000) {ins:List Input} (hl:(ins.length:Int)=c.players) (hi: ∀i∈ins,i.right=true):WFine c (nextW c w ins) (f+1):=by
 have hlen:(nextW c w ins).regions.length=w.regions.length:=by simp [nextW]
 have hlen2:(nextW c w ins).outs.length=w.regions.length:=by simp [nextW]
 refine ⟨h.right,by rw [hlen];exact h.regs,by rw [hlen,hlen2],fun r hr=> ?_,fun q hq=> ?_⟩
 ·rw [hlen] at hr
  have hF:=AdR h hf hl hi hr
  have e:gt (nextW c w ins).regions r=nextR c w ins r:=AkG hr
  rw [e]
  refine ⟨(Aho hF).1,?_,Am7 (AfC hF)⟩
  show (gt w.regions r).frame+1=f+1
  rw [(h.sane r hr).2.1]
 ·rw [hlen2] at hq
  have hF:=AdR h hf hl hi hq
  have e:gt (nextW c w ins).outs q=nextO c w ins q:=AkG hq
  rw [e,show f+1-1=f by omega]
  refine ⟨fun m hm=> ?_,Alu hF⟩
  have:=Alo hF m hm
  rwa [(h.sane q hq).2.1] at this
theorem Ag4 {c:Config}: ∀ {rows:List InputL} {w:World} {f:Int},WFine c w f→0≤f→f+rows.length≤10000→(∀i∈rows,(i.length:Int)=c.players∧ ∀x∈i,x.right=true)→WFine c (runW c w rows) (f+rows.length)
 | [],w,f,h,_,_,_=>by simpa [runW] using h
 |i::rows,w,f,h,h0,hf,hi=>by
  have h1:=hi i (List.mem_cons_self ..)
  rw [List.length_cons] at hf⊢
  have:=Ag4 (rows:=rows) (Ag8 h (by omega) h1.1 h1.2) (by omega) (by omega) fun j hj=>hi j (List.mem_cons_of_mem _ hj)
  rw [show f+((rows.length+1:Nat):Int)=f+1+rows.length by omega]
  exact this
theorem AlX {c:Config} (hr:c.right=true) {i:Int} (hi:1≤i∧i≤c.players):(playerP c.cols c.regions i).right c=true∧c.of (playerP c.cols c.regions i).x (playerP c.cols c.regions i).y=(i-1).tmod c.regions:=by
 have hml:=Config.mul_le hr
 have hre:c.regions=c.cols*c.rows:=by simp [z0,hr]
 have hk:=AaC (v:=i-1) (k:=c.regions) (by omega) (by omega)
 have his:c.is ((i-1).tmod c.regions)=true:=by rw [Config.is_iff hr];omega
 obtain ⟨h1,h2⟩:=Amg (x:=512) (y:=512) his (by omega) (by omega)
 simp only [Config.cornerX,Config.cornerY,his,if_true] at h1 h2
 have e1:within i 1 c.players=true:=Aad.2 hi
 have e2:within 0 (-64) 64=true:=by decide
 have e3:within 100 1 100=true:=by decide
 have e4:within 0 0 6=true:=by decide
 refine ⟨?_,h2⟩
 simp only [z9,playerP,h1,e1,e2,e3,e4]
 simp
theorem Aic {c:Config} (hr:c.right=true): ∀ {d:Nat} {i:Int} {rs:List Region},1≤i→i+d=c.players+1→(rs.length:Int)=c.regions→(∀r:Nat,r<rs.length→Srt (gt rs r).ents∧things (gt rs r).ents=0∧(gt rs r).frame=0∧ ∀e∈(gt rs r).ents,e.right c=true∧c.of e.x e.y=r)→
  ∀r:Nat,r<rs.length→Srt (gt (beginP c.cols c.regions d i rs) r).ents∧things (gt (beginP c.cols c.regions d i rs) r).ents=0∧(gt (beginP c.cols c.regions d i rs) r).frame=0∧ ∀e∈(gt (beginP c.cols c.regions d i rs) r).ents,e.right c=true∧c.of e.x e.y=r
 |0,_,_,_,_,_,h=>h
 |d+1,i,rs,h1,h2,hl,h=>by
  have hml:=Config.mul_le hr
  have hre:c.regions=c.cols*c.rows:=by simp [z0,hr]
  have hk:=AaC (v:=i-1) (k:=c.regions) (by omega) (by omega)
  obtain ⟨p1,p2⟩:=AlX hr (i:=i) (by omega)
  have hkl:((i-1).tmod c.regions).toNat<rs.length:=by omega
  have hb:(begin1 c.cols c.regions rs i).length=rs.length:=by simp [begin1]
  rw [beginP]
  intro r hrr
  refine Aic hr (d:=d) (i:=i+1) (by omega) (by omega) (by rw [hb];exact hl) (fun q hq=> ?_) r (by rw [hb];exact hrr)
  rw [hb] at hq
  unfold begin1
  rw [Akl hkl]
  split
  ·rename_i e
   obtain ⟨a1,a2,a3,a4⟩:=h _ hkl
   have ht:= @AcT (gt rs ((i-1).tmod c.regions).toNat).ents (playerP c.cols c.regions i)
   rw [show (playerP c.cols c.regions i).kind=1 from rfl,if_pos rfl] at ht
   have ht0:0≤things (put1 (gt rs ((i-1).tmod c.regions).toNat).ents (playerP c.cols c.regions i)):=by unfold things;omega
   refine ⟨Aa7 a1,by simp only;omega,a3,fun x hx=> ?_⟩
   rcases AaR hx with rfl|hx
   ·exact ⟨p1,by rw [p2];omega⟩
   ·have:=a4 x hx
    exact ⟨this.1,by rw [this.2];omega⟩
  ·exact h q hq
theorem Ac5 {c:Config} (hr:c.right=true):WFine c (beginW c.cols c.regions c.players.toNat) 0:=by
 have hcr:=Config.right_iff.1 hr
 have hgl:= @Config.regions_le c
 have hl:(beginW c.cols c.regions c.players.toNat).regions.length=c.regions.toNat:=by simp [beginW,AhS]
 have hl2:(beginW c.cols c.regions c.players.toNat).outs.length=c.regions.toNat:=by simp [beginW]
 refine ⟨hr,by rw [hl];omega,by rw [hl,hl2],fun r h=> ?_,fun q h=> ?_⟩
 ·have key:=Aic hr (d:=c.players.toNat) (i:=1) (rs:=zj c.regions.toNat ⟨0,[]⟩) (by omega) (by omega) (by simp;omega) (fun r h=>by
   rw [show gt (zj c.regions.toNat (⟨0,[]⟩:Region)) r=⟨0,[]⟩ by
    unfold gt;rw [List.getElem?_replicate];simp at h;simp [h]]
   simp [Srt,things]) r (by simpa [hl] using h)
  obtain ⟨a1,a2,a3,a4⟩:=key
  have hlen:=AlR (n:=c.players) a1 (fun x hx hk=>Entity.right_player (a4 x hx).1 hk) (by omega)
  refine ⟨⟨a1,Int.le_trans (Int.le_of_eq a2) (by decide),a4⟩,a3,?_⟩
  show (gt (beginP c.cols c.regions c.players.toNat 1 (zj c.regions.toNat ⟨0,[]⟩)) r).ents.length≤31
  omega
 ·have e:gt (beginW c.cols c.regions c.players.toNat).outs q= []:=by
   show gt (zj c.regions.toNat ([]:CrossL)) q= []
   unfold gt;rw [List.getElem?_replicate];rw [hl2] at h;simp [h]
  rw [e]
  simp
end Go.Eva
namespace Go.Eva.S4
theorem Ajx {c:Config} {outs:List CrossL} {r:Int} {l:List Int} {i:Nat} (h:i<l.length):(((l.drop i).filter fun q=>decide (q<(outs.length:Int))).map fun q=>toL (gt outs q.toNat) r).flatten=(if gt l i<(outs.length:Int) then toL (gt outs (gt l i).toNat) r else [])++(((l.drop (i+1)).filter fun q=>decide (q<(outs.length:Int))).map fun q=>toL (gt outs q.toNat) r).flatten:=by
 rw [Aaf h,List.filter_cons]
 by_cases h2:gt l i<(outs.length:Int)<;>simp [h2]
theorem AeV (c:Config) (outs:List CrossL) (r:Int) (hr:c.is r=true) (ho:outs.length≤16) (hs: ∀l∈outs,l.length≤400): ∀(d i:Nat) (A:List Cross),i+d=(c.near r).length→A.length≤400*i→
  Is cx (.loop 38 [0,1,0,1,1] 0 [.t (.sl 1 (outs.map encL)),vi r,.all 0 none,.t (.sl 1 ((c.near r).map ti)),vi (c.near r).length,vi i] [.arr 15 (A.map zn) none false])
   ⟨.exit 0,[.t (.sl 1 (outs.map encL)),vi r,.all 0 none,.t (.sl 1 ((c.near r).map ti)),vi (c.near r).length,vi (c.near r).length],[.arr 15 ((A++((((c.near r).drop i).filter fun q=>decide (q<(outs.length:Int))).map fun q=>toL (gt outs q.toNat) r).flatten).map zn) none false]⟩:=by
 have hns:(c.near r).length≤9:=Aaz
 intro d
 induction d with
 |zero=>
  intro i A hi hA
  rw [Aac (by omega)]
  refine qq ?_
  refine gg [.b (decide ((i:Int)<(↑(zq (z6 c r)):Int))) false] ⟨fP,trivial⟩ ?_
  refine rT (a:=qz (qx 0) [V.t (qk 1 (zz encL outs)),vi r,qy 0 none,V.t (qk 1 (zz ti (z6 c r))),vi (↑(zq (z6 c r)):Int),vi (i:Int)] [qv 15 (zz zn A) none false]) ?_
  ((have:i=(c.near r).length:=by omega);subst this;simp)
 |succ d ih=>
  intro i A hi hA
  have hlt:i<(c.near r).length:=by omega
  have hq:=Ai7 hr (Aav hlt)
  rw [Ajx (c:=c) hlt]
  have ih0:=ih (i+1) A (by omega) (by omega)
  by_cases h2:gt (c.near r) i<(outs.length:Int)
  ·rw [if_pos h2]
   have hl:=hs _ (Aav (show (gt (c.near r) i).toNat<outs.length by omega))
   have hT:=AkW (gt outs (gt (c.near r) i).toNat) r (by unfold small;omega)
   have hTl:= @AjM (gt outs (gt (c.near r) i).toNat) r
   have ih1:=ih (i+1) (A++toL (gt outs (gt (c.near r) i).toNat) r) (by omega) (by rw [List.length_append];omega)
   rw [List.append_assoc] at ih1
   clear ih ih0 hs
   generalize ((((c.near r).drop (i+1)).filter fun q=>decide (q<(outs.length:Int))).map fun q=>toL (gt outs q.toNat) r).flatten=X at*
   generalize toL (gt outs (gt (c.near r) i).toNat) r=W at*
   refine qq ?_
   refine gg [.b (decide ((i:Int)<(↑(zq (z6 c r)):Int))) true,.w (0≤(i:Int)),.n (zy (i:Int)) i,.g (zz ti (z6 c r)) i (ti (gt (z6 c r) i)),.n (zq (zz encL outs)) (zq outs),.b (decide (gt (z6 c r) i<(↑(zq outs):Int))) true,.w (0≤gt (z6 c r) i),.l (zy (gt (z6 c r) i)),.g (zz encL outs) (zy (gt (z6 c r) i)) (encL (gt outs (zy (gt (z6 c r) i)))),.a _ _,.w ((0:Nat)<(120:Nat)),.s (qk 0 (zz zn W)),.t (qk 0 (zz zn A++zz zn W)) (qk 0 (zz zn (A++W))),.w (room (zq (zz zn (A++W))) (120:Nat)),.i zd ((i:Int)+1) ((↑(i+1):Int)),.a _ _] ⟨tP,oW,nK,o_gt rfl (by assumption) (by intro h;cases h),o_n (by simp),t_brp (by assumption),oW,oT,o_a hT,oW,o_l (Aag rfl rfl),o_w (by (simp [room,appendMax];omega)),oI,o_a ih1,trivial⟩ ?_
   exact ge
  ·rw [if_neg h2,List.nil_append]
   clear ih hs
   generalize ((((c.near r).drop (i+1)).filter fun q=>decide (q<(outs.length:Int))).map fun q=>toL (gt outs q.toNat) r).flatten=X at*
   refine qq ?_
   refine gg [.b (decide ((i:Int)<(↑(zq (z6 c r)):Int))) true,.w (0≤(i:Int)),.n (zy (i:Int)) i,.g (zz ti (z6 c r)) i (ti (gt (z6 c r) i)),.n (zq (zz encL outs)) (zq outs),.b (decide (gt (z6 c r) i<(↑(zq outs):Int))) false,.i zd ((i:Int)+1) ((↑(i+1):Int)),.a _ _] ⟨tP,oW,nK,o_gt rfl (by assumption) (by intro h;cases h),o_n (by simp),f_brp (by assumption),oI,o_a ih0,trivial⟩ ?_
   exact ge
theorem AiC (c:Config) (outs:List CrossL) (r:Int) (hr:c.is r=true) (ho:outs.length≤16) (hs: ∀l∈outs,l.length≤400):Is cx (.call 38 [.t c.enc,.t (.sl 1 (outs.map encL)),vi r] []) ⟨.ret,[.t (.sl 15 ((inboxL c outs r).map zn))],[]⟩:=by
 have hN:=AcP c r
 have h:=AeV c outs r hr ho hs (c.near r).length 0 [] (by omega) (by simp)
 rw [List.drop_zero,List.nil_append] at h
 unfold inboxL
 clear hs
 generalize (((c.near r).filter fun q=>decide (q<(outs.length:Int))).map fun q=>toL (gt outs q.toNat) r).flatten=X at*
 have hns:(c.near r).length≤9:=Aaz
 refine qq ?_
 refine gg [.a _ _,.n (zq (zz ti (z6 c r))) (zq (z6 c r)),.a _ _] ⟨o_a hN,o_n (by simp),o_a h,trivial⟩ ?_
 exact ge
theorem Adc (c:Config) (w:World) (f:Int) (ins:List Input) (h:WFine c w f) (hf:0≤f∧f<10000) (hl:(ins.length:Int)=c.players) (hi: ∀i∈ins,i.right=true) {r:Nat} (hr:r<w.regions.length):
  Is cx (.call 38 [.t c.enc,.t (.sl 1 (w.outs.map encL)),vi r] []) ⟨.ret,[.t (.sl 15 ((inboxL c w.outs r).map zn))],[]⟩∧
  Is cx (.call 23 [.t c.enc,vi r,.t (gt w.regions r).enc,.t (.sl 3 (ins.map zr)),.t (.sl 15 ((inboxL c w.outs r).map zn))] []) ⟨.ret,[.t (nextR c w ins r).enc,.t (.sl 15 ((nextO c w ins r).map zn)),vi 0],[]⟩:=by
 have hreg:=h.regs
 have hout:=h.outs
 have hgl:= @Config.regions_le c
 have hcr:=Config.right_iff.1 h.right
 have hF:=AdR h hf hl hi hr
 have hb:=Ain h hr
 have hs:=h.sane r hr
 refine ⟨AiC c w.outs r hF.is (by omega) (fun l hl=> ?_),Af9 c r (gt w.regions r) ins (inboxL c w.outs r) (by omega) (by unfold small;omega) (by omega) (AfC hF)⟩
 obtain ⟨k,hk,rfl⟩:=List.mem_iff_getElem.1 hl
 have:=(h.sent k hk).2
 have e:gt w.outs k=w.outs[k]:=by simp [gt,hk]
 rwa [e] at this
theorem Af3 (c:Config) (w:World) (f:Int) (ins:List Input) (h:WFine c w f) (hf:0≤f∧f<10000) (hl:(ins.length:Int)=c.players) (hi: ∀i∈ins,i.right=true): ∀(d i:Nat),i+d=w.regions.length→
  Is cx (.loop 34 [0,1,0,1,1,1,1] 0 [.t (.sl 3 (ins.map zr)),.ptr 0 0 0,.ptr 1 0 0,vi 0,.ptr 2 0 0,.ptr 3 0 0,.t (.sl 2 (w.regions.map zt)),vi w.regions.length,vi i] [.one 2 (.t w.enc) false,.one 2 (.agg [.fit 2 [],.fit 1 []]) false,.one 5 (.t c.enc) false,.one 2 (.agg [.all 4 none,.all 5 none]) false,.arr 2 (((List.range i).map (nextR c w ins)).map zt) none false,.arr 1 (((List.range i).map (nextO c w ins)).map encL) none false])
   ⟨.exit 1,[.t (.sl 3 (ins.map zr)),.ptr 0 0 0,.ptr 1 0 0,vi 0,.ptr 2 0 0,.ptr 3 0 0,.t (.sl 2 (w.regions.map zt)),vi w.regions.length,vi w.regions.length],[.one 2 (.t w.enc) false,.one 2 (.agg [.fit 2 [],.fit 1 []]) false,.one 5 (.t c.enc) false,.one 2 (.agg [.all 4 none,.all 5 none]) false,.arr 2 (((List.range w.regions.length).map (nextR c w ins)).map zt) none false,.arr 1 (((List.range w.regions.length).map (nextO c w ins)).map encL) none false]⟩:=by
 have hreg:=h.regs
 have hgl:= @Config.regions_le c
 intro d
 induction d with
 |zero=>
  intro i hi
  obtain rfl:i=w.regions.length:=by omega
  generalize (List.range w.regions.length).map (nextR c w ins)=A at*
  generalize (List.range w.regions.length).map (nextO c w ins)=B at*
  obtain ⟨R,O⟩:=w
  refine qq ?_
  refine gg [.b (decide ((↑(zq R):Int)<(↑(zq R):Int))) false] ⟨fP,trivial⟩ ?_
  exact ge
 |succ d ih=>
  intro i hid
  have hlt:i<w.regions.length:=by omega
  have ih1:=ih (i+1) (by omega)
  obtain ⟨hI,hS⟩:=Adc c w f ins h hf hl hi hlt
  have e1:(List.range (i+1)).map (nextR c w ins)=(List.range i).map (nextR c w ins)++ [nextR c w ins i]:=by rw [List.range_succ,List.map_append];rfl
  have e2:(List.range (i+1)).map (nextO c w ins)=(List.range i).map (nextO c w ins)++ [nextO c w ins i]:=by rw [List.range_succ,List.map_append];rfl
  rw [e1,e2] at ih1
  have hA:((List.range i).map (nextR c w ins)).length=i:=by simp
  have hB:((List.range i).map (nextO c w ins)).length=i:=by simp
  clear ih hi e1 e2
  generalize (List.range i).map (nextR c w ins)=A at*
  generalize (List.range i).map (nextO c w ins)=B at*
  generalize (List.range w.regions.length).map (nextR c w ins)=A2 at*
  generalize (List.range w.regions.length).map (nextO c w ins)=B2 at*
  generalize nextR c w ins i=x at*
  generalize nextO c w ins i=y at*
  generalize inboxL c w.outs i=box at*
  obtain ⟨R,O⟩:=w
  simp only at hreg hlt hI hS ih1⊢
  clear h
  refine qq ?_
  refine gg [.b (decide ((i:Int)<(↑(zq R):Int))) true,.w (0≤(i:Int)),.n (zy (i:Int)) i,.g (zz zt R) i (zt (gt R i))] ⟨tP,oW,nK,o_gt rfl (by assumption) (by intro h;cases h),trivial⟩ ?_
  refine bO ?_ ?_
  ·refine gg [.a _ _] ⟨o_a hI,trivial⟩ ?_
   refine bO ?_ ?_
   all_goals
    refine gg [.a _ _,.b (0 !=0) false] ⟨o_a hS,bK,trivial⟩ ?_
    refine bO (bO ?_ (bO (bO ?_ ?_) (bO ?_ ?_))) (bO (bO (bO ?_ ?_) ?_) (bO (bO ?_ ?_) ?_))
    all_goals
     refine gg [.w ((0:Nat)<(32:Nat)),.t (qk 0 [zt x]) (qk 0 (zz zt [x])),.t (qk 0 (zz zt A++zz zt [x])) (qk 0 (zz zt (A++ [x]))),.w (room (zq (zz zt (A++ [x]))) (32:Nat)),.w ((0:Nat)<(24:Nat)),.s (qk 0 [qk 15 (zz zn y)]),.t (qk 0 (zz encL B++ [qk 15 (zz zn y)])) (qk 0 (zz encL (B++ [y]))),.w (room (zq (zz encL (B++ [y]))) (24:Nat)),.i zd ((i:Int)+1) ((↑(i+1):Int)),.a _ _] ⟨oW,o_l (Aae rfl Aah),o_l (Aag rfl rfl),o_w (by (simp [room,appendMax];omega)),oW,o_l (Aag rfl (Aae (e:=y) rfl Aah)),o_w (by (simp [room,appendMax];omega)),oI,o_a ih1,trivial⟩ ?_
     exact ge
  ·refine gg [.a _ _,.a _ _,.b (0 !=0) false] ⟨o_a hI,o_a hS,bK,trivial⟩ ?_
   refine bO (bO ?_ (bO (bO ?_ ?_) (bO ?_ ?_))) (bO (bO (bO ?_ ?_) ?_) (bO (bO ?_ ?_) ?_))
   all_goals
    refine gg [.w ((0:Nat)<(32:Nat)),.t (qk 0 [zt x]) (qk 0 (zz zt [x])),.t (qk 0 (zz zt A++zz zt [x])) (qk 0 (zz zt (A++ [x]))),.w (room (zq (zz zt (A++ [x]))) (32:Nat)),.w ((0:Nat)<(24:Nat)),.s (qk 0 [qk 15 (zz zn y)]),.t (qk 0 (zz encL B++ [qk 15 (zz zn y)])) (qk 0 (zz encL (B++ [y]))),.w (room (zq (zz encL (B++ [y]))) (24:Nat)),.i zd ((i:Int)+1) ((↑(i+1):Int)),.a _ _] ⟨oW,o_l (Aae rfl Aah),o_l (Aag rfl rfl),o_w (by (simp [room,appendMax];omega)),oW,o_l (Aag rfl (Aae (e:=y) rfl Aah)),o_w (by (simp [room,appendMax];omega)),oI,o_a ih1,trivial⟩ ?_
    exact ge
theorem Afw (c:Config) (w:World) (f:Int) (ins:List Input) (h:WFine c w f) (hf:0≤f∧f<10000) (hl:(ins.length:Int)=c.players) (hi: ∀i∈ins,i.right=true):
  Is cx (.loop 34 [0,1,0,1,1,1,1] 0 [.t (.sl 3 (ins.map zr)),.ptr 0 0 0,.ptr 1 0 0,vi 0,.ptr 2 0 0,.ptr 3 0 0,.t (.sl 2 (w.regions.map zt)),vi w.regions.length,vi 0] [.one 2 (.t w.enc) false,.one 2 (.agg [.fit 2 [],.fit 1 []]) false,.one 5 (.t c.enc) false,.one 2 (.agg [.fit 2 [],.fit 1 []]) false])
   ⟨.exit 1,[.t (.sl 3 (ins.map zr)),.ptr 0 0 0,.ptr 1 0 0,vi 0,.ptr 2 0 0,.ptr 3 0 0,.t (.sl 2 (w.regions.map zt)),vi w.regions.length,vi w.regions.length],[.one 2 (.t w.enc) false,.one 2 (.agg [.fit 2 [],.fit 1 []]) false,.one 5 (.t c.enc) false,.one 2 (.agg [.all 4 none,.all 5 none]) false,.arr 2 (((List.range w.regions.length).map (nextR c w ins)).map zt) none false,.arr 1 (((List.range w.regions.length).map (nextO c w ins)).map encL) none false]⟩:=by
 have hreg:=h.regs
 have hgl:= @Config.regions_le c
 have hml:=Config.mul_le h.right
 have hgr:c.regions=c.cols*c.rows:=by simp [z0,h.right]
 have hlt:0<w.regions.length:=by omega
 have ih1:=Af3 c w f ins h hf hl hi (w.regions.length-1) 1 (by omega)
 obtain ⟨hI,hS⟩:=Adc c w f ins h hf hl hi hlt
 change Is cx (.loop _ _ _ _ [_,_,_,_,.arr 2 [(nextR c w ins 0).enc] _ _,.arr 1 [encL (nextO c w ins 0)] _ _]) _ at ih1
 clear hi hgr
 generalize (List.range w.regions.length).map (nextR c w ins)=A2 at*
 generalize (List.range w.regions.length).map (nextO c w ins)=B2 at*
 generalize nextR c w ins 0=x at*
 generalize nextO c w ins 0=y at*
 generalize inboxL c w.outs (0:Nat)=box at*
 obtain ⟨R,O⟩:=w
 simp only at hreg hlt hI hS ih1⊢
 clear h
 refine qq ?_
 refine gg [.b (decide (0<(↑(zq R):Int))) true,.w (0≤(0:Int)),.l 0,.g (zz zt R) 0 (zt (gt R 0))] ⟨tP,oW,o_gt rfl (by assumption) (by intro h;cases h),trivial⟩ ?_
 refine bO ?_ ?_
 ·refine gg [.a _ _] ⟨o_a hI,trivial⟩ ?_
  refine bO ?_ ?_
  all_goals
   refine gg [.a _ _,.b (0 !=0) false] ⟨o_a hS,bK,trivial⟩ ?_
   refine bO (bO ?_ (bO (bO ?_ ?_) (bO ?_ ?_))) (bO (bO (bO ?_ ?_) ?_) (bO (bO ?_ ?_) ?_))
   all_goals
    refine gg [.w ((0:Nat)<(32:Nat)),.t (qk 0 [zt x]) (qk 0 (zz zt [x])),.t (qk 0 [zt x]) (qk 0 (zz zt [x])),.w (room (zq (zz zt [x])) (32:Nat)),.w ((0:Nat)<(24:Nat)),.s (qk 0 [qk 15 (zz zn y)]),.s (qk 0 [qk 15 (zz zn y)]),.w (room (zq [qk (15:Nat) (zz zn y)]) (24:Nat)),.i zd 1 1,.a _ _] ⟨oW,o_l (Aae rfl Aah),o_l (Aae rfl Aah),o_w (by (simp [room,appendMax])),oW,o_w (by (simp [room,appendMax])),oK,o_a ih1,trivial⟩ ?_
    exact ge
 ·refine gg [.a _ _,.a _ _,.b (0 !=0) false] ⟨o_a hI,o_a hS,bK,trivial⟩ ?_
  refine bO (bO ?_ (bO (bO ?_ ?_) (bO ?_ ?_))) (bO (bO (bO ?_ ?_) ?_) (bO (bO ?_ ?_) ?_))
  all_goals
   refine gg [.w ((0:Nat)<(32:Nat)),.t (qk 0 [zt x]) (qk 0 (zz zt [x])),.t (qk 0 [zt x]) (qk 0 (zz zt [x])),.w (room (zq (zz zt [x])) (32:Nat)),.w ((0:Nat)<(24:Nat)),.s (qk 0 [qk 15 (zz zn y)]),.s (qk 0 [qk 15 (zz zn y)]),.w (room (zq [qk (15:Nat) (zz zn y)]) (24:Nat)),.i zd 1 1,.a _ _] ⟨oW,o_l (Aae rfl Aah),o_l (Aae rfl Aah),o_w (by (simp [room,appendMax])),oW,o_w (by (simp [room,appendMax])),oK,o_a ih1,trivial⟩ ?_
   exact ge
theorem Agn (c:Config) (w:World) (f:Int) (ins:List Input) (h:WFine c w f) (hf:0≤f∧f<10000) (hl:(ins.length:Int)=c.players) (hi: ∀i∈ins,i.right=true):
  Is cx (.call 34 [.t c.enc,.t w.enc,.t (.sl 3 (ins.map zr))] []) ⟨.ret,[.t (nextW c w ins).enc,vi 0],[]⟩:=by
 have hr:=h.right
 have hreg:=h.regs
 have hout:=h.outs
 have hgl:= @Config.regions_le c
 have hml:=Config.mul_le hr
 have hgr:c.regions=c.cols*c.rows:=by simp [z0,hr]
 have hN:=Af6 c
 rw [Config.grid_of hr,Config.err_of hr] at hN
 have hG:=Aa6 c
 rw [←hreg] at hG
 have hE:=Afw c w f ins h hf hl hi
 have e3:(nextW c w ins).enc= .agg [.sl 2 (((List.range w.regions.length).map (nextR c w ins)).map zt),.sl 1 (((List.range w.regions.length).map (nextO c w ins)).map encL)]:=rfl
 rw [e3]
 clear hi e3
 generalize (List.range w.regions.length).map (nextR c w ins)=A at*
 generalize (List.range w.regions.length).map (nextO c w ins)=B at*
 obtain ⟨R,O⟩:=w
 simp only at hreg hout hG hE⊢
 clear hgr h
 refine qq ?_
 refine gg [.a _ _,.b (0 !=0) false,.n (zq (zz zt R)) (zq R),.a _ _,.b ((↑(zq R):Int) !=(↑(zq R):Int)) false,.ff,.ff,.n (zq (zz encL O)) (zq O),.ff,.ff,.a _ _,.ff,.ff,.b ((↑(zq O):Int) !=(↑(zq R):Int)) false,.n (zq (zz zt R)) (zq R),.a _ _] ⟨o_a hN,bK,o_n (by simp),o_a hG,f_brn rfl,o_n (by simp),o_a hG,fN,o_n (by simp),o_a hE,trivial⟩ ?_
 exact ge
end Go.Eva.S4
namespace Go.Eva.S4
theorem Agu (c:Config) (rows:List InputL) (hi: ∀i∈rows,(i.length:Int)=c.players∧ ∀x∈i,x.right=true) (hn:rows.length≤100): ∀(d i:Nat) (w:World) (f:Int),i+d=rows.length→WFine c w f→0≤f→f+d≤10000→
  Is cx (.loop 43 [0,1,0,1,1] 0 [.ptr 0 0 0,.ptr 1 0 0,vi 0,.ptr 2 0 0,vi 0,.t (.sl 1 (rows.map encI)),vi rows.length,vi i] [.one 5 (.t c.enc) false,.one 2 (.agg [.fit 2 [],.fit 1 []]) false,.one 2 (.t w.enc) false])
   ⟨.exit 0,[.ptr 0 0 0,.ptr 1 0 0,vi 0,.ptr 2 0 0,vi 0,.t (.sl 1 (rows.map encI)),vi rows.length,vi rows.length],[.one 5 (.t c.enc) false,.one 2 (.agg [.fit 2 [],.fit 1 []]) false,.one 2 (.t (runW c w (rows.drop i)).enc) false]⟩:=by
 intro d
 induction d with
 |zero=>
  intro i w f hid hw h0 hf
  rw [Aac (by omega)]
  refine qq ?_
  refine gg [.b (decide ((i:Int)<(↑(zq rows):Int))) false] ⟨fP,trivial⟩ ?_
  refine rT (a:=qz (qx 0) [V.ptr 0 0 0,V.ptr 1 0 0,vi 0,V.ptr 2 0 0,vi 0,V.t (qk 1 (zz encI rows)),vi (↑(zq rows):Int),vi (i:Int)] [qg 5 (V.t (Config.enc c)) false,qg 2 (V.agg [V.fit 2 [],V.fit 1 []]) false,qg 2 (V.t (World.enc w)) false]) ?_
  ((have:i=rows.length:=by omega);subst this;rfl)
 |succ d ih=>
  intro i w f hid hw h0 hf
  have hlt:i<rows.length:=by omega
  have h1:=hi _ (Aav hlt)
  have hS:=Agn c w f (gt rows i) hw (by omega) h1.1 h1.2
  have ih1:=ih (i+1) (nextW c w (gt rows i)) (f+1) (by omega) (Ag8 hw (by omega) h1.1 h1.2) (by omega) (by omega)
  rw [show runW c w (rows.drop i)=runW c (nextW c w (gt rows i)) (rows.drop (i+1)) by rw [Aaf hlt];rfl]
  clear ih hi h1 hw
  generalize runW c (nextW c w (gt rows i)) (rows.drop (i+1))=W at*
  generalize nextW c w (gt rows i)=x at*
  refine qq ?_
  refine gg [.b (decide ((i:Int)<(↑(zq rows):Int))) true,.w (0≤(i:Int)),.n (zy (i:Int)) i,.g (zz encI rows) i (encI (gt rows i)),.b (0 !=0) false,.a _ _,.i zd ((i:Int)+1) ((↑(i+1):Int)),.a _ _] ⟨tP,oW,nK,o_gt rfl (by assumption) (by intro h;cases h),bK,o_a hS,oI,o_a ih1,trivial⟩ ?_
  exact ge
def worldAt (c:Config) (rows:List InputL):World:=runW c (beginW c.cols c.regions c.players.toNat) rows
theorem AjD (c:Config) (rows:List InputL) (hr:c.right=true) (hi: ∀i∈rows,(i.length:Int)=c.players∧ ∀x∈i,x.right=true) (hn:rows.length≤100):
  Is cx (.call 43 [.t c.enc,.t (.sl 1 (rows.map encI))] []) ⟨.ret,[.t (worldAt c rows).enc,vi 0],[]⟩:=by
 have hB:=AfJ c hr
 rw [show c.cols*c.rows=c.regions by simp [z0,hr]] at hB
 have hL:=Agu c rows hi hn rows.length 0 (beginW c.cols c.regions c.players.toNat) 0 (by omega) (Ac5 hr) (by omega) (by omega)
 rw [List.drop_zero] at hL
 unfold worldAt
 generalize runW c (beginW c.cols c.regions c.players.toNat) rows=W at*
 generalize beginW c.cols c.regions c.players.toNat=B at*
 clear hi
 refine qq ?_
 refine gg [.a _ _,.n (zq (zz encI rows)) (zq rows),.a _ _] ⟨o_a hB,o_n (by simp),o_a hL,trivial⟩ ?_
 exact ge
end Go.Eva.S4
namespace Go.Eva.S4
theorem AaW (a:List Region) (g:Nat) (hb:isFnB cx g=true) (hn:small a) (hg: ∀x∈a,Fn cx g [zt x,zt x] (.bool true)): ∀(d i:Nat),i+d=a.length→
  Is cx (.loop 39 [0,1,0,1,1] 0 [.t (.sl 2 (a.map zt)),.t (.sl 2 (a.map zt)),.t (.clo g []),vb false,vi i] [])
   ⟨.exit 0,[.t (.sl 2 (a.map zt)),.t (.sl 2 (a.map zt)),.t (.clo g []),vb false,vi a.length],[]⟩:=by
 unfold small at hn
 intro d
 induction d with
 |zero=>
  intro i hi
  refine qq ?_
  refine gg [.n (zq (zz zt a)) (zq a),.b (decide ((i:Int)<(↑(zq a):Int))) false] ⟨o_n (by simp),fP,trivial⟩ ?_
  refine rT (a:=qz (qx 0) [V.t (qk 2 (zz zt a)),V.t (qk 2 (zz zt a)),V.t (T.clo g []),vb false,vi (i:Int)] []) ?_
  ((have hq:i=a.length:=by omega);subst hq;rfl)
 |succ d ih=>
  intro i hi
  have hlt:i<a.length:=by omega
  have ih1:=ih (i+1) (by omega)
  have hy:=hg (gt a i) (Aav hlt)
  clear ih hg
  refine qq ?_
  refine gg [.n (zq (zz zt a)) (zq a),.b (decide ((i:Int)<(↑(zq a):Int))) true,.w (0≤(i:Int)),.n (zy (i:Int)) i,.g (zz zt a) i (zt (gt a i)),.w (0≤(i:Int)),.n (zy (i:Int)) i,.g (zz zt a) i (zt (gt a i)),.w (isFnB cx g=true),.a _ _,.b (!true) false,.i zd ((i:Int)+1) ((↑(i+1):Int)),.a _ _] ⟨o_n (by simp),tP,oW,nK,o_gt rfl (by assumption) (by intro h;cases h),oW,nK,o_gt rfl (by assumption) (by intro h;cases h),oA,o_a hy,bK,oI,o_a ih1,trivial⟩ ?_
  exact ge
theorem Ab2 (a:List Region) (g:Nat) (hb:isFnB cx g=true) (hn:small a) (hg: ∀x∈a,Fn cx g [zt x,zt x] (.bool true)):Fn cx 39 [.sl 2 (a.map zt),.sl 2 (a.map zt),.clo g []] (.bool true):=by
 have h:=AaW a g hb hn hg a.length 0 (by omega)
 clear hg
 refine qq ?_
 refine gg [.n (zq (zz zt a)) (zq a),.n (zq (zz zt a)) (zq a),.b ((↑(zq a):Int) !=(↑(zq a):Int)) false,.a _ _] ⟨o_n (by simp),o_n (by simp),f_brn rfl,o_a h,trivial⟩ ?_
 exact ge
theorem AaS (a:List CrossL) (g:Nat) (hb:isFnB cx g=true) (hn:small a) (hg: ∀x∈a,Fn cx g [encL x,encL x] (.bool true)): ∀(d i:Nat),i+d=a.length→
  Is cx (.loop 40 [0,1,0,1,1] 0 [.t (.sl 1 (a.map encL)),.t (.sl 1 (a.map encL)),.t (.clo g []),vb false,vi i] [])
   ⟨.exit 0,[.t (.sl 1 (a.map encL)),.t (.sl 1 (a.map encL)),.t (.clo g []),vb false,vi a.length],[]⟩:=by
 unfold small at hn
 intro d
 induction d with
 |zero=>
  intro i hi
  refine qq ?_
  refine gg [.n (zq (zz encL a)) (zq a),.b (decide ((i:Int)<(↑(zq a):Int))) false] ⟨o_n (by simp),fP,trivial⟩ ?_
  refine rT (a:=qz (qx 0) [V.t (qk 1 (zz encL a)),V.t (qk 1 (zz encL a)),V.t (T.clo g []),vb false,vi (i:Int)] []) ?_
  ((have hq:i=a.length:=by omega);subst hq;rfl)
 |succ d ih=>
  intro i hi
  have hlt:i<a.length:=by omega
  have ih1:=ih (i+1) (by omega)
  have hy:=hg (gt a i) (Aav hlt)
  clear ih hg
  refine qq ?_
  refine gg [.n (zq (zz encL a)) (zq a),.b (decide ((i:Int)<(↑(zq a):Int))) true,.w (0≤(i:Int)),.n (zy (i:Int)) i,.g (zz encL a) i (encL (gt a i)),.w (0≤(i:Int)),.n (zy (i:Int)) i,.g (zz encL a) i (encL (gt a i)),.w (isFnB cx g=true),.a _ _,.b (!true) false,.i zd ((i:Int)+1) ((↑(i+1):Int)),.a _ _] ⟨o_n (by simp),tP,oW,nK,o_gt rfl (by assumption) (by intro h;cases h),oW,nK,o_gt rfl (by assumption) (by intro h;cases h),oA,o_a hy,bK,oI,o_a ih1,trivial⟩ ?_
  exact ge
theorem Abw (a:List CrossL) (g:Nat) (hb:isFnB cx g=true) (hn:small a) (hg: ∀x∈a,Fn cx g [encL x,encL x] (.bool true)):Fn cx 40 [.sl 1 (a.map encL),.sl 1 (a.map encL),.clo g []] (.bool true):=by
 have h:=AaS a g hb hn hg a.length 0 (by omega)
 clear hg
 refine qq ?_
 refine gg [.n (zq (zz encL a)) (zq a),.n (zq (zz encL a)) (zq a),.b ((↑(zq a):Int) !=(↑(zq a):Int)) false,.a _ _] ⟨o_n (by simp),o_n (by simp),f_brn rfl,o_a h,trivial⟩ ?_
 exact ge
theorem Afz (a:Region) (hn:small a.ents):Fn cx 29 [a.enc,a.enc] (.bool true):=by
 have hP:=Acu a.ents a.ents hn
 rw [show plain a.ents a.ents=true by simp [plain]] at hP
 obtain ⟨f,l⟩:=a
 simp only at hP
 refine qq ?_
 refine gg [.b (f==f) true,.tt,.tt,.tt,.tt,.a _ _,.tt] ⟨t_bre rfl,o_a hP,trivial⟩ ?_
 refine rT (a:=qz qj [vb true] []) ?_
 (simp;done)
theorem Ae1 (a:CrossL) (hn:small a):Fn cx 41 [encL a,encL a] (.bool true):=by
 have hP:=AcR a a hn
 rw [show plain a a=true by simp [plain]] at hP
 refine qq ?_
 refine gg [.a _ _] ⟨o_a hP,trivial⟩ ?_
 exact ge
theorem AfV (w:World) (h1:small w.regions) (h2:small w.outs) (h3: ∀s∈w.regions,small s.ents) (h4: ∀l∈w.outs,small l):Fn cx 36 [w.enc,w.enc] (.bool true):=by
 have e1:=Ab2 w.regions 29 (by kernel_rfl) h1 fun x hx=>Afz x (h3 x hx)
 have e2:=Abw w.outs 41 (by kernel_rfl) h2 fun x hx=>Ae1 x (h4 x hx)
 clear h3 h4
 obtain ⟨R,O⟩:=w
 simp only at e1 e2
 refine qq ?_
 refine gg [.a _ _,.tt,.tt,.tt,.tt,.tt,.a _ _,.tt] ⟨o_a e1,o_a e2,trivial⟩ ?_
 exact ge
end Go.Eva.S4
namespace Go.Eva
end Go.Eva
namespace Go.Eva
def ghostAt (l:List InputL) (gone en:Int) (f p:Nat):Input:=if (f:Int)<(gt l p).length∧((p:Int)≠gone∨(f:Int)<en) then gt (gt l p) f else Input.zero
def ghostRow (l:List InputL) (gone en:Int) (n f:Nat):InputL:=(List.range n).map (ghostAt l gone en f)
def ghostRows (l:List InputL) (gone en:Int) (n k:Nat):List InputL:=(List.range k).map (ghostRow l gone en n)
def ghostFill (l:List InputL) (gone en:Int) (n f p:Nat):InputL:=(List.range p).map (ghostAt l gone en f)++zj (n-p) Input.zero
theorem Aih {l:List InputL} {gone en:Int} {n f p:Nat} (h:p≤n):(ghostFill l gone en n f p).length=n:=by simp [ghostFill];omega
theorem Ai6 {l:List InputL} {gone en:Int} {n f p:Nat} (h:p<n):(ghostFill l gone en n f p).set p (ghostAt l gone en f p)=ghostFill l gone en n f (p+1):=by
 have e2:n-p=(n-(p+1))+1:=by omega
 unfold ghostFill
 rw [e2,List.replicate_succ,List.set_append,if_neg (by simp),List.range_succ,List.map_append]
 simp
theorem Aek {l:List InputL} {gone en:Int} {n f p:Nat} (h:p<n) (h2:ghostAt l gone en f p=Input.zero):ghostFill l gone en n f (p+1)=ghostFill l gone en n f p:=by
 have e2:n-p=(n-(p+1))+1:=by omega
 unfold ghostFill
 rw [List.range_succ,List.map_append,List.map_cons,List.map_nil,h2,List.append_assoc,e2,List.replicate_succ]
 rfl
theorem Ai8 {l:List InputL} {gone en:Int} {n f:Nat}:ghostFill l gone en n f n=ghostRow l gone en n f:=by simp [ghostFill,ghostRow]
theorem Ahw {l:List InputL} {gone en:Int} {n f:Nat}:ghostFill l gone en n f 0=zj n Input.zero:=by simp [ghostFill]
end Go.Eva
namespace Go.Eva.S4
theorem AeC (c:Config) (l F:List InputL) (gone en k:Int) (f n:Nat) (hn:l.length=n) (h6:n≤6) (hf:f≤100) (hF:F.length=f): ∀(d p:Nat),p+d=n→
  Is cx (.loop 49 [0,1,0,1,1,0,0,1,1,0,0,1,0,1,1,1,1] 0 [.t (.sl 1 (l.map encI)),vi gone,vi en,.ptr 0 0 0,.ptr 1 0 0,.ptr 2 0 0,.all 3 none,vi f,.all 4 none,vi k,vi f,vi n,vi p] [.one 5 (.t c.enc) false,.one 2 (.agg [.fit 2 [],.fit 1 []]) false,.one 5 (.t c.enc) false,.arr 1 (F.map encI) none false,.arr 3 ((ghostFill l gone en n f p).map zr) (some 0) false])
   ⟨.exit 3,[.t (.sl 1 (l.map encI)),vi gone,vi en,.ptr 0 0 0,.ptr 1 0 0,.ptr 2 0 0,.all 3 none,vi f,.all 4 none,vi k,vi f,vi n,vi n],[.one 5 (.t c.enc) false,.one 2 (.agg [.fit 2 [],.fit 1 []]) false,.one 5 (.t c.enc) false,.arr 1 (F.map encI) none false,.arr 3 ((ghostRow l gone en n f).map zr) (some 0) false]⟩:=by
 intro d
 induction d with
 |zero=>
  intro p hp
  obtain rfl:p=n:=by omega
  rw [Ai8]
  refine qq ?_
  refine gg [.b (decide ((p:Int)<(p:Int))) false] ⟨fP,trivial⟩ ?_
  exact ge
 |succ d ih=>
  intro p hp
  have ih1:=ih (p+1) (by omega)
  have hlt:p<n:=by omega
  have hltl:p<l.length:=by omega
  have hlen:=Aih (l:=l) (gone:=gone) (en:=en) (n:=n) (f:=f) (p:=p) (by omega)
  have hs:=Ai6 (l:=l) (gone:=gone) (en:=en) (f:=f) hlt
  clear ih
  by_cases h1:f<(gt l p).length
  ·by_cases h2:(p:Int)=gone
   ·by_cases h3:(f:Int)<en
    ·rw [←hs,show ghostAt l gone en f p=gt (gt l p) f by unfold ghostAt;rw [if_pos ⟨by omega,.inr h3⟩]] at ih1
     generalize ghostFill l gone en n f p=R at*
     clear hs
     refine qq ?_
     refine gg [.b (decide ((p:Int)<(n:Int))) true,.w (0≤(p:Int)),.n (zy (p:Int)) p,.g (zz encI l) p (encI (gt l p)),.n (zq (zz zr (gt l p))) (zq (gt l p)),.b (decide ((f:Int)<(↑(zq (gt l p)):Int))) true,.tt,.tt,.tt,.b ((p:Int) !=gone) false,.ff,.ff,.tt,.ff,.tt,.b (decide ((f:Int)<en)) true] ⟨tP,oW,nK,o_gt rfl (by assumption) (by intro h;cases h),o_n (by simp),tP,f_brn (by assumption),t_brp (by assumption),trivial⟩ ?_
     refine gg [.w (0≤(p:Int)),.n (zy (p:Int)) p,.g (zz encI l) p (encI (gt l p)),.w (0≤(f:Int)),.n (zy (f:Int)) f,.g (zz zr (gt l p)) f (zr (gt (gt l p) f)),.w (0≤(p:Int)),.n (zy (p:Int)) p,.w (p<zq (zz zr R)),.w (p<zq (zz zr R)),.t (qk 0 (zx (zz zr R) p (zr (gt (gt l p) f)))) (qk 0 (zz zr (zx R p (gt (gt l p) f)))),.i zd ((p:Int)+1) ((↑(p+1):Int)),.a _ _] ⟨oW,nK,o_gt rfl (by assumption) (by intro h;cases h),oW,nK,o_gt rfl (by assumption) (by intro h;cases h),oW,nK,o_w (by (simp;omega)),o_w (by (simp;omega)),o_l (Aam rfl rfl),oI,o_a ih1,trivial⟩ ?_
     exact ge
    ·rw [Aek hlt (by unfold ghostAt;rw [if_neg (by omega)])] at ih1
     generalize ghostFill l gone en n f p=R at*
     clear hs
     refine qq ?_
     refine gg [.b (decide ((p:Int)<(n:Int))) true,.w (0≤(p:Int)),.n (zy (p:Int)) p,.g (zz encI l) p (encI (gt l p)),.n (zq (zz zr (gt l p))) (zq (gt l p)),.b (decide ((f:Int)<(↑(zq (gt l p)):Int))) true,.tt,.tt,.tt,.b ((p:Int) !=gone) false,.ff,.ff,.tt,.ff,.tt,.b (decide ((f:Int)<en)) false] ⟨tP,oW,nK,o_gt rfl (by assumption) (by intro h;cases h),o_n (by simp),tP,f_brn (by assumption),f_brp (by assumption),trivial⟩ ?_
     refine gg [.i zd ((p:Int)+1) ((↑(p+1):Int)),.a _ _] ⟨oI,o_a ih1,trivial⟩ ?_
     exact ge
   ·rw [←hs,show ghostAt l gone en f p=gt (gt l p) f by unfold ghostAt;rw [if_pos ⟨by omega,.inl h2⟩]] at ih1
    generalize ghostFill l gone en n f p=R at*
    clear hs
    refine qq ?_
    refine gg [.b (decide ((p:Int)<(n:Int))) true,.w (0≤(p:Int)),.n (zy (p:Int)) p,.g (zz encI l) p (encI (gt l p)),.n (zq (zz zr (gt l p))) (zq (gt l p)),.b (decide ((f:Int)<(↑(zq (gt l p)):Int))) true,.tt,.tt,.tt,.b ((p:Int) !=gone) true,.tt,.tt,.tt,.tt,.tt,.tt] ⟨tP,oW,nK,o_gt rfl (by assumption) (by intro h;cases h),o_n (by simp),tP,t_brn (by assumption),trivial⟩ ?_
    refine gg [.w (0≤(p:Int)),.n (zy (p:Int)) p,.g (zz encI l) p (encI (gt l p)),.w (0≤(f:Int)),.n (zy (f:Int)) f,.g (zz zr (gt l p)) f (zr (gt (gt l p) f)),.w (0≤(p:Int)),.n (zy (p:Int)) p,.w (p<zq (zz zr R)),.w (p<zq (zz zr R)),.t (qk 0 (zx (zz zr R) p (zr (gt (gt l p) f)))) (qk 0 (zz zr (zx R p (gt (gt l p) f)))),.i zd ((p:Int)+1) ((↑(p+1):Int)),.a _ _] ⟨oW,nK,o_gt rfl (by assumption) (by intro h;cases h),oW,nK,o_gt rfl (by assumption) (by intro h;cases h),oW,nK,o_w (by (simp;omega)),o_w (by (simp;omega)),o_l (Aam rfl rfl),oI,o_a ih1,trivial⟩ ?_
    exact ge
  ·rw [Aek hlt (by unfold ghostAt;rw [if_neg (by omega)])] at ih1
   generalize ghostFill l gone en n f p=R at*
   clear hs
   refine qq ?_
   refine gg [.b (decide ((p:Int)<(n:Int))) true,.w (0≤(p:Int)),.n (zy (p:Int)) p,.g (zz encI l) p (encI (gt l p)),.n (zq (zz zr (gt l p))) (zq (gt l p)),.b (decide ((f:Int)<(↑(zq (gt l p)):Int))) false,.ff,.ff,.ff,.ff,.ff,.ff,.i zd ((p:Int)+1) ((↑(p+1):Int)),.a _ _] ⟨tP,oW,nK,o_gt rfl (by assumption) (by intro h;cases h),o_n (by simp),fP,oI,o_a ih1,trivial⟩ ?_
   exact ge
theorem Aez (c:Config) (l:List InputL) (gone en:Int) (k n:Nat) (hc:c.players=(n:Int)) (hn:l.length=n) (h6:n≤6) (hk:k≤100): ∀(d f:Nat),f+d=k→
  Is cx (.loop 49 [0,1,0,1,1,1,1] 0 [.t (.sl 1 (l.map encI)),vi gone,vi en,.ptr 0 0 0,.ptr 1 0 0,.ptr 2 0 0,.all 3 none,vi k,vi f] [.one 5 (.t c.enc) false,.one 2 (.agg [.fit 2 [],.fit 1 []]) false,.one 5 (.t c.enc) false,.arr 1 ((ghostRows l gone en n f).map encI) none false])
   ⟨.exit 1,[.t (.sl 1 (l.map encI)),vi gone,vi en,.ptr 0 0 0,.ptr 1 0 0,.ptr 2 0 0,.all 3 none,vi k,vi k],[.one 5 (.t c.enc) false,.one 2 (.agg [.fit 2 [],.fit 1 []]) false,.one 5 (.t c.enc) false,.arr 1 ((ghostRows l gone en n k).map encI) none false]⟩:=by
 obtain rfl:n=c.players.toNat:=by omega
 intro d
 induction d with
 |zero=>
  intro f hf
  obtain rfl:f=k:=by omega
  generalize ghostRows l gone en c.players.toNat f=R at*
  refine qq ?_
  refine gg [.b (decide ((f:Int)<(f:Int))) false] ⟨fP,trivial⟩ ?_
  exact ge
 |succ d ih=>
  intro f hf
  have ih1:=ih (f+1) (by omega)
  have e:ghostRows l gone en c.players.toNat (f+1)=ghostRows l gone en c.players.toNat f++ [ghostRow l gone en c.players.toNat f]:=by unfold ghostRows;rw [List.range_succ,List.map_append];rfl
  rw [e] at ih1
  have hlen:(ghostRows l gone en c.players.toNat f).length=f:=by simp [ghostRows]
  have hI:=AeC c l (ghostRows l gone en c.players.toNat f) gone en k f c.players.toNat hn h6 (by omega) hlen c.players.toNat 0 (by omega)
  rw [Ahw,List.map_replicate] at hI
  change Is cx (.loop _ _ _ _ [_,_,_,_,.arr 3 (zj c.players.toNat (.agg [ti 0,ti 0,.bool false])) _ _]) _ at hI
  clear ih e
  generalize ghostRows l gone en c.players.toNat f=R at*
  generalize ghostRows l gone en c.players.toNat k=S at*
  generalize ghostRow l gone en c.players.toNat f=r at*
  refine qq ?_
  refine gg [.b (decide ((f:Int)<(k:Int))) true,.w (0≤c.players∧c.players≤c.players∧room (zy c.players) (24:Nat)),.l (zy c.players),.n (zq (zj (zy c.players) (T.agg [ti 0,ti 0,T.bool false]))) (zy c.players),.a _ _,.s (qk 3 (zz zr r)),.w ((0:Nat)<(24:Nat)),.s (qk 0 [qk 3 (zz zr r)]),.t (qk 0 (zz encI R++ [qk 3 (zz zr r)])) (qk 0 (zz encI (R++ [r]))),.w (room (zq (zz encI (R++ [r]))) (24:Nat)),.i zd ((f:Int)+1) ((↑(f+1):Int)),.a _ _] ⟨tP,o_w ⟨(by omega),⟨(by omega),(by (simp [room,appendMax];omega))⟩⟩,o_n (by simp),o_a hI,oW,o_l (Aag rfl (Aae (e:=r) rfl Aah)),o_w (by (simp [room,appendMax];omega)),oI,o_a ih1,trivial⟩ ?_
  exact ge
theorem Ai9 {l:List InputL} {gone en:Int} {c:Config} {k:Nat} (hc:1≤c.players) (hi: ∀x∈l,∀i∈x,i.right=true) (hl:(l.length:Int)=c.players): ∀i∈ghostRows l gone en c.players.toNat k,(i.length:Int)=c.players∧ ∀x∈i,x.right=true:=fun i h=>by
 obtain ⟨f,_,rfl⟩:=List.mem_map.1 h
 refine ⟨by simp [ghostRow];omega,fun x hx=> ?_⟩
 obtain ⟨p,hp,rfl⟩:=List.mem_map.1 hx
 have hp:=List.mem_range.1 hp
 unfold ghostAt
 split
 ·rename_i h
  exact hi _ (Aav (by omega)) _ (Aav (by omega))
 ·rfl
theorem Aa9 (c:Config) (l:List InputL) (gone en:Int) (k:Nat) (hr:c.right=true) (hl:(l.length:Int)=c.players) (hk:k≤100) (hi: ∀x∈l,∀i∈x,i.right=true):
  Is cx (.call 49 [.t c.enc,.t (.sl 1 (l.map encI)),vi gone,vi en,vi k] []) ⟨.ret,[.t (worldAt c (ghostRows l gone en c.players.toNat k)).enc,vi 0],[]⟩:=by
 have hcr:=Config.right_iff.1 hr
 have hN:=Af6 c
 rw [Config.grid_of hr,Config.err_of hr] at hN
 have hL:=Aez c l gone en k c.players.toNat (by omega) (by omega) (by omega) hk k 0 (by omega)
 have hR:=AjD c (ghostRows l gone en c.players.toNat k) hr (Ai9 (by omega) hi hl) (by simp [ghostRows];omega)
 change Is cx (.loop _ _ _ _ [_,_,_,.arr 1 [] _ _]) _ at hL
 have hlen:(ghostRows l gone en c.players.toNat k).length=k:=by simp [ghostRows]
 clear hi
 generalize worldAt c (ghostRows l gone en c.players.toNat k)=W at*
 generalize ghostRows l gone en c.players.toNat k=R at*
 refine qq ?_
 refine gg [.a _ _,.b (0 !=0) false,.n (zq (zz encI l)) (zq l),.b ((↑(zq l):Int) !=c.players) false,.ff,.ff,.b (decide ((k:Int)<0)) false,.ff,.ff,.b (decide ((k:Int)>10000)) false,.a _ _,.a _ _,.b (flats [World.enc W,ti 0]) false] ⟨o_a hN,bK,o_n (by simp),f_brn (by assumption),bK,fP,o_a hL,o_a hR,bK,trivial⟩ ?_
 exact ge
end Go.Eva.S4
namespace Go.Eva.S4
theorem Afg:Fn cx 51 [] (.bool true):=by
 have hG:=Aa9 ⟨1,1,1,1,0⟩ [[]] (-1) 0 2 (by decide) (by decide) (by decide) (by simp)
 have hw:=Ag4 (c:=⟨1,1,1,1,0⟩) (rows:=ghostRows [[]] (-1) 0 1 2) (Ac5 (by decide)) (by omega) (by simp [ghostRows]) (Ai9 (c:=⟨1,1,1,1,0⟩) (by decide) (by simp) (by decide))
 change WFine _ (worldAt ⟨1,1,1,1,0⟩ (ghostRows [[]] (-1) 0 (1:Int).toNat 2)) 2 at hw
 obtain ⟨k,hk⟩: ∃k:Nat,k=2:=⟨_,rfl⟩
 have hreg:=hw.regs
 have hl:(worldAt ⟨1,1,1,1,0⟩ (ghostRows [[]] (-1) 0 (1:Int).toNat 2)).regions.length=1:=by
  have:z0 ⟨1,1,1,1,0⟩=1:=by decide
  omega
 have hf:=(hw.sane 0 (by omega)).2.1
 clear hw hreg hk
 simp only at hG hl hf
 generalize worldAt ⟨1,1,1,1,0⟩ (ghostRows [[]] (-1) 0 (1:Int).toNat 2)=W at*
 obtain ⟨R,O⟩:=W
 simp only at hl hf hG
 match R,hl with
 | [⟨f,E⟩],_=>
  change f=2 at hf
  subst hf
  refine qq ?_
  refine gg [.a _ _,.b (0==0) true,.tt,.tt,.n (zq (zz zt [Region.mk 2 E])) 1,.tt,.tt,.b (1==1) true,.tt,.tt,.w (0≤(0:Int)),.l 0,.g [zt (Region.mk 2 E)] 0 (zt (Region.mk 2 E)),.tt,.tt,.tt] ⟨o_a hG,bK,nK,bK,oW,oG,trivial⟩ ?_
  refine gg [.tt] trivial ?_
  exact ge
end Go.Eva.S4
namespace Go.Eva.S4
theorem Acl (l:List Entity) (e:Entity) (hn:small l): ∀(d k:Nat),k+d=l.length→
  Is cx (.loop 58 [0,0,1,1,1] 1 [.all 0 none,.ptr 1 0 0,vi k] [.arr 9 (l.map zm) none false,.one 9 (.t e.enc) false])
   ⟨.exit 0,[.all 0 none,.ptr 1 0 0,vi (match (l.drop k).findIdx? fun x=>decide (x.id≥e.id) with|some j=>k+j|none=>l.length:Nat)],[.arr 9 (l.map zm) none false,.one 9 (.t e.enc) false]⟩:=by
 unfold small at hn
 intro d
 induction d with
 |zero=>
  intro k hk
  rw [Aac (by omega)]
  refine qq ?_
  refine gg [.n (zq (zz zm l)) (zq l),.b (decide ((k:Int)<(↑(zq l):Int))) false,.ff,.ff,.ff,.ff,.ff,.ff,.ff,.ff,.ff] ⟨o_n (by simp),fP,trivial⟩ ?_
  refine rT (a:=qz (qx 0) [qy 0 none,V.ptr 1 0 0,vi (k:Int)] [qv 9 (zz zm l) none false,qg 9 (V.t (zm e)) false]) ?_
  ((have hq:k=l.length:=by omega);subst hq;rfl)
 |succ d ih=>
  intro k hk
  have hlt:k<l.length:=by omega
  have ih1:=ih (k+1) (by omega)
  clear ih
  rw [Aaf hlt,List.findIdx?_cons]
  by_cases hp:(gt l k).id≥e.id
  ·rw [show decide ((gt l k).id≥e.id)=true by simpa using hp,if_pos rfl]
   clear ih1
   refine qq ?_
   refine gg [.n (zq (zz zm l)) (zq l),.b (decide ((k:Int)<(↑(zq l):Int))) true,.tt,.tt,.w (0≤(k:Int)),.n (zy (k:Int)) k,.w (k<zq (zz zm l)),.tt,.tt,.tt,.g (zz zm l) k (zm (gt l k)),.tt,.tt,.tt,.b (decide ((gt l k).id<e.id)) false] ⟨o_n (by simp),tP,oW,nK,o_w (by (simp;omega)),o_gt rfl (by assumption) (by intro h;cases h),fP,trivial⟩ ?_
   exact ge
  ·rw [show decide ((gt l k).id≥e.id)=false by simpa using hp,if_neg (by simp)]
   cases hq:(l.drop (k+1)).findIdx? fun x=>decide (x.id≥e.id) with
   |none=>
    rw [hq] at ih1
    refine qq ?_
    refine gg [.n (zq (zz zm l)) (zq l),.b (decide ((k:Int)<(↑(zq l):Int))) true,.tt,.tt,.w (0≤(k:Int)),.n (zy (k:Int)) k,.w (k<zq (zz zm l)),.tt,.tt,.tt,.g (zz zm l) k (zm (gt l k)),.tt,.tt,.tt,.b (decide ((gt l k).id<e.id)) true,.i zd ((k:Int)+1) ((↑(k+1):Int))] ⟨o_n (by simp),tP,oW,nK,o_w (by (simp;omega)),o_gt rfl (by assumption) (by intro h;cases h),tP,oI,trivial⟩ ?_
    refine gg [.a _ _] ⟨o_a ih1,trivial⟩ ?_
    exact ge
   |some j=>
    rw [hq] at ih1
    refine qq ?_
    refine gg [.n (zq (zz zm l)) (zq l),.b (decide ((k:Int)<(↑(zq l):Int))) true,.tt,.tt,.w (0≤(k:Int)),.n (zy (k:Int)) k,.w (k<zq (zz zm l)),.tt,.tt,.tt,.g (zz zm l) k (zm (gt l k)),.tt,.tt,.tt,.b (decide ((gt l k).id<e.id)) true,.i zd ((k:Int)+1) ((↑(k+1):Int))] ⟨o_n (by simp),tP,oW,nK,o_w (by (simp;omega)),o_gt rfl (by assumption) (by intro h;cases h),tP,oI,trivial⟩ ?_
    refine gg [.a _ _] ⟨o_a ih1,trivial⟩ ?_
    refine rt (a:=qz (qx 0)
     [qy 0 none,V.ptr 1 0 0,
      vi
       (↑(match some j with
         |some j=>k+1+j
         |none=>zq l):
        Int)]
     [qv 9 (zz zm l) none false,qg 9 (V.t (zm e)) false]) (by kernel_rfl) ?_
    (simp;omega)
theorem Aa8 (l:List Entity) (e:Entity) (hn:small l):Is cx (.call 58 [.all 0 none,.t e.enc] [.arr 9 (l.map zm) none false]) ⟨.ret,[.all 1 none],[.dead,.arr 9 ((put1 l e).map zm) none false]⟩:=by
 have hF:=Abf l e.id hn
 have hn':l.length≤1000000:=hn
 unfold find at hF
 unfold put1
 cases hq:l.findIdx? fun x=>x.id==e.id with
 |some k=>
  rw [Ab0 hq] at hF
  refine qq ?_
  refine gg [.a _ _,.b (flats [ti (k:Int)]) true,.b (decide ((k:Int)≥0)) true] ⟨o_a hF,bK,bK,trivial⟩ ?_
  exact ge
 |none=>
  rw [AbV hq] at hF
  have h:=Acl l e hn l.length 0 (by omega)
  rw [List.drop_zero] at h
  unfold ins
  cases hp:l.findIdx? fun x=>decide (x.id≥e.id) with
  |some k=>
   rw [hp] at h
   simp only [Nat.zero_add] at h
   have hk:=(List.findIdx?_eq_some_iff_getElem.1 hp).1
   refine qq ?_
   refine gg [.a _ _,.b (flats [ti (-1)]) true,.b (decide (-1≥0)) false,.a _ _,.w (0≤(k:Int)),.n (zy (k:Int)) k,.w ((0:Nat)≤k∧k≤zq (zz zm l)),.l 0,.n (k-0) k,.w (0≤(k:Int)),.n (zy (k:Int)) k,.w (k≤zq (zz zm l)∧zq (zz zm l)≤zq (zz zm l)),.n (0+k) k,.n (zq (zz zm l)-k) (zq l-k)] ⟨o_a hF,bK,bK,o_a h,oW,nK,o_w ⟨(by omega),(by (simp [room,appendMax];omega))⟩,nK,oW,nK,o_w ⟨(by (simp [room,appendMax];omega)),(by omega)⟩,oN,o_n (by simp),trivial⟩ ?_
   refine bO ?_ ?_
   all_goals
    refine gg [.w ((0:Nat)<(72:Nat)),.t (qk 0 (zw k (zk 0 (zz zm l)))) (qk 0 (zz zm (zw k l))),.s (qk 0 (zz zm (zw k l))),.w (room (zq (zz zm (zw k l))) (72:Nat)),.w ((0:Nat)<(72:Nat)),.t (qk 0 [zm e]) (qk 0 (zz zm [e])),.t (qk 0 (zz zm (zw k l)++zz zm [e])) (qk 0 (zz zm (zw k l++ [e]))),.w (room (zq (zz zm (zw k l++ [e]))) (72:Nat)),.w ((0:Nat)<(72:Nat)),.t (qk 0 (zw (zq l-k) (zk k (zz zm l)))) (qk 0 (zz zm (zw (zq l-k) (zk k l)))),.t (qk 0 (zz zm (zw k l++ [e])++zz zm (zw (zq l-k) (zk k l)))) (qk 0 (zz zm (zw k l++ [e]++zw (zq l-k) (zk k l)))),.w (room (zq (zz zm (zw k l++ [e]++zw (zq l-k) (zk k l)))) (72:Nat))] ⟨oW,o_l (nm_eq (AaL (AbO rfl)) (by kernel_rfl)),o_w (by (simp [room,appendMax];omega)),oW,o_l (Aae rfl Aah),o_l (Aag rfl rfl),o_w (by (simp [room,appendMax];omega)),oW,o_l (AaL (AbO rfl)),o_l (Aag rfl rfl),o_w (by (simp [room,appendMax];omega)),trivial⟩ ?_
    refine rT (a:=qz qj [qy 1 none] [Ob.dead,qv 9 (zz zm (zw k l++ [e]++zw (zq l-k) (zk k l))) none false]) ?_
    (first|(simp;done)|(simp;rw [List.take_of_length_le (by simp)]))
  |none=>
   rw [hp] at h
   simp only at h
   refine qq ?_
   refine gg [.a _ _,.b (flats [ti (-1)]) true,.b (decide (-1≥0)) false,.a _ _,.w (0≤(↑(zq l):Int)),.n (zy (↑(zq l):Int)) (zq l),.w ((0:Nat)≤zq l∧zq l≤zq (zz zm l)),.l 0,.n (zq l-0) (zq l),.w (0≤(↑(zq l):Int)),.n (zy (↑(zq l):Int)) (zq l),.w (zq l≤zq (zz zm l)∧zq (zz zm l)≤zq (zz zm l)),.n (0+zq l) (zq l),.n (zq (zz zm l)-zq l) 0] ⟨o_a hF,bK,bK,o_a h,oW,nK,o_w ⟨(by omega),(by simp)⟩,nK,oW,nK,o_w ⟨(by simp),(by omega)⟩,oN,o_n (by simp),trivial⟩ ?_
   refine bO ?_ ?_
   all_goals
    refine gg [.w ((0:Nat)<(72:Nat)),.t (qk 0 (zw (zq l) (zk 0 (zz zm l)))) (qk 0 (zz zm l)),.s (qk 0 (zz zm l)),.w (room (zq (zz zm l)) (72:Nat)),.w ((0:Nat)<(72:Nat)),.t (qk 0 [zm e]) (qk 0 (zz zm [e])),.t (qk 0 (zz zm l++zz zm [e])) (qk 0 (zz zm (l++ [e]))),.w (room (zq (zz zm (l++ [e]))) (72:Nat)),.w ((0:Nat)<(72:Nat)),.s (qk 0 []),.t (qk 0 (zz zm (l++ [e])++ [])) (qk 0 (zz zm (l++ [e]))),.w (room (zq (zz zm (l++ [e]))) (72:Nat))] ⟨oW,o_l (nm_eq (AaL (AbO rfl)) (by simp)),o_w (by (simp [room,appendMax];omega)),oW,o_l (Aae rfl Aah),o_l (Aag rfl rfl),o_w (by (simp [room,appendMax];omega)),oW,o_l (nm_eq (Aag rfl Aah) (by simp)),o_w (by (simp [room,appendMax];omega)),trivial⟩ ?_
    refine rT (a:=qz qj [qy 1 none] [Ob.dead,qv 9 (zz zm (l++ [e])) none false]) ?_
    (first|(simp;done)|(simp;rw [List.take_of_length_le (by simp)]))
end Go.Eva.S4