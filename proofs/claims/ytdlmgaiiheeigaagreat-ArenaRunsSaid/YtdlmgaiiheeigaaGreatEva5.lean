/- A reading of the program, proved sound against the model, and what its functions answer by it: part 5. -/
import Derived.Test.YtdlmgaiiheeigaaGreatEva4
set_option linter.unusedSimpArgs false
set_option linter.unusedVariables false
open List renaming length → zq, map → zz, replicate → zj, set → zx, take → zw, drop → zk
open Int renaming toNat → zy, tmod → zg, fdiv → zh
open Go.IntKind renaming i64 → zd, u64 → zf, wrap → zp
open BitVec renaming ofInt → zb
open Go.Eva.Entity renaming enc → zm, less → z8, right → z9, mk → qw
open Go.Eva.Cross renaming enc → zn, less → z7
open Go.Eva.Input renaming enc → zr
open Go.Eva.Region renaming enc → zt
open Go.Eva.Config renaming regions → z0, near → z6
open Go.Eva.Wp renaming ev → qq
open Go.Eva.Res renaming mk → qz
open Go.Eva.Ex renaming ret → qj, exit → qx
open Go.Eva.Ob renaming arr → qv, one → qg
open Go.Eva.T renaming sl → qk
open Go.Eva.V renaming all → qy
namespace Go.Eva.S4
theorem AfF (g:Config) (os:List T) (hg:g.right=true): ∀(d j:Nat) (rs:List Region),((j+d:Nat):Int)=g.players→(rs.length:Int)=g.regions→(∀s∈rs,s.ents.length≤j)→
  Is cx (.loop 37 [0,1,0,1,1,1,1] 0 [.ptr 0 0 0,.ptr 1 0 0,.ptr 2 0 0,vi (j+1:Nat)] [.one 2 (.agg [.fit 2 [],.fit 1 []]) false,.one 5 (.t g.enc) false,.one 2 (.agg [.all 3 none,.all 4 none]) false,.arr 2 (rs.map zt) (some 0) false,.arr 1 os (some 0) false])
   ⟨.exit 0,[.ptr 0 0 0,.ptr 1 0 0,.ptr 2 0 0,vi (j+d+1:Nat)],[.one 2 (.agg [.fit 2 [],.fit 1 []]) false,.one 5 (.t g.enc) false,.one 2 (.agg [.all 3 none,.all 4 none]) false,.arr 2 ((beginP g.cols g.regions d (j+1:Nat) rs).map zt) (some 0) false,.arr 1 os (some 0) false]⟩:=by
 have hgr:=Config.right_iff.1 hg
 have hgl:= @Config.regions_le g
 have hml:=Config.mul_le hg
 have hre:g.regions=g.cols*g.rows:=by simp [z0,hg]
 intro d
 induction d with
 |zero=>
  intro j rs hj hl hb
  rw [beginP]
  clear hre
  refine qq ?_
  refine gg [.b (decide ((↑(j+1):Int)≤g.players)) false] ⟨fP,trivial⟩ ?_
  exact ge
 |succ d ih=>
  intro j rs hj hl hb
  obtain ⟨k,hk⟩: ∃k:Nat,zg (j:Int) g.regions=k:=⟨(zg (j:Int) g.regions).toNat,by
   have:=AaE (v:=(j:Int)) (k:=g.regions) (by omega) (by omega);omega⟩
  have hk2:=AaE (v:=(j:Int)) (k:=g.regions) (by omega) (by omega)
  rw [hk] at hk2
  have hkl:k<rs.length:=by omega
  have ej:((j+1:Nat):Int)-1=(j:Nat):=by omega
  have eb:begin1 g.cols g.regions rs (j+1:Nat)=rs.set k ⟨(gt rs k).frame,put1 (gt rs k).ents ⟨(j+1:Nat),1,(k:Int).tmod g.cols*1024+512,(k:Int).tdiv g.cols*1024+512,0,0,100,0,0⟩⟩:=by
   unfold begin1 playerP
   rw [ej,hk]
   rfl
  rw [beginP,eb]
  have hpl:=(@Abl (gt rs k).ents ⟨(j+1:Nat),1,(k:Int).tmod g.cols*1024+512,(k:Int).tdiv g.cols*1024+512,0,0,100,0,0⟩).2
  have hbk:=hb _ (Aa3 hkl)
  have ih1:=ih (j+1) (rs.set k ⟨(gt rs k).frame,put1 (gt rs k).ents ⟨(j+1:Nat),1,(k:Int).tmod g.cols*1024+512,(k:Int).tdiv g.cols*1024+512,0,0,100,0,0⟩⟩) (by omega) (by simpa using hl) fun s hs=>by
   rcases Ah2 hs with rfl|hs
   ·simp only;omega
   ·have:=hb s hs;omega
  have hC:=AfG g k
  have his:g.is k=true:=by rw [Config.is_iff hg];omega
  simp only [Config.cornerX,Config.cornerY,his,if_true] at hC
  have q1:=AaR (v:=(k:Int)) (k:=g.cols) (m:=g.rows) (by omega) (by omega) (by omega)
  have q2:=AaE (v:=(k:Int)) (k:=g.cols) (by omega) (by omega)
  have hG:=Aaw g
  have hput:=Aba (gt rs k).ents [⟨(j+1:Nat),1,(k:Int).tmod g.cols*1024+512,(k:Int).tdiv g.cols*1024+512,0,0,100,0,0⟩] (by omega) (by simp)
  change Is cx _ ⟨_,_,[.arr 9 ((put1 (gt rs k).ents ⟨(j+1:Nat),1,(k:Int).tmod g.cols*1024+512,(k:Int).tdiv g.cols*1024+512,0,0,100,0,0⟩).map zm) none false]⟩ at hput
  generalize put1 (gt rs k).ents ⟨(j+1:Nat),1,(k:Int).tmod g.cols*1024+512,(k:Int).tdiv g.cols*1024+512,0,0,100,0,0⟩=B at*
  clear ih eb hre hb his
  rw [show j+1+d+1=j+(d+1)+1 by omega] at ih1
  refine qq ?_
  refine gg [.b (decide ((↑(j+1):Int)≤g.players)) true,.i zd ((↑(j+1):Int)-1) (j:Int),.a _ _,.w (z0 g≠(0:Int)),.t (ti (zg (j:Int) (z0 g))) (ti (k:Int)),.a _ _,.i zd (zg (k:Int) g.cols*1024+512) (zg (k:Int) g.cols*1024+512),.i zd (Int.tdiv (k:Int) g.cols*1024+512) (Int.tdiv (k:Int) g.cols*1024+512),.w (0≤(k:Int)),.n (zy (k:Int)) k,.w (k<zq (zz zt rs)),.g (zz zt rs) k (zt (gt rs k)),.a _ _,.w (0≤(k:Int)),.n (zy (k:Int)) k,.w (k<zq (zz zt rs))] ⟨tP,oI,o_a hG,oW,o_t (by rw [hk]),o_a hC,oI,oI,oW,nK,o_w (by (simp;omega)),o_gt rfl (by assumption) (by intro h;cases h),o_a hput,oW,nK,o_w (by (simp;omega)),trivial⟩ ?_
  refine gg [.s (qk 9 (zz zm B)),.g (zz zt rs) k (zt (gt rs k)),.t (qk 0 (zx (zz zt rs) k (T.agg [ti (gt rs k).frame,qk 9 (zz zm B)]))) (qk 0 (zz zt (zx rs k (Region.mk (gt rs k).frame B)))),.i zd ((↑(j+1):Int)+1) ((↑(j+1+1):Int)),.a _ _] ⟨o_gt rfl (by assumption) (by intro h;cases h),o_l (Aal (e:=Region.mk (gt rs k).frame B) rfl rfl),oI,o_a ih1,trivial⟩ ?_
  exact ge
theorem Abu (c:Config) (h:c.right=true):Is cx (.call 37 [.t c.enc] []) ⟨.ret,[.t (beginW c.cols (c.cols*c.rows) c.players.toNat).enc,vi 0],[]⟩:=by
 have hgr:=Config.right_iff.1 h
 have hgl:= @Config.regions_le c
 have hre:c.regions=c.cols*c.rows:=by simp [z0,h]
 have hN:=Abs c
 rw [Config.grid_of h,Config.err_of h] at hN
 have hG:=Aaw c
 have hL:=AfF c (zj c.regions.toNat (qk 15 [])) h c.players.toNat 0 (zj c.regions.toNat ⟨0,[]⟩) (by omega) (by simp;omega) (fun s hs=>by rw [List.eq_of_mem_replicate hs];simp)
 have e1:beginP c.cols c.regions c.players.toNat ((0+1:Nat):Int) (zj c.regions.toNat ⟨0,[]⟩)=(beginW c.cols (c.cols*c.rows) c.players.toNat).regions:=by rw [←hre];rfl
 have e2:zj c.regions.toNat (qk 15 [])=(beginW c.cols (c.cols*c.rows) c.players.toNat).outs.map encL:=by rw [←hre];simp only [beginW,List.map_replicate];rfl
 rw [e1,List.map_replicate] at hL
 generalize hW:beginW c.cols (c.cols*c.rows) c.players.toNat=W at*
 obtain ⟨R,O⟩:=W
 simp only at hL e2⊢
 simp only [Nat.zero_add] at hL
 clear hre e1 hW
 have hfin:(World.enc ⟨R,O⟩)= .agg [.sl 2 (R.map zt),.sl 1 (zj c.regions.toNat (qk 15 []))]:=by rw [e2];rfl
 rw [hfin]
 clear hfin e2
 refine qq ?_
 refine gg [.a _ _,.b (0 !=0) false] ⟨o_a hN,bK,trivial⟩ ?_
 refine bO ?_ ?_
 ·refine gg [.a _ _] ⟨o_a hG,trivial⟩ ?_
  refine bO ?_ ?_
  ·refine gg [.s (T.agg [ti 0,qk 9 []]),.w (0≤z0 c∧z0 c≤z0 c∧room (zy (z0 c)) (32:Nat)),.l (zy (z0 c))] ⟨o_w ⟨(by omega),⟨(by omega),(by (simp [room,appendMax];omega))⟩⟩,trivial⟩ ?_
   refine bO ?_ ?_
   ·refine gg [.a _ _] ⟨o_a hG,trivial⟩ ?_
    refine bO ?_ ?_
    all_goals
     refine gg [.w (0≤z0 c∧z0 c≤z0 c∧room (zy (z0 c)) (24:Nat)),.l (zy (z0 c)),.a _ _] ⟨o_w ⟨(by omega),⟨(by omega),(by (simp [room,appendMax];omega))⟩⟩,o_a hL,trivial⟩ ?_
     exact ge
   ·refine gg [.a _ _,.w (0≤z0 c∧z0 c≤z0 c∧room (zy (z0 c)) (24:Nat)),.l (zy (z0 c)),.a _ _] ⟨o_a hG,o_w ⟨(by omega),⟨(by omega),(by (simp [room,appendMax];omega))⟩⟩,o_a hL,trivial⟩ ?_
    exact ge
  ·refine bO ?_ ?_
   ·refine gg [.a _ _] ⟨o_a hG,trivial⟩ ?_
    refine bO ?_ ?_
    ·refine gg [.s (T.agg [ti 0,qk 9 []]),.w (0≤z0 c∧z0 c≤z0 c∧room (zy (z0 c)) (32:Nat)),.l (zy (z0 c))] ⟨o_w ⟨(by omega),⟨(by omega),(by (simp [room,appendMax];omega))⟩⟩,trivial⟩ ?_
     refine bO ?_ ?_
     all_goals
      refine gg [.w (0≤z0 c∧z0 c≤z0 c∧room (zy (z0 c)) (24:Nat)),.l (zy (z0 c)),.a _ _] ⟨o_w ⟨(by omega),⟨(by omega),(by (simp [room,appendMax];omega))⟩⟩,o_a hL,trivial⟩ ?_
      exact ge
    ·refine bO ?_ ?_
     ·refine gg [.w (0≤z0 c∧z0 c≤z0 c∧room (zy (z0 c)) (24:Nat)),.l (zy (z0 c))] ⟨o_w ⟨(by omega),⟨(by omega),(by (simp [room,appendMax];omega))⟩⟩,trivial⟩ ?_
      refine bO ?_ ?_
      all_goals
       refine gg [.s (T.agg [ti 0,qk 9 []]),.w (0≤z0 c∧z0 c≤z0 c∧room (zy (z0 c)) (32:Nat)),.l (zy (z0 c)),.a _ _] ⟨o_w ⟨(by omega),⟨(by omega),(by (simp [room,appendMax];omega))⟩⟩,o_a hL,trivial⟩ ?_
       exact ge
     ·refine bO ?_ ?_
      ·refine gg [.s (T.agg [ti 0,qk 9 []]),.w (0≤z0 c∧z0 c≤z0 c∧room (zy (z0 c)) (32:Nat)),.l (zy (z0 c)),.w (0≤z0 c∧z0 c≤z0 c∧room (zy (z0 c)) (24:Nat)),.l (zy (z0 c)),.a _ _] ⟨o_w ⟨(by omega),⟨(by omega),(by (simp [room,appendMax];omega))⟩⟩,o_w ⟨(by omega),⟨(by omega),(by (simp [room,appendMax];omega))⟩⟩,o_a hL,trivial⟩ ?_
       exact ge
      ·refine gg [.w (0≤z0 c∧z0 c≤z0 c∧room (zy (z0 c)) (24:Nat)),.l (zy (z0 c)),.s (T.agg [ti 0,qk 9 []]),.w (0≤z0 c∧z0 c≤z0 c∧room (zy (z0 c)) (32:Nat)),.l (zy (z0 c)),.a _ _] ⟨o_w ⟨(by omega),⟨(by omega),(by (simp [room,appendMax];omega))⟩⟩,o_w ⟨(by omega),⟨(by omega),(by (simp [room,appendMax];omega))⟩⟩,o_a hL,trivial⟩ ?_
       exact ge
   ·refine bO ?_ ?_
    ·refine gg [.s (T.agg [ti 0,qk 9 []]),.w (0≤z0 c∧z0 c≤z0 c∧room (zy (z0 c)) (32:Nat)),.l (zy (z0 c)),.a _ _,.w (0≤z0 c∧z0 c≤z0 c∧room (zy (z0 c)) (24:Nat)),.l (zy (z0 c)),.a _ _] ⟨o_w ⟨(by omega),⟨(by omega),(by (simp [room,appendMax];omega))⟩⟩,o_a hG,o_w ⟨(by omega),⟨(by omega),(by (simp [room,appendMax];omega))⟩⟩,o_a hL,trivial⟩ ?_
     exact ge
    ·refine gg [.a _ _] ⟨o_a hG,trivial⟩ ?_
     refine bO ?_ ?_
     ·refine gg [.s (T.agg [ti 0,qk 9 []]),.w (0≤z0 c∧z0 c≤z0 c∧room (zy (z0 c)) (32:Nat)),.l (zy (z0 c)),.w (0≤z0 c∧z0 c≤z0 c∧room (zy (z0 c)) (24:Nat)),.l (zy (z0 c)),.a _ _] ⟨o_w ⟨(by omega),⟨(by omega),(by (simp [room,appendMax];omega))⟩⟩,o_w ⟨(by omega),⟨(by omega),(by (simp [room,appendMax];omega))⟩⟩,o_a hL,trivial⟩ ?_
      exact ge
     ·refine gg [.w (0≤z0 c∧z0 c≤z0 c∧room (zy (z0 c)) (24:Nat)),.l (zy (z0 c)),.s (T.agg [ti 0,qk 9 []]),.w (0≤z0 c∧z0 c≤z0 c∧room (zy (z0 c)) (32:Nat)),.l (zy (z0 c)),.a _ _] ⟨o_w ⟨(by omega),⟨(by omega),(by (simp [room,appendMax];omega))⟩⟩,o_w ⟨(by omega),⟨(by omega),(by (simp [room,appendMax];omega))⟩⟩,o_a hL,trivial⟩ ?_
      exact ge
 ·refine gg [.a _ _] ⟨o_a hG,trivial⟩ ?_
  refine bO ?_ ?_
  ·refine gg [.s (T.agg [ti 0,qk 9 []]),.w (0≤z0 c∧z0 c≤z0 c∧room (zy (z0 c)) (32:Nat)),.l (zy (z0 c)),.a _ _,.w (0≤z0 c∧z0 c≤z0 c∧room (zy (z0 c)) (24:Nat)),.l (zy (z0 c)),.a _ _] ⟨o_w ⟨(by omega),⟨(by omega),(by (simp [room,appendMax];omega))⟩⟩,o_a hG,o_w ⟨(by omega),⟨(by omega),(by (simp [room,appendMax];omega))⟩⟩,o_a hL,trivial⟩ ?_
   exact ge
  ·refine gg [.a _ _] ⟨o_a hG,trivial⟩ ?_
   refine bO ?_ ?_
   ·refine gg [.s (T.agg [ti 0,qk 9 []]),.w (0≤z0 c∧z0 c≤z0 c∧room (zy (z0 c)) (32:Nat)),.l (zy (z0 c)),.w (0≤z0 c∧z0 c≤z0 c∧room (zy (z0 c)) (24:Nat)),.l (zy (z0 c)),.a _ _] ⟨o_w ⟨(by omega),⟨(by omega),(by (simp [room,appendMax];omega))⟩⟩,o_w ⟨(by omega),⟨(by omega),(by (simp [room,appendMax];omega))⟩⟩,o_a hL,trivial⟩ ?_
    exact ge
   ·refine gg [.w (0≤z0 c∧z0 c≤z0 c∧room (zy (z0 c)) (24:Nat)),.l (zy (z0 c)),.s (T.agg [ti 0,qk 9 []]),.w (0≤z0 c∧z0 c≤z0 c∧room (zy (z0 c)) (32:Nat)),.l (zy (z0 c)),.a _ _] ⟨o_w ⟨(by omega),⟨(by omega),(by (simp [room,appendMax];omega))⟩⟩,o_w ⟨(by omega),⟨(by omega),(by (simp [room,appendMax];omega))⟩⟩,o_a hL,trivial⟩ ?_
    exact ge
theorem AdH (c:Config) (h:c.right=false):Is cx (.call 37 [.t c.enc] []) ⟨.ret,[.t (World.enc ⟨[],[]⟩),vi 10],[]⟩:=by
 have hN:=Abs c
 rw [show c.err=10 by simp [Config.err,h]] at hN
 refine qq ?_
 refine gg [.a _ _,.b (10 !=0) true] ⟨o_a hN,bK,trivial⟩ ?_
 exact ge
theorem Anq {rs:List Region} {i:Nat} (h:i<rs.length):entsAll (rs.drop i)=(gt rs i).ents++entsAll (rs.drop (i+1)):=by unfold entsAll;rw [Aae h];simp
theorem Akt {l:List Cross} {i:Nat} (h:i<l.length):handed (l.drop i)=(if (gt l i).kind=1 then [(gt l i).ent] else [])++handed (l.drop (i+1)):=by
 unfold handed;rw [Ae9 _ h];split<;>simp_all
theorem AgT {os:List CrossL} {i:Nat} (h:i<os.length):handedAll (os.drop i)=handed (gt os i)++handedAll (os.drop (i+1)):=by unfold handedAll;rw [Aae h];simp
theorem Afs (w:World) (hn:w.regions.length≤1000) (hs:(entsAll w.regions).length≤100000): ∀(d i:Nat) (A:List Entity),i+d=w.regions.length→A.length+(entsAll (w.regions.drop i)).length=(entsAll w.regions).length→
  Is cx (.loop 46 [0,1,0,1,1] 0 [.ptr 0 0 0,.all 1 none,.t (.sl 2 (w.regions.map zt)),vi w.regions.length,vi i] [.one 2 (.t w.enc) false,.arr 9 (A.map zm) none false])
   ⟨.exit 0,[.ptr 0 0 0,.all 1 none,.t (.sl 2 (w.regions.map zt)),vi w.regions.length,vi w.regions.length],[.one 2 (.t w.enc) false,.arr 9 ((A++entsAll (w.regions.drop i)).map zm) none false]⟩:=by
 obtain ⟨R,O⟩:=w
 simp only at*
 intro d
 induction d with
 |zero=>
  intro i A hi hA
  rw [Aac (by omega)]
  refine qq ?_
  refine gg [.b (decide ((i:Int)<(↑(zq R):Int))) false] ⟨fP,trivial⟩ ?_
  refine rT (a:=qz (qx 0) [V.ptr 0 0 0,qy 1 none,V.t (qk 2 (zz zt R)),vi (↑(zq R):Int),vi (i:Int)] [qg 2 (V.t (World.enc (World.mk R O))) false,qv 9 (zz zm A) none false]) ?_
  ((have hq:i=R.length:=by omega);subst hq;simp [entsAll])
 |succ d ih=>
  intro i A hi hA
  have hlt:i<R.length:=by omega
  rw [Anq hlt] at hA⊢
  rw [List.length_append] at hA
  have ih1:=ih (i+1) (A++(gt R i).ents) (by omega) (by rw [List.length_append];omega)
  clear ih
  rw [←List.append_assoc]
  refine qq ?_
  refine gg [.b (decide ((i:Int)<(↑(zq R):Int))) true,.w (0≤(i:Int)),.n (zy (i:Int)) i,.g (zz zt R) i (zt (gt R i)),.w ((0:Nat)<(72:Nat)),.s (qk 0 (zz zm (gt R i).ents)),.t (qk 0 (zz zm A++zz zm (gt R i).ents)) (qk 0 (zz zm (A++(gt R i).ents))),.w (room (zq (zz zm (A++(gt R i).ents))) (72:Nat)),.i zd ((i:Int)+1) ((↑(i+1):Int)),.a _ _] ⟨tP,oW,nK,o_gt rfl (by assumption) (by intro h;cases h),oW,o_l (Aam rfl rfl),o_w (by (simp [room,appendMax];omega)),oI,o_a ih1,trivial⟩ ?_
  exact ge
theorem Ahr (os:List T) (n i:Nat) (l:List Cross) (hl:l.length≤1000): ∀(d j:Nat) (A:List Entity),j+d=l.length→A.length≤500000+j→
  Is cx (.loop 46 [0,1,1,0,0,1,1,0,0,1,0,1,1,1] 0 [.all 0 none,.t (.sl 1 os),vi n,vi i,.t (.sl 15 (l.map zn)),vi l.length,vi j] [.arr 9 (A.map zm) none false])
   ⟨.exit 4,[.all 0 none,.t (.sl 1 os),vi n,vi i,.t (.sl 15 (l.map zn)),vi l.length,vi l.length],[.arr 9 ((A++handed (l.drop j)).map zm) none false]⟩:=by
 intro d
 induction d with
 |zero=>
  intro j A hj hA
  rw [Aac (by omega)]
  refine qq ?_
  refine gg [.b (decide ((j:Int)<(↑(zq l):Int))) false] ⟨fP,trivial⟩ ?_
  refine rT (a:=qz (qx 4) [qy 0 none,V.t (qk 1 os),vi (n:Int),vi (i:Int),V.t (qk 15 (zz zn l)),vi (↑(zq l):Int),vi (j:Int)] [qv 9 (zz zm A) none false]) ?_
  ((have hq:j=l.length:=by omega);subst hq;simp [handed])
 |succ d ih=>
  intro j A hj hA
  have hlt:j<l.length:=by omega
  rw [Akt hlt]
  by_cases hk:(gt l j).kind=1
  ·have ih1:=ih (j+1) (A++ [(gt l j).ent]) (by omega) (by simp;omega)
   rw [if_pos hk,←List.append_assoc]
   clear ih
   refine qq ?_
   refine gg [.b (decide ((j:Int)<(↑(zq l):Int))) true,.w (0≤(j:Int)),.n (zy (j:Int)) j,.g (zz zn l) j (zn (gt l j)),.b ((gt l j).kind==1) true,.w ((0:Nat)<(72:Nat)),.t (qk 0 [zm (gt l j).ent]) (qk 0 (zz zm [(gt l j).ent])),.t (qk 0 (zz zm A++zz zm [(gt l j).ent])) (qk 0 (zz zm (A++ [(gt l j).ent]))),.w (room (zq (zz zm (A++ [(gt l j).ent]))) (72:Nat)),.i zd ((j:Int)+1) ((↑(j+1):Int)),.a _ _] ⟨tP,oW,nK,o_gt rfl (by assumption) (by intro h;cases h),t_bre (by assumption),oW,o_l (Aaf rfl Aap),o_l (Aam rfl rfl),o_w (by (simp [room,appendMax];omega)),oI,o_a ih1,trivial⟩ ?_
   exact ge
  ·have ih1:=ih (j+1) A (by omega) (by omega)
   rw [if_neg hk,List.nil_append]
   clear ih
   refine qq ?_
   refine gg [.b (decide ((j:Int)<(↑(zq l):Int))) true,.w (0≤(j:Int)),.n (zy (j:Int)) j,.g (zz zn l) j (zn (gt l j)),.b ((gt l j).kind==1) false,.i zd ((j:Int)+1) ((↑(j+1):Int)),.a _ _] ⟨tP,oW,nK,o_gt rfl (by assumption) (by intro h;cases h),f_bre (by assumption),oI,o_a ih1,trivial⟩ ?_
   exact ge
theorem Ahn (os:List CrossL) (hn:os.length≤100) (hs: ∀l∈os,l.length≤1000): ∀(d i:Nat) (A:List Entity),i+d=os.length→A.length≤100000+1000*i→
  Is cx (.loop 46 [0,1,0,1,1,1] 0 [.all 0 none,.t (.sl 1 (os.map encL)),vi os.length,vi i] [.arr 9 (A.map zm) none false])
   ⟨.exit 2,[.all 0 none,.t (.sl 1 (os.map encL)),vi os.length,vi os.length],[.arr 9 ((A++handedAll (os.drop i)).map zm) none false]⟩:=by
 intro d
 induction d with
 |zero=>
  intro i A hi hA
  rw [Aac (by omega)]
  refine qq ?_
  refine gg [.b (decide ((i:Int)<(↑(zq os):Int))) false] ⟨fP,trivial⟩ ?_
  refine rT (a:=qz (qx 2) [qy 0 none,V.t (qk 1 (zz encL os)),vi (↑(zq os):Int),vi (i:Int)] [qv 9 (zz zm A) none false]) ?_
  ((have hq:i=os.length:=by omega);subst hq;simp [handedAll])
 |succ d ih=>
  intro i A hi hA
  have hlt:i<os.length:=by omega
  rw [AgT hlt]
  have hl:=hs _ (Aa3 hlt)
  have hh:(handed (gt os i)).length≤(gt os i).length:=by unfold handed;rw [List.length_map];exact List.length_filter_le ..
  have ih1:=ih (i+1) (A++handed (gt os i)) (by omega) (by rw [List.length_append];omega)
  have h2:=Ahr (os.map encL) os.length i (gt os i) hl (gt os i).length 0 A (by omega) (by omega)
  rw [List.drop_zero] at h2
  clear ih hs hh
  rw [←List.append_assoc]
  generalize handed (gt os i)=hd at*
  refine qq ?_
  refine gg [.b (decide ((i:Int)<(↑(zq os):Int))) true,.w (0≤(i:Int)),.n (zy (i:Int)) i,.g (zz encL os) i (encL (gt os i)),.n (zq (zz zn (gt os i))) (zq (gt os i)),.a _ _,.i zd ((i:Int)+1) ((↑(i+1):Int)),.a _ _] ⟨tP,oW,nK,o_gt rfl (by assumption) (by intro h;cases h),o_n (by simp),o_a h2,oI,o_a ih1,trivial⟩ ?_
  exact ge
theorem AfH {os:List CrossL} (hs: ∀l∈os,l.length≤1000):(handedAll os).length≤1000*os.length:=by
 induction os with
 |nil=>simp [handedAll]
 |cons l os ih=>
  have h1:=ih fun x hx=>hs x (List.mem_cons_of_mem _ hx)
  have h2:=hs l (List.mem_cons_self ..)
  have hh:(handed l).length≤l.length:=by unfold handed;rw [List.length_map];exact List.length_filter_le ..
  have e:handedAll (l::os)=handed l++handedAll os:=rfl
  rw [e,List.length_append,List.length_cons]
  omega
theorem AhG (w:World) (hn:w.regions.length≤1000) (hs:(entsAll w.regions).length≤100000) (ho:w.outs.length≤100) (hl: ∀l∈w.outs,l.length≤1000):Fn cx 46 [w.enc] (.sl 9 ((allL w).map zm)):=by
 have h1:=Afs w hn hs w.regions.length 0 [] (by omega) (by simp)
 rw [List.drop_zero,List.nil_append] at h1
 have h2:=Ahn w.outs ho hl w.outs.length 0 (entsAll w.regions) (by omega) (by omega)
 rw [List.drop_zero] at h2
 have hlen:=AfH hl
 unfold allL
 have h3:=Adr (entsAll w.regions++handedAll w.outs) (by unfold small;simp;omega)
 obtain ⟨R,O⟩:=w
 simp only at*
 generalize entsAll R=E at*
 generalize E++handedAll O=X at*
 generalize sortS z8 X=Y at*
 clear hl hlen
 refine qq ?_
 refine gg [.n (zq (zz zt R)) (zq R),.a _ _,.n (zq (zz encL O)) (zq O),.a _ _,.a _ _] ⟨o_n (by simp),o_a h1,o_n (by simp),o_a h2,o_a h3,trivial⟩ ?_
 exact ge
end Go.Eva.S4
namespace Go.Eva.S4
theorem Ak1 {c:Config} {outs:List CrossL} {r:Int} {l:List Int} {i:Nat} (h:i<l.length):(((l.drop i).filter fun q=>decide (q<(outs.length:Int))).map fun q=>toL (gt outs q.toNat) r).flatten=(if gt l i<(outs.length:Int) then toL (gt outs (gt l i).toNat) r else [])++(((l.drop (i+1)).filter fun q=>decide (q<(outs.length:Int))).map fun q=>toL (gt outs q.toNat) r).flatten:=by
 rw [Aae h,List.filter_cons]
 by_cases h2:gt l i<(outs.length:Int)<;>simp [h2]
theorem Agr (c:Config) (outs:List CrossL) (r:Int) (hr:c.is r=true) (ho:outs.length≤16) (hs: ∀l∈outs,l.length≤400): ∀(d i:Nat) (A:List Cross),i+d=(c.near r).length→A.length≤400*i→
  Is cx (.loop 38 [0,1,0,1,1] 0 [.t (.sl 1 (outs.map encL)),vi r,.all 0 none,.t (.sl 1 ((c.near r).map ti)),vi (c.near r).length,vi i] [.arr 15 (A.map zn) none false])
   ⟨.exit 0,[.t (.sl 1 (outs.map encL)),vi r,.all 0 none,.t (.sl 1 ((c.near r).map ti)),vi (c.near r).length,vi (c.near r).length],[.arr 15 ((A++((((c.near r).drop i).filter fun q=>decide (q<(outs.length:Int))).map fun q=>toL (gt outs q.toNat) r).flatten).map zn) none false]⟩:=by
 have hns:(c.near r).length≤9:=Aa0
 intro d
 induction d with
 |zero=>
  intro i A hi hA
  rw [Aac (by omega)]
  refine qq ?_
  refine gg [.b (decide ((i:Int)<(↑(zq (z6 c r)):Int))) false] ⟨fP,trivial⟩ ?_
  refine rT (a:=qz (qx 0) [V.t (qk 1 (zz encL outs)),vi r,qy 0 none,V.t (qk 1 (zz ti (z6 c r))),vi (↑(zq (z6 c r)):Int),vi (i:Int)] [qv 15 (zz zn A) none false]) ?_
  ((have:i=(c.near r).length:=by omega);subst this;simp)
 |succ d ih=>
  intro i A hi hA
  have hlt:i<(c.near r).length:=by omega
  have hq:=AhZ hr (Aa3 hlt)
  rw [Ak1 (c:=c) hlt]
  have ih0:=ih (i+1) A (by omega) (by omega)
  by_cases h2:gt (c.near r) i<(outs.length:Int)
  ·rw [if_pos h2]
   have hl:=hs _ (Aa3 (show (gt (c.near r) i).toNat<outs.length by omega))
   have hT:=Amx (gt outs (gt (c.near r) i).toNat) r (by unfold small;omega)
   have hTl:= @AjE (gt outs (gt (c.near r) i).toNat) r
   have ih1:=ih (i+1) (A++toL (gt outs (gt (c.near r) i).toNat) r) (by omega) (by rw [List.length_append];omega)
   rw [List.append_assoc] at ih1
   clear ih ih0 hs
   generalize ((((c.near r).drop (i+1)).filter fun q=>decide (q<(outs.length:Int))).map fun q=>toL (gt outs q.toNat) r).flatten=X at*
   generalize toL (gt outs (gt (c.near r) i).toNat) r=W at*
   refine qq ?_
   refine gg [.b (decide ((i:Int)<(↑(zq (z6 c r)):Int))) true,.w (0≤(i:Int)),.n (zy (i:Int)) i,.g (zz ti (z6 c r)) i (ti (gt (z6 c r) i)),.n (zq (zz encL outs)) (zq outs),.b (decide (gt (z6 c r) i<(↑(zq outs):Int))) true,.w (0≤gt (z6 c r) i),.l (zy (gt (z6 c r) i)),.g (zz encL outs) (zy (gt (z6 c r) i)) (encL (gt outs (zy (gt (z6 c r) i)))),.a _ _,.w ((0:Nat)<(120:Nat)),.s (qk 0 (zz zn W)),.t (qk 0 (zz zn A++zz zn W)) (qk 0 (zz zn (A++W))),.w (room (zq (zz zn (A++W))) (120:Nat)),.i zd ((i:Int)+1) ((↑(i+1):Int)),.a _ _] ⟨tP,oW,nK,o_gt rfl (by assumption) (by intro h;cases h),o_n (by simp),t_brp (by assumption),oW,oT,o_a hT,oW,o_l (Aam rfl rfl),o_w (by (simp [room,appendMax];omega)),oI,o_a ih1,trivial⟩ ?_
   exact ge
  ·rw [if_neg h2,List.nil_append]
   clear ih hs
   generalize ((((c.near r).drop (i+1)).filter fun q=>decide (q<(outs.length:Int))).map fun q=>toL (gt outs q.toNat) r).flatten=X at*
   refine qq ?_
   refine gg [.b (decide ((i:Int)<(↑(zq (z6 c r)):Int))) true,.w (0≤(i:Int)),.n (zy (i:Int)) i,.g (zz ti (z6 c r)) i (ti (gt (z6 c r) i)),.n (zq (zz encL outs)) (zq outs),.b (decide (gt (z6 c r) i<(↑(zq outs):Int))) false,.i zd ((i:Int)+1) ((↑(i+1):Int)),.a _ _] ⟨tP,oW,nK,o_gt rfl (by assumption) (by intro h;cases h),o_n (by simp),f_brp (by assumption),oI,o_a ih0,trivial⟩ ?_
   exact ge
theorem AbR (c:Config) (outs:List CrossL) (r:Int) (hr:c.is r=true) (ho:outs.length≤16) (hs: ∀l∈outs,l.length≤400):Is cx (.call 38 [.t c.enc,.t (.sl 1 (outs.map encL)),vi r] []) ⟨.ret,[.t (.sl 15 ((inboxL c outs r).map zn))],[]⟩:=by
 have hN:=AbY c r
 have h:=Agr c outs r hr ho hs (c.near r).length 0 [] (by omega) (by simp)
 rw [List.drop_zero,List.nil_append] at h
 unfold inboxL
 clear hs
 generalize (((c.near r).filter fun q=>decide (q<(outs.length:Int))).map fun q=>toL (gt outs q.toNat) r).flatten=X at*
 have hns:(c.near r).length≤9:=Aa0
 refine qq ?_
 refine gg [.a _ _,.n (zq (zz ti (z6 c r))) (zq (z6 c r)),.a _ _] ⟨o_a hN,o_n (by simp),o_a h,trivial⟩ ?_
 exact ge
theorem Ad9 (c:Config) (w:World) (f:Int) (ins:List Input) (h:WFine c w f) (hf:0≤f∧f<10000) (hl:(ins.length:Int)=c.players) (hi: ∀i∈ins,i.right=true) {r:Nat} (hr:r<w.regions.length):
  Is cx (.call 38 [.t c.enc,.t (.sl 1 (w.outs.map encL)),vi r] []) ⟨.ret,[.t (.sl 15 ((inboxL c w.outs r).map zn))],[]⟩∧
  Is cx (.call 23 [.t c.enc,vi r,.t (gt w.regions r).enc,.t (.sl 3 (ins.map zr)),.t (.sl 15 ((inboxL c w.outs r).map zn))] []) ⟨.ret,[.t (nextR c w ins r).enc,.t (.sl 15 ((nextO c w ins r).map zn)),vi 0],[]⟩:=by
 have hreg:=h.regs
 have hout:=h.outs
 have hgl:= @Config.regions_le c
 have hcr:=Config.right_iff.1 h.right
 have hF:=AeK h hf hl hi hr
 have hb:=Ad5 h hr
 have hs:=h.sane r hr
 refine ⟨AbR c w.outs r hF.is (by omega) (fun l hl=> ?_),Adf c r (gt w.regions r) ins (inboxL c w.outs r) (by omega) (by unfold small;omega) (by omega) (Ag2 hF)⟩
 obtain ⟨k,hk,rfl⟩:=List.mem_iff_getElem.1 hl
 have:=(h.sent k hk).2
 have e:gt w.outs k=w.outs[k]:=by simp [gt,hk]
 rwa [e] at this
theorem AgL (c:Config) (w:World) (f:Int) (ins:List Input) (h:WFine c w f) (hf:0≤f∧f<10000) (hl:(ins.length:Int)=c.players) (hi: ∀i∈ins,i.right=true): ∀(d i:Nat),i+d=w.regions.length→
  Is cx (.loop 34 [0,1,0,1,1,1,1] 0 [.t (.sl 3 (ins.map zr)),.ptr 0 0 0,.ptr 1 0 0,vi 0,.ptr 2 0 0,.ptr 3 0 0,.t (.sl 2 (w.regions.map zt)),vi w.regions.length,vi i] [.one 2 (.t w.enc) false,.one 2 (.agg [.fit 2 [],.fit 1 []]) false,.one 5 (.t c.enc) false,.one 2 (.agg [.all 4 none,.all 5 none]) false,.arr 2 (((List.range i).map (nextR c w ins)).map zt) none false,.arr 1 (((List.range i).map (nextO c w ins)).map encL) none false])
   ⟨.exit 1,[.t (.sl 3 (ins.map zr)),.ptr 0 0 0,.ptr 1 0 0,vi 0,.ptr 2 0 0,.ptr 3 0 0,.t (.sl 2 (w.regions.map zt)),vi w.regions.length,vi w.regions.length],[.one 2 (.t w.enc) false,.one 2 (.agg [.fit 2 [],.fit 1 []]) false,.one 5 (.t c.enc) false,.one 2 (.agg [.all 4 none,.all 5 none]) false,.arr 2 (((List.range w.regions.length).map (nextR c w ins)).map zt) none false,.arr 1 (((List.range w.regions.length).map (nextO c w ins)).map encL) none false]⟩:=by
 have hreg:=h.regs
 have hgl:= @Config.regions_le c
 intro d
 induction d with
 |zero=>
  intro i hi
  obtain rfl:i=w.regions.length:=by omega
  generalize (List.range w.regions.length).map (nextR c w ins)=A at*
  generalize (List.range w.regions.length).map (nextO c w ins)=B at*
  obtain ⟨R,O⟩:=w
  refine qq ?_
  refine gg [.b (decide ((↑(zq R):Int)<(↑(zq R):Int))) false] ⟨fP,trivial⟩ ?_
  exact ge
 |succ d ih=>
  intro i hid
  have hlt:i<w.regions.length:=by omega
  have ih1:=ih (i+1) (by omega)
  obtain ⟨hI,hS⟩:=Ad9 c w f ins h hf hl hi hlt
  have e1:(List.range (i+1)).map (nextR c w ins)=(List.range i).map (nextR c w ins)++ [nextR c w ins i]:=by rw [List.range_succ,List.map_append];rfl
  have e2:(List.range (i+1)).map (nextO c w ins)=(List.range i).map (nextO c w ins)++ [nextO c w ins i]:=by rw [List.range_succ,List.map_append];rfl
  rw [e1,e2] at ih1
  have hA:((List.range i).map (nextR c w ins)).length=i:=by simp
  have hB:((List.range i).map (nextO c w ins)).length=i:=by simp
  clear ih hi e1 e2
  generalize (List.range i).map (nextR c w ins)=A at*
  generalize (List.range i).map (nextO c w ins)=B at*
  generalize (List.range w.regions.length).map (nextR c w ins)=A2 at*
  generalize (List.range w.regions.length).map (nextO c w ins)=B2 at*
  generalize nextR c w ins i=x at*
  generalize nextO c w ins i=y at*
  generalize inboxL c w.outs i=box at*
  obtain ⟨R,O⟩:=w
  simp only at hreg hlt hI hS ih1⊢
  clear h
  refine qq ?_
  refine gg [.b (decide ((i:Int)<(↑(zq R):Int))) true,.w (0≤(i:Int)),.n (zy (i:Int)) i,.g (zz zt R) i (zt (gt R i))] ⟨tP,oW,nK,o_gt rfl (by assumption) (by intro h;cases h),trivial⟩ ?_
  refine bO ?_ ?_
  ·refine gg [.a _ _] ⟨o_a hI,trivial⟩ ?_
   refine bO ?_ ?_
   all_goals
    refine gg [.a _ _,.b (0 !=0) false] ⟨o_a hS,bK,trivial⟩ ?_
    refine bO (bO ?_ (bO (bO ?_ ?_) (bO ?_ ?_))) (bO (bO (bO ?_ ?_) ?_) (bO (bO ?_ ?_) ?_))
    all_goals
     refine gg [.w ((0:Nat)<(32:Nat)),.t (qk 0 [zt x]) (qk 0 (zz zt [x])),.t (qk 0 (zz zt A++zz zt [x])) (qk 0 (zz zt (A++ [x]))),.w (room (zq (zz zt (A++ [x]))) (32:Nat)),.w ((0:Nat)<(24:Nat)),.s (qk 0 [qk 15 (zz zn y)]),.t (qk 0 (zz encL B++ [qk 15 (zz zn y)])) (qk 0 (zz encL (B++ [y]))),.w (room (zq (zz encL (B++ [y]))) (24:Nat)),.i zd ((i:Int)+1) ((↑(i+1):Int)),.a _ _] ⟨oW,o_l (Aaf rfl Aap),o_l (Aam rfl rfl),o_w (by (simp [room,appendMax];omega)),oW,o_l (Aam rfl (Aaf (e:=y) rfl Aap)),o_w (by (simp [room,appendMax];omega)),oI,o_a ih1,trivial⟩ ?_
     exact ge
  ·refine gg [.a _ _,.a _ _,.b (0 !=0) false] ⟨o_a hI,o_a hS,bK,trivial⟩ ?_
   refine bO (bO ?_ (bO (bO ?_ ?_) (bO ?_ ?_))) (bO (bO (bO ?_ ?_) ?_) (bO (bO ?_ ?_) ?_))
   all_goals
    refine gg [.w ((0:Nat)<(32:Nat)),.t (qk 0 [zt x]) (qk 0 (zz zt [x])),.t (qk 0 (zz zt A++zz zt [x])) (qk 0 (zz zt (A++ [x]))),.w (room (zq (zz zt (A++ [x]))) (32:Nat)),.w ((0:Nat)<(24:Nat)),.s (qk 0 [qk 15 (zz zn y)]),.t (qk 0 (zz encL B++ [qk 15 (zz zn y)])) (qk 0 (zz encL (B++ [y]))),.w (room (zq (zz encL (B++ [y]))) (24:Nat)),.i zd ((i:Int)+1) ((↑(i+1):Int)),.a _ _] ⟨oW,o_l (Aaf rfl Aap),o_l (Aam rfl rfl),o_w (by (simp [room,appendMax];omega)),oW,o_l (Aam rfl (Aaf (e:=y) rfl Aap)),o_w (by (simp [room,appendMax];omega)),oI,o_a ih1,trivial⟩ ?_
    exact ge
theorem Age (c:Config) (w:World) (f:Int) (ins:List Input) (h:WFine c w f) (hf:0≤f∧f<10000) (hl:(ins.length:Int)=c.players) (hi: ∀i∈ins,i.right=true):
  Is cx (.loop 34 [0,1,0,1,1,1,1] 0 [.t (.sl 3 (ins.map zr)),.ptr 0 0 0,.ptr 1 0 0,vi 0,.ptr 2 0 0,.ptr 3 0 0,.t (.sl 2 (w.regions.map zt)),vi w.regions.length,vi 0] [.one 2 (.t w.enc) false,.one 2 (.agg [.fit 2 [],.fit 1 []]) false,.one 5 (.t c.enc) false,.one 2 (.agg [.fit 2 [],.fit 1 []]) false])
   ⟨.exit 1,[.t (.sl 3 (ins.map zr)),.ptr 0 0 0,.ptr 1 0 0,vi 0,.ptr 2 0 0,.ptr 3 0 0,.t (.sl 2 (w.regions.map zt)),vi w.regions.length,vi w.regions.length],[.one 2 (.t w.enc) false,.one 2 (.agg [.fit 2 [],.fit 1 []]) false,.one 5 (.t c.enc) false,.one 2 (.agg [.all 4 none,.all 5 none]) false,.arr 2 (((List.range w.regions.length).map (nextR c w ins)).map zt) none false,.arr 1 (((List.range w.regions.length).map (nextO c w ins)).map encL) none false]⟩:=by
 have hreg:=h.regs
 have hgl:= @Config.regions_le c
 have hml:=Config.mul_le h.right
 have hgr:c.regions=c.cols*c.rows:=by simp [z0,h.right]
 have hlt:0<w.regions.length:=by omega
 have ih1:=AgL c w f ins h hf hl hi (w.regions.length-1) 1 (by omega)
 obtain ⟨hI,hS⟩:=Ad9 c w f ins h hf hl hi hlt
 change Is cx (.loop _ _ _ _ [_,_,_,_,.arr 2 [(nextR c w ins 0).enc] _ _,.arr 1 [encL (nextO c w ins 0)] _ _]) _ at ih1
 clear hi hgr
 generalize (List.range w.regions.length).map (nextR c w ins)=A2 at*
 generalize (List.range w.regions.length).map (nextO c w ins)=B2 at*
 generalize nextR c w ins 0=x at*
 generalize nextO c w ins 0=y at*
 generalize inboxL c w.outs (0:Nat)=box at*
 obtain ⟨R,O⟩:=w
 simp only at hreg hlt hI hS ih1⊢
 clear h
 refine qq ?_
 refine gg [.b (decide (0<(↑(zq R):Int))) true,.w (0≤(0:Int)),.l 0,.g (zz zt R) 0 (zt (gt R 0))] ⟨tP,oW,o_gt rfl (by assumption) (by intro h;cases h),trivial⟩ ?_
 refine bO ?_ ?_
 ·refine gg [.a _ _] ⟨o_a hI,trivial⟩ ?_
  refine bO ?_ ?_
  all_goals
   refine gg [.a _ _,.b (0 !=0) false] ⟨o_a hS,bK,trivial⟩ ?_
   refine bO (bO ?_ (bO (bO ?_ ?_) (bO ?_ ?_))) (bO (bO (bO ?_ ?_) ?_) (bO (bO ?_ ?_) ?_))
   all_goals
    refine gg [.w ((0:Nat)<(32:Nat)),.t (qk 0 [zt x]) (qk 0 (zz zt [x])),.t (qk 0 [zt x]) (qk 0 (zz zt [x])),.w (room (zq (zz zt [x])) (32:Nat)),.w ((0:Nat)<(24:Nat)),.s (qk 0 [qk 15 (zz zn y)]),.s (qk 0 [qk 15 (zz zn y)]),.w (room (zq [qk (15:Nat) (zz zn y)]) (24:Nat)),.i zd 1 1,.a _ _] ⟨oW,o_l (Aaf rfl Aap),o_l (Aaf rfl Aap),o_w (by (simp [room,appendMax])),oW,o_w (by (simp [room,appendMax])),oK,o_a ih1,trivial⟩ ?_
    exact ge
 ·refine gg [.a _ _,.a _ _,.b (0 !=0) false] ⟨o_a hI,o_a hS,bK,trivial⟩ ?_
  refine bO (bO ?_ (bO (bO ?_ ?_) (bO ?_ ?_))) (bO (bO (bO ?_ ?_) ?_) (bO (bO ?_ ?_) ?_))
  all_goals
   refine gg [.w ((0:Nat)<(32:Nat)),.t (qk 0 [zt x]) (qk 0 (zz zt [x])),.t (qk 0 [zt x]) (qk 0 (zz zt [x])),.w (room (zq (zz zt [x])) (32:Nat)),.w ((0:Nat)<(24:Nat)),.s (qk 0 [qk 15 (zz zn y)]),.s (qk 0 [qk 15 (zz zn y)]),.w (room (zq [qk (15:Nat) (zz zn y)]) (24:Nat)),.i zd 1 1,.a _ _] ⟨oW,o_l (Aaf rfl Aap),o_l (Aaf rfl Aap),o_w (by (simp [room,appendMax])),oW,o_w (by (simp [room,appendMax])),oK,o_a ih1,trivial⟩ ?_
   exact ge
theorem Ahl (c:Config) (w:World) (f:Int) (ins:List Input) (h:WFine c w f) (hf:0≤f∧f<10000) (hl:(ins.length:Int)=c.players) (hi: ∀i∈ins,i.right=true):
  Is cx (.call 34 [.t c.enc,.t w.enc,.t (.sl 3 (ins.map zr))] []) ⟨.ret,[.t (nextW c w ins).enc,vi 0],[]⟩:=by
 have hr:=h.right
 have hreg:=h.regs
 have hout:=h.outs
 have hgl:= @Config.regions_le c
 have hml:=Config.mul_le hr
 have hgr:c.regions=c.cols*c.rows:=by simp [z0,hr]
 have hN:=Abs c
 rw [Config.grid_of hr,Config.err_of hr] at hN
 have hG:=Aaw c
 rw [←hreg] at hG
 have hE:=Age c w f ins h hf hl hi
 have e3:(nextW c w ins).enc= .agg [.sl 2 (((List.range w.regions.length).map (nextR c w ins)).map zt),.sl 1 (((List.range w.regions.length).map (nextO c w ins)).map encL)]:=rfl
 rw [e3]
 clear hi e3
 generalize (List.range w.regions.length).map (nextR c w ins)=A at*
 generalize (List.range w.regions.length).map (nextO c w ins)=B at*
 obtain ⟨R,O⟩:=w
 simp only at hreg hout hG hE⊢
 clear hgr h
 refine qq ?_
 refine gg [.a _ _,.b (0 !=0) false,.n (zq (zz zt R)) (zq R),.a _ _,.b ((↑(zq R):Int) !=(↑(zq R):Int)) false,.ff,.ff,.n (zq (zz encL O)) (zq O),.ff,.ff,.a _ _,.ff,.ff,.b ((↑(zq O):Int) !=(↑(zq R):Int)) false,.n (zq (zz zt R)) (zq R),.a _ _] ⟨o_a hN,bK,o_n (by simp),o_a hG,f_brn rfl,o_n (by simp),o_a hG,fN,o_n (by simp),o_a hE,trivial⟩ ?_
 exact ge
end Go.Eva.S4
namespace Go.Eva.S4
end Go.Eva.S4
namespace Go.Eva
theorem AjB {n:Nat} {l:List InputL} {most:Nat}: ∀i∈playFrames n l most,i.length=n∧ ∀x∈i,x.right=true:=fun i hi=>by
 obtain ⟨x,_,rfl⟩:=List.mem_map.1 hi
 exact ⟨Ak7,Ajs⟩
theorem Ai3 {n:Nat} {l:List InputL} {most:Nat}:(playFrames n l most).length≤most:=by simp [playFrames];omega
end Go.Eva
namespace Go.Eva.S4
end Go.Eva.S4
namespace Go.Eva.S4
theorem Abj (a:List Region) (g:Nat) (hb:isFnB cx g=true) (hn:small a) (hg: ∀x∈a,Fn cx g [zt x,zt x] (.bool true)): ∀(d i:Nat),i+d=a.length→
  Is cx (.loop 39 [0,1,0,1,1] 0 [.t (.sl 2 (a.map zt)),.t (.sl 2 (a.map zt)),.t (.clo g []),vb false,vi i] [])
   ⟨.exit 0,[.t (.sl 2 (a.map zt)),.t (.sl 2 (a.map zt)),.t (.clo g []),vb false,vi a.length],[]⟩:=by
 unfold small at hn
 intro d
 induction d with
 |zero=>
  intro i hi
  refine qq ?_
  refine gg [.n (zq (zz zt a)) (zq a),.b (decide ((i:Int)<(↑(zq a):Int))) false] ⟨o_n (by simp),fP,trivial⟩ ?_
  refine rT (a:=qz (qx 0) [V.t (qk 2 (zz zt a)),V.t (qk 2 (zz zt a)),V.t (T.clo g []),vb false,vi (i:Int)] []) ?_
  ((have hq:i=a.length:=by omega);subst hq;rfl)
 |succ d ih=>
  intro i hi
  have hlt:i<a.length:=by omega
  have ih1:=ih (i+1) (by omega)
  have hy:=hg (gt a i) (Aa3 hlt)
  clear ih hg
  refine qq ?_
  refine gg [.n (zq (zz zt a)) (zq a),.b (decide ((i:Int)<(↑(zq a):Int))) true,.w (0≤(i:Int)),.n (zy (i:Int)) i,.g (zz zt a) i (zt (gt a i)),.w (0≤(i:Int)),.n (zy (i:Int)) i,.g (zz zt a) i (zt (gt a i)),.w (isFnB cx g=true),.a _ _,.b (!true) false,.i zd ((i:Int)+1) ((↑(i+1):Int)),.a _ _] ⟨o_n (by simp),tP,oW,nK,o_gt rfl (by assumption) (by intro h;cases h),oW,nK,o_gt rfl (by assumption) (by intro h;cases h),oA,o_a hy,bK,oI,o_a ih1,trivial⟩ ?_
  exact ge
theorem AbI (a:List Region) (g:Nat) (hb:isFnB cx g=true) (hn:small a) (hg: ∀x∈a,Fn cx g [zt x,zt x] (.bool true)):Fn cx 39 [.sl 2 (a.map zt),.sl 2 (a.map zt),.clo g []] (.bool true):=by
 have h:=Abj a g hb hn hg a.length 0 (by omega)
 clear hg
 refine qq ?_
 refine gg [.n (zq (zz zt a)) (zq a),.n (zq (zz zt a)) (zq a),.b ((↑(zq a):Int) !=(↑(zq a):Int)) false,.a _ _] ⟨o_n (by simp),o_n (by simp),f_brn rfl,o_a h,trivial⟩ ?_
 exact ge
theorem Abb (a:List CrossL) (g:Nat) (hb:isFnB cx g=true) (hn:small a) (hg: ∀x∈a,Fn cx g [encL x,encL x] (.bool true)): ∀(d i:Nat),i+d=a.length→
  Is cx (.loop 40 [0,1,0,1,1] 0 [.t (.sl 1 (a.map encL)),.t (.sl 1 (a.map encL)),.t (.clo g []),vb false,vi i] [])
   ⟨.exit 0,[.t (.sl 1 (a.map encL)),.t (.sl 1 (a.map encL)),.t (.clo g []),vb false,vi a.length],[]⟩:=by
 unfold small at hn
 intro d
 induction d with
 |zero=>
  intro i hi
  refine qq ?_
  refine gg [.n (zq (zz encL a)) (zq a),.b (decide ((i:Int)<(↑(zq a):Int))) false] ⟨o_n (by simp),fP,trivial⟩ ?_
  refine rT (a:=qz (qx 0) [V.t (qk 1 (zz encL a)),V.t (qk 1 (zz encL a)),V.t (T.clo g []),vb false,vi (i:Int)] []) ?_
  ((have hq:i=a.length:=by omega);subst hq;rfl)
 |succ d ih=>
  intro i hi
  have hlt:i<a.length:=by omega
  have ih1:=ih (i+1) (by omega)
  have hy:=hg (gt a i) (Aa3 hlt)
  clear ih hg
  refine qq ?_
  refine gg [.n (zq (zz encL a)) (zq a),.b (decide ((i:Int)<(↑(zq a):Int))) true,.w (0≤(i:Int)),.n (zy (i:Int)) i,.g (zz encL a) i (encL (gt a i)),.w (0≤(i:Int)),.n (zy (i:Int)) i,.g (zz encL a) i (encL (gt a i)),.w (isFnB cx g=true),.a _ _,.b (!true) false,.i zd ((i:Int)+1) ((↑(i+1):Int)),.a _ _] ⟨o_n (by simp),tP,oW,nK,o_gt rfl (by assumption) (by intro h;cases h),oW,nK,o_gt rfl (by assumption) (by intro h;cases h),oA,o_a hy,bK,oI,o_a ih1,trivial⟩ ?_
  exact ge
theorem AbD (a:List CrossL) (g:Nat) (hb:isFnB cx g=true) (hn:small a) (hg: ∀x∈a,Fn cx g [encL x,encL x] (.bool true)):Fn cx 40 [.sl 1 (a.map encL),.sl 1 (a.map encL),.clo g []] (.bool true):=by
 have h:=Abb a g hb hn hg a.length 0 (by omega)
 clear hg
 refine qq ?_
 refine gg [.n (zq (zz encL a)) (zq a),.n (zq (zz encL a)) (zq a),.b ((↑(zq a):Int) !=(↑(zq a):Int)) false,.a _ _] ⟨o_n (by simp),o_n (by simp),f_brn rfl,o_a h,trivial⟩ ?_
 exact ge
theorem AfX (a:Region) (hn:small a.ents):Fn cx 29 [a.enc,a.enc] (.bool true):=by
 have hP:=AaX a.ents a.ents hn
 rw [show plain a.ents a.ents=true by simp [plain]] at hP
 obtain ⟨f,l⟩:=a
 simp only at hP
 refine qq ?_
 refine gg [.b (f==f) true,.tt,.tt,.tt,.tt,.a _ _,.tt] ⟨t_bre rfl,o_a hP,trivial⟩ ?_
 refine rT (a:=qz qj [vb true] []) ?_
 (simp;done)
theorem Afy (a:CrossL) (hn:small a):Fn cx 41 [encL a,encL a] (.bool true):=by
 have hP:=Abd a a hn
 rw [show plain a a=true by simp [plain]] at hP
 refine qq ?_
 refine gg [.a _ _] ⟨o_a hP,trivial⟩ ?_
 exact ge
theorem AcY (w:World) (h1:small w.regions) (h2:small w.outs) (h3: ∀s∈w.regions,small s.ents) (h4: ∀l∈w.outs,small l):Fn cx 36 [w.enc,w.enc] (.bool true):=by
 have e1:=AbI w.regions 29 (by kernel_rfl) h1 fun x hx=>AfX x (h3 x hx)
 have e2:=AbD w.outs 41 (by kernel_rfl) h2 fun x hx=>Afy x (h4 x hx)
 clear h3 h4
 obtain ⟨R,O⟩:=w
 simp only at e1 e2
 refine qq ?_
 refine gg [.a _ _,.tt,.tt,.tt,.tt,.tt,.a _ _,.tt] ⟨o_a e1,o_a e2,trivial⟩ ?_
 exact ge
end Go.Eva.S4
namespace Go.Eva.S4
end Go.Eva.S4
namespace Go.Eva
end Go.Eva
namespace Go.Eva.S4
end Go.Eva.S4
namespace Go.Eva.S4
theorem Aim:Fn cx 36 [World.enc ⟨[],[]⟩,World.enc ⟨[],[]⟩] (.bool true):=AcY ⟨[],[]⟩ (by simp [small]) (by simp [small]) (by simp) (by simp)
theorem AjS {c:Config} {w:World} {f:Int} (h:WFine c w f):Fn cx 36 [w.enc,w.enc] (.bool true):=by
 have hgl:= @Config.regions_le c
 have h1:=h.regs
 have h2:=h.outs
 refine AcY w (by unfold small;omega) (by unfold small;omega) (fun s hs=> ?_) (fun l hl=> ?_)
 ·obtain ⟨k,hk,rfl⟩:=List.mem_iff_getElem.1 hs
  have:=(h.sane k hk).2.2
  rw [gt_eq hk] at this
  unfold small;omega
 ·have:=AgQ h l hl
  unfold small;omega
end Go.Eva.S4
namespace Go.Eva.S4
theorem Ade (c:Config) (w:World) (f:Int) (ins:List Input) (h:WFine c w f) (hf:0≤f∧f<10000) (hl:(ins.length:Int)≠c.players∨(ins.any fun i=> !i.right)=true) (hs:ins.length≤100):
  Is cx (.call 38 [.t c.enc,.t (.sl 1 (w.outs.map encL)),vi 0] []) ⟨.ret,[.t (.sl 15 ((inboxL c w.outs 0).map zn))],[]⟩∧
  Is cx (.call 23 [.t c.enc,vi 0,.t (gt w.regions 0).enc,.t (.sl 3 (ins.map zr)),.t (.sl 15 ((inboxL c w.outs 0).map zn))] []) ⟨.ret,[.t (.agg [ti 0,.sl 9 []]),.t (.sl 15 []),vi 11],[]⟩:=by
 have hreg:=h.regs
 have hout:=h.outs
 have hgl:= @Config.regions_le c
 have hml:=Config.mul_le h.right
 have hgr:c.regions=c.cols*c.rows:=by simp [z0,h.right]
 have hlt:0<w.regions.length:=by omega
 have his:c.is 0=true:=by rw [Config.is_iff h.right];omega
 have hb:=Ad5 h hlt
 change (∀m∈inboxL c w.outs 0,_)∧(inboxL c w.outs 0).length≤3600 at hb
 obtain ⟨s1,s2,s3⟩:=h.sane 0 hlt
 refine ⟨AbR c w.outs 0 his (by omega) (fun l hl=> ?_),?_⟩
 ·obtain ⟨k,hk,rfl⟩:=List.mem_iff_getElem.1 hl
  have:=(h.sent k hk).2
  have e:gt w.outs k=w.outs[k]:=by simp [gt,hk]
  rwa [e] at this
 ·have hS:=Ajv c 0 (gt w.regions 0) ins (inboxL c w.outs 0) (by omega) (by unfold small;omega) (by omega)
  have hR:regionRight c 0 (gt w.regions 0)=true:=Aaz.2 ⟨his,by omega,s1.srt,s1.things,s1.ents⟩
  have hA:askedE c 0 (gt w.regions 0) ins (inboxL c w.outs 0)=11:=by
   unfold askedE
   rw [if_neg (by simp [his]),if_neg (by simp [hR]),if_pos hl]
  have e:stepP c 0 (gt w.regions 0) ins (inboxL c w.outs 0)=(Region.zero,[],11):=by
   unfold stepP
   rw [hA]
   rfl
  rw [e] at hS
  exact hS
theorem Adp (c:Config) (w:World) (f:Int) (ins:List Input) (h:WFine c w f) (hf:0≤f∧f<10000) (hl:(ins.length:Int)≠c.players∨(ins.any fun i=> !i.right)=true) (hs:ins.length≤100):
  Is cx (.loop 34 [0,1,0,1,1,1,1] 0 [.t (.sl 3 (ins.map zr)),.ptr 0 0 0,.ptr 1 0 0,vi 0,.ptr 2 0 0,.ptr 3 0 0,.t (.sl 2 (w.regions.map zt)),vi w.regions.length,vi 0] [.one 2 (.t w.enc) false,.one 2 (.agg [.fit 2 [],.fit 1 []]) false,.one 5 (.t c.enc) false,.one 2 (.agg [.fit 2 [],.fit 1 []]) false])
   ⟨.ret,[.t (.sl 3 (ins.map zr)),.ptr 0 0 0,.ptr 1 0 0,vi 11,.ptr 2 0 0,.ptr 3 0 0,.t (.sl 2 (w.regions.map zt)),vi w.regions.length,vi 0],[.one 2 (.t w.enc) false,.one 2 (.agg [.fit 2 [],.fit 1 []]) false,.one 5 (.t c.enc) false,.one 2 (.agg [.fit 2 [],.fit 1 []]) false]⟩:=by
 have hreg:=h.regs
 have hgl:= @Config.regions_le c
 have hml:=Config.mul_le h.right
 have hgr:c.regions=c.cols*c.rows:=by simp [z0,h.right]
 have hlt:0<w.regions.length:=by omega
 obtain ⟨hI,hS⟩:=Ade c w f ins h hf hl hs
 clear hgr
 generalize inboxL c w.outs 0=box at*
 obtain ⟨R,O⟩:=w
 simp only at hreg hlt hI hS⊢
 clear h hl
 refine qq ?_
 refine gg [.b (decide (0<(↑(zq R):Int))) true,.w (0≤(0:Int)),.l 0,.g (zz zt R) 0 (zt (gt R 0))] ⟨tP,oW,o_gt rfl (by assumption) (by intro h;cases h),trivial⟩ ?_
 refine bO ?_ ?_
 ·refine gg [.a _ _] ⟨o_a hI,trivial⟩ ?_
  refine bO ?_ ?_
  all_goals
   refine gg [.a _ _,.b (11 !=0) true] ⟨o_a hS,bK,trivial⟩ ?_
   exact ge
 ·refine gg [.a _ _,.a _ _,.b (11 !=0) true] ⟨o_a hI,o_a hS,bK,trivial⟩ ?_
  exact ge
theorem AfT (c:Config) (w:World) (f:Int) (ins:List Input) (h:WFine c w f) (hf:0≤f∧f<10000) (hl:(ins.length:Int)≠c.players∨(ins.any fun i=> !i.right)=true) (hs:ins.length≤100):
  Is cx (.call 34 [.t c.enc,.t w.enc,.t (.sl 3 (ins.map zr))] []) ⟨.ret,[.t (World.enc ⟨[],[]⟩),vi 11],[]⟩:=by
 have hr:=h.right
 have hreg:=h.regs
 have hout:=h.outs
 have hgl:= @Config.regions_le c
 have hN:=Abs c
 rw [Config.grid_of hr,Config.err_of hr] at hN
 have hG:=Aaw c
 rw [←hreg] at hG
 have hE:=Adp c w f ins h hf hl hs
 obtain ⟨R,O⟩:=w
 simp only at hreg hout hG hE⊢
 clear h hl
 refine qq ?_
 refine gg [.a _ _,.b (0 !=0) false,.n (zq (zz zt R)) (zq R),.a _ _,.b ((↑(zq R):Int) !=(↑(zq R):Int)) false,.ff,.ff,.n (zq (zz encL O)) (zq O),.ff,.ff,.a _ _,.ff,.ff,.b ((↑(zq O):Int) !=(↑(zq R):Int)) false,.n (zq (zz zt R)) (zq R),.a _ _] ⟨o_a hN,bK,o_n (by simp),o_a hG,f_brn rfl,o_n (by simp),o_a hG,fN,o_n (by simp),o_a hE,trivial⟩ ?_
 exact ge
end Go.Eva.S4
namespace Go.Eva
def badRow (c:Config) (r:InputL):Bool:= !decide ((r.length:Int)=c.players)||r.any fun i=> !i.right
theorem AiS {c:Config} {r:InputL} (h:badRow c r=true):(r.length:Int)≠c.players∨(r.any fun i=> !i.right)=true:=by
 unfold badRow at h
 simp only [Bool.or_eq_true,Bool.not_eq_true',decide_eq_false_iff_not] at h
 exact h
theorem AbW {c:Config} {r:InputL} (h:badRow c r=false):(r.length:Int)=c.players∧ ∀i∈r,i.right=true:=by
 unfold badRow at h
 simp only [Bool.or_eq_false_iff,Bool.not_eq_false',decide_eq_true_eq,List.any_eq_false,Bool.not_eq_true'] at h
 exact ⟨h.1,fun i hi=>by simpa using h.2 i hi⟩
def nextE (c:Config) (w:World) (r:InputL):World×Int:=if badRow c r=true then (⟨[],[]⟩,11) else (nextW c w r,0)
def runE (c:Config):World→List InputL→World×Int
 |w,[]=>(w,0)
 |w,r::rows=>if badRow c r=true then (⟨[],[]⟩,11) else runE c (nextW c w r) rows
theorem AlV {c:Config}: ∀ {rows:List InputL} {w:World} {f:Int},WFine c w f→0≤f→f+rows.length≤10000→(runE c w rows=(⟨[],[]⟩,11))∨(∃f',WFine c (runE c w rows).1 f'∧(runE c w rows).2=0):=by
 intro rows
 induction rows with
 |nil=>intro w f h _ _;exact .inr ⟨f,h,rfl⟩
 |cons r rows ih=>
  intro w f h h0 hf
  simp only [List.length_cons] at hf
  rw [runE]
  cases hb:badRow c r with
  |true=>exact .inl (by rw [if_pos rfl])
  |false=>
   obtain ⟨h1,h2⟩:=AbW hb
   simp only [Bool.false_eq_true,if_false]
   exact ih (Ah7 h (by omega) h1 h2) (by omega) (by omega)
end Go.Eva
namespace Go.Eva.S4
theorem Aft (c:Config) (r:Int) (s:Region) (ins:List Input) (inbox:T) (hn:small s.ents) (hi:long ins) (h1:c.is r=true) (h2:regionRight c r s=true) (h3:(ins.length:Int)≠c.players):
  Fn cx 60 [c.enc,ti r,s.enc,.sl 3 (ins.map zr),inbox] (ti 11):=by
 have k1:=Afr c r
 have k2:=Afk c r s hn
 rw [h1] at k1
 rw [h2] at k2
 unfold long at hi
 obtain ⟨f,l⟩:=s
 refine qq ?_
 refine gg [.a _ _,.b (!true) false,.a _ _,.b (!true) false,.n (zq (zz zr ins)) (zq ins),.b ((↑(zq ins):Int) !=c.players) true,.tt,.tt,.tt] ⟨o_a k1,bK,o_a k2,bK,o_n (by simp),t_brn (by assumption),trivial⟩ ?_
 exact ge
theorem Af7 (c:Config) (r:Int) (s:Region) (ins:List Input) (inbox:T) (hn:small s.ents) (hi:long ins) (h1:c.is r=true) (h2:regionRight c r s=true) (h3:(ins.length:Int)≠c.players):
  Is cx (.call 23 [.t c.enc,vi r,.t s.enc,.t (.sl 3 (ins.map zr)),.t inbox] []) ⟨.ret,[.t (.agg [ti 0,.sl 9 []]),.t (.sl 15 []),vi 11],[]⟩:=by
 have ha:=Aft c r s ins inbox hn hi h1 h2 h3
 obtain ⟨f,l⟩:=s
 refine qq ?_
 refine gg [.a _ _,.b (11 !=0) true] ⟨o_a ha,bK,trivial⟩ ?_
 exact ge
theorem Adq (c:Config) (r:Int) (s:Region) (ins:List Input) (inbox:T) (hn:small s.ents) (hi:long ins) (h1:c.is r=true) (h2:regionRight c r s=true) (h3:(ins.length:Int)≠c.players):
  Fn cx 131 [c.enc,ti r,s.enc,.sl 3 (ins.map zr),inbox] (ti 11):=by
 have k1:=Aay c r
 have k2:=Acp c r s hn
 rw [h1] at k1
 rw [h2] at k2
 unfold long at hi
 obtain ⟨f,l⟩:=s
 refine qq ?_
 refine gg [.a _ _,.b (!true) false,.a _ _,.b (!true) false,.n (zq (zz zr ins)) (zq ins),.b ((↑(zq ins):Int) !=c.players) true] ⟨o_a k1,bK,o_a k2,bK,o_n (by simp),t_brn (by assumption),trivial⟩ ?_
 exact ge
theorem Aeb (c:Config) (r:Int) (s:Region) (ins:List Input) (inbox:T) (hn:small s.ents) (hi:long ins) (h1:c.is r=true) (h2:regionRight c r s=true) (h3:(ins.length:Int)≠c.players):
  Is cx (.call 80 [.t c.enc,vi r,.t s.enc,.t (.sl 3 (ins.map zr)),.t inbox] []) ⟨.ret,[.t (.agg [ti 0,.sl 9 []]),.t (.sl 15 []),vi 11],[]⟩:=by
 have ha:=Adq c r s ins inbox hn hi h1 h2 h3
 obtain ⟨f,l⟩:=s
 refine qq ?_
 refine gg [.a _ _,.b (11 !=0) true] ⟨o_a ha,bK,trivial⟩ ?_
 exact ge
theorem AdT (c:Config) (w:World) (f:Int) (ins:List Input) (h:WFine c w f) (hf:0≤f∧f<10000) (hl:(ins.length:Int)≠c.players) (hs:long ins):
  Is cx (.loop 34 [0,1,0,1,1,1,1] 0 [.t (.sl 3 (ins.map zr)),.ptr 0 0 0,.ptr 1 0 0,vi 0,.ptr 2 0 0,.ptr 3 0 0,.t (.sl 2 (w.regions.map zt)),vi w.regions.length,vi 0] [.one 2 (.t w.enc) false,.one 2 (.agg [.fit 2 [],.fit 1 []]) false,.one 5 (.t c.enc) false,.one 2 (.agg [.fit 2 [],.fit 1 []]) false])
   ⟨.ret,[.t (.sl 3 (ins.map zr)),.ptr 0 0 0,.ptr 1 0 0,vi 11,.ptr 2 0 0,.ptr 3 0 0,.t (.sl 2 (w.regions.map zt)),vi w.regions.length,vi 0],[.one 2 (.t w.enc) false,.one 2 (.agg [.fit 2 [],.fit 1 []]) false,.one 5 (.t c.enc) false,.one 2 (.agg [.fit 2 [],.fit 1 []]) false]⟩:=by
 have hreg:=h.regs
 have hgl:= @Config.regions_le c
 have hml:=Config.mul_le h.right
 have hgr:c.regions=c.cols*c.rows:=by simp [z0,h.right]
 have hlt:0<w.regions.length:=by omega
 have hout:=h.outs
 have his:c.is 0=true:=by rw [Config.is_iff h.right];omega
 have hb:=Ad5 h hlt
 obtain ⟨s1,s2,s3⟩:=h.sane 0 hlt
 have hR:regionRight c 0 (gt w.regions 0)=true:=Aaz.2 ⟨his,by omega,s1.srt,s1.things,s1.ents⟩
 have hI:=AbR c w.outs 0 his (by omega) (AgQ h)
 have hS:=Af7 c 0 (gt w.regions 0) ins (.sl 15 ((inboxL c w.outs 0).map zn)) (by unfold small;omega) hs his hR hl
 clear hb s1 s2 s3 hR hs
 clear hgr
 generalize inboxL c w.outs 0=box at*
 obtain ⟨R,O⟩:=w
 simp only at hreg hlt hI hS⊢
 clear h hl
 refine qq ?_
 refine gg [.b (decide (0<(↑(zq R):Int))) true,.w (0≤(0:Int)),.l 0,.g (zz zt R) 0 (zt (gt R 0))] ⟨tP,oW,o_gt rfl (by assumption) (by intro h;cases h),trivial⟩ ?_
 refine bO ?_ ?_
 ·refine gg [.a _ _] ⟨o_a hI,trivial⟩ ?_
  refine bO ?_ ?_
  all_goals
   refine gg [.a _ _,.b (11 !=0) true] ⟨o_a hS,bK,trivial⟩ ?_
   exact ge
 ·refine gg [.a _ _,.a _ _,.b (11 !=0) true] ⟨o_a hI,o_a hS,bK,trivial⟩ ?_
  exact ge
theorem AgE (c:Config) (w:World) (f:Int) (ins:List Input) (h:WFine c w f) (hf:0≤f∧f<10000) (hl:(ins.length:Int)≠c.players) (hs:long ins):
  Is cx (.call 34 [.t c.enc,.t w.enc,.t (.sl 3 (ins.map zr))] []) ⟨.ret,[.t (World.enc ⟨[],[]⟩),vi 11],[]⟩:=by
 have hr:=h.right
 have hreg:=h.regs
 have hout:=h.outs
 have hgl:= @Config.regions_le c
 have hN:=Abs c
 rw [Config.grid_of hr,Config.err_of hr] at hN
 have hG:=Aaw c
 rw [←hreg] at hG
 have hE:=AdT c w f ins h hf hl hs
 obtain ⟨R,O⟩:=w
 simp only at hreg hout hG hE⊢
 clear h hl
 refine qq ?_
 refine gg [.a _ _,.b (0 !=0) false,.n (zq (zz zt R)) (zq R),.a _ _,.b ((↑(zq R):Int) !=(↑(zq R):Int)) false,.ff,.ff,.n (zq (zz encL O)) (zq O),.ff,.ff,.a _ _,.ff,.ff,.b ((↑(zq O):Int) !=(↑(zq R):Int)) false,.n (zq (zz zt R)) (zq R),.a _ _] ⟨o_a hN,bK,o_n (by simp),o_a hG,f_brn rfl,o_n (by simp),o_a hG,fN,o_n (by simp),o_a hE,trivial⟩ ?_
 exact ge
theorem Acc (c:Config) (w:World) (f:Int) (ins:List Input) (h:WFine c w f) (hf:0≤f∧f<10000) (hl:(ins.length:Int)≠c.players) (hs:long ins):
  Is cx (.loop 35 [0,1,0,1,1,1,1,1] 0 [.t (.sl 3 (ins.map zr)),.ptr 0 0 0,.ptr 1 0 0,.ptr 2 0 0,vi 0,vi w.regions.length,.ptr 3 0 0,vi (0)] [.one 5 (.t c.enc) false,.one 2 (.t w.enc) false,.one 2 (.agg [.fit 2 [],.fit 1 []]) false,.one 2 (.agg [.fit 2 [],.fit 1 []]) false])
   ⟨.ret,[.t (.sl 3 (ins.map zr)),.ptr 0 0 0,.ptr 1 0 0,.ptr 2 0 0,vi 11,vi w.regions.length,.ptr 3 0 0,vi (0)],[.one 5 (.t c.enc) false,.one 2 (.t w.enc) false,.one 2 (.agg [.fit 2 [],.fit 1 []]) false,.one 2 (.agg [.fit 2 [],.fit 1 []]) false]⟩:=by
 have hreg:=h.regs
 have hout:=h.outs
 have hgl:= @Config.regions_le c
 have hml:=Config.mul_le h.right
 have hgr:c.regions=c.cols*c.rows:=by simp [z0,h.right]
 have hlt:0<w.regions.length:=by omega
 have his:c.is 0=true:=by rw [Config.is_iff h.right];omega
 have hb:=Ad5 h hlt
 obtain ⟨s1,s2,s3⟩:=h.sane 0 hlt
 have hR:regionRight c 0 (gt w.regions 0)=true:=Aaz.2 ⟨his,by omega,s1.srt,s1.things,s1.ents⟩
 have hI:=AaK c w.outs 0 his (by omega) (AgQ h)
 have hS:=Aeb c 0 (gt w.regions 0) ins (.sl 15 ((inboxL c w.outs 0).map zn)) (by unfold small;omega) hs his hR hl
 clear hgr hb s1 s2 s3 hR hs
 generalize inboxL c w.outs 0=box at*
 obtain ⟨R,O⟩:=w
 simp only at hreg hlt hI hS⊢
 clear h hl
 refine qq ?_
 refine gg [.b (decide (0<(↑(zq R):Int))) true,.w (0≤(0:Int)),.l 0,.g (zz zt R) 0 (zt (gt R 0))] ⟨tP,oW,o_gt rfl (by assumption) (by intro h;cases h),trivial⟩ ?_
 refine bO ?_ ?_
 ·refine gg [.a _ _] ⟨o_a hI,trivial⟩ ?_
  refine bO ?_ ?_
  all_goals
   refine gg [.a _ _,.b (11 !=0) true] ⟨o_a hS,bK,trivial⟩ ?_
   exact ge
 ·refine gg [.a _ _,.a _ _,.b (11 !=0) true] ⟨o_a hI,o_a hS,bK,trivial⟩ ?_
  exact ge
theorem Aed (c:Config) (w:World) (f:Int) (ins:List Input) (h:WFine c w f) (hf:0≤f∧f<10000) (hl:(ins.length:Int)≠c.players) (hs:long ins):
  Is cx (.call 35 [.t c.enc,.t w.enc,.t (.sl 3 (ins.map zr))] []) ⟨.ret,[.t (World.enc ⟨[],[]⟩),vi 11],[]⟩:=by
 have hr:=h.right
 have hreg:=h.regs
 have hout:=h.outs
 have hgl:= @Config.regions_le c
 have hR:=Aag c
 rw [hr] at hR
 have hG:=Aaj c
 rw [←hreg] at hG
 have hE:=Acc c w f ins h hf hl hs
 obtain ⟨R,O⟩:=w
 simp only at hreg hout hG hE⊢
 clear h hl
 refine qq ?_
 refine gg [.a _ _,.b (!true) false,.a _ _,.n (zq (zz zt R)) (zq R),.b ((↑(zq R):Int) !=(↑(zq R):Int)) false,.ff,.ff,.n (zq (zz encL O)) (zq O),.ff,.ff,.ff,.b ((↑(zq O):Int) !=(↑(zq R):Int)) false,.a _ _] ⟨o_a hR,bK,o_a hG,o_n (by simp),f_brn rfl,o_n (by simp),fN,o_a hE,trivial⟩ ?_
 exact ge
end Go.Eva.S4
namespace Go.Eva.S4
theorem Ahm (c:Config) (w:World) (f:Int) (ins:InputL) (h:WFine c w f) (hf:0≤f∧f<10000) (hs:long ins):Is cx (.call 34 [.t c.enc,.t w.enc,.t (.sl 3 (ins.map zr))] []) ⟨.ret,[.t (nextE c w ins).1.enc,vi (nextE c w ins).2],[]⟩:=by
 unfold nextE
 cases hb:badRow c ins with
 |true=>
  rw [if_pos rfl]
  have hcr:=Config.right_iff.1 h.right
  by_cases hl:(ins.length:Int)=c.players
  ·exact AfT c w f ins h hf (AiS hb) (by omega)
  ·exact AgE c w f ins h hf hl hs
 |false=>
  rw [if_neg (by simp)]
  exact Ahl c w f ins h hf (AbW hb).1 (AbW hb).2
theorem Aek (c:Config) (w:World) (f:Int) (ins:InputL) (h:WFine c w f) (hf:0≤f∧f<10000) (hs:long ins):Is cx (.call 35 [.t c.enc,.t w.enc,.t (.sl 3 (ins.map zr))] []) ⟨.ret,[.t (nextE c w ins).1.enc,vi (nextE c w ins).2],[]⟩:=by
 unfold nextE
 cases hb:badRow c ins with
 |true=>
  rw [if_pos rfl]
  have hcr:=Config.right_iff.1 h.right
  by_cases hl:(ins.length:Int)=c.players
  ·exact Adz c w f ins h hf (AiS hb) (by omega)
  ·exact Aed c w f ins h hf hl hs
 |false=>
  rw [if_neg (by simp)]
  exact AeH c w f ins h hf (AbW hb).1 (AbW hb).2
theorem Aer (c:Config) (w x w2:World) (rows:List InputL) (i:Nat) (hlt:i<rows.length) (hn:rows.length≤100) (hS:Is cx (.call 34 [.t c.enc,.t w.enc,.t (.sl 3 ((gt rows i).map zr))] []) ⟨.ret,[.t x.enc,vi 0],[]⟩) (ex:Ex) (e5 e7 i2:Int)
  (ih1:Is cx (.loop 43 [0,1,0,1,1] 0 [.ptr 0 0 0,.ptr 1 0 0,vi 0,.ptr 2 0 0,vi 0,.t (.sl 1 (rows.map encI)),vi rows.length,vi (i+1:Nat)] [.one 5 (.t c.enc) false,.one 2 (.agg [.fit 2 [],.fit 1 []]) false,.one 2 (.t x.enc) false])
   ⟨ex,[.ptr 0 0 0,.ptr 1 0 0,vi e5,.ptr 2 0 0,vi e7,.t (.sl 1 (rows.map encI)),vi rows.length,vi i2],[.one 5 (.t c.enc) false,.one 2 (.agg [.fit 2 [],.fit 1 []]) false,.one 2 (.t w2.enc) false]⟩):
  Is cx (.loop 43 [0,1,0,1,1] 0 [.ptr 0 0 0,.ptr 1 0 0,vi 0,.ptr 2 0 0,vi 0,.t (.sl 1 (rows.map encI)),vi rows.length,vi i] [.one 5 (.t c.enc) false,.one 2 (.agg [.fit 2 [],.fit 1 []]) false,.one 2 (.t w.enc) false])
   ⟨ex,[.ptr 0 0 0,.ptr 1 0 0,vi e5,.ptr 2 0 0,vi e7,.t (.sl 1 (rows.map encI)),vi rows.length,vi i2],[.one 5 (.t c.enc) false,.one 2 (.agg [.fit 2 [],.fit 1 []]) false,.one 2 (.t w2.enc) false]⟩:=by
 refine qq ?_
 refine gg [.b (decide ((i:Int)<(↑(zq rows):Int))) true,.w (0≤(i:Int)),.n (zy (i:Int)) i,.g (zz encI rows) i (encI (gt rows i)),.b (0 !=0) false,.a _ _,.i zd ((i:Int)+1) ((↑(i+1):Int)),.a _ _] ⟨tP,oW,nK,o_gt rfl (by assumption) (by intro h;cases h),bK,o_a hS,oI,o_a ih1,trivial⟩ ?_
 exact ge
theorem AbC (c:Config) (w:World) (e:Int) (rows:List InputL) (i:Nat) (hi:i=rows.length) (hn:rows.length≤100):
  Is cx (.loop 43 [0,1,0,1,1] 0 [.ptr 0 0 0,.ptr 1 0 0,vi 0,.ptr 2 0 0,vi e,.t (.sl 1 (rows.map encI)),vi rows.length,vi i] [.one 5 (.t c.enc) false,.one 2 (.agg [.fit 2 [],.fit 1 []]) false,.one 2 (.t w.enc) false])
   ⟨.exit 0,[.ptr 0 0 0,.ptr 1 0 0,vi 0,.ptr 2 0 0,vi e,.t (.sl 1 (rows.map encI)),vi rows.length,vi rows.length],[.one 5 (.t c.enc) false,.one 2 (.agg [.fit 2 [],.fit 1 []]) false,.one 2 (.t w.enc) false]⟩:=by
 subst hi
 refine qq ?_
 refine gg [.b (decide ((↑(zq rows):Int)<(↑(zq rows):Int))) false] ⟨fP,trivial⟩ ?_
 exact ge
theorem Ahu (c:Config) (rows:List InputL) (i:Nat) (hlt:i<rows.length) (hn:rows.length≤100):
  Is cx (.loop 43 [0,1,0,1,1] 0 [.ptr 0 0 0,.ptr 1 0 0,vi 0,.ptr 2 0 0,vi 11,.t (.sl 1 (rows.map encI)),vi rows.length,vi i] [.one 5 (.t c.enc) false,.one 2 (.agg [.fit 2 [],.fit 1 []]) false,.one 2 (.t (World.enc ⟨[],[]⟩)) false])
   ⟨.ret,[.ptr 0 0 0,.ptr 1 0 0,vi 11,.ptr 2 0 0,vi 11,.t (.sl 1 (rows.map encI)),vi rows.length,vi i],[.one 5 (.t c.enc) false,.one 2 (.agg [.fit 2 [],.fit 1 []]) false,.one 2 (.t (World.enc ⟨[],[]⟩)) false]⟩:=by
 refine qq ?_
 refine gg [.b (decide ((i:Int)<(↑(zq rows):Int))) true,.w (0≤(i:Int)),.n (zy (i:Int)) i,.g (zz encI rows) i (encI (gt rows i)),.b (11 !=0) true] ⟨tP,oW,nK,o_gt rfl (by assumption) (by intro h;cases h),bK,trivial⟩ ?_
 exact ge
theorem Ahv (c:Config) (rows:List InputL) (i:Nat) (hlt:i<rows.length) (hn:rows.length≤100):
  Is cx (.loop 43 [0,1,0,1,1] 0 [.ptr 0 0 0,.ptr 1 0 0,vi 0,.ptr 2 0 0,vi 10,.t (.sl 1 (rows.map encI)),vi rows.length,vi i] [.one 5 (.t c.enc) false,.one 2 (.agg [.fit 2 [],.fit 1 []]) false,.one 2 (.t (World.enc ⟨[],[]⟩)) false])
   ⟨.ret,[.ptr 0 0 0,.ptr 1 0 0,vi 10,.ptr 2 0 0,vi 10,.t (.sl 1 (rows.map encI)),vi rows.length,vi i],[.one 5 (.t c.enc) false,.one 2 (.agg [.fit 2 [],.fit 1 []]) false,.one 2 (.t (World.enc ⟨[],[]⟩)) false]⟩:=by
 refine qq ?_
 refine gg [.b (decide ((i:Int)<(↑(zq rows):Int))) true,.w (0≤(i:Int)),.n (zy (i:Int)) i,.g (zz encI rows) i (encI (gt rows i)),.b (10 !=0) true] ⟨tP,oW,nK,o_gt rfl (by assumption) (by intro h;cases h),bK,trivial⟩ ?_
 exact ge
theorem Acy (c:Config) (w w2:World) (rows:List InputL) (i:Nat) (hlt:i<rows.length) (hn:rows.length≤100) (hS:Is cx (.call 34 [.t c.enc,.t w.enc,.t (.sl 3 ((gt rows i).map zr))] []) ⟨.ret,[.t (World.enc ⟨[],[]⟩),vi 11],[]⟩) (ex:Ex) (e5 e7 i2:Int)
  (ih1:Is cx (.loop 43 [0,1,0,1,1] 0 [.ptr 0 0 0,.ptr 1 0 0,vi 0,.ptr 2 0 0,vi 11,.t (.sl 1 (rows.map encI)),vi rows.length,vi (i+1:Nat)] [.one 5 (.t c.enc) false,.one 2 (.agg [.fit 2 [],.fit 1 []]) false,.one 2 (.t (World.enc ⟨[],[]⟩)) false])
   ⟨ex,[.ptr 0 0 0,.ptr 1 0 0,vi e5,.ptr 2 0 0,vi e7,.t (.sl 1 (rows.map encI)),vi rows.length,vi i2],[.one 5 (.t c.enc) false,.one 2 (.agg [.fit 2 [],.fit 1 []]) false,.one 2 (.t w2.enc) false]⟩):
  Is cx (.loop 43 [0,1,0,1,1] 0 [.ptr 0 0 0,.ptr 1 0 0,vi 0,.ptr 2 0 0,vi 0,.t (.sl 1 (rows.map encI)),vi rows.length,vi i] [.one 5 (.t c.enc) false,.one 2 (.agg [.fit 2 [],.fit 1 []]) false,.one 2 (.t w.enc) false])
   ⟨ex,[.ptr 0 0 0,.ptr 1 0 0,vi e5,.ptr 2 0 0,vi e7,.t (.sl 1 (rows.map encI)),vi rows.length,vi i2],[.one 5 (.t c.enc) false,.one 2 (.agg [.fit 2 [],.fit 1 []]) false,.one 2 (.t w2.enc) false]⟩:=by
 refine qq ?_
 refine gg [.b (decide ((i:Int)<(↑(zq rows):Int))) true,.w (0≤(i:Int)),.n (zy (i:Int)) i,.g (zz encI rows) i (encI (gt rows i)),.b (0 !=0) false,.a _ _,.i zd ((i:Int)+1) ((↑(i+1):Int)),.a _ _] ⟨tP,oW,nK,o_gt rfl (by assumption) (by intro h;cases h),bK,o_a hS,oI,o_a ih1,trivial⟩ ?_
 exact ge
def RunEnd (c:Config) (rows:List InputL) (i:Nat) (w x:World) (e:Int):Prop:=
 (∃i2:Int,Is cx (.loop 43 [0,1,0,1,1] 0 [.ptr 0 0 0,.ptr 1 0 0,vi 0,.ptr 2 0 0,vi 0,.t (.sl 1 (rows.map encI)),vi rows.length,vi i] [.one 5 (.t c.enc) false,.one 2 (.agg [.fit 2 [],.fit 1 []]) false,.one 2 (.t w.enc) false])
  ⟨.exit 0,[.ptr 0 0 0,.ptr 1 0 0,vi 0,.ptr 2 0 0,vi e,.t (.sl 1 (rows.map encI)),vi rows.length,vi i2],[.one 5 (.t c.enc) false,.one 2 (.agg [.fit 2 [],.fit 1 []]) false,.one 2 (.t x.enc) false]⟩)∨
 (x=⟨[],[]⟩∧e=11∧ ∃i2:Int,Is cx (.loop 43 [0,1,0,1,1] 0 [.ptr 0 0 0,.ptr 1 0 0,vi 0,.ptr 2 0 0,vi 0,.t (.sl 1 (rows.map encI)),vi rows.length,vi i] [.one 5 (.t c.enc) false,.one 2 (.agg [.fit 2 [],.fit 1 []]) false,.one 2 (.t w.enc) false])
  ⟨.ret,[.ptr 0 0 0,.ptr 1 0 0,vi 11,.ptr 2 0 0,vi 11,.t (.sl 1 (rows.map encI)),vi rows.length,vi i2],[.one 5 (.t c.enc) false,.one 2 (.agg [.fit 2 [],.fit 1 []]) false,.one 2 (.t (World.enc ⟨[],[]⟩)) false]⟩)
theorem Ahi (c:Config) (rows:List InputL) (hn:rows.length≤100) (hs: ∀r∈rows,long r): ∀(d i:Nat) (w:World) (f:Int),i+d=rows.length→WFine c w f→0≤f→f+d≤10000→RunEnd c rows i w (runE c w (rows.drop i)).1 (runE c w (rows.drop i)).2:=by
 intro d
 induction d with
 |zero=>
  intro i w f hi hw h0 hf
  rw [Aac (by omega)]
  exact .inl ⟨_,AbC c w 0 rows i (by omega) hn⟩
 |succ d ih=>
  intro i w f hi hw h0 hf
  have hlt:i<rows.length:=by omega
  have hS:=Ahm c w f (gt rows i) hw (by omega) (hs _ (Aa3 hlt))
  rw [Aae hlt,runE]
  unfold nextE at hS
  cases hb:badRow c (gt rows i) with
  |true=>
   rw [hb] at hS
   simp only [if_true] at hS⊢
   by_cases hlast:i+1=rows.length
   ·exact .inl ⟨_,Acy c w _ rows i hlt hn hS _ _ _ _ (AbC c ⟨[],[]⟩ 11 rows (i+1) hlast hn)⟩
   ·exact .inr ⟨rfl,rfl,_,Acy c w _ rows i hlt hn hS _ _ _ _ (Ahu c rows (i+1) (by omega) hn)⟩
  |false=>
   rw [hb] at hS
   simp only [Bool.false_eq_true,if_false] at hS⊢
   obtain ⟨h1,h2⟩:=AbW hb
   rcases ih (i+1) (nextW c w (gt rows i)) (f+1) (by omega) (Ah7 hw (by omega) h1 h2) (by omega) (by omega) with ⟨i2,k⟩|⟨k1,k2,i2,k⟩
   ·exact .inl ⟨i2,Aer c w _ _ rows i hlt hn hS _ _ _ _ k⟩
   ·exact .inr ⟨k1,k2,i2,Aer c w _ _ rows i hlt hn hS _ _ _ _ k⟩
theorem AhW (c:Config) (rows:List InputL) (hr:c.right=true) (hn:rows.length≤100) (hs: ∀r∈rows,long r):
  Is cx (.call 43 [.t c.enc,.t (.sl 1 (rows.map encI))] []) ⟨.ret,[.t (runE c (beginW c.cols c.regions c.players.toNat) rows).1.enc,vi (runE c (beginW c.cols c.regions c.players.toNat) rows).2],[]⟩:=by
 have hB:=Abu c hr
 rw [show c.cols*c.rows=c.regions by simp [z0,hr]] at hB
 have hL:=Ahi c rows hn hs rows.length 0 _ 0 (by omega) (AeN hr) (by omega) (by omega)
 rw [List.drop_zero] at hL
 generalize runE c (beginW c.cols c.regions c.players.toNat) rows=W at*
 generalize beginW c.cols c.regions c.players.toNat=B at*
 obtain ⟨x,e⟩:=W
 simp only at hL⊢
 clear hs
 rcases hL with ⟨i2,hL⟩|⟨rfl,rfl,i2,hL⟩
 ·refine qq ?_
  refine gg [.a _ _,.n (zq (zz encI rows)) (zq rows),.a _ _] ⟨o_a hB,o_n (by simp),o_a hL,trivial⟩ ?_
  exact ge
 ·refine qq ?_
  refine gg [.a _ _,.n (zq (zz encI rows)) (zq rows),.a _ _] ⟨o_a hB,o_n (by simp),o_a hL,trivial⟩ ?_
  exact ge
theorem Af9 (c:Config) (rows:List InputL) (hr:c.right=false) (hn:rows.length≤100):Is cx (.call 43 [.t c.enc,.t (.sl 1 (rows.map encI))] []) ⟨.ret,[.t (World.enc ⟨[],[]⟩),vi 10],[]⟩:=by
 have hB:=AdH c hr
 by_cases h0:rows.length=0
 ·have hL:=AbC c ⟨[],[]⟩ 10 rows 0 h0.symm hn
  refine qq ?_
  refine gg [.a _ _,.n (zq (zz encI rows)) (zq rows),.a _ _] ⟨o_a hB,o_n (by simp),o_a hL,trivial⟩ ?_
  exact ge
 ·have hL:=Ahv c rows 0 (by omega) hn
  refine qq ?_
  refine gg [.a _ _,.n (zq (zz encI rows)) (zq rows),.a _ _] ⟨o_a hB,o_n (by simp),o_a hL,trivial⟩ ?_
  exact ge
end Go.Eva.S4
namespace Go.Eva.S4
theorem Aet (c:Config) (w:World) (e:Int) (rows:List InputL) (i:Nat) (hi:i=rows.length) (hn:rows.length≤100):
  Is cx (.loop 44 [0,1,0,1,1] 0 [.t (.sl 1 (rows.map encI)),.ptr 0 0 0,.ptr 1 0 0,.ptr 2 0 0,vi e,vi (i)] [.one 5 (.t c.enc) false,.one 2 (.agg [.fit 2 [],.fit 1 []]) false,.one 2 (.t (w).enc) false])
   ⟨.exit 0,[.t (.sl 1 (rows.map encI)),.ptr 0 0 0,.ptr 1 0 0,.ptr 2 0 0,vi e,vi rows.length],[.one 5 (.t c.enc) false,.one 2 (.agg [.fit 2 [],.fit 1 []]) false,.one 2 (.t (w).enc) false]⟩:=by
 subst hi
 refine qq ?_
 refine gg [.n (zq (zz encI rows)) (zq rows),.b (decide ((↑(zq rows):Int)<(↑(zq rows):Int))) false,.ff,.ff,.ff] ⟨o_n (by simp),fP,trivial⟩ ?_
 exact ge
theorem Ae4 (c:Config) (w:World) (rows:List InputL) (i:Nat) (hn:rows.length≤100) (hi:i≤rows.length):
  Is cx (.loop 44 [0,1,0,1,1] 0 [.t (.sl 1 (rows.map encI)),.ptr 0 0 0,.ptr 1 0 0,.ptr 2 0 0,vi 11,vi (i)] [.one 5 (.t c.enc) false,.one 2 (.agg [.fit 2 [],.fit 1 []]) false,.one 2 (.t (w).enc) false])
   ⟨.exit 0,[.t (.sl 1 (rows.map encI)),.ptr 0 0 0,.ptr 1 0 0,.ptr 2 0 0,vi 11,vi i],[.one 5 (.t c.enc) false,.one 2 (.agg [.fit 2 [],.fit 1 []]) false,.one 2 (.t (w).enc) false]⟩:=by
 by_cases h:i<rows.length
 ·refine qq ?_
  refine gg [.n (zq (zz encI rows)) (zq rows),.b (decide ((i:Int)<(↑(zq rows):Int))) true,.tt,.tt,.b (11==0) false] ⟨o_n (by simp),tP,bK,trivial⟩ ?_
  exact ge
 ·refine qq ?_
  refine gg [.n (zq (zz encI rows)) (zq rows),.b (decide ((i:Int)<(↑(zq rows):Int))) false,.ff,.ff,.ff] ⟨o_n (by simp),fP,trivial⟩ ?_
  exact ge
theorem AbE (c:Config) (w x w2:World) (e e2 i2:Int) (rows:List InputL) (i:Nat) (hlt:i<rows.length) (hn:rows.length≤100) (hS:Is cx (.call 35 [.t c.enc,.t w.enc,.t (.sl 3 ((gt rows i).map zr))] []) ⟨.ret,[.t x.enc,vi e],[]⟩)
  (ih1:Is cx (.loop 44 [0,1,0,1,1] 0 [.t (.sl 1 (rows.map encI)),.ptr 0 0 0,.ptr 1 0 0,.ptr 2 0 0,vi e,vi (i+1:Nat)] [.one 5 (.t c.enc) false,.one 2 (.agg [.fit 2 [],.fit 1 []]) false,.one 2 (.t (x).enc) false])
   ⟨.exit 0,[.t (.sl 1 (rows.map encI)),.ptr 0 0 0,.ptr 1 0 0,.ptr 2 0 0,vi e2,vi i2],[.one 5 (.t c.enc) false,.one 2 (.agg [.fit 2 [],.fit 1 []]) false,.one 2 (.t (w2).enc) false]⟩):Is cx (.loop 44 [0,1,0,1,1] 0 [.t (.sl 1 (rows.map encI)),.ptr 0 0 0,.ptr 1 0 0,.ptr 2 0 0,vi 0,vi (i)] [.one 5 (.t c.enc) false,.one 2 (.agg [.fit 2 [],.fit 1 []]) false,.one 2 (.t (w).enc) false])
   ⟨.exit 0,[.t (.sl 1 (rows.map encI)),.ptr 0 0 0,.ptr 1 0 0,.ptr 2 0 0,vi e2,vi i2],[.one 5 (.t c.enc) false,.one 2 (.agg [.fit 2 [],.fit 1 []]) false,.one 2 (.t (w2).enc) false]⟩:=by
 refine qq ?_
 refine gg [.n (zq (zz encI rows)) (zq rows),.b (decide ((i:Int)<(↑(zq rows):Int))) true,.tt,.tt,.b (0==0) true,.w (0≤(i:Int)),.n (zy (i:Int)) i,.g (zz encI rows) i (encI (gt rows i)),.a _ _,.i zd ((i:Int)+1) ((↑(i+1):Int)),.a _ _] ⟨o_n (by simp),tP,bK,oW,nK,o_gt rfl (by assumption) (by intro h;cases h),o_a hS,oI,o_a ih1,trivial⟩ ?_
 exact ge
theorem AeB (c:Config) (rows:List InputL) (hn:rows.length≤100) (hs: ∀r∈rows,long r): ∀(d i:Nat) (w:World) (f:Int),i+d=rows.length→WFine c w f→0≤f→f+d≤10000→
  ∃i2:Int,Is cx (.loop 44 [0,1,0,1,1] 0 [.t (.sl 1 (rows.map encI)),.ptr 0 0 0,.ptr 1 0 0,.ptr 2 0 0,vi 0,vi (i)] [.one 5 (.t c.enc) false,.one 2 (.agg [.fit 2 [],.fit 1 []]) false,.one 2 (.t (w).enc) false])
   ⟨.exit 0,[.t (.sl 1 (rows.map encI)),.ptr 0 0 0,.ptr 1 0 0,.ptr 2 0 0,vi (runE c w (rows.drop i)).2,vi i2],[.one 5 (.t c.enc) false,.one 2 (.agg [.fit 2 [],.fit 1 []]) false,.one 2 (.t ((runE c w (rows.drop i)).1).enc) false]⟩:=by
 intro d
 induction d with
 |zero=>
  intro i w f hi hw h0 hf
  rw [Aac (by omega)]
  exact ⟨_,Aet c w 0 rows i (by omega) hn⟩
 |succ d ih=>
  intro i w f hi hw h0 hf
  have hlt:i<rows.length:=by omega
  have hS:=Aek c w f (gt rows i) hw (by omega) (hs _ (Aa3 hlt))
  rw [Aae hlt,runE]
  unfold nextE at hS
  cases hb:badRow c (gt rows i) with
  |true=>
   rw [hb] at hS
   simp only [if_true] at hS⊢
   exact ⟨_,AbE c w _ _ 11 _ _ rows i hlt hn hS (Ae4 c ⟨[],[]⟩ rows (i+1) hn (by omega))⟩
  |false=>
   rw [hb] at hS
   simp only [Bool.false_eq_true,if_false] at hS⊢
   obtain ⟨h1,h2⟩:=AbW hb
   obtain ⟨i2,k⟩:=ih (i+1) (nextW c w (gt rows i)) (f+1) (by omega) (Ah7 hw (by omega) h1 h2) (by omega) (by omega)
   exact ⟨i2,AbE c w _ _ 0 _ _ rows i hlt hn hS k⟩
theorem Afh (c:Config) (rows:List InputL) (hr:c.right=true) (hn:rows.length≤100) (hs: ∀r∈rows,long r):
  Is cx (.call 44 [.t c.enc,.t (.sl 1 (rows.map encI))] []) ⟨.ret,[.t (runE c (beginW c.cols c.regions c.players.toNat) rows).1.enc,vi (runE c (beginW c.cols c.regions c.players.toNat) rows).2],[]⟩:=by
 have hB:=Abo c hr
 obtain ⟨i2,hL⟩:=AeB c rows hn hs rows.length 0 _ 0 (by omega) (AeN hr) (by omega) (by omega)
 rw [List.drop_zero] at hL
 generalize runE c (beginW c.cols c.regions c.players.toNat) rows=W at*
 generalize beginW c.cols c.regions c.players.toNat=B at*
 obtain ⟨x,e⟩:=W
 simp only at hL⊢
 clear hs
 refine qq ?_
 refine gg [.a _ _,.a _ _] ⟨o_a hB,o_a hL,trivial⟩ ?_
 exact ge
theorem Ad1 (c:Config) (rows:List InputL) (hr:c.right=false) (hn:rows.length≤100):Is cx (.call 44 [.t c.enc,.t (.sl 1 (rows.map encI))] []) ⟨.ret,[.t (World.enc ⟨[],[]⟩),vi 10],[]⟩:=by
 have hB:=Ab3 c hr
 have hL:Is cx (.loop 44 [0,1,0,1,1] 0 [.t (.sl 1 (rows.map encI)),.ptr 0 0 0,.ptr 1 0 0,.ptr 2 0 0,vi 10,vi (0)] [.one 5 (.t c.enc) false,.one 2 (.agg [.fit 2 [],.fit 1 []]) false,.one 2 (.t ((World.mk [] [])).enc) false])
   ⟨.exit 0,[.t (.sl 1 (rows.map encI)),.ptr 0 0 0,.ptr 1 0 0,.ptr 2 0 0,vi 10,vi 0],[.one 5 (.t c.enc) false,.one 2 (.agg [.fit 2 [],.fit 1 []]) false,.one 2 (.t ((World.mk [] [])).enc) false]⟩:=by
  by_cases h:0<rows.length
  ·refine qq ?_
   refine gg [.n (zq (zz encI rows)) (zq rows),.b (decide (0<(↑(zq rows):Int))) true,.tt,.tt,.b (10==0) false] ⟨o_n (by simp),tP,bK,trivial⟩ ?_
   exact ge
  ·refine qq ?_
   refine gg [.n (zq (zz encI rows)) (zq rows),.b (decide (0<(↑(zq rows):Int))) false,.ff,.ff,.ff] ⟨o_n (by simp),fP,trivial⟩ ?_
   exact ge
 refine qq ?_
 refine gg [.a _ _,.a _ _] ⟨o_a hB,o_a hL,trivial⟩ ?_
 exact ge
end Go.Eva.S4
namespace Go.Eva
def downK (l:List Entity) (x:Entity):Nat→Nat
 |0=>0
 |m+1=>if (gt l m).id>x.id then downK l x m else m+1
theorem AjA {l:List Entity} {x:Entity}: ∀ {m:Nat},downK l x m≤m
 |0=>Nat.le_refl _
 |m+1=>by
  rw [downK]
  split
  ·exact Nat.le_succ_of_le AjA
  ·exact Nat.le_refl _
theorem Aji {l:List Entity} {x:Entity}: ∀ {m j:Nat},downK l x m≤j→j<m→x.id<(gt l j).id
 |0,j,_,h=>by omega
 |m+1,j,h1,h2=>by
  rw [downK] at h1
  split at h1
  ·rename_i h
   by_cases e:j=m
   ·subst e;omega
   ·exact Aji h1 (by omega)
  ·omega
theorem Ake {l:List Entity} {x:Entity}: ∀ {m:Nat},0<downK l x m→(gt l (downK l x m-1)).id≤x.id
 |0,h=>by simp [downK] at h
 |m+1,h=>by
  rw [downK] at h⊢
  split
  ·rename_i hq
   rw [if_pos hq] at h
   exact Ake h
  ·simpa using by omega
theorem Aja {x:Entity}: ∀ {a b:List Entity},(∀y∈a,z8 x y=false)→(∀y∈b.head?,z8 x y=true)→insS z8 (a++b) x=a++x::b
 | [],[],_,_=>rfl
 | [],y::b,_,h=>by
  have:=h y (by simp)
  simp only [List.nil_append,insS,this]
 |z::a,b,h1,h2=>by
  have hz:=h1 z (List.mem_cons_self ..)
  simp only [List.cons_append,insS,hz]
  rw [Aja (fun y hy=>h1 y (List.mem_cons_of_mem _ hy)) h2]
theorem AkQ {a b:Entity}:z8 a b=decide (a.id<b.id):=by
 unfold z8 Entity.cmp cmpI
 rw [Bool.eq_iff_iff]
 simp only [decide_eq_true_eq]
 split<;>(try split)<;>omega
theorem Apr {l:List Entity} (h:Sd z8 l) {i j:Nat} (hij:i≤j) (hj:j<l.length):(gt l i).id≤(gt l j).id:=by
 by_cases e:i=j
 ·subst e;omega
 ·have:=List.pairwise_iff_getElem.1 h i j (by omega) hj (by omega)
  rw [AkQ] at this
  rw [gt_eq (by omega),gt_eq hj]
  simp at this
  omega
theorem AjT {l:List Entity} {x:Entity} (h:Sd z8 l):insS z8 l x=l.take (downK l x l.length)++x::l.drop (downK l x l.length):=by
 have hk:= @AjA l x l.length
 conv=>lhs;rw [←List.take_append_drop (downK l x l.length) l]
 refine Aja (fun y hy=> ?_) (fun y hy=> ?_)
 ·obtain ⟨j,hj,rfl⟩:=List.mem_iff_getElem.1 hy
  rw [List.length_take] at hj
  have hpos:0<downK l x l.length:=by omega
  have h1:=Ake hpos
  have h2:=Apr h (i:=j) (j:=downK l x l.length-1) (by omega) (by omega)
  rw [gt_eq (show j<l.length by omega)] at h2
  rw [AkQ,List.getElem_take]
  simp
  omega
 ·rw [List.head?_drop] at hy
  have hlt:downK l x l.length<l.length:=by
   rcases Nat.lt_or_ge (downK l x l.length) l.length with h|h
   ·exact h
   ·rw [List.getElem?_eq_none h] at hy;simp at hy
  have h1:=Aji (Nat.le_refl _) hlt
  rw [List.getElem?_eq_getElem hlt] at hy
  simp at hy
  subst hy
  rw [gt_eq hlt] at h1
  rw [AkQ]
  simpa using h1
end Go.Eva
namespace Go.Eva.S4
theorem AcQ (w:World) (hn:w.regions.length≤1000) (hs:(entsAll w.regions).length≤100000): ∀(d i:Nat) (A:List Entity),i+d=w.regions.length→A.length+(entsAll (w.regions.drop i)).length=(entsAll w.regions).length→
  Is cx (.loop 47 [0,1,0,1,1] 0 [.ptr 0 0 0,.all 1 none,vi i] [.one 2 (.t w.enc) false,.arr 9 ((A).map zm) none false])
   ⟨.exit 0,[.ptr 0 0 0,.all 1 none,vi w.regions.length],[.one 2 (.t w.enc) false,.arr 9 ((A++entsAll (w.regions.drop i)).map zm) none false]⟩:=by
 obtain ⟨R,O⟩:=w
 simp only at*
 intro d
 induction d with
 |zero=>
  intro i A hi hA
  rw [Aac (by omega)]
  refine qq ?_
  refine gg [.n (zq (zz zt R)) (zq R),.b (decide ((i:Int)<(↑(zq R):Int))) false] ⟨o_n (by simp),fP,trivial⟩ ?_
  refine rT (a:=qz (qx 0) [V.ptr 0 0 0,qy 1 none,vi (i:Int)] [qg 2 (V.t (World.enc (World.mk R O))) false,qv 9 (zz zm A) none false]) ?_
  ((have hq:i=R.length:=by omega);subst hq;simp [entsAll])
 |succ d ih=>
  intro i A hi hA
  have hlt:i<R.length:=by omega
  rw [Anq hlt] at hA⊢
  rw [List.length_append] at hA
  have ih1:=ih (i+1) (A++(gt R i).ents) (by omega) (by rw [List.length_append];omega)
  clear ih
  rw [←List.append_assoc]
  refine qq ?_
  refine gg [.n (zq (zz zt R)) (zq R),.b (decide ((i:Int)<(↑(zq R):Int))) true,.w (0≤(i:Int)),.n (zy (i:Int)) i,.g (zz zt R) i (zt (gt R i)),.w ((0:Nat)<(72:Nat)),.s (qk 0 (zz zm (gt R i).ents)),.t (qk 0 (zz zm A++zz zm (gt R i).ents)) (qk 0 (zz zm (A++(gt R i).ents))),.w (room (zq (zz zm (A++(gt R i).ents))) (72:Nat)),.i zd ((i:Int)+1) ((↑(i+1):Int)),.a _ _] ⟨o_n (by simp),tP,oW,nK,o_gt rfl (by assumption) (by intro h;cases h),oW,o_l (Aam rfl rfl),o_w (by (simp [room,appendMax];omega)),oI,o_a ih1,trivial⟩ ?_
  exact ge
theorem AeD (w:World) (i:Nat) (hi:i<w.outs.length) (hl:(gt w.outs i).length≤1000): ∀(d j:Nat) (A:List Entity),j+d=(gt w.outs i).length→A.length≤500000+j→
  Is cx (.loop 47 [0,1,0,0,1,0,0,1,0,1,1,1] 0 [.ptr 0 0 0,.all 1 none,vi i,vi j] [.one 2 (.t w.enc) false,.arr 9 ((A).map zm) none false])
   ⟨.exit 4,[.ptr 0 0 0,.all 1 none,vi i,vi (gt w.outs i).length],[.one 2 (.t w.enc) false,.arr 9 ((A++handed ((gt w.outs i).drop j)).map zm) none false]⟩:=by
 obtain ⟨R,O⟩:=w
 simp only at*
 intro d
 induction d with
 |zero=>
  intro j A hj hA
  rw [Aac (by omega)]
  refine qq ?_
  refine gg [.w (0≤(i:Int)),.n (zy (i:Int)) i,.g (zz encL O) i (encL (gt O i)),.n (zq (zz zn (gt O i))) (zq (gt O i)),.b (decide ((j:Int)<(↑(zq (gt O i)):Int))) false] ⟨oW,nK,o_gt rfl (by assumption) (by intro h;cases h),o_n (by simp),fP,trivial⟩ ?_
  refine rT (a:=qz (qx 4) [V.ptr 0 0 0,qy 1 none,vi (i:Int),vi (j:Int)] [qg 2 (V.t (World.enc (World.mk R O))) false,qv 9 (zz zm A) none false]) ?_
  ((have hq:j=(gt O i).length:=by omega);subst hq;simp [handed])
 |succ d ih=>
  intro j A hj hA
  have hlt:j<(gt O i).length:=by omega
  rw [Akt hlt]
  by_cases hk:(gt (gt O i) j).kind=1
  ·have ih1:=ih (j+1) (A++ [(gt (gt O i) j).ent]) (by omega) (by simp;omega)
   rw [if_pos hk,←List.append_assoc]
   clear ih
   refine qq ?_
   refine gg [.w (0≤(i:Int)),.n (zy (i:Int)) i,.g (zz encL O) i (encL (gt O i)),.n (zq (zz zn (gt O i))) (zq (gt O i)),.b (decide ((j:Int)<(↑(zq (gt O i)):Int))) true,.w (0≤(i:Int)),.n (zy (i:Int)) i,.g (zz encL O) i (encL (gt O i)),.w (0≤(j:Int)),.n (zy (j:Int)) j,.g (zz zn (gt O i)) j (zn (gt (gt O i) j)),.b ((gt (gt O i) j).kind==1) true,.w (0≤(i:Int)),.n (zy (i:Int)) i,.g (zz encL O) i (encL (gt O i)),.w (0≤(j:Int))] ⟨oW,nK,o_gt rfl (by assumption) (by intro h;cases h),o_n (by simp),tP,oW,nK,o_gt rfl (by assumption) (by intro h;cases h),oW,nK,o_gt rfl (by assumption) (by intro h;cases h),t_bre (by assumption),oW,nK,o_gt rfl (by assumption) (by intro h;cases h),oW,trivial⟩ ?_
   refine gg [.n (zy (j:Int)) j,.g (zz zn (gt O i)) j (zn (gt (gt O i) j)),.w ((0:Nat)<(72:Nat)),.t (qk 0 [zm (gt (gt O i) j).ent]) (qk 0 (zz zm [(gt (gt O i) j).ent])),.t (qk 0 (zz zm A++zz zm [(gt (gt O i) j).ent])) (qk 0 (zz zm (A++ [(gt (gt O i) j).ent]))),.w (room (zq (zz zm (A++ [(gt (gt O i) j).ent]))) (72:Nat)),.i zd ((j:Int)+1) ((↑(j+1):Int)),.a _ _] ⟨nK,o_gt rfl (by assumption) (by intro h;cases h),oW,o_l (Aaf rfl Aap),o_l (Aam rfl rfl),o_w (by (simp [room,appendMax];omega)),oI,o_a ih1,trivial⟩ ?_
   exact ge
  ·have ih1:=ih (j+1) A (by omega) (by omega)
   rw [if_neg hk,List.nil_append]
   clear ih
   refine qq ?_
   refine gg [.w (0≤(i:Int)),.n (zy (i:Int)) i,.g (zz encL O) i (encL (gt O i)),.n (zq (zz zn (gt O i))) (zq (gt O i)),.b (decide ((j:Int)<(↑(zq (gt O i)):Int))) true,.w (0≤(i:Int)),.n (zy (i:Int)) i,.g (zz encL O) i (encL (gt O i)),.w (0≤(j:Int)),.n (zy (j:Int)) j,.g (zz zn (gt O i)) j (zn (gt (gt O i) j)),.b ((gt (gt O i) j).kind==1) false,.i zd ((j:Int)+1) ((↑(j+1):Int)),.a _ _] ⟨oW,nK,o_gt rfl (by assumption) (by intro h;cases h),o_n (by simp),tP,oW,nK,o_gt rfl (by assumption) (by intro h;cases h),oW,nK,o_gt rfl (by assumption) (by intro h;cases h),f_bre (by assumption),oI,o_a ih1,trivial⟩ ?_
   exact ge
theorem AeE (w:World) (hn:w.outs.length≤100) (hs: ∀l∈w.outs,l.length≤1000): ∀(d i:Nat) (A:List Entity),i+d=w.outs.length→A.length≤100000+1000*i→
  Is cx (.loop 47 [0,1,0,1,1,1] 0 [.ptr 0 0 0,.all 1 none,vi i] [.one 2 (.t w.enc) false,.arr 9 ((A).map zm) none false])
   ⟨.exit 2,[.ptr 0 0 0,.all 1 none,vi w.outs.length],[.one 2 (.t w.enc) false,.arr 9 ((A++handedAll (w.outs.drop i)).map zm) none false]⟩:=by
 intro d
 induction d with
 |zero=>
  intro i A hi hA
  rw [Aac (by omega)]
  obtain ⟨R,O⟩:=w
  simp only at*
  refine qq ?_
  refine gg [.n (zq (zz encL O)) (zq O),.b (decide ((i:Int)<(↑(zq O):Int))) false] ⟨o_n (by simp),fP,trivial⟩ ?_
  refine rT (a:=qz (qx 2) [V.ptr 0 0 0,qy 1 none,vi (i:Int)] [qg 2 (V.t (World.enc (World.mk R O))) false,qv 9 (zz zm A) none false]) ?_
  ((have hq:i=O.length:=by omega);subst hq;simp [handedAll])
 |succ d ih=>
  intro i A hi hA
  have hlt:i<w.outs.length:=by omega
  rw [AgT hlt]
  have hl:=hs _ (Aa3 hlt)
  have hh:(handed (gt w.outs i)).length≤(gt w.outs i).length:=by unfold handed;rw [List.length_map];exact List.length_filter_le ..
  have ih1:=ih (i+1) (A++handed (gt w.outs i)) (by omega) (by rw [List.length_append];omega)
  have h2:=AeD w i hlt hl (gt w.outs i).length 0 A (by omega) (by omega)
  rw [List.drop_zero] at h2
  clear ih hs hh
  rw [←List.append_assoc]
  generalize handed (gt w.outs i)=hd at*
  obtain ⟨R,O⟩:=w
  simp only at*
  refine qq ?_
  refine gg [.n (zq (zz encL O)) (zq O),.b (decide ((i:Int)<(↑(zq O):Int))) true,.a _ _,.i zd ((i:Int)+1) ((↑(i+1):Int)),.a _ _] ⟨o_n (by simp),tP,o_a h2,oI,o_a ih1,trivial⟩ ?_
  exact ge
theorem Ae7 (l out:List Entity) (i:Nat) (hi:i<l.length) (hl:l.length≤1000000) (ho:out.length≤1000000): ∀(m:Nat),m≤out.length→
  Is cx (.loop 47 [0,0,1,0,0,1,0,0,1,0,1,1,1,1,1] 0 [.all 0 none,.all 1 none,vi i,vi m] [.arr 9 ((l).map zm) none false,.arr 9 ((out).map zm) none false])
   ⟨.exit 8,[.all 0 none,.all 1 none,vi i,vi (downK out (gt l i) m:Nat)],[.arr 9 ((l).map zm) none false,.arr 9 ((out).map zm) none false]⟩:=by
 intro m
 induction m with
 |zero=>
  intro hm
  rw [downK]
  refine qq ?_
  refine gg [.b (decide (0>0)) false,.ff,.ff,.ff,.ff,.ff,.ff,.ff,.ff,.ff,.ff,.ff,.ff,.ff] ⟨bK,trivial⟩ ?_
  exact ge
 |succ m ih=>
  intro hm
  have ih1:=ih (by omega)
  have hlt:m<out.length:=by omega
  have e:((m+1:Nat):Int)-1=(m:Nat):=by omega
  rw [downK]
  by_cases h:(gt out m).id>(gt l i).id
  ·rw [if_pos h]
   generalize downK out (gt l i) m=z at*
   refine qq ?_
   refine gg [.b (decide ((↑(m+1):Int)>0)) true,.tt,.tt,.i zd ((↑(m+1):Int)-1) (m:Int),.tt,.w (0≤(m:Int)),.n (zy (m:Int)) m,.w (m<zq (zz zm out)),.tt,.tt,.tt,.tt,.w (0≤(i:Int)),.n (zy (i:Int)) i,.w (i<zq (zz zm l)),.tt] ⟨tP,oI,oW,nK,o_w (by (simp;omega)),oW,nK,o_w (by (simp;omega)),trivial⟩ ?_
   refine gg [.tt,.g (zz zm out) m (zm (gt out m)),.tt,.g (zz zm l) i (zm (gt l i)),.tt,.tt,.b (decide ((gt out m).id>(gt l i).id)) true,.i zd ((↑(m+1):Int)-1) (m:Int),.a _ _] ⟨o_gt rfl (by assumption) (by intro h;cases h),o_gt rfl (by assumption) (by intro h;cases h),t_brp (by assumption),oI,o_a (ih (by omega)),trivial⟩ ?_
   exact ge
  ·rw [if_neg h]
   clear ih1
   refine qq ?_
   refine gg [.b (decide ((↑(m+1):Int)>0)) true,.tt,.tt,.i zd ((↑(m+1):Int)-1) (m:Int),.tt,.w (0≤(m:Int)),.n (zy (m:Int)) m,.w (m<zq (zz zm out)),.tt,.tt,.tt,.tt,.w (0≤(i:Int)),.n (zy (i:Int)) i,.w (i<zq (zz zm l)),.tt] ⟨tP,oI,oW,nK,o_w (by (simp;omega)),oW,nK,o_w (by (simp;omega)),trivial⟩ ?_
   refine gg [.tt,.g (zz zm out) m (zm (gt out m)),.tt,.g (zz zm l) i (zm (gt l i)),.tt,.tt,.b (decide ((gt out m).id>(gt l i).id)) false] ⟨o_gt rfl (by assumption) (by intro h;cases h),o_gt rfl (by assumption) (by intro h;cases h),f_brp (by assumption),trivial⟩ ?_
   exact ge
theorem Ae8 (l:List Entity) (hl:l.length≤500000): ∀(d i:Nat) (out:List Entity),i+d=l.length→out.length≤i→Sd z8 out→
  Is cx (.loop 47 [0,1,0,1,1,1,1,1] 0 [.all 0 none,.all 1 none,vi i] [.arr 9 ((l).map zm) none false,.arr 9 ((out).map zm) none false])
   ⟨.exit 6,[.all 0 none,.all 1 none,vi l.length],[.arr 9 ((l).map zm) none false,.arr 9 (((l.drop i).foldl (insS z8) out).map zm) none false]⟩:=by
 intro d
 induction d with
 |zero=>
  intro i out hi ho hs
  rw [Aac (by omega),List.foldl_nil]
  refine qq ?_
  refine gg [.n (zq (zz zm l)) (zq l),.b (decide ((i:Int)<(↑(zq l):Int))) false] ⟨o_n (by simp),fP,trivial⟩ ?_
  refine rT (a:=qz (qx 6) [qy 0 none,qy 1 none,vi (i:Int)] [qv 9 (zz zm l) none false,qv 9 (zz zm out) none false]) ?_
  ((have hq:i=l.length:=by omega);subst hq;rfl)
 |succ d ih=>
  intro i out hi ho hs
  have hlt:i<l.length:=by omega
  have hD:=Ae7 l out i hlt (by omega) (by omega) out.length (Nat.le_refl _)
  have hk:= @AjA out (gt l i) out.length
  have hln:(insS z8 out (gt l i)).length=out.length+1:=by rw [AjT hs];simp;omega
  have ih1:=ih (i+1) (insS z8 out (gt l i)) (by omega) (by omega) (Aik Aak hs)
  rw [Aae hlt,List.foldl_cons]
  rw [AjT hs,List.append_cons] at ih1⊢
  clear ih hs hln
  generalize (l.drop (i+1)).foldl (insS z8) _=X at*
  generalize downK out (gt l i) out.length=k at*
  have hT:zk k out=zw (out.length-k) (zk k out):=by rw [List.take_of_length_le (by simp)]
  rw [hT] at ih1
  clear hT
  refine qq ?_
  refine gg [.n (zq (zz zm l)) (zq l),.b (decide ((i:Int)<(↑(zq l):Int))) true,.n (zq (zz zm out)) (zq out),.a _ _,.w (0≤(k:Int)),.n (zy (k:Int)) k,.w ((0:Nat)≤k∧k≤zq (zz zm out)),.l 0,.n (k-0) k,.w (0≤(i:Int)),.n (zy (i:Int)) i,.w (i<zq (zz zm l)),.w (0≤(k:Int)),.n (zy (k:Int)) k,.w (k≤zq (zz zm out)∧zq (zz zm out)≤zq (zz zm out)),.n (0+k) k] ⟨o_n (by simp),tP,o_n (by simp),o_a hD,oW,nK,o_w ⟨(by omega),(by (simp;omega))⟩,nK,oW,nK,o_w (by (simp;omega)),oW,nK,o_w ⟨(by (simp;omega)),(by omega)⟩,oN,trivial⟩ ?_
  refine gg [.n (zq (zz zm out)-k) (zq out-k),.g (zz zm l) i (zm (gt l i))] ⟨o_n (by simp),o_gt rfl (by assumption) (by intro h;cases h),trivial⟩ ?_
  refine bO ?_ ?_
  all_goals
   refine gg [.w ((0:Nat)<(72:Nat)),.t (qk 0 (zw k (zk 0 (zz zm out)))) (qk 0 (zz zm (zw k out))),.s (qk 0 (zz zm (zw k out))),.w (room (zq (zz zm (zw k out))) (72:Nat)),.w ((0:Nat)<(72:Nat)),.t (qk 0 [zm (gt l i)]) (qk 0 (zz zm [gt l i])),.t (qk 0 (zz zm (zw k out)++zz zm [gt l i])) (qk 0 (zz zm (zw k out++ [gt l i]))),.w (room (zq (zz zm (zw k out++ [gt l i]))) (72:Nat)),.w ((0:Nat)<(72:Nat)),.t (qk 0 (zw (zq out-k) (zk k (zz zm out)))) (qk 0 (zz zm (zw (zq out-k) (zk k out)))),.t (qk 0 (zz zm (zw k out++ [gt l i])++zz zm (zw (zq out-k) (zk k out)))) (qk 0 (zz zm (zw k out++ [gt l i]++zw (zq out-k) (zk k out)))),.w (room (zq (zz zm (zw k out++ [gt l i]++zw (zq out-k) (zk k out)))) (72:Nat)),.i zd ((i:Int)+1) ((↑(i+1):Int)),.a _ _] ⟨oW,o_l (nm_eq (AaQ (AbB rfl)) (by kernel_rfl)),o_w (by (simp [room,appendMax];omega)),oW,o_l (Aaf rfl Aap),o_l (Aam rfl rfl),o_w (by (simp [room,appendMax];omega)),oW,o_l (AaQ (AbB rfl)),o_l (Aam rfl rfl),o_w (by (simp [room,appendMax];omega)),oI,o_a ih1,trivial⟩ ?_
   refine rT (a:=qz (qx 6) [qy 0 none,qy 1 none,vi (↑(zq l):Int)] [qv 9 (zz zm l) none false,qv 9 (zz zm X) none false]) ?_
   (first|rfl|(simp;done))
theorem Ahj (w:World) (hn:w.regions.length≤1000) (hs:(entsAll w.regions).length≤100000) (ho:w.outs.length≤100) (hl: ∀l∈w.outs,l.length≤1000):Fn cx 47 [w.enc] (.sl 9 ((allL w).map zm)):=by
 have h1:=AcQ w hn hs w.regions.length 0 [] (by omega) (by simp)
 rw [List.drop_zero,List.nil_append] at h1
 have h2:=AeE w ho hl w.outs.length 0 (entsAll w.regions) (by omega) (by omega)
 rw [List.drop_zero] at h2
 have hlen:=AfH hl
 have h3:=Ae8 (entsAll w.regions++handedAll w.outs) (by simp;omega) (entsAll w.regions++handedAll w.outs).length 0 [] (by omega) (by simp) (by simp [Sd])
 rw [List.drop_zero] at h3
 unfold allL sortS
 generalize (entsAll w.regions++handedAll w.outs).foldl (insS z8) []=Y at*
 generalize entsAll w.regions=E at*
 generalize E++handedAll w.outs=X at*
 obtain ⟨R,O⟩:=w
 simp only at*
 clear hl hlen
 refine qq ?_
 refine gg [.a _ _,.a _ _,.a _ _] ⟨o_a h1,o_a h2,o_a h3,trivial⟩ ?_
 exact ge
end Go.Eva.S4
namespace Go.Eva.S4
def c213:Config:=⟨2,1,3,1,0⟩
theorem AfK:Fn cx 33 [] (.bool true):=by
 have hB:=Abu c213 (by decide)
 have hA:=AhG (beginW 2 2 3) (by decide) (by decide) (by decide) (by decide)
 have e:allL (beginW 2 2 3)=playersP 2 2 3 1:=by decide+kernel
 rw [e] at hA
 have hl:(playersP 2 2 3 1).length=3:=rfl
 have hr:(beginW 2 2 3).regions.length=2:=rfl
 change Is cx _ ⟨_,[.t (beginW 2 2 3).enc,_],_⟩ at hB
 simp only [c213] at hB
 generalize playersP 2 2 3 1=P at*
 generalize beginW 2 2 3=W at*
 obtain ⟨R,O⟩:=W
 simp only at hr
 refine qq ?_
 refine gg [.a _ _,.b (0==0) true,.tt,.tt,.n (zq (zz zt R)) (zq R),.tt,.tt,.b ((↑(zq R):Int)==2) true,.tt,.a _ _,.tt,.n (zq (zz zm P)) (zq P),.tt,.tt] ⟨o_a hB,bK,o_n (by simp),tE,o_a hA,o_n (by simp),trivial⟩ ?_
 refine rT (a:=qz qj [vb ((↑(zq P):Int)==3)] []) ?_
 (simp;omega)
end Go.Eva.S4
namespace Go.Eva
end Go.Eva
namespace Go.Eva.S4
theorem AmU {c:Config} {r:Int} (h:c.is r=false):c.near r= []:=by simp [z6,h]
theorem AfL (c:Config) (outs:List CrossL) (r:Int) (h:c.near r= []):Is cx (.call 38 [.t c.enc,.t (.sl 1 (outs.map encL)),vi r] []) ⟨.ret,[.t (.sl 15 [])],[]⟩:=by
 have hN:=AbY c r
 rw [h] at hN
 have hL:Is cx (.loop 38 [0,1,0,1,1] 0 [.t (.sl 1 (outs.map encL)),vi r,.all 0 none,.t (.sl 1 []),vi 0,vi 0] [.arr 15 [] none false])
   ⟨.exit 0,[.t (.sl 1 (outs.map encL)),vi r,.all 0 none,.t (.sl 1 []),vi 0,vi 0],[.arr 15 [] none false]⟩:=by
  refine qq ?_
  refine gg [.b (decide (0<0)) false] ⟨bK,trivial⟩ ?_
  exact ge
 refine qq ?_
 refine gg [.a _ _,.l 0,.a _ _] ⟨o_a hN,o_a hL,trivial⟩ ?_
 exact ge
theorem Ado (c:Config) (outs:List CrossL) (r:Int) (h:c.near r= []):Fn cx 48 [c.enc,.sl 1 (outs.map encL),ti r] (.sl 15 []):=by
 have hN:=AaP c r
 rw [h] at hN
 have hL:Is cx (.loop 48 [0,1,0,1,1,1] 0 [.t (.sl 1 (outs.map encL)),vi r,.all 0 none,.t (.sl 1 []),vi 0] [.arr 15 [] none false])
   ⟨.exit 0,[.t (.sl 1 (outs.map encL)),vi r,.all 0 none,.t (.sl 1 []),vi 0],[.arr 15 [] none false]⟩:=by
  refine qq ?_
  refine gg [.l 0,.b (decide (0<0)) false] ⟨bK,trivial⟩ ?_
  exact ge
 refine qq ?_
 refine gg [.a _ _,.a _ _] ⟨o_a hN,o_a hL,trivial⟩ ?_
 exact ge
theorem Anf (c:Config) (outs:List CrossL) (r:Int) (ho:outs.length≤16) (hs: ∀l∈outs,l.length≤400): ∃Z:List Cross,small Z∧
  Is cx (.call 38 [.t c.grid.enc,.t (.sl 1 (outs.map encL)),vi r] []) ⟨.ret,[.t (.sl 15 (Z.map zn))],[]⟩∧Fn cx 48 [c.enc,.sl 1 (outs.map encL),ti r] (.sl 15 (Z.map zn)):=by
 cases h:c.is r with
 |true=>
  have hr:=Config.is_right h
  refine ⟨inboxL c outs r,?_,?_,AaK c outs r h ho hs⟩
  ·have hns:= @Aa0 c r
   have:=Ah5 (g:=fun q:Int=>toL (gt outs q.toNat) r) (n:=400) (l:=(c.near r).filter fun q=>decide (q<(outs.length:Int))) fun q hq=>by
    obtain ⟨h1,h2⟩:=List.mem_filter.1 hq
    have hq2:=AhZ h h1
    simp at h2
    exact Nat.le_trans (@AjE (gt outs q.toNat) r) (hs _ (Aa3 (by omega)))
   have h2:((c.near r).filter fun q=>decide (q<(outs.length:Int))).length≤9:=Nat.le_trans (List.length_filter_le ..) hns
   have h3:=Nat.mul_le_mul_right 400 h2
   unfold small inboxL
   exact Nat.le_trans this (Nat.le_trans h3 (by decide))
  ·rw [Config.grid_of hr]
   exact AbR c outs r h ho hs
 |false=>
  have hn:=AmU h
  refine ⟨[],by simp [small],?_,Ado c outs r hn⟩
  exact AfL c.grid outs r (by rw [AmQ];exact hn)
theorem AlS (g:Config) (rows:List InputL) (hn:rows.length≤25) (e0 e er:Int) (r:Int) (x0 x:World) (k:Config) (Y:List Entity) (Z:List Cross) (ha:Fn cx 33 [] (.bool true))
  (b1:Is cx (.call 37 [.t g.enc] []) ⟨.ret,[.t x0.enc,vi e0],[]⟩) (b2:Is cx (.call 42 [.t g.enc] []) ⟨.ret,[.t x0.enc,vi e0],[]⟩)
  (r1:Is cx (.call 43 [.t g.enc,.t (.sl 1 (rows.map encI))] []) ⟨.ret,[.t x.enc,vi e],[]⟩) (r2:Is cx (.call 44 [.t g.enc,.t (.sl 1 (rows.map encI))] []) ⟨.ret,[.t x.enc,vi e],[]⟩)
  (hk:Is cx (.call 17 [.t g.enc] []) ⟨.ret,[.t k.enc,vi er],[]⟩)
  (A1:Fn cx 46 [x.enc] (.sl 9 (Y.map zm))) (A2:Fn cx 47 [x.enc] (.sl 9 (Y.map zm)))
  (I1:Is cx (.call 38 [.t k.enc,.t (.sl 1 (x.outs.map encL)),vi r] []) ⟨.ret,[.t (.sl 15 (Z.map zn))],[]⟩) (I2:Fn cx 48 [g.enc,.sl 1 (x.outs.map encL),ti r] (.sl 15 (Z.map zn)))
  (s0:Fn cx 36 [x0.enc,x0.enc] (.bool true)) (s1:Fn cx 36 [x.enc,x.enc] (.bool true)) (p1:Fn cx 45 [.sl 9 (Y.map zm),.sl 9 (Y.map zm)] (.bool true)) (p2:Fn cx 30 [.sl 15 (Z.map zn),.sl 15 (Z.map zn)] (.bool true)):
  Fn cx 9 [g.enc,.sl 1 (rows.map encI),.bool true,ti r] (.bool true):=by
 obtain ⟨R,O⟩:=x
 simp only at I1 I2
 refine qq ?_
 refine gg [.b (!true) false,.n (zq (zz encI rows)) (zq rows),.b (decide ((↑(zq rows):Int)>25)) false,.a _ _,.a _ _,.a _ _,.a _ _,.a _ _,.a _ _,.tt,.tt,.tt,.a _ _,.tt,.tt,.tt] ⟨bK,o_n (by simp),fP,o_a b1,o_a b2,o_a r1,o_a r2,o_a hk,o_a ha,o_a s0,trivial⟩ ?_
 refine gg [.tt,.tt,.b (e0==e0) true,.tt,.tt,.a _ _,.tt,.tt,.tt,.tt,.tt,.b (e==e) true,.tt,.tt,.a _ _,.tt] ⟨t_bre rfl,o_a s1,t_bre rfl,o_a A1,trivial⟩ ?_
 refine gg [.a _ _,.tt,.a _ _,.tt,.tt,.tt,.tt,.tt,.tt,.tt,.tt,.tt,.tt,.a _ _,.tt,.a _ _] ⟨o_a A2,o_a p1,o_a I1,o_a I2,trivial⟩ ?_
 refine gg [.tt,.a _ _,.tt] ⟨o_a p2,trivial⟩ ?_
 refine rT (a:=qz qj [vb true] []) ?_
 simp
theorem AkT (c g:Config) (l rows:List InputL) (hn:rows.length≤25) (hC:Fn cx 16 [c.enc] g.enc)
  (hF:Is cx (.call 22 [.t g.enc,.t (.sl 1 (l.map encI)),vi 25] []) ⟨.ret,[.all 0 none],[.arr 1 (rows.map encI) none false]⟩) (e0 e er:Int) (r:Int) (x0 x:World) (k:Config) (Y:List Entity) (Z:List Cross) (ha:Fn cx 33 [] (.bool true))
  (b1:Is cx (.call 37 [.t g.enc] []) ⟨.ret,[.t x0.enc,vi e0],[]⟩) (b2:Is cx (.call 42 [.t g.enc] []) ⟨.ret,[.t x0.enc,vi e0],[]⟩)
  (r1:Is cx (.call 43 [.t g.enc,.t (.sl 1 (rows.map encI))] []) ⟨.ret,[.t x.enc,vi e],[]⟩) (r2:Is cx (.call 44 [.t g.enc,.t (.sl 1 (rows.map encI))] []) ⟨.ret,[.t x.enc,vi e],[]⟩)
  (hk:Is cx (.call 17 [.t g.enc] []) ⟨.ret,[.t k.enc,vi er],[]⟩)
  (A1:Fn cx 46 [x.enc] (.sl 9 (Y.map zm))) (A2:Fn cx 47 [x.enc] (.sl 9 (Y.map zm)))
  (I1:Is cx (.call 38 [.t k.enc,.t (.sl 1 (x.outs.map encL)),vi r] []) ⟨.ret,[.t (.sl 15 (Z.map zn))],[]⟩) (I2:Fn cx 48 [g.enc,.sl 1 (x.outs.map encL),ti r] (.sl 15 (Z.map zn)))
  (s0:Fn cx 36 [x0.enc,x0.enc] (.bool true)) (s1:Fn cx 36 [x.enc,x.enc] (.bool true)) (p1:Fn cx 45 [.sl 9 (Y.map zm),.sl 9 (Y.map zm)] (.bool true)) (p2:Fn cx 30 [.sl 15 (Z.map zn),.sl 15 (Z.map zn)] (.bool true)):
  Fn cx 9 [c.enc,.sl 1 (l.map encI),.bool false,ti r] (.bool true):=by
 obtain ⟨R,O⟩:=x
 simp only at I1 I2
 refine qq ?_
 refine gg [.b (!false) true,.a _ _,.a _ _,.n (zq (zz encI rows)) (zq rows),.b (decide ((↑(zq rows):Int)>25)) false,.a _ _,.a _ _,.a _ _,.b (flats [World.enc (World.mk R O),ti e]) false,.a _ _,.b (flats [World.enc (World.mk R O),ti e]) false,.a _ _,.a _ _,.tt,.tt,.tt] ⟨bK,o_a hC,o_a hF,o_n (by simp),fP,o_a b1,o_a b2,o_a r1,bK,o_a r2,bK,o_a hk,o_a ha,trivial⟩ ?_
 refine gg [.a _ _,.tt,.tt,.tt,.tt,.tt,.b (e0==e0) true,.tt,.tt,.a _ _,.tt,.tt,.tt,.tt,.tt,.b (e==e) true] ⟨o_a s0,t_bre rfl,o_a s1,t_bre rfl,trivial⟩ ?_
 refine gg [.tt,.tt,.a _ _,.tt,.a _ _,.tt,.a _ _,.tt,.tt,.tt,.tt,.tt,.tt,.tt,.tt,.tt] ⟨o_a A1,o_a A2,o_a p1,trivial⟩ ?_
 refine gg [.tt,.a _ _,.tt,.a _ _,.tt,.a _ _,.tt] ⟨o_a I1,o_a I2,o_a p2,trivial⟩ ?_
 refine rT (a:=qz qj [vb true] []) ?_
 simp
theorem Ak8 (c:Config) (l:List InputL) (r:Int) (hl:long l) (hn:25<l.length) (ha:Fn cx 33 [] (.bool true)):Fn cx 9 [c.enc,.sl 1 (l.map encI),.bool true,ti r] (.bool true):=by
 unfold long at hl
 refine qq ?_
 refine gg [.b (!true) false,.n (zq (zz encI l)) (zq l),.b (decide ((↑(zq l):Int)>25)) true,.a _ _] ⟨bK,o_n (by simp),tP,o_a ha,trivial⟩ ?_
 exact ge
theorem AgW (c:Config) (rows:List InputL) (r:Int) (hn:rows.length≤25) (hs: ∀x∈rows,long x): ∃(e0 e er:Int) (x0 x:World) (k:Config) (Y:List Entity) (Z:List Cross),
  Is cx (.call 37 [.t c.enc] []) ⟨.ret,[.t x0.enc,vi e0],[]⟩∧Is cx (.call 42 [.t c.enc] []) ⟨.ret,[.t x0.enc,vi e0],[]⟩∧
  Is cx (.call 43 [.t c.enc,.t (.sl 1 (rows.map encI))] []) ⟨.ret,[.t x.enc,vi e],[]⟩∧Is cx (.call 44 [.t c.enc,.t (.sl 1 (rows.map encI))] []) ⟨.ret,[.t x.enc,vi e],[]⟩∧
  Is cx (.call 17 [.t c.enc] []) ⟨.ret,[.t k.enc,vi er],[]⟩∧Fn cx 46 [x.enc] (.sl 9 (Y.map zm))∧Fn cx 47 [x.enc] (.sl 9 (Y.map zm))∧
  Is cx (.call 38 [.t k.enc,.t (.sl 1 (x.outs.map encL)),vi r] []) ⟨.ret,[.t (.sl 15 (Z.map zn))],[]⟩∧Fn cx 48 [c.enc,.sl 1 (x.outs.map encL),ti r] (.sl 15 (Z.map zn))∧
  Fn cx 36 [x0.enc,x0.enc] (.bool true)∧Fn cx 36 [x.enc,x.enc] (.bool true)∧Fn cx 45 [.sl 9 (Y.map zm),.sl 9 (Y.map zm)] (.bool true)∧Fn cx 30 [.sl 15 (Z.map zn),.sl 15 (Z.map zn)] (.bool true):=by
 have fin: ∀(x:World),x.regions.length≤16→(∀s∈x.regions,s.ents.length≤31)→x.outs.length≤16→(∀l∈x.outs,l.length≤400)→ ∃(Y:List Entity) (Z:List Cross),
   Fn cx 46 [x.enc] (.sl 9 (Y.map zm))∧Fn cx 47 [x.enc] (.sl 9 (Y.map zm))∧
   Is cx (.call 38 [.t c.grid.enc,.t (.sl 1 (x.outs.map encL)),vi r] []) ⟨.ret,[.t (.sl 15 (Z.map zn))],[]⟩∧Fn cx 48 [c.enc,.sl 1 (x.outs.map encL),ti r] (.sl 15 (Z.map zn))∧
   Fn cx 45 [.sl 9 (Y.map zm),.sl 9 (Y.map zm)] (.bool true)∧Fn cx 30 [.sl 15 (Z.map zn),.sl 15 (Z.map zn)] (.bool true):=by
  intro x h1 h2 h3 h4
  obtain ⟨Z,z1,z2,z3⟩:=Anf c x.outs r h3 h4
  have hE:(entsAll x.regions).length≤16*31:=by
   unfold entsAll
   have:=Ah5 (g:=Region.ents) (n:=31) (l:=x.regions) h2
   exact Nat.le_trans this (Nat.mul_le_mul_right _ h1)
  have hH:(handedAll x.outs).length≤16*400:=by
   unfold handedAll
   have:=Ah5 (g:=handed) (n:=400) (l:=x.outs) fun s hs=>by
    unfold handed
    rw [List.length_map]
    exact Nat.le_trans (List.length_filter_le ..) (h4 s hs)
   exact Nat.le_trans this (Nat.mul_le_mul_right _ h3)
  have hYl:(allL x).length≤16*31+16*400:=by
   unfold allL
   rw [(AhI (lt:=z8)).length_eq,List.length_append]
   omega
  have p1:=AaX (allL x) (allL x) (by unfold small;omega)
  have p2:=Abd Z Z z1
  rw [show plain (allL x) (allL x)=true by simp [plain]] at p1
  rw [show plain Z Z=true by simp [plain]] at p2
  exact ⟨allL x,Z,AhG x (by omega) (by omega) (by omega) (fun s hs=>Nat.le_trans (h4 s hs) (by omega)),Ahj x (by omega) (by omega) (by omega) (fun s hs=>Nat.le_trans (h4 s hs) (by omega)),z2,z3,p1,p2⟩
 cases hr:c.right with
 |false=>
  obtain ⟨Y,Z,f1,f2,f3,f4,f5,f6⟩:=fin ⟨[],[]⟩ (by simp) (by simp) (by simp) (by simp)
  exact ⟨10,10,_,⟨[],[]⟩,⟨[],[]⟩,c.grid,Y,Z,AdH c hr,Ab3 c hr,Af9 c rows hr (by omega),Ad1 c rows hr (by omega),Abs c,f1,f2,f3,f4,Aim,Aim,f5,f6⟩
 |true=>
  have hgl:= @Config.regions_le c
  have hB:=Abu c hr
  rw [show c.cols*c.rows=c.regions by simp [z0,hr]] at hB
  have key: ∀(x:World) (e:Int),runE c (beginW c.cols c.regions c.players.toNat) rows=(x,e)→x.regions.length≤16∧(∀s∈x.regions,s.ents.length≤31)∧x.outs.length≤16∧(∀l∈x.outs,l.length≤400)∧Fn cx 36 [x.enc,x.enc] (.bool true):=by
   intro x e he
   rcases AlV (rows:=rows) (AeN hr) (by omega) (by omega) with h|⟨f,h,_⟩
   ·rw [he] at h
    cases h
    exact ⟨by simp,by simp,by simp,by simp,Aim⟩
   ·rw [he] at h
    change WFine c x f at h
    have h1:=h.regs
    have h2:=h.outs
    refine ⟨by omega,fun s hs=> ?_,by omega,AgQ h,AjS h⟩
    obtain ⟨j,hj,rfl⟩:=List.mem_iff_getElem.1 hs
    have:=(h.sane j hj).2.2
    rw [gt_eq hj] at this
    exact this
  have hR1:=AhW c rows hr (by omega) hs
  have hR2:=Afh c rows hr (by omega) hs
  generalize hW:runE c (beginW c.cols c.regions c.players.toNat) rows=W at*
  obtain ⟨x,e⟩:=W
  obtain ⟨k1,k2,k3,k4,k5⟩:=key x e rfl
  obtain ⟨Y,Z,f1,f2,f3,f4,f5,f6⟩:=fin x k1 k2 k3 k4
  exact ⟨0,e,_,_,x,c.grid,Y,Z,hB,Abo c hr,hR1,hR2,Abs c,f1,f2,f3,f4,AjS (AeN hr),k5,f5,f6⟩
theorem Aec (c:Config) (l:List InputL) (raw:Bool) (r:Int) (hl:long l) (hr: ∀x∈l,long x):Fn cx 9 [c.enc,.sl 1 (l.map encI),.bool raw,ti r] (.bool true):=by
 have ha:=AfK
 cases raw with
 |true=>
  by_cases hn:25<l.length
  ·exact Ak8 c l r hl hn ha
  ·obtain ⟨e0,e,er,x0,x,k,Y,Z,h1,h2,h3,h4,h5,h6,h7,h8,h9,h10,h11,h12,h13⟩:=AgW c l r (by omega) hr
   exact AlS c l (by omega) e0 e er r x0 x k Y Z ha h1 h2 h3 h4 h5 h6 h7 h8 h9 h10 h11 h12 h13
 |false=>
  obtain ⟨hrt,h1,h2,h3,h4⟩:= @Config.play_ok c
  have hC:=AfV c
  generalize c.play=g at*
  obtain ⟨n,hc⟩: ∃n:Nat,g.players=n:=⟨g.players.toNat,by omega⟩
  have hF:=AfO g l 25 n hc (by omega) hl (by decide) hr
  have hro:= @AjB n l 25
  have hrl:= @Ai3 n l 25
  generalize playFrames n l 25=rows at*
  obtain ⟨e0,e,er,x0,x,k,Y,Z,h1,h2,h3,h4,h5,h6,h7,h8,h9,h10,h11,h12,h13⟩:=AgW g rows r hrl (fun x hx=>by unfold long;have:=(hro x hx).1;omega)
  exact AkT c g l rows hrl hC hF e0 e er r x0 x k Y Z ha h1 h2 h3 h4 h5 h6 h7 h8 h9 h10 h11 h12 h13
end Go.Eva.S4
namespace Go.Eva.S4
open Go.Proofs
theorem cxTy:CxTy Tryz.prog cx:=AoK (by decide+kernel) (by decide+kernel) (⟨⟨Tryz.f179,by kernel_rfl,by decide+kernel,by kernel_rfl,by kernel_rfl,by kernel_rfl,by kernel_rfl,48,by kernel_rfl⟩,trivial⟩)
theorem ok9:FnOK Tryz.prog cx 9 fi9 Tryz.f9:=mkOk
theorem ok16:FnOK Tryz.prog cx 16 fi16 Tryz.f16:=mkOk
theorem ok17:FnOK Tryz.prog cx 17 fi17 Tryz.f17:=mkOk
theorem ok19:FnOK Tryz.prog cx 19 fi19 Tryz.f19:=mkOk
theorem ok22:FnOK Tryz.prog cx 22 fi22 Tryz.f22:=mkOk
theorem ok23:FnOK Tryz.prog cx 23 fi23 Tryz.f23:=mkOk
theorem ok24:FnOK Tryz.prog cx 24 fi24 Tryz.f24:=mkOk
theorem ok25:FnOK Tryz.prog cx 25 fi25 Tryz.f25:=mkOk
theorem ok26:FnOK Tryz.prog cx 26 fi26 Tryz.f26:=mkOk
theorem ok27:FnOK Tryz.prog cx 27 fi27 Tryz.f27:=mkOk
theorem ok28:FnOK Tryz.prog cx 28 fi28 Tryz.f28:=mkOk
theorem ok29:FnOK Tryz.prog cx 29 fi29 Tryz.f29:=mkOk
theorem ok30:FnOK Tryz.prog cx 30 fi30 Tryz.f30:=mkOk
theorem ok33:FnOK Tryz.prog cx 33 fi33 Tryz.f33:=mkOk
theorem ok34:FnOK Tryz.prog cx 34 fi34 Tryz.f34:=mkOk
theorem ok35:FnOK Tryz.prog cx 35 fi35 Tryz.f35:=mkOk
theorem ok36:FnOK Tryz.prog cx 36 fi36 Tryz.f36:=mkOk
theorem ok37:FnOK Tryz.prog cx 37 fi37 Tryz.f37:=mkOk
theorem ok38:FnOK Tryz.prog cx 38 fi38 Tryz.f38:=mkOk
theorem ok39:FnOK Tryz.prog cx 39 fi39 Tryz.f39:=mkOk
theorem ok40:FnOK Tryz.prog cx 40 fi40 Tryz.f40:=mkOk
theorem ok41:FnOK Tryz.prog cx 41 fi41 Tryz.f41:=mkOk
theorem ok42:FnOK Tryz.prog cx 42 fi42 Tryz.f42:=mkOk
theorem ok43:FnOK Tryz.prog cx 43 fi43 Tryz.f43:=mkOk
theorem ok44:FnOK Tryz.prog cx 44 fi44 Tryz.f44:=mkOk
theorem ok45:FnOK Tryz.prog cx 45 fi45 Tryz.f45:=mkOk
theorem ok46:FnOK Tryz.prog cx 46 fi46 Tryz.f46:=mkOk
theorem ok47:FnOK Tryz.prog cx 47 fi47 Tryz.f47:=mkOk
theorem ok48:FnOK Tryz.prog cx 48 fi48 Tryz.f48:=mkOk
theorem ok52:FnOK Tryz.prog cx 52 fi52 Tryz.f52:=mkOk
theorem ok53:FnOK Tryz.prog cx 53 fi53 Tryz.f53:=mkOk
theorem ok54:FnOK Tryz.prog cx 54 fi54 Tryz.f54:=mkOk
theorem ok55:FnOK Tryz.prog cx 55 fi55 Tryz.f55:=mkOk
theorem ok56:FnOK Tryz.prog cx 56 fi56 Tryz.f56:=mkOk
theorem ok57:FnOK Tryz.prog cx 57 fi57 Tryz.f57:=mkOk
theorem ok58:FnOK Tryz.prog cx 58 fi58 Tryz.f58:=mkOk
theorem ok59:FnOK Tryz.prog cx 59 fi59 Tryz.f59:=mkOk
theorem ok60:FnOK Tryz.prog cx 60 fi60 Tryz.f60:=mkOk
theorem ok61:FnOK Tryz.prog cx 61 fi61 Tryz.f61:=mkOk
theorem ok62:FnOK Tryz.prog cx 62 fi62 Tryz.f62:=mkOk
theorem ok63:FnOK Tryz.prog cx 63 fi63 Tryz.f63:=mkOk
theorem ok64:FnOK Tryz.prog cx 64 fi64 Tryz.f64:=mkOk
theorem ok65:FnOK Tryz.prog cx 65 fi65 Tryz.f65:=mkOk
theorem ok66:FnOK Tryz.prog cx 66 fi66 Tryz.f66:=mkOk
theorem ok67:FnOK Tryz.prog cx 67 fi67 Tryz.f67:=mkOk
theorem ok68:FnOK Tryz.prog cx 68 fi68 Tryz.f68:=mkOk
theorem ok69:FnOK Tryz.prog cx 69 fi69 Tryz.f69:=mkOk
theorem ok70:FnOK Tryz.prog cx 70 fi70 Tryz.f70:=mkOk
theorem ok71:FnOK Tryz.prog cx 71 fi71 Tryz.f71:=mkOk
theorem ok72:FnOK Tryz.prog cx 72 fi72 Tryz.f72:=mkOk
theorem ok73:FnOK Tryz.prog cx 73 fi73 Tryz.f73:=mkOk
theorem ok74:FnOK Tryz.prog cx 74 fi74 Tryz.f74:=mkOk
theorem ok75:FnOK Tryz.prog cx 75 fi75 Tryz.f75:=mkOk
theorem ok76:FnOK Tryz.prog cx 76 fi76 Tryz.f76:=mkOk
theorem ok77:FnOK Tryz.prog cx 77 fi77 Tryz.f77:=mkOk
theorem ok78:FnOK Tryz.prog cx 78 fi78 Tryz.f78:=mkOk
theorem ok79:FnOK Tryz.prog cx 79 fi79 Tryz.f79:=mkOk
theorem ok80:FnOK Tryz.prog cx 80 fi80 Tryz.f80:=mkOk
theorem ok81:FnOK Tryz.prog cx 81 fi81 Tryz.f81:=mkOk
theorem ok82:FnOK Tryz.prog cx 82 fi82 Tryz.f82:=mkOk
theorem ok83:FnOK Tryz.prog cx 83 fi83 Tryz.f83:=mkOk
theorem ok84:FnOK Tryz.prog cx 84 fi84 Tryz.f84:=mkOk
theorem ok85:FnOK Tryz.prog cx 85 fi85 Tryz.f85:=mkOk
theorem ok86:FnOK Tryz.prog cx 86 fi86 Tryz.f86:=mkOk
theorem ok87:FnOK Tryz.prog cx 87 fi87 Tryz.f87:=mkOk
theorem ok88:FnOK Tryz.prog cx 88 fi88 Tryz.f88:=mkOk
theorem ok89:FnOK Tryz.prog cx 89 fi89 Tryz.f89:=mkOk
theorem ok90:FnOK Tryz.prog cx 90 fi90 Tryz.f90:=mkOk
theorem ok91:FnOK Tryz.prog cx 91 fi91 Tryz.f91:=mkOk
theorem ok92:FnOK Tryz.prog cx 92 fi92 Tryz.f92:=mkOk
theorem ok93:FnOK Tryz.prog cx 93 fi93 Tryz.f93:=mkOk
theorem ok94:FnOK Tryz.prog cx 94 fi94 Tryz.f94:=mkOk
theorem ok95:FnOK Tryz.prog cx 95 fi95 Tryz.f95:=mkOk
theorem ok96:FnOK Tryz.prog cx 96 fi96 Tryz.f96:=mkOk
theorem ok97:FnOK Tryz.prog cx 97 fi97 Tryz.f97:=mkOk
theorem ok98:FnOK Tryz.prog cx 98 fi98 Tryz.f98:=mkOk
theorem ok99:FnOK Tryz.prog cx 99 fi99 Tryz.f99:=mkOk
theorem ok100:FnOK Tryz.prog cx 100 fi100 Tryz.f100:=mkOk
theorem ok101:FnOK Tryz.prog cx 101 fi101 Tryz.f101:=mkOk
theorem ok102:FnOK Tryz.prog cx 102 fi102 Tryz.f102:=mkOk
theorem ok103:FnOK Tryz.prog cx 103 fi103 Tryz.f103:=mkOk
theorem ok104:FnOK Tryz.prog cx 104 fi104 Tryz.f104:=mkOk
theorem ok105:FnOK Tryz.prog cx 105 fi105 Tryz.f105:=mkOk
theorem ok106:FnOK Tryz.prog cx 106 fi106 Tryz.f106:=mkOk
theorem ok107:FnOK Tryz.prog cx 107 fi107 Tryz.f107:=mkOk
theorem ok108:FnOK Tryz.prog cx 108 fi108 Tryz.f108:=mkOk
theorem ok109:FnOK Tryz.prog cx 109 fi109 Tryz.f109:=mkOk
theorem ok110:FnOK Tryz.prog cx 110 fi110 Tryz.f110:=mkOk
theorem ok111:FnOK Tryz.prog cx 111 fi111 Tryz.f111:=mkOk
theorem ok112:FnOK Tryz.prog cx 112 fi112 Tryz.f112:=mkOk
theorem ok113:FnOK Tryz.prog cx 113 fi113 Tryz.f113:=mkOk
theorem ok114:FnOK Tryz.prog cx 114 fi114 Tryz.f114:=mkOk
theorem ok115:FnOK Tryz.prog cx 115 fi115 Tryz.f115:=mkOk
theorem ok116:FnOK Tryz.prog cx 116 fi116 Tryz.f116:=mkOk
theorem ok117:FnOK Tryz.prog cx 117 fi117 Tryz.f117:=mkOk
theorem ok118:FnOK Tryz.prog cx 118 fi118 Tryz.f118:=mkOk
theorem ok119:FnOK Tryz.prog cx 119 fi119 Tryz.f119:=mkOk
theorem ok120:FnOK Tryz.prog cx 120 fi120 Tryz.f120:=mkOk
theorem ok121:FnOK Tryz.prog cx 121 fi121 Tryz.f121:=mkOk
theorem ok122:FnOK Tryz.prog cx 122 fi122 Tryz.f122:=mkOk
theorem ok123:FnOK Tryz.prog cx 123 fi123 Tryz.f123:=mkOk
theorem ok124:FnOK Tryz.prog cx 124 fi124 Tryz.f124:=mkOk
theorem ok125:FnOK Tryz.prog cx 125 fi125 Tryz.f125:=mkOk
theorem ok126:FnOK Tryz.prog cx 126 fi126 Tryz.f126:=mkOk
theorem ok127:FnOK Tryz.prog cx 127 fi127 Tryz.f127:=mkOk
theorem ok128:FnOK Tryz.prog cx 128 fi128 Tryz.f128:=mkOk
theorem ok129:FnOK Tryz.prog cx 129 fi129 Tryz.f129:=mkOk
theorem ok130:FnOK Tryz.prog cx 130 fi130 Tryz.f130:=mkOk
theorem ok131:FnOK Tryz.prog cx 131 fi131 Tryz.f131:=mkOk
theorem ok132:FnOK Tryz.prog cx 132 fi132 Tryz.f132:=mkOk
theorem ok133:FnOK Tryz.prog cx 133 fi133 Tryz.f133:=mkOk
theorem ok134:FnOK Tryz.prog cx 134 fi134 Tryz.f134:=mkOk
theorem ok135:FnOK Tryz.prog cx 135 fi135 Tryz.f135:=mkOk
theorem ok136:FnOK Tryz.prog cx 136 fi136 Tryz.f136:=mkOk
theorem ok137:FnOK Tryz.prog cx 137 fi137 Tryz.f137:=mkOk
theorem ok138:FnOK Tryz.prog cx 138 fi138 Tryz.f138:=mkOk
theorem ok139:FnOK Tryz.prog cx 139 fi139 Tryz.f139:=mkOk
theorem ok140:FnOK Tryz.prog cx 140 fi140 Tryz.f140:=mkOk
theorem ok141:FnOK Tryz.prog cx 141 fi141 Tryz.f141:=mkOk
theorem ok142:FnOK Tryz.prog cx 142 fi142 Tryz.f142:=mkOk
theorem ok143:FnOK Tryz.prog cx 143 fi143 Tryz.f143:=mkOk
theorem ok144:FnOK Tryz.prog cx 144 fi144 Tryz.f144:=mkOk
theorem ok145:FnOK Tryz.prog cx 145 fi145 Tryz.f145:=mkOk
theorem ok146:FnOK Tryz.prog cx 146 fi146 Tryz.f146:=mkOk
theorem ok147:FnOK Tryz.prog cx 147 fi147 Tryz.f147:=mkOk
theorem ok148:FnOK Tryz.prog cx 148 fi148 Tryz.f148:=mkOk
theorem ok149:FnOK Tryz.prog cx 149 fi149 Tryz.f149:=mkOk
theorem ok150:FnOK Tryz.prog cx 150 fi150 Tryz.f150:=mkOk
theorem ok151:FnOK Tryz.prog cx 151 fi151 Tryz.f151:=mkOk
theorem ok152:FnOK Tryz.prog cx 152 fi152 Tryz.f152:=mkOk
theorem ok153:FnOK Tryz.prog cx 153 fi153 Tryz.f153:=mkOk
theorem ok154:FnOK Tryz.prog cx 154 fi154 Tryz.f154:=mkOk
theorem ok155:FnOK Tryz.prog cx 155 fi155 Tryz.f155:=mkOk
theorem ok156:FnOK Tryz.prog cx 156 fi156 Tryz.f156:=mkOk
theorem ok157:FnOK Tryz.prog cx 157 fi157 Tryz.f157:=mkOk
theorem ok158:FnOK Tryz.prog cx 158 fi158 Tryz.f158:=mkOk
theorem ok159:FnOK Tryz.prog cx 159 fi159 Tryz.f159:=mkOk
theorem ok160:FnOK Tryz.prog cx 160 fi160 Tryz.f160:=mkOk
theorem ok161:FnOK Tryz.prog cx 161 fi161 Tryz.f161:=mkOk
theorem ok162:FnOK Tryz.prog cx 162 fi162 Tryz.f162:=mkOk
theorem ok163:FnOK Tryz.prog cx 163 fi163 Tryz.f163:=mkOk
theorem ok164:FnOK Tryz.prog cx 164 fi164 Tryz.f164:=mkOk
theorem ok165:FnOK Tryz.prog cx 165 fi165 Tryz.f165:=mkOk
theorem ok166:FnOK Tryz.prog cx 166 fi166 Tryz.f166:=mkOk
theorem ok167:FnOK Tryz.prog cx 167 fi167 Tryz.f167:=mkOk
theorem ok168:FnOK Tryz.prog cx 168 fi168 Tryz.f168:=mkOk
theorem ok169:FnOK Tryz.prog cx 169 fi169 Tryz.f169:=mkOk
theorem ok170:FnOK Tryz.prog cx 170 fi170 Tryz.f170:=mkOk
theorem ok171:FnOK Tryz.prog cx 171 fi171 Tryz.f171:=mkOk
theorem ok172:FnOK Tryz.prog cx 172 fi172 Tryz.f172:=mkOk
theorem ok173:FnOK Tryz.prog cx 173 fi173 Tryz.f173:=mkOk
theorem ok174:FnOK Tryz.prog cx 174 fi174 Tryz.f174:=mkOk
theorem ok175:FnOK Tryz.prog cx 175 fi175 Tryz.f175:=mkOk
theorem ok176:FnOK Tryz.prog cx 176 fi176 Tryz.f176:=mkOk
theorem ok177:FnOK Tryz.prog cx 177 fi177 Tryz.f177:=mkOk
theorem ok178:FnOK Tryz.prog cx 178 fi178 Tryz.f178:=mkOk
theorem ok180:FnOK Tryz.prog cx 180 fi180 Tryz.f180:=mkOk
theorem ok181:FnOK Tryz.prog cx 181 fi181 Tryz.f181:=mkOk
theorem ok182:FnOK Tryz.prog cx 182 fi182 Tryz.f182:=mkOk
theorem ok183:FnOK Tryz.prog cx 183 fi183 Tryz.f183:=mkOk
theorem ok184:FnOK Tryz.prog cx 184 fi184 Tryz.f184:=mkOk
theorem ok185:FnOK Tryz.prog cx 185 fi185 Tryz.f185:=mkOk
theorem ok186:FnOK Tryz.prog cx 186 fi186 Tryz.f186:=mkOk
theorem ok187:FnOK Tryz.prog cx 187 fi187 Tryz.f187:=mkOk
theorem ok188:FnOK Tryz.prog cx 188 fi188 Tryz.f188:=mkOk
theorem ok189:FnOK Tryz.prog cx 189 fi189 Tryz.f189:=mkOk
theorem ok190:FnOK Tryz.prog cx 190 fi190 Tryz.f190:=mkOk
theorem ok191:FnOK Tryz.prog cx 191 fi191 Tryz.f191:=mkOk
theorem ok192:FnOK Tryz.prog cx 192 fi192 Tryz.f192:=mkOk
theorem ok193:FnOK Tryz.prog cx 193 fi193 Tryz.f193:=mkOk
theorem ok194:FnOK Tryz.prog cx 194 fi194 Tryz.f194:=mkOk
theorem ok195:FnOK Tryz.prog cx 195 fi195 Tryz.f195:=mkOk
theorem ok196:FnOK Tryz.prog cx 196 fi196 Tryz.f196:=mkOk
theorem ok197:FnOK Tryz.prog cx 197 fi197 Tryz.f197:=mkOk
theorem fnsOK:FnsOK Tryz.prog cx:=Aoa (⟨Aao _,⟨Aao _,⟨Aao _,⟨Aao _,⟨Aao _,⟨Aao _,⟨Aab ok63,⟨Aab ok127,trivial,trivial⟩,⟨Aab ok191,trivial,trivial⟩⟩,⟨Aab ok95,⟨Aab ok159,trivial,trivial⟩,trivial⟩⟩,⟨Aab ok47,⟨Aab ok79,⟨Aab ok143,trivial,trivial⟩,⟨Aao _,trivial,trivial⟩⟩,⟨Aab ok111,⟨Aab ok175,trivial,trivial⟩,trivial⟩⟩⟩,⟨Aab ok23,⟨Aab ok39,⟨Aab ok71,⟨Aab ok135,trivial,trivial⟩,⟨Aao _,trivial,trivial⟩⟩,⟨Aab ok103,⟨Aab ok167,trivial,trivial⟩,trivial⟩⟩,⟨Aab ok55,⟨Aab ok87,⟨Aab ok151,trivial,trivial⟩,trivial⟩,⟨Aab ok119,⟨Aab ok183,trivial,trivial⟩,trivial⟩⟩⟩⟩,⟨Aao _,⟨Aab ok19,⟨Aab ok35,⟨Aab ok67,⟨Aab ok131,trivial,trivial⟩,⟨Aab ok195,trivial,trivial⟩⟩,⟨Aab ok99,⟨Aab ok163,trivial,trivial⟩,trivial⟩⟩,⟨Aao _,⟨Aab ok83,⟨Aab ok147,trivial,trivial⟩,⟨Aao _,trivial,trivial⟩⟩,⟨Aab ok115,⟨Aao _,trivial,trivial⟩,trivial⟩⟩⟩,⟨Aab ok27,⟨Aab ok43,⟨Aab ok75,⟨Aab ok139,trivial,trivial⟩,⟨Aao _,trivial,trivial⟩⟩,⟨Aab ok107,⟨Aab ok171,trivial,trivial⟩,trivial⟩⟩,⟨Aab ok59,⟨Aab ok91,⟨Aab ok155,trivial,trivial⟩,trivial⟩,⟨Aab ok123,⟨Aab ok187,trivial,trivial⟩,trivial⟩⟩⟩⟩⟩,⟨Aao _,⟨Aab ok9,⟨Aab ok17,⟨Aab ok33,⟨Aab ok65,⟨Aab ok129,trivial,trivial⟩,⟨Aab ok193,trivial,trivial⟩⟩,⟨Aab ok97,⟨Aab ok161,trivial,trivial⟩,trivial⟩⟩,⟨Aao _,⟨Aab ok81,⟨Aab ok145,trivial,trivial⟩,⟨Aao _,trivial,trivial⟩⟩,⟨Aab ok113,⟨Aab ok177,trivial,trivial⟩,trivial⟩⟩⟩,⟨Aab ok25,⟨Aab ok41,⟨Aab ok73,⟨Aab ok137,trivial,trivial⟩,⟨Aao _,trivial,trivial⟩⟩,⟨Aab ok105,⟨Aab ok169,trivial,trivial⟩,trivial⟩⟩,⟨Aab ok57,⟨Aab ok89,⟨Aab ok153,trivial,trivial⟩,trivial⟩,⟨Aab ok121,⟨Aab ok185,trivial,trivial⟩,trivial⟩⟩⟩⟩,⟨Aao _,⟨Aao _,⟨Aab ok37,⟨Aab ok69,⟨Aab ok133,trivial,trivial⟩,⟨Aab ok197,trivial,trivial⟩⟩,⟨Aab ok101,⟨Aab ok165,trivial,trivial⟩,trivial⟩⟩,⟨Aab ok53,⟨Aab ok85,⟨Aab ok149,trivial,trivial⟩,⟨Aao _,trivial,trivial⟩⟩,⟨Aab ok117,⟨Aab ok181,trivial,trivial⟩,trivial⟩⟩⟩,⟨Aab ok29,⟨Aab ok45,⟨Aab ok77,⟨Aab ok141,trivial,trivial⟩,⟨Aao _,trivial,trivial⟩⟩,⟨Aab ok109,⟨Aab ok173,trivial,trivial⟩,trivial⟩⟩,⟨Aab ok61,⟨Aab ok93,⟨Aab ok157,trivial,trivial⟩,trivial⟩,⟨Aab ok125,⟨Aab ok189,trivial,trivial⟩,trivial⟩⟩⟩⟩⟩⟩,⟨Aao _,⟨Aao _,⟨Aao _,⟨Aab ok16,⟨Aao _,⟨Aab ok64,⟨Aab ok128,trivial,trivial⟩,⟨Aab ok192,trivial,trivial⟩⟩,⟨Aab ok96,⟨Aab ok160,trivial,trivial⟩,trivial⟩⟩,⟨Aab ok48,⟨Aab ok80,⟨Aab ok144,trivial,trivial⟩,⟨Aao _,trivial,trivial⟩⟩,⟨Aab ok112,⟨Aab ok176,trivial,trivial⟩,trivial⟩⟩⟩,⟨Aab ok24,⟨Aab ok40,⟨Aab ok72,⟨Aab ok136,trivial,trivial⟩,⟨Aao _,trivial,trivial⟩⟩,⟨Aab ok104,⟨Aab ok168,trivial,trivial⟩,trivial⟩⟩,⟨Aab ok56,⟨Aab ok88,⟨Aab ok152,trivial,trivial⟩,trivial⟩,⟨Aab ok120,⟨Aab ok184,trivial,trivial⟩,trivial⟩⟩⟩⟩,⟨Aao _,⟨Aao _,⟨Aab ok36,⟨Aab ok68,⟨Aab ok132,trivial,trivial⟩,⟨Aab ok196,trivial,trivial⟩⟩,⟨Aab ok100,⟨Aab ok164,trivial,trivial⟩,trivial⟩⟩,⟨Aab ok52,⟨Aab ok84,⟨Aab ok148,trivial,trivial⟩,⟨Aao _,trivial,trivial⟩⟩,⟨Aab ok116,⟨Aab ok180,trivial,trivial⟩,trivial⟩⟩⟩,⟨Aab ok28,⟨Aab ok44,⟨Aab ok76,⟨Aab ok140,trivial,trivial⟩,⟨Aao _,trivial,trivial⟩⟩,⟨Aab ok108,⟨Aab ok172,trivial,trivial⟩,trivial⟩⟩,⟨Aab ok60,⟨Aab ok92,⟨Aab ok156,trivial,trivial⟩,trivial⟩,⟨Aab ok124,⟨Aab ok188,trivial,trivial⟩,trivial⟩⟩⟩⟩⟩,⟨Aao _,⟨Aao _,⟨Aao _,⟨Aab ok34,⟨Aab ok66,⟨Aab ok130,trivial,trivial⟩,⟨Aab ok194,trivial,trivial⟩⟩,⟨Aab ok98,⟨Aab ok162,trivial,trivial⟩,trivial⟩⟩,⟨Aao _,⟨Aab ok82,⟨Aab ok146,trivial,trivial⟩,⟨Aao _,trivial,trivial⟩⟩,⟨Aab ok114,⟨Aab ok178,trivial,trivial⟩,trivial⟩⟩⟩,⟨Aab ok26,⟨Aab ok42,⟨Aab ok74,⟨Aab ok138,trivial,trivial⟩,⟨Aao _,trivial,trivial⟩⟩,⟨Aab ok106,⟨Aab ok170,trivial,trivial⟩,trivial⟩⟩,⟨Aab ok58,⟨Aab ok90,⟨Aab ok154,trivial,trivial⟩,trivial⟩,⟨Aab ok122,⟨Aab ok186,trivial,trivial⟩,trivial⟩⟩⟩⟩,⟨Aao _,⟨Aab ok22,⟨Aab ok38,⟨Aab ok70,⟨Aab ok134,trivial,trivial⟩,⟨Aao _,trivial,trivial⟩⟩,⟨Aab ok102,⟨Aab ok166,trivial,trivial⟩,trivial⟩⟩,⟨Aab ok54,⟨Aab ok86,⟨Aab ok150,trivial,trivial⟩,trivial⟩,⟨Aab ok118,⟨Aab ok182,trivial,trivial⟩,trivial⟩⟩⟩,⟨Aab ok30,⟨Aab ok46,⟨Aab ok78,⟨Aab ok142,trivial,trivial⟩,⟨Aao _,trivial,trivial⟩⟩,⟨Aab ok110,⟨Aab ok174,trivial,trivial⟩,trivial⟩⟩,⟨Aab ok62,⟨Aab ok94,⟨Aab ok158,trivial,trivial⟩,trivial⟩,⟨Aab ok126,⟨Aab ok190,trivial,trivial⟩,trivial⟩⟩⟩⟩⟩⟩⟩)
end Go.Eva.S4
namespace Go.Eva
section
variable {cx:Cx} {t m:Nat} {ts:List T} {i:TI}
theorem Al0 (hti:cx.ti.get t=some i) (hk:i.ty= .int .i64) (h:Conf cx m t ts): ∃n,ts= [ti n]∧i64 n:=by
 cases m with
 |zero=>exact h.elim
 |succ m=>
  simp only [Conf,hti,hk] at h
  obtain ⟨n,rfl,hw⟩:=h
  refine ⟨n,rfl,?_⟩
  simp [Lit.wf,IntKind.min,IntKind.max,IntKind.signed,IntKind.bits] at hw
  exact ⟨by omega,by omega⟩
theorem AnL (hti:cx.ti.get t=some i) (hk:i.ty= .int .u64) (h:Conf cx m t ts): ∃n,ts= [.int .u64 n]∧0≤n∧n≤18446744073709551615:=by
 cases m with
 |zero=>exact h.elim
 |succ m=>
  simp only [Conf,hti,hk] at h
  obtain ⟨n,rfl,hw⟩:=h
  refine ⟨n,rfl,?_⟩
  simp [Lit.wf,IntKind.min,IntKind.max,IntKind.signed,IntKind.bits] at hw
  exact ⟨by omega,by omega⟩
theorem Akk (hti:cx.ti.get t=some i) (hk:i.ty= .bool) (h:Conf cx m t ts): ∃b,ts= [.bool b]:=by
 cases m with
 |zero=>exact h.elim
 |succ m=>simpa only [Conf,hti,hk] using h
theorem Ah3 {fs:List (Nat×Nat)} (hti:cx.ti.get t=some i) (hk:i.ty= .struct fs) (h:Conf cx (m+1) t ts):ts.length=i.size∧ ∀p∈fs,Conf cx m p.2 ((ts.drop p.1).take (sizeOf cx p.2)):=by
 simpa only [Conf,hti,hk] using h
theorem Aml {e:Nat} (hti:cx.ti.get t=some i) (hk:i.ty= .slice e) (h:Conf cx (m+1) t ts):
  ∃xs,ts= [.sl (sizeOf cx e) xs]∧xs.length≤maxLen∧xs.length*bytesOf cx e≤reachBytes∧ ∀x∈xs,x≠ .any∧(isStruct cx e=true→ ∃l,x= .agg l)∧(isStruct cx e=false→x.cells= [x])∧Conf cx m e x.cells:=by
 simpa only [Conf,hti,hk] using h
theorem AgK {j k:Nat} {fs:List (Nat×Nat)} (hi:cx.ti.get k=some i) (hk:i.ty= .int .i64) (hs:sizeOf cx k=1) (h: ∀p∈fs,Conf cx m p.2 ((ts.drop p.1).take (sizeOf cx p.2))) (hp:(j,k)∈fs): ∃n,ts[j]?=some (ti n)∧i64 n:=by
 have:=h _ hp
 simp only [hs] at this
 obtain ⟨n,h1,h2⟩:=Al0 hi hk this
 refine ⟨n,?_,h2⟩
 have h3:=congrArg (fun l=>l[0]?) h1
 simpa [List.getElem?_take,List.getElem?_drop] using h3
theorem AmL {α:Type} {f:α→T} {P:α→Prop}: ∀ {xs:List T},(∀x∈xs,∃e,x=f e∧P e)→ ∃l:List α,xs=l.map f∧ ∀e∈l,P e
 | [],_=>⟨[],rfl,by simp⟩
 |x::xs,h=>by
  obtain ⟨e,rfl,he⟩:=h x (List.mem_cons_self ..)
  obtain ⟨l,rfl,hl⟩:=AmL fun y hy=>h y (List.mem_cons_of_mem _ hy)
  exact ⟨e::l,rfl,fun y hy=>by
   rcases List.mem_cons.1 hy with rfl|hy
   ·exact he
   ·exact hl y hy⟩
def Entity.ok (e:Entity):Prop:=i64 e.id∧i64 e.kind∧i64 e.x∧i64 e.y∧i64 e.vx∧i64 e.vy∧i64 e.health∧i64 e.age∧i64 e.owner
def Input.ok (e:Input):Prop:=i64 e.dx∧i64 e.dy
def Cross.ok (c:Cross):Prop:=i64 c.kind∧i64 c.frm∧i64 c.to∧i64 c.frame∧c.ent.ok∧i64 c.x∧i64 c.y
theorem AkD {k u:Nat} {j v:TI} (hk:cx.ti.get k=some j) (hkt:j.ty= .int .i64) (hs:sizeOf cx k=1) (hu:cx.ti.get u=some v) (hut:v.ty= .int .u64) (hus:sizeOf cx u=1) (hti:cx.ti.get t=some i)
  (hty:i.ty= .struct [(0,k),(1,k),(2,k),(3,k),(4,u)]) (hsz:i.size=5) (h:Conf cx (m+1) t ts): ∃c:Config,ts=c.enc.cells∧c.ok:=by
 obtain ⟨h1,h2⟩:=Ah3 hti hty h
 rw [hsz] at h1
 obtain ⟨n0,a0,b0⟩:=AgK (j:=0) hk hkt hs h2 (by simp)
 obtain ⟨n1,a1,b1⟩:=AgK (j:=1) hk hkt hs h2 (by simp)
 obtain ⟨n2,a2,b2⟩:=AgK (j:=2) hk hkt hs h2 (by simp)
 obtain ⟨n3,a3,b3⟩:=AgK (j:=3) hk hkt hs h2 (by simp)
 have h4:=h2 (4,u) (by simp)
 simp only [hus] at h4
 obtain ⟨n4,a4,b4⟩:=AnL hu hut h4
 refine ⟨⟨n0,n1,n2,n3,n4⟩,?_,b0,b1,b2,b3,b4⟩
 match ts,h1 with
 | [_,_,_,_,_],_=>simp_all [Config.enc,T.cells]
theorem Ame {k u:Nat} {j v:TI} (hk:cx.ti.get k=some j) (hkt:j.ty= .int .i64) (hs:sizeOf cx k=1) (hu:cx.ti.get u=some v) (hut:v.ty= .bool) (hus:sizeOf cx u=1) (hti:cx.ti.get t=some i)
  (hty:i.ty= .struct [(0,k),(1,k),(2,u)]) (hsz:i.size=3) (h:Conf cx (m+1) t ts): ∃c:Input,ts=c.enc.cells∧c.ok:=by
 obtain ⟨h1,h2⟩:=Ah3 hti hty h
 rw [hsz] at h1
 obtain ⟨n0,a0,b0⟩:=AgK (j:=0) hk hkt hs h2 (by simp)
 obtain ⟨n1,a1,b1⟩:=AgK (j:=1) hk hkt hs h2 (by simp)
 have h4:=h2 (2,u) (by simp)
 simp only [hus] at h4
 obtain ⟨n2,a2⟩:=Akk hu hut h4
 refine ⟨⟨n0,n1,n2⟩,?_,b0,b1⟩
 match ts,h1 with
 | [_,_,_],_=>simp_all [zr,T.cells]
theorem AgG (hti:cx.ti.get t=some i) (h: ∀fs,i.ty≠ .struct fs):isStruct cx t=false:=by
 unfold isStruct
 rw [hti]
 cases i with
 |mk ty s b q=>cases ty<;>simp_all
theorem AnB {fs:List (Nat×Nat)} (hti:cx.ti.get t=some i) (h:i.ty= .struct fs):isStruct cx t=true:=by
 unfold isStruct
 rw [hti]
 cases i with
 |mk ty s b q=>simp only at h;subst h;rfl
theorem AoX (hti:cx.ti.get t=some i) (hk:i.ty= .int .i64) {x:T} (h:Arg cx m t x): ∃n,x=ti n∧i64 n:=by
 obtain ⟨h1,h2,h3,h4⟩:=h
 obtain ⟨n,h5,h6⟩:=Al0 hti hk h4
 rw [h3 (AgG hti (by rw [hk];simp))] at h5
 exact ⟨n,by simpa using h5,h6⟩
theorem AnQ (hti:cx.ti.get t=some i) (hk:i.ty= .bool) {x:T} (h:Arg cx m t x): ∃b,x= .bool b:=by
 obtain ⟨h1,h2,h3,h4⟩:=h
 obtain ⟨n,h5⟩:=Akk hti hk h4
 rw [h3 (AgG hti (by rw [hk];simp))] at h5
 exact ⟨n,by simpa using h5⟩
theorem Aox {α:Type} {f:α→T} {P:α→Prop} {fs:List (Nat×Nat)} (hti:cx.ti.get t=some i) (hk:i.ty= .struct fs) (hf: ∀e,∃l,f e= .agg l) (hc: ∀ {ts},Conf cx m t ts→ ∃e,ts=(f e).cells∧P e) {x:T} (h:Arg cx m t x): ∃e,x=f e∧P e:=by
 obtain ⟨h1,h2,h3,h4⟩:=h
 obtain ⟨l,rfl⟩:=h2 (AnB hti hk)
 obtain ⟨e,h5,h6⟩:=hc h4
 obtain ⟨l',hl⟩:=hf e
 rw [hl] at h5
 simp only [T.cells] at h5
 exact ⟨e,by rw [hl,h5],h6⟩
theorem Akb {α:Type} {f:α→T} {P:α→Prop} {e s:Nat} (hti:cx.ti.get t=some i) (hk:i.ty= .slice e) (hs:sizeOf cx e=s) (hc: ∀ {x},Arg cx m e x→ ∃a,x=f a∧P a) {x:T} (h:Arg cx (m+1) t x):
  ∃l:List α,x= .sl s (l.map f)∧(∀a∈l,P a)∧l.length≤maxLen∧l.length*bytesOf cx e≤reachBytes:=by
 obtain ⟨h1,h2,h3,h4⟩:=h
 obtain ⟨xs,h5,h6,h7,h8⟩:=Aml hti hk h4
 rw [h3 (AgG hti (by rw [hk];simp))] at h5
 obtain ⟨l,rfl,hl⟩:=AmL (f:=f) (P:=P) fun x hx=>hc (h8 x hx)
 refine ⟨l,?_,hl,by simpa using h6,by simpa using h7⟩
 rw [←hs]
 simpa using h5
end
end Go.Eva