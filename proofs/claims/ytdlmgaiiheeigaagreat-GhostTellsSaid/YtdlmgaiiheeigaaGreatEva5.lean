/- A reading of the program, proved sound against the model, and what its functions answer by it: part 5. -/
import Derived.Test.YtdlmgaiiheeigaaGreatEva4
set_option linter.unusedSimpArgs false
set_option linter.unusedVariables false
open List renaming length → zq, map → zz, replicate → zj, set → zx, take → zw, drop → zk
open Int renaming toNat → zy, tmod → zg, fdiv → zh
open Go.IntKind renaming i64 → zd, u64 → zf, wrap → zp
open BitVec renaming ofInt → zb
open Go.Eva.Entity renaming enc → zm, less → z8, right → z9, mk → qw
open Go.Eva.Cross renaming enc → zn, less → z7
open Go.Eva.Input renaming enc → zr
open Go.Eva.Region renaming enc → zt
open Go.Eva.Config renaming regions → z0, near → z6
open Go.Eva.Wp renaming ev → qq
open Go.Eva.Res renaming mk → qz
open Go.Eva.Ex renaming ret → qj, exit → qx
open Go.Eva.Ob renaming arr → qv, one → qg
open Go.Eva.T renaming sl → qk
open Go.Eva.V renaming all → qy
namespace Go.Eva.S4
theorem AcN (c:Config) (w:World) (f:Int) (ins:List Input) (h:WFine c w f) (hf:0≤f∧f<10000) (hl:(ins.length:Int)≠c.players∨(ins.any fun i=> !i.right)=true) (hs:ins.length≤100):
  Is cx (.call 38 [.t c.enc,.t (.sl 1 (w.outs.map encL)),vi 0] []) ⟨.ret,[.t (.sl 15 ((inboxL c w.outs 0).map zn))],[]⟩∧
  Is cx (.call 23 [.t c.enc,vi 0,.t (gt w.regions 0).enc,.t (.sl 3 (ins.map zr)),.t (.sl 15 ((inboxL c w.outs 0).map zn))] []) ⟨.ret,[.t (.agg [ti 0,.sl 9 []]),.t (.sl 15 []),vi 11],[]⟩:=by
 have hreg:=h.regs
 have hout:=h.outs
 have hgl:= @Config.regions_le c
 have hml:=Config.mul_le h.right
 have hgr:c.regions=c.cols*c.rows:=by simp [z0,h.right]
 have hlt:0<w.regions.length:=by omega
 have his:c.is 0=true:=by rw [Config.is_iff h.right];omega
 have hb:=Add h hlt
 change (∀m∈inboxL c w.outs 0,_)∧(inboxL c w.outs 0).length≤3600 at hb
 obtain ⟨s1,s2,s3⟩:=h.sane 0 hlt
 refine ⟨Adq c w.outs 0 his (by omega) (fun l hl=> ?_),?_⟩
 ·obtain ⟨k,hk,rfl⟩:=List.mem_iff_getElem.1 hl
  have:=(h.sent k hk).2
  have e:gt w.outs k=w.outs[k]:=by simp [gt,hk]
  rwa [e] at this
 ·have hS:=AiI c 0 (gt w.regions 0) ins (inboxL c w.outs 0) (by omega) (by unfold small;omega) (by omega)
  have hR:regionRight c 0 (gt w.regions 0)=true:=Aaw.2 ⟨his,by omega,s1.srt,s1.things,s1.ents⟩
  have hA:askedE c 0 (gt w.regions 0) ins (inboxL c w.outs 0)=11:=by
   unfold askedE
   rw [if_neg (by simp [his]),if_neg (by simp [hR]),if_pos hl]
  have e:stepP c 0 (gt w.regions 0) ins (inboxL c w.outs 0)=(Region.zero,[],11):=by
   unfold stepP
   rw [hA]
   rfl
  rw [e] at hS
  exact hS
theorem Adr (c:Config) (w:World) (f:Int) (ins:List Input) (h:WFine c w f) (hf:0≤f∧f<10000) (hl:(ins.length:Int)≠c.players∨(ins.any fun i=> !i.right)=true) (hs:ins.length≤100):
  Is cx (.loop 34 [0,1,0,1,1,1,1] 0 [.t (.sl 3 (ins.map zr)),.ptr 0 0 0,.ptr 1 0 0,vi 0,.ptr 2 0 0,.ptr 3 0 0,.t (.sl 2 (w.regions.map zt)),vi w.regions.length,vi 0] [.one 2 (.t w.enc) false,.one 2 (.agg [.fit 2 [],.fit 1 []]) false,.one 5 (.t c.enc) false,.one 2 (.agg [.fit 2 [],.fit 1 []]) false])
   ⟨.ret,[.t (.sl 3 (ins.map zr)),.ptr 0 0 0,.ptr 1 0 0,vi 11,.ptr 2 0 0,.ptr 3 0 0,.t (.sl 2 (w.regions.map zt)),vi w.regions.length,vi 0],[.one 2 (.t w.enc) false,.one 2 (.agg [.fit 2 [],.fit 1 []]) false,.one 5 (.t c.enc) false,.one 2 (.agg [.fit 2 [],.fit 1 []]) false]⟩:=by
 have hreg:=h.regs
 have hgl:= @Config.regions_le c
 have hml:=Config.mul_le h.right
 have hgr:c.regions=c.cols*c.rows:=by simp [z0,h.right]
 have hlt:0<w.regions.length:=by omega
 obtain ⟨hI,hS⟩:=AcN c w f ins h hf hl hs
 clear hgr
 generalize inboxL c w.outs 0=box at*
 obtain ⟨R,O⟩:=w
 simp only at hreg hlt hI hS⊢
 clear h hl
 refine qq ?_
 refine gg [.b (decide (0<(↑(zq R):Int))) true,.w (0≤(0:Int)),.l 0,.g (zz zt R) 0 (zt (gt R 0))] ⟨tP,oW,o_gt rfl (by assumption) (by intro h;cases h),trivial⟩ ?_
 refine bO ?_ ?_
 ·refine gg [.a _ _] ⟨o_a hI,trivial⟩ ?_
  refine bO ?_ ?_
  all_goals
   refine gg [.a _ _,.b (11 !=0) true] ⟨o_a hS,bK,trivial⟩ ?_
   exact ge
 ·refine gg [.a _ _,.a _ _,.b (11 !=0) true] ⟨o_a hI,o_a hS,bK,trivial⟩ ?_
  exact ge
theorem AfU (c:Config) (w:World) (f:Int) (ins:List Input) (h:WFine c w f) (hf:0≤f∧f<10000) (hl:(ins.length:Int)≠c.players∨(ins.any fun i=> !i.right)=true) (hs:ins.length≤100):
  Is cx (.call 34 [.t c.enc,.t w.enc,.t (.sl 3 (ins.map zr))] []) ⟨.ret,[.t (World.enc ⟨[],[]⟩),vi 11],[]⟩:=by
 have hr:=h.right
 have hreg:=h.regs
 have hout:=h.outs
 have hgl:= @Config.regions_le c
 have hN:=AaQ c
 rw [Config.grid_of hr,Config.err_of hr] at hN
 have hG:=Aav c
 rw [←hreg] at hG
 have hE:=Adr c w f ins h hf hl hs
 obtain ⟨R,O⟩:=w
 simp only at hreg hout hG hE⊢
 clear h hl
 refine qq ?_
 refine gg [.a _ _,.b (0 !=0) false,.n (zq (zz zt R)) (zq R),.a _ _,.b ((↑(zq R):Int) !=(↑(zq R):Int)) false,.ff,.ff,.n (zq (zz encL O)) (zq O),.ff,.ff,.a _ _,.ff,.ff,.b ((↑(zq O):Int) !=(↑(zq R):Int)) false,.n (zq (zz zt R)) (zq R),.a _ _] ⟨o_a hN,bK,o_n (by simp),o_a hG,f_brn rfl,o_n (by simp),o_a hG,fN,o_n (by simp),o_a hE,trivial⟩ ?_
 exact ge
theorem AeH (c:Config) (l:List InputL) (gone en k:Int) (hr:c.right=false):
  Is cx (.call 49 [.t c.enc,.t (.sl 1 (l.map encI)),vi gone,vi en,vi k] []) ⟨.ret,[.t (World.enc ⟨[],[]⟩),vi 10],[]⟩:=by
 have hN:=AaQ c
 rw [show c.err=10 by simp [Config.err,hr]] at hN
 refine qq ?_
 refine gg [.a _ _,.b (10 !=0) true] ⟨o_a hN,bK,trivial⟩ ?_
 exact ge
theorem Agj (c:Config) (l:List InputL) (gone en k:Int) (hr:c.right=true) (h:(l.length:Int)≠c.players∨k<0∨10000<k):
  Is cx (.call 49 [.t c.enc,.t (.sl 1 (l.map encI)),vi gone,vi en,vi k] []) ⟨.ret,[.t (World.enc ⟨[],[]⟩),vi 1],[]⟩:=by
 have hN:=AaQ c
 rw [Config.grid_of hr,Config.err_of hr] at hN
 by_cases h1:(l.length:Int)=c.players
 ·by_cases h2:k<0
  ·refine qq ?_
   refine gg [.a _ _,.b (0 !=0) false,.n (zq (zz encI l)) (zq l),.b ((↑(zq l):Int) !=c.players) false,.ff,.ff,.b (decide (k<0)) true,.tt,.tt,.tt] ⟨o_a hN,bK,o_n (by simp),f_brn (by assumption),t_brp (by assumption),trivial⟩ ?_
   exact ge
  ·have h3:10000<k:=by omega
   refine qq ?_
   refine gg [.a _ _,.b (0 !=0) false,.n (zq (zz encI l)) (zq l),.b ((↑(zq l):Int) !=c.players) false,.ff,.ff,.b (decide (k<0)) false,.ff,.ff,.b (decide (k>10000)) true] ⟨o_a hN,bK,o_n (by simp),f_brn (by assumption),f_brp (by assumption),t_brp (by assumption),trivial⟩ ?_
   exact ge
 ·refine qq ?_
  refine gg [.a _ _,.b (0 !=0) false,.n (zq (zz encI l)) (zq l),.b ((↑(zq l):Int) !=c.players) true,.tt,.tt,.tt,.tt,.tt,.tt] ⟨o_a hN,bK,o_n (by simp),t_brn (by assumption),trivial⟩ ?_
  exact ge
theorem Afz:Fn cx 51 [] (.bool true):=by
 have hG:=Agl ⟨1,1,1,1,0⟩ [[]] (-1) 0 2 (by decide) (by decide) (by decide) (by simp)
 have hw:=AkD (c:=⟨1,1,1,1,0⟩) (rows:=ghostRows [[]] (-1) 0 1 2) (AcX (by decide)) (by omega) (by simp [ghostRows]) (Ale (c:=⟨1,1,1,1,0⟩) (by decide) (by simp) (by decide))
 change WFine _ (worldAt ⟨1,1,1,1,0⟩ (ghostRows [[]] (-1) 0 (1:Int).toNat 2)) 2 at hw
 obtain ⟨k,hk⟩: ∃k:Nat,k=2:=⟨_,rfl⟩
 have hreg:=hw.regs
 have hl:(worldAt ⟨1,1,1,1,0⟩ (ghostRows [[]] (-1) 0 (1:Int).toNat 2)).regions.length=1:=by
  have:z0 ⟨1,1,1,1,0⟩=1:=by decide
  omega
 have hf:=(hw.sane 0 (by omega)).2.1
 clear hw hreg hk
 simp only at hG hl hf
 generalize worldAt ⟨1,1,1,1,0⟩ (ghostRows [[]] (-1) 0 (1:Int).toNat 2)=W at*
 obtain ⟨R,O⟩:=W
 simp only at hl hf hG
 match R,hl with
 | [⟨f,E⟩],_=>
  change f=2 at hf
  subst hf
  refine qq ?_
  refine gg [.a _ _,.b (0==0) true,.tt,.tt,.n (zq (zz zt [Region.mk 2 E])) 1,.tt,.tt,.b (1==1) true,.tt,.tt,.w (0≤(0:Int)),.l 0,.g [zt (Region.mk 2 E)] 0 (zt (Region.mk 2 E)),.tt,.tt,.tt] ⟨o_a hG,bK,nK,bK,oW,oG,trivial⟩ ?_
  refine gg [.tt] trivial ?_
  exact ge
end Go.Eva.S4
namespace Go.Eva
def badRow (c:Config) (r:InputL):Bool:= !decide ((r.length:Int)=c.players)||r.any fun i=> !i.right
theorem Aii {c:Config} {r:InputL} (h:badRow c r=true):(r.length:Int)≠c.players∨(r.any fun i=> !i.right)=true:=by
 unfold badRow at h
 simp only [Bool.or_eq_true,Bool.not_eq_true',decide_eq_false_iff_not] at h
 exact h
theorem AbR {c:Config} {r:InputL} (h:badRow c r=false):(r.length:Int)=c.players∧ ∀i∈r,i.right=true:=by
 unfold badRow at h
 simp only [Bool.or_eq_false_iff,Bool.not_eq_false',decide_eq_true_eq,List.any_eq_false,Bool.not_eq_true'] at h
 exact ⟨h.1,fun i hi=>by simpa using h.2 i hi⟩
def nextE (c:Config) (w:World) (r:InputL):World×Int:=if badRow c r=true then (⟨[],[]⟩,11) else (nextW c w r,0)
def runE (c:Config):World→List InputL→World×Int
 |w,[]=>(w,0)
 |w,r::rows=>if badRow c r=true then (⟨[],[]⟩,11) else runE c (nextW c w r) rows
theorem Al8 {c:Config}: ∀ {rows:List InputL} {w:World} {f:Int},WFine c w f→0≤f→f+rows.length≤10000→(runE c w rows=(⟨[],[]⟩,11))∨(∃f',WFine c (runE c w rows).1 f'∧(runE c w rows).2=0):=by
 intro rows
 induction rows with
 |nil=>intro w f h _ _;exact .inr ⟨f,h,rfl⟩
 |cons r rows ih=>
  intro w f h h0 hf
  simp only [List.length_cons] at hf
  rw [runE]
  cases hb:badRow c r with
  |true=>exact .inl (by rw [if_pos rfl])
  |false=>
   obtain ⟨h1,h2⟩:=AbR hb
   simp only [Bool.false_eq_true,if_false]
   exact ih (Aet h (by omega) h1 h2) (by omega) (by omega)
end Go.Eva
namespace Go.Eva.S4
theorem Afe (c:Config) (r:Int) (s:Region) (ins:List Input) (inbox:T) (hn:small s.ents) (hi:long ins) (h1:c.is r=true) (h2:regionRight c r s=true) (h3:(ins.length:Int)≠c.players):
  Fn cx 60 [c.enc,ti r,s.enc,.sl 3 (ins.map zr),inbox] (ti 11):=by
 have k1:=Aff c r
 have k2:=AeL c r s hn
 rw [h1] at k1
 rw [h2] at k2
 unfold long at hi
 obtain ⟨f,l⟩:=s
 refine qq ?_
 refine gg [.a _ _,.b (!true) false,.a _ _,.b (!true) false,.n (zq (zz zr ins)) (zq ins),.b ((↑(zq ins):Int) !=c.players) true,.tt,.tt,.tt] ⟨o_a k1,bK,o_a k2,bK,o_n (by simp),t_brn (by assumption),trivial⟩ ?_
 exact ge
theorem AfT (c:Config) (r:Int) (s:Region) (ins:List Input) (inbox:T) (hn:small s.ents) (hi:long ins) (h1:c.is r=true) (h2:regionRight c r s=true) (h3:(ins.length:Int)≠c.players):
  Is cx (.call 23 [.t c.enc,vi r,.t s.enc,.t (.sl 3 (ins.map zr)),.t inbox] []) ⟨.ret,[.t (.agg [ti 0,.sl 9 []]),.t (.sl 15 []),vi 11],[]⟩:=by
 have ha:=Afe c r s ins inbox hn hi h1 h2 h3
 obtain ⟨f,l⟩:=s
 refine qq ?_
 refine gg [.a _ _,.b (11 !=0) true] ⟨o_a ha,bK,trivial⟩ ?_
 exact ge
theorem Adh (c:Config) (r:Int) (s:Region) (ins:List Input) (inbox:T) (hn:small s.ents) (hi:long ins) (h1:c.is r=true) (h2:regionRight c r s=true) (h3:(ins.length:Int)≠c.players):
  Fn cx 131 [c.enc,ti r,s.enc,.sl 3 (ins.map zr),inbox] (ti 11):=by
 have k1:=Aay c r
 have k2:=Ach c r s hn
 rw [h1] at k1
 rw [h2] at k2
 unfold long at hi
 obtain ⟨f,l⟩:=s
 refine qq ?_
 refine gg [.a _ _,.b (!true) false,.a _ _,.b (!true) false,.n (zq (zz zr ins)) (zq ins),.b ((↑(zq ins):Int) !=c.players) true] ⟨o_a k1,bK,o_a k2,bK,o_n (by simp),t_brn (by assumption),trivial⟩ ?_
 exact ge
theorem AdX (c:Config) (r:Int) (s:Region) (ins:List Input) (inbox:T) (hn:small s.ents) (hi:long ins) (h1:c.is r=true) (h2:regionRight c r s=true) (h3:(ins.length:Int)≠c.players):
  Is cx (.call 80 [.t c.enc,vi r,.t s.enc,.t (.sl 3 (ins.map zr)),.t inbox] []) ⟨.ret,[.t (.agg [ti 0,.sl 9 []]),.t (.sl 15 []),vi 11],[]⟩:=by
 have ha:=Adh c r s ins inbox hn hi h1 h2 h3
 obtain ⟨f,l⟩:=s
 refine qq ?_
 refine gg [.a _ _,.b (11 !=0) true] ⟨o_a ha,bK,trivial⟩ ?_
 exact ge
theorem AdG (c:Config) (w:World) (f:Int) (ins:List Input) (h:WFine c w f) (hf:0≤f∧f<10000) (hl:(ins.length:Int)≠c.players) (hs:long ins):
  Is cx (.loop 34 [0,1,0,1,1,1,1] 0 [.t (.sl 3 (ins.map zr)),.ptr 0 0 0,.ptr 1 0 0,vi 0,.ptr 2 0 0,.ptr 3 0 0,.t (.sl 2 (w.regions.map zt)),vi w.regions.length,vi 0] [.one 2 (.t w.enc) false,.one 2 (.agg [.fit 2 [],.fit 1 []]) false,.one 5 (.t c.enc) false,.one 2 (.agg [.fit 2 [],.fit 1 []]) false])
   ⟨.ret,[.t (.sl 3 (ins.map zr)),.ptr 0 0 0,.ptr 1 0 0,vi 11,.ptr 2 0 0,.ptr 3 0 0,.t (.sl 2 (w.regions.map zt)),vi w.regions.length,vi 0],[.one 2 (.t w.enc) false,.one 2 (.agg [.fit 2 [],.fit 1 []]) false,.one 5 (.t c.enc) false,.one 2 (.agg [.fit 2 [],.fit 1 []]) false]⟩:=by
 have hreg:=h.regs
 have hgl:= @Config.regions_le c
 have hml:=Config.mul_le h.right
 have hgr:c.regions=c.cols*c.rows:=by simp [z0,h.right]
 have hlt:0<w.regions.length:=by omega
 have hout:=h.outs
 have his:c.is 0=true:=by rw [Config.is_iff h.right];omega
 have hb:=Add h hlt
 obtain ⟨s1,s2,s3⟩:=h.sane 0 hlt
 have hR:regionRight c 0 (gt w.regions 0)=true:=Aaw.2 ⟨his,by omega,s1.srt,s1.things,s1.ents⟩
 have hI:=Adq c w.outs 0 his (by omega) (Ahg h)
 have hS:=AfT c 0 (gt w.regions 0) ins (.sl 15 ((inboxL c w.outs 0).map zn)) (by unfold small;omega) hs his hR hl
 clear hb s1 s2 s3 hR hs
 clear hgr
 generalize inboxL c w.outs 0=box at*
 obtain ⟨R,O⟩:=w
 simp only at hreg hlt hI hS⊢
 clear h hl
 refine qq ?_
 refine gg [.b (decide (0<(↑(zq R):Int))) true,.w (0≤(0:Int)),.l 0,.g (zz zt R) 0 (zt (gt R 0))] ⟨tP,oW,o_gt rfl (by assumption) (by intro h;cases h),trivial⟩ ?_
 refine bO ?_ ?_
 ·refine gg [.a _ _] ⟨o_a hI,trivial⟩ ?_
  refine bO ?_ ?_
  all_goals
   refine gg [.a _ _,.b (11 !=0) true] ⟨o_a hS,bK,trivial⟩ ?_
   exact ge
 ·refine gg [.a _ _,.a _ _,.b (11 !=0) true] ⟨o_a hI,o_a hS,bK,trivial⟩ ?_
  exact ge
theorem Agh (c:Config) (w:World) (f:Int) (ins:List Input) (h:WFine c w f) (hf:0≤f∧f<10000) (hl:(ins.length:Int)≠c.players) (hs:long ins):
  Is cx (.call 34 [.t c.enc,.t w.enc,.t (.sl 3 (ins.map zr))] []) ⟨.ret,[.t (World.enc ⟨[],[]⟩),vi 11],[]⟩:=by
 have hr:=h.right
 have hreg:=h.regs
 have hout:=h.outs
 have hgl:= @Config.regions_le c
 have hN:=AaQ c
 rw [Config.grid_of hr,Config.err_of hr] at hN
 have hG:=Aav c
 rw [←hreg] at hG
 have hE:=AdG c w f ins h hf hl hs
 obtain ⟨R,O⟩:=w
 simp only at hreg hout hG hE⊢
 clear h hl
 refine qq ?_
 refine gg [.a _ _,.b (0 !=0) false,.n (zq (zz zt R)) (zq R),.a _ _,.b ((↑(zq R):Int) !=(↑(zq R):Int)) false,.ff,.ff,.n (zq (zz encL O)) (zq O),.ff,.ff,.a _ _,.ff,.ff,.b ((↑(zq O):Int) !=(↑(zq R):Int)) false,.n (zq (zz zt R)) (zq R),.a _ _] ⟨o_a hN,bK,o_n (by simp),o_a hG,f_brn rfl,o_n (by simp),o_a hG,fN,o_n (by simp),o_a hE,trivial⟩ ?_
 exact ge
theorem AbW (c:Config) (w:World) (f:Int) (ins:List Input) (h:WFine c w f) (hf:0≤f∧f<10000) (hl:(ins.length:Int)≠c.players) (hs:long ins):
  Is cx (.loop 35 [0,1,0,1,1,1,1,1] 0 [.t (.sl 3 (ins.map zr)),.ptr 0 0 0,.ptr 1 0 0,.ptr 2 0 0,vi 0,vi w.regions.length,.ptr 3 0 0,vi (0)] [.one 5 (.t c.enc) false,.one 2 (.t w.enc) false,.one 2 (.agg [.fit 2 [],.fit 1 []]) false,.one 2 (.agg [.fit 2 [],.fit 1 []]) false])
   ⟨.ret,[.t (.sl 3 (ins.map zr)),.ptr 0 0 0,.ptr 1 0 0,.ptr 2 0 0,vi 11,vi w.regions.length,.ptr 3 0 0,vi (0)],[.one 5 (.t c.enc) false,.one 2 (.t w.enc) false,.one 2 (.agg [.fit 2 [],.fit 1 []]) false,.one 2 (.agg [.fit 2 [],.fit 1 []]) false]⟩:=by
 have hreg:=h.regs
 have hout:=h.outs
 have hgl:= @Config.regions_le c
 have hml:=Config.mul_le h.right
 have hgr:c.regions=c.cols*c.rows:=by simp [z0,h.right]
 have hlt:0<w.regions.length:=by omega
 have his:c.is 0=true:=by rw [Config.is_iff h.right];omega
 have hb:=Add h hlt
 obtain ⟨s1,s2,s3⟩:=h.sane 0 hlt
 have hR:regionRight c 0 (gt w.regions 0)=true:=Aaw.2 ⟨his,by omega,s1.srt,s1.things,s1.ents⟩
 have hI:=Abb c w.outs 0 his (by omega) (Ahg h)
 have hS:=AdX c 0 (gt w.regions 0) ins (.sl 15 ((inboxL c w.outs 0).map zn)) (by unfold small;omega) hs his hR hl
 clear hgr hb s1 s2 s3 hR hs
 generalize inboxL c w.outs 0=box at*
 obtain ⟨R,O⟩:=w
 simp only at hreg hlt hI hS⊢
 clear h hl
 refine qq ?_
 refine gg [.b (decide (0<(↑(zq R):Int))) true,.w (0≤(0:Int)),.l 0,.g (zz zt R) 0 (zt (gt R 0))] ⟨tP,oW,o_gt rfl (by assumption) (by intro h;cases h),trivial⟩ ?_
 refine bO ?_ ?_
 ·refine gg [.a _ _] ⟨o_a hI,trivial⟩ ?_
  refine bO ?_ ?_
  all_goals
   refine gg [.a _ _,.b (11 !=0) true] ⟨o_a hS,bK,trivial⟩ ?_
   exact ge
 ·refine gg [.a _ _,.a _ _,.b (11 !=0) true] ⟨o_a hI,o_a hS,bK,trivial⟩ ?_
  exact ge
theorem AdN (c:Config) (w:World) (f:Int) (ins:List Input) (h:WFine c w f) (hf:0≤f∧f<10000) (hl:(ins.length:Int)≠c.players) (hs:long ins):
  Is cx (.call 35 [.t c.enc,.t w.enc,.t (.sl 3 (ins.map zr))] []) ⟨.ret,[.t (World.enc ⟨[],[]⟩),vi 11],[]⟩:=by
 have hr:=h.right
 have hreg:=h.regs
 have hout:=h.outs
 have hgl:= @Config.regions_le c
 have hR:=Aaf c
 rw [hr] at hR
 have hG:=Aak c
 rw [←hreg] at hG
 have hE:=AbW c w f ins h hf hl hs
 obtain ⟨R,O⟩:=w
 simp only at hreg hout hG hE⊢
 clear h hl
 refine qq ?_
 refine gg [.a _ _,.b (!true) false,.a _ _,.n (zq (zz zt R)) (zq R),.b ((↑(zq R):Int) !=(↑(zq R):Int)) false,.ff,.ff,.n (zq (zz encL O)) (zq O),.ff,.ff,.ff,.b ((↑(zq O):Int) !=(↑(zq R):Int)) false,.a _ _] ⟨o_a hR,bK,o_a hG,o_n (by simp),f_brn rfl,o_n (by simp),fN,o_a hE,trivial⟩ ?_
 exact ge
end Go.Eva.S4
namespace Go.Eva.S4
theorem AgP (c:Config) (w:World) (f:Int) (ins:InputL) (h:WFine c w f) (hf:0≤f∧f<10000) (hs:long ins):Is cx (.call 34 [.t c.enc,.t w.enc,.t (.sl 3 (ins.map zr))] []) ⟨.ret,[.t (nextE c w ins).1.enc,vi (nextE c w ins).2],[]⟩:=by
 unfold nextE
 cases hb:badRow c ins with
 |true=>
  rw [if_pos rfl]
  have hcr:=Config.right_iff.1 h.right
  by_cases hl:(ins.length:Int)=c.players
  ·exact AfU c w f ins h hf (Aii hb) (by omega)
  ·exact Agh c w f ins h hf hl hs
 |false=>
  rw [if_neg (by simp)]
  exact Ad4 c w f ins h hf (AbR hb).1 (AbR hb).2
theorem Aex (c:Config) (w:World) (f:Int) (ins:InputL) (h:WFine c w f) (hf:0≤f∧f<10000) (hs:long ins):Is cx (.call 35 [.t c.enc,.t w.enc,.t (.sl 3 (ins.map zr))] []) ⟨.ret,[.t (nextE c w ins).1.enc,vi (nextE c w ins).2],[]⟩:=by
 unfold nextE
 cases hb:badRow c ins with
 |true=>
  rw [if_pos rfl]
  have hcr:=Config.right_iff.1 h.right
  by_cases hl:(ins.length:Int)=c.players
  ·exact Adw c w f ins h hf (Aii hb) (by omega)
  ·exact AdN c w f ins h hf hl hs
 |false=>
  rw [if_neg (by simp)]
  exact Aen c w f ins h hf (AbR hb).1 (AbR hb).2
theorem Aew (c:Config) (w x w2:World) (rows:List InputL) (i:Nat) (hlt:i<rows.length) (hn:rows.length≤100) (hS:Is cx (.call 34 [.t c.enc,.t w.enc,.t (.sl 3 ((gt rows i).map zr))] []) ⟨.ret,[.t x.enc,vi 0],[]⟩) (ex:Ex) (e5 e7 i2:Int)
  (ih1:Is cx (.loop 43 [0,1,0,1,1] 0 [.ptr 0 0 0,.ptr 1 0 0,vi 0,.ptr 2 0 0,vi 0,.t (.sl 1 (rows.map encI)),vi rows.length,vi (i+1:Nat)] [.one 5 (.t c.enc) false,.one 2 (.agg [.fit 2 [],.fit 1 []]) false,.one 2 (.t x.enc) false])
   ⟨ex,[.ptr 0 0 0,.ptr 1 0 0,vi e5,.ptr 2 0 0,vi e7,.t (.sl 1 (rows.map encI)),vi rows.length,vi i2],[.one 5 (.t c.enc) false,.one 2 (.agg [.fit 2 [],.fit 1 []]) false,.one 2 (.t w2.enc) false]⟩):
  Is cx (.loop 43 [0,1,0,1,1] 0 [.ptr 0 0 0,.ptr 1 0 0,vi 0,.ptr 2 0 0,vi 0,.t (.sl 1 (rows.map encI)),vi rows.length,vi i] [.one 5 (.t c.enc) false,.one 2 (.agg [.fit 2 [],.fit 1 []]) false,.one 2 (.t w.enc) false])
   ⟨ex,[.ptr 0 0 0,.ptr 1 0 0,vi e5,.ptr 2 0 0,vi e7,.t (.sl 1 (rows.map encI)),vi rows.length,vi i2],[.one 5 (.t c.enc) false,.one 2 (.agg [.fit 2 [],.fit 1 []]) false,.one 2 (.t w2.enc) false]⟩:=by
 refine qq ?_
 refine gg [.b (decide ((i:Int)<(↑(zq rows):Int))) true,.w (0≤(i:Int)),.n (zy (i:Int)) i,.g (zz encI rows) i (encI (gt rows i)),.b (0 !=0) false,.a _ _,.i zd ((i:Int)+1) ((↑(i+1):Int)),.a _ _] ⟨tP,oW,nK,o_gt rfl (by assumption) (by intro h;cases h),bK,o_a hS,oI,o_a ih1,trivial⟩ ?_
 exact ge
theorem Ad9 (c:Config) (w:World) (e:Int) (rows:List InputL) (i:Nat) (hi:i=rows.length) (hn:rows.length≤100):
  Is cx (.loop 43 [0,1,0,1,1] 0 [.ptr 0 0 0,.ptr 1 0 0,vi 0,.ptr 2 0 0,vi e,.t (.sl 1 (rows.map encI)),vi rows.length,vi i] [.one 5 (.t c.enc) false,.one 2 (.agg [.fit 2 [],.fit 1 []]) false,.one 2 (.t w.enc) false])
   ⟨.exit 0,[.ptr 0 0 0,.ptr 1 0 0,vi 0,.ptr 2 0 0,vi e,.t (.sl 1 (rows.map encI)),vi rows.length,vi rows.length],[.one 5 (.t c.enc) false,.one 2 (.agg [.fit 2 [],.fit 1 []]) false,.one 2 (.t w.enc) false]⟩:=by
 subst hi
 refine qq ?_
 refine gg [.b (decide ((↑(zq rows):Int)<(↑(zq rows):Int))) false] ⟨fP,trivial⟩ ?_
 exact ge
theorem AgS (c:Config) (rows:List InputL) (i:Nat) (hlt:i<rows.length) (hn:rows.length≤100):
  Is cx (.loop 43 [0,1,0,1,1] 0 [.ptr 0 0 0,.ptr 1 0 0,vi 0,.ptr 2 0 0,vi 11,.t (.sl 1 (rows.map encI)),vi rows.length,vi i] [.one 5 (.t c.enc) false,.one 2 (.agg [.fit 2 [],.fit 1 []]) false,.one 2 (.t (World.enc ⟨[],[]⟩)) false])
   ⟨.ret,[.ptr 0 0 0,.ptr 1 0 0,vi 11,.ptr 2 0 0,vi 11,.t (.sl 1 (rows.map encI)),vi rows.length,vi i],[.one 5 (.t c.enc) false,.one 2 (.agg [.fit 2 [],.fit 1 []]) false,.one 2 (.t (World.enc ⟨[],[]⟩)) false]⟩:=by
 refine qq ?_
 refine gg [.b (decide ((i:Int)<(↑(zq rows):Int))) true,.w (0≤(i:Int)),.n (zy (i:Int)) i,.g (zz encI rows) i (encI (gt rows i)),.b (11 !=0) true] ⟨tP,oW,nK,o_gt rfl (by assumption) (by intro h;cases h),bK,trivial⟩ ?_
 exact ge
theorem Acf (c:Config) (w w2:World) (rows:List InputL) (i:Nat) (hlt:i<rows.length) (hn:rows.length≤100) (hS:Is cx (.call 34 [.t c.enc,.t w.enc,.t (.sl 3 ((gt rows i).map zr))] []) ⟨.ret,[.t (World.enc ⟨[],[]⟩),vi 11],[]⟩) (ex:Ex) (e5 e7 i2:Int)
  (ih1:Is cx (.loop 43 [0,1,0,1,1] 0 [.ptr 0 0 0,.ptr 1 0 0,vi 0,.ptr 2 0 0,vi 11,.t (.sl 1 (rows.map encI)),vi rows.length,vi (i+1:Nat)] [.one 5 (.t c.enc) false,.one 2 (.agg [.fit 2 [],.fit 1 []]) false,.one 2 (.t (World.enc ⟨[],[]⟩)) false])
   ⟨ex,[.ptr 0 0 0,.ptr 1 0 0,vi e5,.ptr 2 0 0,vi e7,.t (.sl 1 (rows.map encI)),vi rows.length,vi i2],[.one 5 (.t c.enc) false,.one 2 (.agg [.fit 2 [],.fit 1 []]) false,.one 2 (.t w2.enc) false]⟩):
  Is cx (.loop 43 [0,1,0,1,1] 0 [.ptr 0 0 0,.ptr 1 0 0,vi 0,.ptr 2 0 0,vi 0,.t (.sl 1 (rows.map encI)),vi rows.length,vi i] [.one 5 (.t c.enc) false,.one 2 (.agg [.fit 2 [],.fit 1 []]) false,.one 2 (.t w.enc) false])
   ⟨ex,[.ptr 0 0 0,.ptr 1 0 0,vi e5,.ptr 2 0 0,vi e7,.t (.sl 1 (rows.map encI)),vi rows.length,vi i2],[.one 5 (.t c.enc) false,.one 2 (.agg [.fit 2 [],.fit 1 []]) false,.one 2 (.t w2.enc) false]⟩:=by
 refine qq ?_
 refine gg [.b (decide ((i:Int)<(↑(zq rows):Int))) true,.w (0≤(i:Int)),.n (zy (i:Int)) i,.g (zz encI rows) i (encI (gt rows i)),.b (0 !=0) false,.a _ _,.i zd ((i:Int)+1) ((↑(i+1):Int)),.a _ _] ⟨tP,oW,nK,o_gt rfl (by assumption) (by intro h;cases h),bK,o_a hS,oI,o_a ih1,trivial⟩ ?_
 exact ge
def RunEnd (c:Config) (rows:List InputL) (i:Nat) (w x:World) (e:Int):Prop:=
 (∃i2:Int,Is cx (.loop 43 [0,1,0,1,1] 0 [.ptr 0 0 0,.ptr 1 0 0,vi 0,.ptr 2 0 0,vi 0,.t (.sl 1 (rows.map encI)),vi rows.length,vi i] [.one 5 (.t c.enc) false,.one 2 (.agg [.fit 2 [],.fit 1 []]) false,.one 2 (.t w.enc) false])
  ⟨.exit 0,[.ptr 0 0 0,.ptr 1 0 0,vi 0,.ptr 2 0 0,vi e,.t (.sl 1 (rows.map encI)),vi rows.length,vi i2],[.one 5 (.t c.enc) false,.one 2 (.agg [.fit 2 [],.fit 1 []]) false,.one 2 (.t x.enc) false]⟩)∨
 (x=⟨[],[]⟩∧e=11∧ ∃i2:Int,Is cx (.loop 43 [0,1,0,1,1] 0 [.ptr 0 0 0,.ptr 1 0 0,vi 0,.ptr 2 0 0,vi 0,.t (.sl 1 (rows.map encI)),vi rows.length,vi i] [.one 5 (.t c.enc) false,.one 2 (.agg [.fit 2 [],.fit 1 []]) false,.one 2 (.t w.enc) false])
  ⟨.ret,[.ptr 0 0 0,.ptr 1 0 0,vi 11,.ptr 2 0 0,vi 11,.t (.sl 1 (rows.map encI)),vi rows.length,vi i2],[.one 5 (.t c.enc) false,.one 2 (.agg [.fit 2 [],.fit 1 []]) false,.one 2 (.t (World.enc ⟨[],[]⟩)) false]⟩)
theorem AgT (c:Config) (rows:List InputL) (hn:rows.length≤100) (hs: ∀r∈rows,long r): ∀(d i:Nat) (w:World) (f:Int),i+d=rows.length→WFine c w f→0≤f→f+d≤10000→RunEnd c rows i w (runE c w (rows.drop i)).1 (runE c w (rows.drop i)).2:=by
 intro d
 induction d with
 |zero=>
  intro i w f hi hw h0 hf
  rw [Aac (by omega)]
  exact .inl ⟨_,Ad9 c w 0 rows i (by omega) hn⟩
 |succ d ih=>
  intro i w f hi hw h0 hf
  have hlt:i<rows.length:=by omega
  have hS:=AgP c w f (gt rows i) hw (by omega) (hs _ (Aa2 hlt))
  rw [Aae hlt,runE]
  unfold nextE at hS
  cases hb:badRow c (gt rows i) with
  |true=>
   rw [hb] at hS
   simp only [if_true] at hS⊢
   by_cases hlast:i+1=rows.length
   ·exact .inl ⟨_,Acf c w _ rows i hlt hn hS _ _ _ _ (Ad9 c ⟨[],[]⟩ 11 rows (i+1) hlast hn)⟩
   ·exact .inr ⟨rfl,rfl,_,Acf c w _ rows i hlt hn hS _ _ _ _ (AgS c rows (i+1) (by omega) hn)⟩
  |false=>
   rw [hb] at hS
   simp only [Bool.false_eq_true,if_false] at hS⊢
   obtain ⟨h1,h2⟩:=AbR hb
   rcases ih (i+1) (nextW c w (gt rows i)) (f+1) (by omega) (Aet hw (by omega) h1 h2) (by omega) (by omega) with ⟨i2,k⟩|⟨k1,k2,i2,k⟩
   ·exact .inl ⟨i2,Aew c w _ _ rows i hlt hn hS _ _ _ _ k⟩
   ·exact .inr ⟨k1,k2,i2,Aew c w _ _ rows i hlt hn hS _ _ _ _ k⟩
theorem Ah1 (c:Config) (rows:List InputL) (hr:c.right=true) (hn:rows.length≤100) (hs: ∀r∈rows,long r):
  Is cx (.call 43 [.t c.enc,.t (.sl 1 (rows.map encI))] []) ⟨.ret,[.t (runE c (beginW c.cols c.regions c.players.toNat) rows).1.enc,vi (runE c (beginW c.cols c.regions c.players.toNat) rows).2],[]⟩:=by
 have hB:=AcJ c hr
 rw [show c.cols*c.rows=c.regions by simp [z0,hr]] at hB
 have hL:=AgT c rows hn hs rows.length 0 _ 0 (by omega) (AcX hr) (by omega) (by omega)
 rw [List.drop_zero] at hL
 generalize runE c (beginW c.cols c.regions c.players.toNat) rows=W at*
 generalize beginW c.cols c.regions c.players.toNat=B at*
 obtain ⟨x,e⟩:=W
 simp only at hL⊢
 clear hs
 rcases hL with ⟨i2,hL⟩|⟨rfl,rfl,i2,hL⟩
 ·refine qq ?_
  refine gg [.a _ _,.n (zq (zz encI rows)) (zq rows),.a _ _] ⟨o_a hB,o_n (by simp),o_a hL,trivial⟩ ?_
  exact ge
 ·refine qq ?_
  refine gg [.a _ _,.n (zq (zz encI rows)) (zq rows),.a _ _] ⟨o_a hB,o_n (by simp),o_a hL,trivial⟩ ?_
  exact ge
theorem Ag4 (c:Config) (l:List InputL) (gone en:Int) (k:Nat) (hr:c.right=true) (hl:(l.length:Int)=c.players) (hk:k≤100):
  Is cx (.call 49 [.t c.enc,.t (.sl 1 (l.map encI)),vi gone,vi en,vi k] []) ⟨.ret,[.t (runE c (beginW c.cols c.regions c.players.toNat) (ghostRows l gone en c.players.toNat k)).1.enc,vi (runE c (beginW c.cols c.regions c.players.toNat) (ghostRows l gone en c.players.toNat k)).2],[]⟩:=by
 have hcr:=Config.right_iff.1 hr
 have hN:=AaQ c
 rw [Config.grid_of hr,Config.err_of hr] at hN
 have hL:=AbI c l gone en k c.players.toNat (by omega) (by omega) (by omega) hk k 0 (by omega)
 have hlen:(ghostRows l gone en c.players.toNat k).length=k:=by simp [ghostRows]
 have hR:=Ah1 c (ghostRows l gone en c.players.toNat k) hr (by omega) (fun r h=>by
  obtain ⟨f,_,rfl⟩:=List.mem_map.1 h
  unfold long;simp [ghostRow];omega)
 change Is cx (.loop _ _ _ _ [_,_,_,.arr 1 [] _ _]) _ at hL
 generalize runE c (beginW c.cols c.regions c.players.toNat) (ghostRows l gone en c.players.toNat k)=W at*
 generalize ghostRows l gone en c.players.toNat k=R at*
 obtain ⟨x,e⟩:=W
 simp only at hR⊢
 refine qq ?_
 refine gg [.a _ _,.b (0 !=0) false,.n (zq (zz encI l)) (zq l),.b ((↑(zq l):Int) !=c.players) false,.ff,.ff,.b (decide ((k:Int)<0)) false,.ff,.ff,.b (decide ((k:Int)>10000)) false,.a _ _,.a _ _,.b (flats [World.enc x,ti e]) false] ⟨o_a hN,bK,o_n (by simp),f_brn (by assumption),bK,fP,o_a hL,o_a hR,bK,trivial⟩ ?_
 exact ge
end Go.Eva.S4
namespace Go.Eva.S4
theorem Ado (c:Config) (w:World) (l:List InputL) (gone en:Int) (k:Nat) (e:Int) (hk:k≤100):
  Is cx (.loop 50 [0,1,0,1,1,1,1] 0 [.t (.sl 1 (l.map encI)),vi gone,vi en,vi k,.ptr 0 0 0,.ptr 1 0 0,.ptr 2 0 0,vi e,vi (k)] [.one 5 (.t c.enc) false,.one 2 (.agg [.fit 2 [],.fit 1 []]) false,.one 2 (.t (w).enc) false])
   ⟨.exit 0,[.t (.sl 1 (l.map encI)),vi gone,vi en,vi k,.ptr 0 0 0,.ptr 1 0 0,.ptr 2 0 0,vi e,vi (k)],[.one 5 (.t c.enc) false,.one 2 (.agg [.fit 2 [],.fit 1 []]) false,.one 2 (.t (w).enc) false]⟩:=by
 refine qq ?_
 refine gg [.b (decide ((k:Int)<(k:Int))) false,.ff,.ff,.ff] ⟨fP,trivial⟩ ?_
 exact ge
theorem Adt (c:Config) (w:World) (l:List InputL) (gone en:Int) (k f:Nat) (hf:f≤k) (hk:k≤100):
  Is cx (.loop 50 [0,1,0,1,1,1,1] 0 [.t (.sl 1 (l.map encI)),vi gone,vi en,vi k,.ptr 0 0 0,.ptr 1 0 0,.ptr 2 0 0,vi 11,vi (f)] [.one 5 (.t c.enc) false,.one 2 (.agg [.fit 2 [],.fit 1 []]) false,.one 2 (.t (w).enc) false])
   ⟨.exit 0,[.t (.sl 1 (l.map encI)),vi gone,vi en,vi k,.ptr 0 0 0,.ptr 1 0 0,.ptr 2 0 0,vi 11,vi (f)],[.one 5 (.t c.enc) false,.one 2 (.agg [.fit 2 [],.fit 1 []]) false,.one 2 (.t (w).enc) false]⟩:=by
 by_cases h:f<k
 ·refine qq ?_
  refine gg [.b (decide ((f:Int)<(k:Int))) true,.tt,.tt,.b (11==0) false] ⟨tP,bK,trivial⟩ ?_
  exact ge
 ·refine qq ?_
  refine gg [.b (decide ((f:Int)<(k:Int))) false,.ff,.ff,.ff] ⟨fP,trivial⟩ ?_
  exact ge
theorem Adv (c:Config) (l:List InputL) (gone en:Int) (k n:Nat) (hc:c.players=(n:Int)) (hn:l.length=n) (h6:n≤6) (hk:k≤100): ∀(d f:Nat) (w:World),f+d=k→WFine c w f→
  ∃f2:Int,Is cx (.loop 50 [0,1,0,1,1,1,1] 0 [.t (.sl 1 (l.map encI)),vi gone,vi en,vi k,.ptr 0 0 0,.ptr 1 0 0,.ptr 2 0 0,vi 0,vi (f)] [.one 5 (.t c.enc) false,.one 2 (.agg [.fit 2 [],.fit 1 []]) false,.one 2 (.t (w).enc) false])
   ⟨.exit 0,[.t (.sl 1 (l.map encI)),vi gone,vi en,vi k,.ptr 0 0 0,.ptr 1 0 0,.ptr 2 0 0,vi (runE c w ((ghostRows l gone en n k).drop f)).2,vi (f2)],[.one 5 (.t c.enc) false,.one 2 (.agg [.fit 2 [],.fit 1 []]) false,.one 2 (.t ((runE c w ((ghostRows l gone en n k).drop f)).1).enc) false]⟩:=by
 have hlen:(ghostRows l gone en n k).length=k:=by simp [ghostRows]
 intro d
 induction d with
 |zero=>
  intro f w hf hw
  obtain rfl:f=k:=by omega
  rw [Aac (by omega)]
  exact ⟨_,Ado c w l gone en f 0 hk⟩
 |succ d ih=>
  intro f w hf hw
  have hlt:f<(ghostRows l gone en n k).length:=by omega
  have hg:gt (ghostRows l gone en n k) f=ghostRow l gone en n f:=by simp [ghostRows,gt,show f<k by omega]
  have hS:=Aex c w f (ghostRow l gone en n f) hw (by omega) (by unfold long;simp [ghostRow];omega)
  rw [Aae hlt,hg,runE]
  unfold nextE at hS
  cases hb:badRow c (ghostRow l gone en n f) with
  |true=>
   rw [hb] at hS
   simp only [if_true] at hS⊢
   exact ⟨_,AaU c w _ l gone en 11 k f n hc hn h6 (by omega) hk hS _ _ _ (Adt c ⟨[],[]⟩ l gone en k (f+1) (by omega) hk)⟩
  |false=>
   rw [hb] at hS
   simp only [Bool.false_eq_true,if_false] at hS⊢
   obtain ⟨h1,h2⟩:=AbR hb
   obtain ⟨f2,q⟩:=ih (f+1) (nextW c w (ghostRow l gone en n f)) (by omega) (Aet hw (by omega) h1 h2)
   exact ⟨f2,AaU c w _ l gone en 0 k f n hc hn h6 (by omega) hk hS _ _ _ q⟩
theorem AdL (c:Config) (l:List InputL) (gone en:Int) (k:Nat) (hr:c.right=true) (hl:(l.length:Int)=c.players) (hk:k≤100):
  Is cx (.call 50 [.t c.enc,.t (.sl 1 (l.map encI)),vi gone,vi en,vi k] []) ⟨.ret,[.t (runE c (beginW c.cols c.regions c.players.toNat) (ghostRows l gone en c.players.toNat k)).1.enc,vi (runE c (beginW c.cols c.regions c.players.toNat) (ghostRows l gone en c.players.toNat k)).2],[]⟩:=by
 have hcr:=Config.right_iff.1 hr
 have hR:=Aaf c
 rw [hr] at hR
 have hB:=AdE c hr
 obtain ⟨f2,hL⟩:=Adv c l gone en k c.players.toNat (by omega) (by omega) (by omega) hk k 0 _ (by omega) (AcX hr)
 rw [List.drop_zero] at hL
 generalize runE c (beginW c.cols c.regions c.players.toNat) (ghostRows l gone en c.players.toNat k)=W at*
 generalize beginW c.cols c.regions c.players.toNat=B at*
 obtain ⟨x,e⟩:=W
 simp only at hL⊢
 refine qq ?_
 refine gg [.a _ _,.b (!true) false,.n (zq (zz encI l)) (zq l),.b ((↑(zq l):Int) !=c.players) false,.ff,.ff,.b (decide ((k:Int)<0)) false,.ff,.ff,.b (decide ((k:Int)>10000)) false,.a _ _,.a _ _] ⟨o_a hR,bK,o_n (by simp),f_brn (by assumption),bK,fP,o_a hB,o_a hL,trivial⟩ ?_
 exact ge
theorem AdP (c:Config) (l:List InputL) (gone en k:Int) (hr:c.right=true) (hlong:long l) (h:(l.length:Int)≠c.players∨k<0∨10000<k):
  Is cx (.call 50 [.t c.enc,.t (.sl 1 (l.map encI)),vi gone,vi en,vi k] []) ⟨.ret,[.t (World.enc ⟨[],[]⟩),vi 1],[]⟩:=by
 have hR:=Aaf c
 rw [hr] at hR
 unfold long at hlong
 by_cases h1:(l.length:Int)=c.players
 ·by_cases h2:k<0
  ·refine qq ?_
   refine gg [.a _ _,.b (!true) false,.n (zq (zz encI l)) (zq l),.b ((↑(zq l):Int) !=c.players) false,.ff,.ff,.b (decide (k<0)) true,.tt,.tt,.tt] ⟨o_a hR,bK,o_n (by simp),f_brn (by assumption),t_brp (by assumption),trivial⟩ ?_
   exact ge
  ·have h3:10000<k:=by omega
   refine qq ?_
   refine gg [.a _ _,.b (!true) false,.n (zq (zz encI l)) (zq l),.b ((↑(zq l):Int) !=c.players) false,.ff,.ff,.b (decide (k<0)) false,.ff,.ff,.b (decide (k>10000)) true] ⟨o_a hR,bK,o_n (by simp),f_brn (by assumption),f_brp (by assumption),t_brp (by assumption),trivial⟩ ?_
   exact ge
 ·refine qq ?_
  refine gg [.a _ _,.b (!true) false,.n (zq (zz encI l)) (zq l),.b ((↑(zq l):Int) !=c.players) true,.tt,.tt,.tt,.tt,.tt,.tt] ⟨o_a hR,bK,o_n (by simp),t_brn (by assumption),trivial⟩ ?_
  exact ge
end Go.Eva.S4
namespace Go.Eva.S4
theorem AaD (c:Config) (l:List InputL) (gone en k:Int) (hl:long l) (hk:k≤30∨10000<k): ∃(x:World) (e:Int),
  Is cx (.call 49 [.t c.enc,.t (.sl 1 (l.map encI)),vi gone,vi en,vi k] []) ⟨.ret,[.t x.enc,vi e],[]⟩∧
  Is cx (.call 50 [.t c.enc,.t (.sl 1 (l.map encI)),vi gone,vi en,vi k] []) ⟨.ret,[.t x.enc,vi e],[]⟩∧Fn cx 36 [x.enc,x.enc] (.bool true):=by
 cases hr:c.right with
 |false=>exact ⟨⟨[],[]⟩,10,AeH c l gone en k hr,Acp c l gone en k hr,Ah0⟩
 |true=>
  by_cases h:(l.length:Int)≠c.players∨k<0∨10000<k
  ·exact ⟨⟨[],[]⟩,1,Agj c l gone en k hr h,AdP c l gone en k hr hl h,Ah0⟩
  ·obtain ⟨kk,rfl⟩: ∃kk:Nat,k=kk:=⟨k.toNat,by omega⟩
   have hll:(l.length:Int)=c.players:=Decidable.byContradiction fun q=>h (.inl q)
   have hkk:kk≤30:=by omega
   refine ⟨_,_,Ag4 c l gone en kk hr hll (by omega),AdL c l gone en kk hr hll (by omega),?_⟩
   rcases Al8 (rows:=ghostRows l gone en c.players.toNat kk) (AcX hr) (by omega) (by simp [ghostRows];omega) with h|⟨f,h,_⟩
   ·rw [h];exact Ah0
   ·exact AmG h
theorem AjJ (c:Config) (rows:List InputL) (gone en k:Int) (n:Nat) (hc:c.players=(n:Int)) (hn:n≤100) (hr:rows.length≤n): ∀(d i:Nat),i+d=rows.length→
  Is cx (.loop 12 [0,1,0,1,1,1,0,1,0,1] 0 [vi gone,vi en,vi k,.ptr 0 0 0,.all 1 none,.all 2 none,vi (i)] [.one 5 (.t c.enc) false,.arr 1 (rows.map encI) none false,.arr 1 ((padI rows n (i)).map encI) (some 0) false])
   ⟨.exit 0,[vi gone,vi en,vi k,.ptr 0 0 0,.all 1 none,.all 2 none,vi (rows.length)],[.one 5 (.t c.enc) false,.arr 1 (rows.map encI) none false,.arr 1 ((padI rows n (rows.length)).map encI) (some 0) false]⟩:=by
 intro d
 induction d with
 |zero=>
  intro i hi
  obtain rfl:i=rows.length:=by omega
  generalize hq:padI rows n rows.length=X at*
  by_cases h:rows.length<n
  ·refine qq ?_
   refine gg [.b (decide ((↑(zq rows):Int)<c.players)) true,.tt,.tt,.n (zq (zz encI rows)) (zq rows),.tt,.tt,.b (decide ((↑(zq rows):Int)<(↑(zq rows):Int))) false] ⟨tP,o_n (by simp),fP,trivial⟩ ?_
   exact ge
  ·refine qq ?_
   refine gg [.b (decide ((↑(zq rows):Int)<c.players)) false,.ff,.ff,.ff,.ff,.ff] ⟨fP,trivial⟩ ?_
   exact ge
 |succ d ih=>
  intro i hi
  have hlt:i<rows.length:=by omega
  have ih1:=ih (i+1) (by omega)
  rw [←AnE hlt hr] at ih1
  have hlen:=AkN (rows:=rows) (n:=n) (i:=i) (by omega) (by omega)
  clear ih
  generalize padI rows n i=X at*
  generalize padI rows n rows.length=Y at*
  refine qq ?_
  refine gg [.b (decide ((i:Int)<c.players)) true,.tt,.tt,.n (zq (zz encI rows)) (zq rows),.tt,.tt,.b (decide ((i:Int)<(↑(zq rows):Int))) true,.w (0≤(i:Int)),.n (zy (i:Int)) i,.w (i<zq (zz encI rows)),.g (zz encI rows) i (encI (gt rows i)),.w (0≤(i:Int)),.n (zy (i:Int)) i,.w (i<zq (zz encI X)),.g (zz encI X) i (encI (gt X i)),.t (qk 0 (zx (zz encI X) i (qk 3 (zz zr (gt rows i))))) (qk 0 (zz encI (zx X i (gt rows i))))] ⟨tP,o_n (by simp),tP,oW,nK,o_w (by (simp;omega)),o_gt rfl (by assumption) (by intro h;cases h),oW,nK,o_w (by (simp;omega)),oT,o_l (Aam (e:=gt rows i) rfl rfl),trivial⟩ ?_
  refine gg [.i zd ((i:Int)+1) ((↑(i+1):Int)),.a _ _] ⟨oI,o_a ih1,trivial⟩ ?_
  exact ge
theorem AiR (c:Config) (l:List InputL) (gone en k e:Int) (x:World) (ha:Fn cx 51 [] (.bool true)) (h1:30<k) (h2:k≤10000)
  (q1:Is cx (.call 49 [.t c.enc,.t (.sl 1 (l.map encI)),vi gone,vi en,vi (k.tmod 30)] []) ⟨.ret,[.t x.enc,vi e],[]⟩)
  (q2:Is cx (.call 50 [.t c.enc,.t (.sl 1 (l.map encI)),vi gone,vi en,vi (k.tmod 30)] []) ⟨.ret,[.t x.enc,vi e],[]⟩)
  (s:Fn cx 36 [x.enc,x.enc] (.bool true)):Fn cx 12 [c.enc,.sl 1 (l.map encI),ti gone,ti en,ti k,.bool true] (.bool true):=by
 refine qq ?_
 refine gg [.b (!true) false,.b (decide (k>30)) true,.tt,.tt,.b (decide (k≤10000)) true,.w ((30:Int)≠(0:Int)),.s (ti (zg k 30)),.a _ _,.a _ _,.a _ _,.tt,.tt,.tt,.a _ _,.tt,.tt] ⟨bK,t_brp (by assumption),t_brp (by assumption),o_w (by intro h;cases h),o_a q1,o_a q2,o_a ha,o_a s,trivial⟩ ?_
 refine gg [.tt,.tt,.tt] trivial ?_
 refine rT (a:=qz qj [vb (e==e)] []) ?_
 simp
theorem Aia (c g:Config) (l rows:List InputL) (gone en k e:Int) (n:Nat) (x:World) (ha:Fn cx 51 [] (.bool true)) (hC:Fn cx 16 [c.enc] g.enc) (hc:g.players=(n:Int)) (hn:1≤n∧n≤100) (hlen:(padI rows n rows.length).length=n)
  (hF:Is cx (.call 22 [.t (Config.enc ⟨0,0,20,0,0⟩),.t (.sl 1 (l.map encI)),vi g.players] []) ⟨.ret,[.all 0 none],[.arr 1 (rows.map encI) none false]⟩)
  (hL:Is cx (.loop 12 [0,1,0,1,1,1,0,1,0,1] 0 [vi gone,vi en,vi k,.ptr 0 0 0,.all 1 none,.all 2 none,vi ((0:Nat))] [.one 5 (.t g.enc) false,.arr 1 (rows.map encI) none false,.arr 1 (zj g.players.toNat (qk 3 [])) (some 0) false])
   ⟨.exit 0,[vi gone,vi en,vi k,.ptr 0 0 0,.all 1 none,.all 2 none,vi (rows.length)],[.one 5 (.t g.enc) false,.arr 1 (rows.map encI) none false,.arr 1 ((padI rows n (rows.length)).map encI) (some 0) false]⟩) (h1:30<k) (h2:k≤10000)
  (q1:Is cx (.call 49 [.t g.enc,.t (.sl 1 ((padI rows n rows.length).map encI)),vi gone,vi en,vi (k.tmod 30)] []) ⟨.ret,[.t x.enc,vi e],[]⟩)
  (q2:Is cx (.call 50 [.t g.enc,.t (.sl 1 ((padI rows n rows.length).map encI)),vi gone,vi en,vi (k.tmod 30)] []) ⟨.ret,[.t x.enc,vi e],[]⟩)
  (s:Fn cx 36 [x.enc,x.enc] (.bool true)):Fn cx 12 [c.enc,.sl 1 (l.map encI),ti gone,ti en,ti k,.bool false] (.bool true):=by
 generalize padI rows n rows.length=Y at*
 refine qq ?_
 refine gg [.b (!false) true,.a _ _,.a _ _,.w (0≤g.players∧g.players≤g.players∧room (zy g.players) (24:Nat)),.l (zy g.players),.a _ _,.b (decide (k>30)) true,.tt,.tt,.b (decide (k≤10000)) true,.w ((30:Int)≠(0:Int)),.s (ti (zg k 30)),.a _ _,.b (flats [World.enc x,ti e]) false,.a _ _,.b (flats [World.enc x,ti e]) false] ⟨bK,o_a hC,o_a hF,o_w ⟨(by omega),⟨(by omega),(by (simp [room,appendMax];omega))⟩⟩,o_a hL,t_brp (by assumption),t_brp (by assumption),o_w (by intro h;cases h),o_a q1,bK,o_a q2,bK,trivial⟩ ?_
 refine gg [.a _ _,.tt,.tt,.tt,.a _ _,.tt,.tt,.tt,.tt,.tt] ⟨o_a ha,o_a s,trivial⟩ ?_
 refine rT (a:=qz qj [vb (e==e)] []) ?_
 simp
theorem Aja (c:Config) (l:List InputL) (gone en k e:Int) (x:World) (ha:Fn cx 51 [] (.bool true)) (h1:30<k) (h2: ¬k≤10000)
  (q1:Is cx (.call 49 [.t c.enc,.t (.sl 1 (l.map encI)),vi gone,vi en,vi k] []) ⟨.ret,[.t x.enc,vi e],[]⟩)
  (q2:Is cx (.call 50 [.t c.enc,.t (.sl 1 (l.map encI)),vi gone,vi en,vi k] []) ⟨.ret,[.t x.enc,vi e],[]⟩)
  (s:Fn cx 36 [x.enc,x.enc] (.bool true)):Fn cx 12 [c.enc,.sl 1 (l.map encI),ti gone,ti en,ti k,.bool true] (.bool true):=by
 refine qq ?_
 refine gg [.b (!true) false,.b (decide (k>30)) true,.tt,.tt,.b (decide (k≤10000)) false,.a _ _,.a _ _,.a _ _,.tt,.tt,.tt,.a _ _,.tt,.tt,.tt,.tt] ⟨bK,t_brp (by assumption),f_brp (by assumption),o_a q1,o_a q2,o_a ha,o_a s,trivial⟩ ?_
 refine gg [.tt] trivial ?_
 refine rT (a:=qz qj [vb (e==e)] []) ?_
 simp
theorem AhW (c g:Config) (l rows:List InputL) (gone en k e:Int) (n:Nat) (x:World) (ha:Fn cx 51 [] (.bool true)) (hC:Fn cx 16 [c.enc] g.enc) (hc:g.players=(n:Int)) (hn:1≤n∧n≤100) (hlen:(padI rows n rows.length).length=n)
  (hF:Is cx (.call 22 [.t (Config.enc ⟨0,0,20,0,0⟩),.t (.sl 1 (l.map encI)),vi g.players] []) ⟨.ret,[.all 0 none],[.arr 1 (rows.map encI) none false]⟩)
  (hL:Is cx (.loop 12 [0,1,0,1,1,1,0,1,0,1] 0 [vi gone,vi en,vi k,.ptr 0 0 0,.all 1 none,.all 2 none,vi ((0:Nat))] [.one 5 (.t g.enc) false,.arr 1 (rows.map encI) none false,.arr 1 (zj g.players.toNat (qk 3 [])) (some 0) false])
   ⟨.exit 0,[vi gone,vi en,vi k,.ptr 0 0 0,.all 1 none,.all 2 none,vi (rows.length)],[.one 5 (.t g.enc) false,.arr 1 (rows.map encI) none false,.arr 1 ((padI rows n (rows.length)).map encI) (some 0) false]⟩) (h1:30<k) (h2: ¬k≤10000)
  (q1:Is cx (.call 49 [.t g.enc,.t (.sl 1 ((padI rows n rows.length).map encI)),vi gone,vi en,vi k] []) ⟨.ret,[.t x.enc,vi e],[]⟩)
  (q2:Is cx (.call 50 [.t g.enc,.t (.sl 1 ((padI rows n rows.length).map encI)),vi gone,vi en,vi k] []) ⟨.ret,[.t x.enc,vi e],[]⟩)
  (s:Fn cx 36 [x.enc,x.enc] (.bool true)):Fn cx 12 [c.enc,.sl 1 (l.map encI),ti gone,ti en,ti k,.bool false] (.bool true):=by
 generalize padI rows n rows.length=Y at*
 refine qq ?_
 refine gg [.b (!false) true,.a _ _,.a _ _,.w (0≤g.players∧g.players≤g.players∧room (zy g.players) (24:Nat)),.l (zy g.players),.a _ _,.b (decide (k>30)) true,.tt,.tt,.b (decide (k≤10000)) false,.a _ _,.b (flats [World.enc x,ti e]) false,.a _ _,.b (flats [World.enc x,ti e]) false,.a _ _,.tt] ⟨bK,o_a hC,o_a hF,o_w ⟨(by omega),⟨(by omega),(by (simp [room,appendMax];omega))⟩⟩,o_a hL,t_brp (by assumption),f_brp (by assumption),o_a q1,bK,o_a q2,bK,o_a ha,trivial⟩ ?_
 refine gg [.tt,.tt,.a _ _,.tt,.tt,.tt,.tt,.tt] ⟨o_a s,trivial⟩ ?_
 refine rT (a:=qz qj [vb (e==e)] []) ?_
 simp
theorem AiO (c:Config) (l:List InputL) (gone en k e:Int) (x:World) (ha:Fn cx 51 [] (.bool true)) (h1: ¬30<k)
  (q1:Is cx (.call 49 [.t c.enc,.t (.sl 1 (l.map encI)),vi gone,vi en,vi k] []) ⟨.ret,[.t x.enc,vi e],[]⟩)
  (q2:Is cx (.call 50 [.t c.enc,.t (.sl 1 (l.map encI)),vi gone,vi en,vi k] []) ⟨.ret,[.t x.enc,vi e],[]⟩)
  (s:Fn cx 36 [x.enc,x.enc] (.bool true)):Fn cx 12 [c.enc,.sl 1 (l.map encI),ti gone,ti en,ti k,.bool true] (.bool true):=by
 refine qq ?_
 refine gg [.b (!true) false,.b (decide (k>30)) false,.ff,.ff,.ff,.a _ _,.a _ _,.a _ _,.tt,.tt,.tt,.a _ _,.tt,.tt,.tt,.tt] ⟨bK,f_brp (by assumption),o_a q1,o_a q2,o_a ha,o_a s,trivial⟩ ?_
 refine gg [.tt] trivial ?_
 refine rT (a:=qz qj [vb (e==e)] []) ?_
 simp
theorem Aib (c g:Config) (l rows:List InputL) (gone en k e:Int) (n:Nat) (x:World) (ha:Fn cx 51 [] (.bool true)) (hC:Fn cx 16 [c.enc] g.enc) (hc:g.players=(n:Int)) (hn:1≤n∧n≤100) (hlen:(padI rows n rows.length).length=n)
  (hF:Is cx (.call 22 [.t (Config.enc ⟨0,0,20,0,0⟩),.t (.sl 1 (l.map encI)),vi g.players] []) ⟨.ret,[.all 0 none],[.arr 1 (rows.map encI) none false]⟩)
  (hL:Is cx (.loop 12 [0,1,0,1,1,1,0,1,0,1] 0 [vi gone,vi en,vi k,.ptr 0 0 0,.all 1 none,.all 2 none,vi ((0:Nat))] [.one 5 (.t g.enc) false,.arr 1 (rows.map encI) none false,.arr 1 (zj g.players.toNat (qk 3 [])) (some 0) false])
   ⟨.exit 0,[vi gone,vi en,vi k,.ptr 0 0 0,.all 1 none,.all 2 none,vi (rows.length)],[.one 5 (.t g.enc) false,.arr 1 (rows.map encI) none false,.arr 1 ((padI rows n (rows.length)).map encI) (some 0) false]⟩) (h1: ¬30<k)
  (q1:Is cx (.call 49 [.t g.enc,.t (.sl 1 ((padI rows n rows.length).map encI)),vi gone,vi en,vi k] []) ⟨.ret,[.t x.enc,vi e],[]⟩)
  (q2:Is cx (.call 50 [.t g.enc,.t (.sl 1 ((padI rows n rows.length).map encI)),vi gone,vi en,vi k] []) ⟨.ret,[.t x.enc,vi e],[]⟩)
  (s:Fn cx 36 [x.enc,x.enc] (.bool true)):Fn cx 12 [c.enc,.sl 1 (l.map encI),ti gone,ti en,ti k,.bool false] (.bool true):=by
 generalize padI rows n rows.length=Y at*
 refine qq ?_
 refine gg [.b (!false) true,.a _ _,.a _ _,.w (0≤g.players∧g.players≤g.players∧room (zy g.players) (24:Nat)),.l (zy g.players),.a _ _,.b (decide (k>30)) false,.ff,.ff,.ff,.a _ _,.b (flats [World.enc x,ti e]) false,.a _ _,.b (flats [World.enc x,ti e]) false,.a _ _,.tt] ⟨bK,o_a hC,o_a hF,o_w ⟨(by omega),⟨(by omega),(by (simp [room,appendMax];omega))⟩⟩,o_a hL,f_brp (by assumption),o_a q1,bK,o_a q2,bK,o_a ha,trivial⟩ ?_
 refine gg [.tt,.tt,.a _ _,.tt,.tt,.tt,.tt,.tt] ⟨o_a s,trivial⟩ ?_
 refine rT (a:=qz qj [vb (e==e)] []) ?_
 simp
theorem Adk (c:Config) (l:List InputL) (gone en k:Int) (raw:Bool) (hl:long l) (hr: ∀x∈l,long x):Fn cx 12 [c.enc,.sl 1 (l.map encI),ti gone,ti en,ti k,.bool raw] (.bool true):=by
 have ha:=Afz
 have hm:0≤k→0≤k.tmod 30∧k.tmod 30<30:=fun h=>AaB (by decide) h
 cases raw with
 |true=>
  by_cases h1:30<k
  ·by_cases h2:k≤10000
   ·obtain ⟨x,e,q1,q2,s⟩:=AaD c l gone en (k.tmod 30) hl (.inl (by have:=hm (by omega);omega))
    exact AiR c l gone en k e x ha h1 h2 q1 q2 s
   ·obtain ⟨x,e,q1,q2,s⟩:=AaD c l gone en k hl (.inr (by omega))
    exact Aja c l gone en k e x ha h1 h2 q1 q2 s
  ·obtain ⟨x,e,q1,q2,s⟩:=AaD c l gone en k hl (.inl (by omega))
   exact AiO c l gone en k e x ha h1 q1 q2 s
 |false=>
  obtain ⟨hrt,h1,h2,h3,h4⟩:= @Config.play_ok c
  have hC:=AfJ c
  generalize c.play=g at*
  obtain ⟨n,hc⟩: ∃n:Nat,g.players=n:=⟨g.players.toNat,by omega⟩
  have hF:=AfX ⟨0,0,20,0,0⟩ l n 20 rfl (by decide) hl (by omega) hr
  rw [←hc] at hF
  have hrl:= @AhV 20 l n
  generalize playFrames 20 l n=rows at*
  have hL:=AjJ g rows gone en k n hc (by omega) hrl rows.length 0 (by omega)
  have hlen:=AkN (rows:=rows) (n:=n) (i:=rows.length) (Nat.le_refl _) hrl
  have e0:(padI rows n 0).map encI=zj g.players.toNat (qk 3 []):=by
   rw [hc,Int.toNat_natCast]
   simp [padI]
   exact .inr rfl
  rw [e0] at hL
  have hpl:long (padI rows n rows.length):=by unfold long;omega
  by_cases h1:30<k
  ·by_cases h2:k≤10000
   ·obtain ⟨x,e,q1,q2,s⟩:=AaD g (padI rows n rows.length) gone en (k.tmod 30) hpl (.inl (by have:=hm (by omega);omega))
    exact Aia c g l rows gone en k e n x ha hC hc (by omega) hlen hF hL h1 h2 q1 q2 s
   ·obtain ⟨x,e,q1,q2,s⟩:=AaD g (padI rows n rows.length) gone en k hpl (.inr (by omega))
    exact AhW c g l rows gone en k e n x ha hC hc (by omega) hlen hF hL h1 h2 q1 q2 s
  ·obtain ⟨x,e,q1,q2,s⟩:=AaD g (padI rows n rows.length) gone en k hpl (.inl (by omega))
   exact Aib c g l rows gone en k e n x ha hC hc (by omega) hlen hF hL h1 q1 q2 s
end Go.Eva.S4
namespace Go.Eva.S4
open Go.Proofs
theorem cxTy:CxTy Tryz.prog cx:=Aon (by decide+kernel) (by decide+kernel) (⟨⟨Tryz.f179,by kernel_rfl,by decide+kernel,by kernel_rfl,by kernel_rfl,by kernel_rfl,by kernel_rfl,48,by kernel_rfl⟩,trivial⟩)
theorem ok12:FnOK Tryz.prog cx 12 fi12 Tryz.f12:=mkOk
theorem ok16:FnOK Tryz.prog cx 16 fi16 Tryz.f16:=mkOk
theorem ok17:FnOK Tryz.prog cx 17 fi17 Tryz.f17:=mkOk
theorem ok19:FnOK Tryz.prog cx 19 fi19 Tryz.f19:=mkOk
theorem ok22:FnOK Tryz.prog cx 22 fi22 Tryz.f22:=mkOk
theorem ok23:FnOK Tryz.prog cx 23 fi23 Tryz.f23:=mkOk
theorem ok24:FnOK Tryz.prog cx 24 fi24 Tryz.f24:=mkOk
theorem ok25:FnOK Tryz.prog cx 25 fi25 Tryz.f25:=mkOk
theorem ok26:FnOK Tryz.prog cx 26 fi26 Tryz.f26:=mkOk
theorem ok27:FnOK Tryz.prog cx 27 fi27 Tryz.f27:=mkOk
theorem ok28:FnOK Tryz.prog cx 28 fi28 Tryz.f28:=mkOk
theorem ok29:FnOK Tryz.prog cx 29 fi29 Tryz.f29:=mkOk
theorem ok30:FnOK Tryz.prog cx 30 fi30 Tryz.f30:=mkOk
theorem ok34:FnOK Tryz.prog cx 34 fi34 Tryz.f34:=mkOk
theorem ok35:FnOK Tryz.prog cx 35 fi35 Tryz.f35:=mkOk
theorem ok36:FnOK Tryz.prog cx 36 fi36 Tryz.f36:=mkOk
theorem ok37:FnOK Tryz.prog cx 37 fi37 Tryz.f37:=mkOk
theorem ok38:FnOK Tryz.prog cx 38 fi38 Tryz.f38:=mkOk
theorem ok39:FnOK Tryz.prog cx 39 fi39 Tryz.f39:=mkOk
theorem ok40:FnOK Tryz.prog cx 40 fi40 Tryz.f40:=mkOk
theorem ok41:FnOK Tryz.prog cx 41 fi41 Tryz.f41:=mkOk
theorem ok42:FnOK Tryz.prog cx 42 fi42 Tryz.f42:=mkOk
theorem ok43:FnOK Tryz.prog cx 43 fi43 Tryz.f43:=mkOk
theorem ok45:FnOK Tryz.prog cx 45 fi45 Tryz.f45:=mkOk
theorem ok48:FnOK Tryz.prog cx 48 fi48 Tryz.f48:=mkOk
theorem ok49:FnOK Tryz.prog cx 49 fi49 Tryz.f49:=mkOk
theorem ok50:FnOK Tryz.prog cx 50 fi50 Tryz.f50:=mkOk
theorem ok51:FnOK Tryz.prog cx 51 fi51 Tryz.f51:=mkOk
theorem ok52:FnOK Tryz.prog cx 52 fi52 Tryz.f52:=mkOk
theorem ok53:FnOK Tryz.prog cx 53 fi53 Tryz.f53:=mkOk
theorem ok54:FnOK Tryz.prog cx 54 fi54 Tryz.f54:=mkOk
theorem ok55:FnOK Tryz.prog cx 55 fi55 Tryz.f55:=mkOk
theorem ok56:FnOK Tryz.prog cx 56 fi56 Tryz.f56:=mkOk
theorem ok57:FnOK Tryz.prog cx 57 fi57 Tryz.f57:=mkOk
theorem ok58:FnOK Tryz.prog cx 58 fi58 Tryz.f58:=mkOk
theorem ok59:FnOK Tryz.prog cx 59 fi59 Tryz.f59:=mkOk
theorem ok60:FnOK Tryz.prog cx 60 fi60 Tryz.f60:=mkOk
theorem ok61:FnOK Tryz.prog cx 61 fi61 Tryz.f61:=mkOk
theorem ok62:FnOK Tryz.prog cx 62 fi62 Tryz.f62:=mkOk
theorem ok63:FnOK Tryz.prog cx 63 fi63 Tryz.f63:=mkOk
theorem ok64:FnOK Tryz.prog cx 64 fi64 Tryz.f64:=mkOk
theorem ok65:FnOK Tryz.prog cx 65 fi65 Tryz.f65:=mkOk
theorem ok66:FnOK Tryz.prog cx 66 fi66 Tryz.f66:=mkOk
theorem ok67:FnOK Tryz.prog cx 67 fi67 Tryz.f67:=mkOk
theorem ok68:FnOK Tryz.prog cx 68 fi68 Tryz.f68:=mkOk
theorem ok69:FnOK Tryz.prog cx 69 fi69 Tryz.f69:=mkOk
theorem ok70:FnOK Tryz.prog cx 70 fi70 Tryz.f70:=mkOk
theorem ok71:FnOK Tryz.prog cx 71 fi71 Tryz.f71:=mkOk
theorem ok72:FnOK Tryz.prog cx 72 fi72 Tryz.f72:=mkOk
theorem ok73:FnOK Tryz.prog cx 73 fi73 Tryz.f73:=mkOk
theorem ok74:FnOK Tryz.prog cx 74 fi74 Tryz.f74:=mkOk
theorem ok75:FnOK Tryz.prog cx 75 fi75 Tryz.f75:=mkOk
theorem ok76:FnOK Tryz.prog cx 76 fi76 Tryz.f76:=mkOk
theorem ok77:FnOK Tryz.prog cx 77 fi77 Tryz.f77:=mkOk
theorem ok78:FnOK Tryz.prog cx 78 fi78 Tryz.f78:=mkOk
theorem ok79:FnOK Tryz.prog cx 79 fi79 Tryz.f79:=mkOk
theorem ok80:FnOK Tryz.prog cx 80 fi80 Tryz.f80:=mkOk
theorem ok81:FnOK Tryz.prog cx 81 fi81 Tryz.f81:=mkOk
theorem ok82:FnOK Tryz.prog cx 82 fi82 Tryz.f82:=mkOk
theorem ok83:FnOK Tryz.prog cx 83 fi83 Tryz.f83:=mkOk
theorem ok84:FnOK Tryz.prog cx 84 fi84 Tryz.f84:=mkOk
theorem ok85:FnOK Tryz.prog cx 85 fi85 Tryz.f85:=mkOk
theorem ok86:FnOK Tryz.prog cx 86 fi86 Tryz.f86:=mkOk
theorem ok89:FnOK Tryz.prog cx 89 fi89 Tryz.f89:=mkOk
theorem ok90:FnOK Tryz.prog cx 90 fi90 Tryz.f90:=mkOk
theorem ok91:FnOK Tryz.prog cx 91 fi91 Tryz.f91:=mkOk
theorem ok92:FnOK Tryz.prog cx 92 fi92 Tryz.f92:=mkOk
theorem ok93:FnOK Tryz.prog cx 93 fi93 Tryz.f93:=mkOk
theorem ok94:FnOK Tryz.prog cx 94 fi94 Tryz.f94:=mkOk
theorem ok95:FnOK Tryz.prog cx 95 fi95 Tryz.f95:=mkOk
theorem ok96:FnOK Tryz.prog cx 96 fi96 Tryz.f96:=mkOk
theorem ok97:FnOK Tryz.prog cx 97 fi97 Tryz.f97:=mkOk
theorem ok98:FnOK Tryz.prog cx 98 fi98 Tryz.f98:=mkOk
theorem ok99:FnOK Tryz.prog cx 99 fi99 Tryz.f99:=mkOk
theorem ok100:FnOK Tryz.prog cx 100 fi100 Tryz.f100:=mkOk
theorem ok101:FnOK Tryz.prog cx 101 fi101 Tryz.f101:=mkOk
theorem ok102:FnOK Tryz.prog cx 102 fi102 Tryz.f102:=mkOk
theorem ok103:FnOK Tryz.prog cx 103 fi103 Tryz.f103:=mkOk
theorem ok104:FnOK Tryz.prog cx 104 fi104 Tryz.f104:=mkOk
theorem ok105:FnOK Tryz.prog cx 105 fi105 Tryz.f105:=mkOk
theorem ok106:FnOK Tryz.prog cx 106 fi106 Tryz.f106:=mkOk
theorem ok107:FnOK Tryz.prog cx 107 fi107 Tryz.f107:=mkOk
theorem ok108:FnOK Tryz.prog cx 108 fi108 Tryz.f108:=mkOk
theorem ok109:FnOK Tryz.prog cx 109 fi109 Tryz.f109:=mkOk
theorem ok110:FnOK Tryz.prog cx 110 fi110 Tryz.f110:=mkOk
theorem ok111:FnOK Tryz.prog cx 111 fi111 Tryz.f111:=mkOk
theorem ok112:FnOK Tryz.prog cx 112 fi112 Tryz.f112:=mkOk
theorem ok113:FnOK Tryz.prog cx 113 fi113 Tryz.f113:=mkOk
theorem ok114:FnOK Tryz.prog cx 114 fi114 Tryz.f114:=mkOk
theorem ok115:FnOK Tryz.prog cx 115 fi115 Tryz.f115:=mkOk
theorem ok116:FnOK Tryz.prog cx 116 fi116 Tryz.f116:=mkOk
theorem ok117:FnOK Tryz.prog cx 117 fi117 Tryz.f117:=mkOk
theorem ok118:FnOK Tryz.prog cx 118 fi118 Tryz.f118:=mkOk
theorem ok119:FnOK Tryz.prog cx 119 fi119 Tryz.f119:=mkOk
theorem ok120:FnOK Tryz.prog cx 120 fi120 Tryz.f120:=mkOk
theorem ok121:FnOK Tryz.prog cx 121 fi121 Tryz.f121:=mkOk
theorem ok122:FnOK Tryz.prog cx 122 fi122 Tryz.f122:=mkOk
theorem ok123:FnOK Tryz.prog cx 123 fi123 Tryz.f123:=mkOk
theorem ok124:FnOK Tryz.prog cx 124 fi124 Tryz.f124:=mkOk
theorem ok125:FnOK Tryz.prog cx 125 fi125 Tryz.f125:=mkOk
theorem ok126:FnOK Tryz.prog cx 126 fi126 Tryz.f126:=mkOk
theorem ok127:FnOK Tryz.prog cx 127 fi127 Tryz.f127:=mkOk
theorem ok128:FnOK Tryz.prog cx 128 fi128 Tryz.f128:=mkOk
theorem ok129:FnOK Tryz.prog cx 129 fi129 Tryz.f129:=mkOk
theorem ok130:FnOK Tryz.prog cx 130 fi130 Tryz.f130:=mkOk
theorem ok131:FnOK Tryz.prog cx 131 fi131 Tryz.f131:=mkOk
theorem ok132:FnOK Tryz.prog cx 132 fi132 Tryz.f132:=mkOk
theorem ok133:FnOK Tryz.prog cx 133 fi133 Tryz.f133:=mkOk
theorem ok134:FnOK Tryz.prog cx 134 fi134 Tryz.f134:=mkOk
theorem ok135:FnOK Tryz.prog cx 135 fi135 Tryz.f135:=mkOk
theorem ok136:FnOK Tryz.prog cx 136 fi136 Tryz.f136:=mkOk
theorem ok137:FnOK Tryz.prog cx 137 fi137 Tryz.f137:=mkOk
theorem ok138:FnOK Tryz.prog cx 138 fi138 Tryz.f138:=mkOk
theorem ok139:FnOK Tryz.prog cx 139 fi139 Tryz.f139:=mkOk
theorem ok140:FnOK Tryz.prog cx 140 fi140 Tryz.f140:=mkOk
theorem ok141:FnOK Tryz.prog cx 141 fi141 Tryz.f141:=mkOk
theorem ok142:FnOK Tryz.prog cx 142 fi142 Tryz.f142:=mkOk
theorem ok143:FnOK Tryz.prog cx 143 fi143 Tryz.f143:=mkOk
theorem ok144:FnOK Tryz.prog cx 144 fi144 Tryz.f144:=mkOk
theorem ok145:FnOK Tryz.prog cx 145 fi145 Tryz.f145:=mkOk
theorem ok146:FnOK Tryz.prog cx 146 fi146 Tryz.f146:=mkOk
theorem ok147:FnOK Tryz.prog cx 147 fi147 Tryz.f147:=mkOk
theorem ok148:FnOK Tryz.prog cx 148 fi148 Tryz.f148:=mkOk
theorem ok149:FnOK Tryz.prog cx 149 fi149 Tryz.f149:=mkOk
theorem ok150:FnOK Tryz.prog cx 150 fi150 Tryz.f150:=mkOk
theorem ok151:FnOK Tryz.prog cx 151 fi151 Tryz.f151:=mkOk
theorem ok152:FnOK Tryz.prog cx 152 fi152 Tryz.f152:=mkOk
theorem ok154:FnOK Tryz.prog cx 154 fi154 Tryz.f154:=mkOk
theorem ok155:FnOK Tryz.prog cx 155 fi155 Tryz.f155:=mkOk
theorem ok156:FnOK Tryz.prog cx 156 fi156 Tryz.f156:=mkOk
theorem ok157:FnOK Tryz.prog cx 157 fi157 Tryz.f157:=mkOk
theorem ok158:FnOK Tryz.prog cx 158 fi158 Tryz.f158:=mkOk
theorem ok159:FnOK Tryz.prog cx 159 fi159 Tryz.f159:=mkOk
theorem ok160:FnOK Tryz.prog cx 160 fi160 Tryz.f160:=mkOk
theorem ok161:FnOK Tryz.prog cx 161 fi161 Tryz.f161:=mkOk
theorem ok162:FnOK Tryz.prog cx 162 fi162 Tryz.f162:=mkOk
theorem ok163:FnOK Tryz.prog cx 163 fi163 Tryz.f163:=mkOk
theorem ok164:FnOK Tryz.prog cx 164 fi164 Tryz.f164:=mkOk
theorem ok165:FnOK Tryz.prog cx 165 fi165 Tryz.f165:=mkOk
theorem ok166:FnOK Tryz.prog cx 166 fi166 Tryz.f166:=mkOk
theorem ok167:FnOK Tryz.prog cx 167 fi167 Tryz.f167:=mkOk
theorem ok168:FnOK Tryz.prog cx 168 fi168 Tryz.f168:=mkOk
theorem ok169:FnOK Tryz.prog cx 169 fi169 Tryz.f169:=mkOk
theorem ok170:FnOK Tryz.prog cx 170 fi170 Tryz.f170:=mkOk
theorem ok171:FnOK Tryz.prog cx 171 fi171 Tryz.f171:=mkOk
theorem ok172:FnOK Tryz.prog cx 172 fi172 Tryz.f172:=mkOk
theorem ok173:FnOK Tryz.prog cx 173 fi173 Tryz.f173:=mkOk
theorem ok174:FnOK Tryz.prog cx 174 fi174 Tryz.f174:=mkOk
theorem ok175:FnOK Tryz.prog cx 175 fi175 Tryz.f175:=mkOk
theorem ok176:FnOK Tryz.prog cx 176 fi176 Tryz.f176:=mkOk
theorem ok177:FnOK Tryz.prog cx 177 fi177 Tryz.f177:=mkOk
theorem ok178:FnOK Tryz.prog cx 178 fi178 Tryz.f178:=mkOk
theorem ok180:FnOK Tryz.prog cx 180 fi180 Tryz.f180:=mkOk
theorem ok183:FnOK Tryz.prog cx 183 fi183 Tryz.f183:=mkOk
theorem ok184:FnOK Tryz.prog cx 184 fi184 Tryz.f184:=mkOk
theorem ok185:FnOK Tryz.prog cx 185 fi185 Tryz.f185:=mkOk
theorem ok186:FnOK Tryz.prog cx 186 fi186 Tryz.f186:=mkOk
theorem ok187:FnOK Tryz.prog cx 187 fi187 Tryz.f187:=mkOk
theorem ok188:FnOK Tryz.prog cx 188 fi188 Tryz.f188:=mkOk
theorem ok189:FnOK Tryz.prog cx 189 fi189 Tryz.f189:=mkOk
theorem ok190:FnOK Tryz.prog cx 190 fi190 Tryz.f190:=mkOk
theorem ok191:FnOK Tryz.prog cx 191 fi191 Tryz.f191:=mkOk
theorem ok192:FnOK Tryz.prog cx 192 fi192 Tryz.f192:=mkOk
theorem ok194:FnOK Tryz.prog cx 194 fi194 Tryz.f194:=mkOk
theorem ok195:FnOK Tryz.prog cx 195 fi195 Tryz.f195:=mkOk
theorem ok197:FnOK Tryz.prog cx 197 fi197 Tryz.f197:=mkOk
theorem fnsOK:FnsOK Tryz.prog cx:=AnI (⟨Aag _,⟨Aag _,⟨Aag _,⟨Aag _,⟨Aag _,⟨Aag _,⟨Aab ok63,⟨Aab ok127,trivial,trivial⟩,⟨Aab ok191,trivial,trivial⟩⟩,⟨Aab ok95,⟨Aab ok159,trivial,trivial⟩,trivial⟩⟩,⟨Aag _,⟨Aab ok79,⟨Aab ok143,trivial,trivial⟩,⟨Aag _,trivial,trivial⟩⟩,⟨Aab ok111,⟨Aab ok175,trivial,trivial⟩,trivial⟩⟩⟩,⟨Aab ok23,⟨Aab ok39,⟨Aab ok71,⟨Aab ok135,trivial,trivial⟩,⟨Aag _,trivial,trivial⟩⟩,⟨Aab ok103,⟨Aab ok167,trivial,trivial⟩,trivial⟩⟩,⟨Aab ok55,⟨Aag _,⟨Aab ok151,trivial,trivial⟩,trivial⟩,⟨Aab ok119,⟨Aab ok183,trivial,trivial⟩,trivial⟩⟩⟩⟩,⟨Aag _,⟨Aab ok19,⟨Aab ok35,⟨Aab ok67,⟨Aab ok131,trivial,trivial⟩,⟨Aab ok195,trivial,trivial⟩⟩,⟨Aab ok99,⟨Aab ok163,trivial,trivial⟩,trivial⟩⟩,⟨Aab ok51,⟨Aab ok83,⟨Aab ok147,trivial,trivial⟩,⟨Aag _,trivial,trivial⟩⟩,⟨Aab ok115,⟨Aag _,trivial,trivial⟩,trivial⟩⟩⟩,⟨Aab ok27,⟨Aab ok43,⟨Aab ok75,⟨Aab ok139,trivial,trivial⟩,⟨Aag _,trivial,trivial⟩⟩,⟨Aab ok107,⟨Aab ok171,trivial,trivial⟩,trivial⟩⟩,⟨Aab ok59,⟨Aab ok91,⟨Aab ok155,trivial,trivial⟩,trivial⟩,⟨Aab ok123,⟨Aab ok187,trivial,trivial⟩,trivial⟩⟩⟩⟩⟩,⟨Aag _,⟨Aag _,⟨Aab ok17,⟨Aag _,⟨Aab ok65,⟨Aab ok129,trivial,trivial⟩,⟨Aag _,trivial,trivial⟩⟩,⟨Aab ok97,⟨Aab ok161,trivial,trivial⟩,trivial⟩⟩,⟨Aab ok49,⟨Aab ok81,⟨Aab ok145,trivial,trivial⟩,⟨Aag _,trivial,trivial⟩⟩,⟨Aab ok113,⟨Aab ok177,trivial,trivial⟩,trivial⟩⟩⟩,⟨Aab ok25,⟨Aab ok41,⟨Aab ok73,⟨Aab ok137,trivial,trivial⟩,⟨Aag _,trivial,trivial⟩⟩,⟨Aab ok105,⟨Aab ok169,trivial,trivial⟩,trivial⟩⟩,⟨Aab ok57,⟨Aab ok89,⟨Aag _,trivial,trivial⟩,trivial⟩,⟨Aab ok121,⟨Aab ok185,trivial,trivial⟩,trivial⟩⟩⟩⟩,⟨Aag _,⟨Aag _,⟨Aab ok37,⟨Aab ok69,⟨Aab ok133,trivial,trivial⟩,⟨Aab ok197,trivial,trivial⟩⟩,⟨Aab ok101,⟨Aab ok165,trivial,trivial⟩,trivial⟩⟩,⟨Aab ok53,⟨Aab ok85,⟨Aab ok149,trivial,trivial⟩,⟨Aag _,trivial,trivial⟩⟩,⟨Aab ok117,⟨Aag _,trivial,trivial⟩,trivial⟩⟩⟩,⟨Aab ok29,⟨Aab ok45,⟨Aab ok77,⟨Aab ok141,trivial,trivial⟩,⟨Aag _,trivial,trivial⟩⟩,⟨Aab ok109,⟨Aab ok173,trivial,trivial⟩,trivial⟩⟩,⟨Aab ok61,⟨Aab ok93,⟨Aab ok157,trivial,trivial⟩,trivial⟩,⟨Aab ok125,⟨Aab ok189,trivial,trivial⟩,trivial⟩⟩⟩⟩⟩⟩,⟨Aag _,⟨Aag _,⟨Aag _,⟨Aab ok16,⟨Aag _,⟨Aab ok64,⟨Aab ok128,trivial,trivial⟩,⟨Aab ok192,trivial,trivial⟩⟩,⟨Aab ok96,⟨Aab ok160,trivial,trivial⟩,trivial⟩⟩,⟨Aab ok48,⟨Aab ok80,⟨Aab ok144,trivial,trivial⟩,⟨Aag _,trivial,trivial⟩⟩,⟨Aab ok112,⟨Aab ok176,trivial,trivial⟩,trivial⟩⟩⟩,⟨Aab ok24,⟨Aab ok40,⟨Aab ok72,⟨Aab ok136,trivial,trivial⟩,⟨Aag _,trivial,trivial⟩⟩,⟨Aab ok104,⟨Aab ok168,trivial,trivial⟩,trivial⟩⟩,⟨Aab ok56,⟨Aag _,⟨Aab ok152,trivial,trivial⟩,trivial⟩,⟨Aab ok120,⟨Aab ok184,trivial,trivial⟩,trivial⟩⟩⟩⟩,⟨Aab ok12,⟨Aag _,⟨Aab ok36,⟨Aab ok68,⟨Aab ok132,trivial,trivial⟩,⟨Aag _,trivial,trivial⟩⟩,⟨Aab ok100,⟨Aab ok164,trivial,trivial⟩,trivial⟩⟩,⟨Aab ok52,⟨Aab ok84,⟨Aab ok148,trivial,trivial⟩,⟨Aag _,trivial,trivial⟩⟩,⟨Aab ok116,⟨Aab ok180,trivial,trivial⟩,trivial⟩⟩⟩,⟨Aab ok28,⟨Aag _,⟨Aab ok76,⟨Aab ok140,trivial,trivial⟩,⟨Aag _,trivial,trivial⟩⟩,⟨Aab ok108,⟨Aab ok172,trivial,trivial⟩,trivial⟩⟩,⟨Aab ok60,⟨Aab ok92,⟨Aab ok156,trivial,trivial⟩,trivial⟩,⟨Aab ok124,⟨Aab ok188,trivial,trivial⟩,trivial⟩⟩⟩⟩⟩,⟨Aag _,⟨Aag _,⟨Aag _,⟨Aab ok34,⟨Aab ok66,⟨Aab ok130,trivial,trivial⟩,⟨Aab ok194,trivial,trivial⟩⟩,⟨Aab ok98,⟨Aab ok162,trivial,trivial⟩,trivial⟩⟩,⟨Aab ok50,⟨Aab ok82,⟨Aab ok146,trivial,trivial⟩,⟨Aag _,trivial,trivial⟩⟩,⟨Aab ok114,⟨Aab ok178,trivial,trivial⟩,trivial⟩⟩⟩,⟨Aab ok26,⟨Aab ok42,⟨Aab ok74,⟨Aab ok138,trivial,trivial⟩,⟨Aag _,trivial,trivial⟩⟩,⟨Aab ok106,⟨Aab ok170,trivial,trivial⟩,trivial⟩⟩,⟨Aab ok58,⟨Aab ok90,⟨Aab ok154,trivial,trivial⟩,trivial⟩,⟨Aab ok122,⟨Aab ok186,trivial,trivial⟩,trivial⟩⟩⟩⟩,⟨Aag _,⟨Aab ok22,⟨Aab ok38,⟨Aab ok70,⟨Aab ok134,trivial,trivial⟩,⟨Aag _,trivial,trivial⟩⟩,⟨Aab ok102,⟨Aab ok166,trivial,trivial⟩,trivial⟩⟩,⟨Aab ok54,⟨Aab ok86,⟨Aab ok150,trivial,trivial⟩,trivial⟩,⟨Aab ok118,⟨Aag _,trivial,trivial⟩,trivial⟩⟩⟩,⟨Aab ok30,⟨Aag _,⟨Aab ok78,⟨Aab ok142,trivial,trivial⟩,⟨Aag _,trivial,trivial⟩⟩,⟨Aab ok110,⟨Aab ok174,trivial,trivial⟩,trivial⟩⟩,⟨Aab ok62,⟨Aab ok94,⟨Aab ok158,trivial,trivial⟩,trivial⟩,⟨Aab ok126,⟨Aab ok190,trivial,trivial⟩,trivial⟩⟩⟩⟩⟩⟩⟩)
end Go.Eva.S4
namespace Go.Eva
section
variable {cx:Cx} {t m:Nat} {ts:List T} {i:TI}
theorem Akv (hti:cx.ti.get t=some i) (hk:i.ty= .int .i64) (h:Conf cx m t ts): ∃n,ts= [ti n]∧i64 n:=by
 cases m with
 |zero=>exact h.elim
 |succ m=>
  simp only [Conf,hti,hk] at h
  obtain ⟨n,rfl,hw⟩:=h
  refine ⟨n,rfl,?_⟩
  simp [Lit.wf,IntKind.min,IntKind.max,IntKind.signed,IntKind.bits] at hw
  exact ⟨by omega,by omega⟩
theorem Anj (hti:cx.ti.get t=some i) (hk:i.ty= .int .u64) (h:Conf cx m t ts): ∃n,ts= [.int .u64 n]∧0≤n∧n≤18446744073709551615:=by
 cases m with
 |zero=>exact h.elim
 |succ m=>
  simp only [Conf,hti,hk] at h
  obtain ⟨n,rfl,hw⟩:=h
  refine ⟨n,rfl,?_⟩
  simp [Lit.wf,IntKind.min,IntKind.max,IntKind.signed,IntKind.bits] at hw
  exact ⟨by omega,by omega⟩
theorem Aj7 (hti:cx.ti.get t=some i) (hk:i.ty= .bool) (h:Conf cx m t ts): ∃b,ts= [.bool b]:=by
 cases m with
 |zero=>exact h.elim
 |succ m=>simpa only [Conf,hti,hk] using h
theorem Ahw {fs:List (Nat×Nat)} (hti:cx.ti.get t=some i) (hk:i.ty= .struct fs) (h:Conf cx (m+1) t ts):ts.length=i.size∧ ∀p∈fs,Conf cx m p.2 ((ts.drop p.1).take (sizeOf cx p.2)):=by
 simpa only [Conf,hti,hk] using h
theorem Al0 {e:Nat} (hti:cx.ti.get t=some i) (hk:i.ty= .slice e) (h:Conf cx (m+1) t ts):
  ∃xs,ts= [.sl (sizeOf cx e) xs]∧xs.length≤maxLen∧xs.length*bytesOf cx e≤reachBytes∧ ∀x∈xs,x≠ .any∧(isStruct cx e=true→ ∃l,x= .agg l)∧(isStruct cx e=false→x.cells= [x])∧Conf cx m e x.cells:=by
 simpa only [Conf,hti,hk] using h
theorem Ag2 {j k:Nat} {fs:List (Nat×Nat)} (hi:cx.ti.get k=some i) (hk:i.ty= .int .i64) (hs:sizeOf cx k=1) (h: ∀p∈fs,Conf cx m p.2 ((ts.drop p.1).take (sizeOf cx p.2))) (hp:(j,k)∈fs): ∃n,ts[j]?=some (ti n)∧i64 n:=by
 have:=h _ hp
 simp only [hs] at this
 obtain ⟨n,h1,h2⟩:=Akv hi hk this
 refine ⟨n,?_,h2⟩
 have h3:=congrArg (fun l=>l[0]?) h1
 simpa [List.getElem?_take,List.getElem?_drop] using h3
theorem AmP {α:Type} {f:α→T} {P:α→Prop}: ∀ {xs:List T},(∀x∈xs,∃e,x=f e∧P e)→ ∃l:List α,xs=l.map f∧ ∀e∈l,P e
 | [],_=>⟨[],rfl,by simp⟩
 |x::xs,h=>by
  obtain ⟨e,rfl,he⟩:=h x (List.mem_cons_self ..)
  obtain ⟨l,rfl,hl⟩:=AmP fun y hy=>h y (List.mem_cons_of_mem _ hy)
  exact ⟨e::l,rfl,fun y hy=>by
   rcases List.mem_cons.1 hy with rfl|hy
   ·exact he
   ·exact hl y hy⟩
def Entity.ok (e:Entity):Prop:=i64 e.id∧i64 e.kind∧i64 e.x∧i64 e.y∧i64 e.vx∧i64 e.vy∧i64 e.health∧i64 e.age∧i64 e.owner
def Input.ok (e:Input):Prop:=i64 e.dx∧i64 e.dy
def Cross.ok (c:Cross):Prop:=i64 c.kind∧i64 c.frm∧i64 c.to∧i64 c.frame∧c.ent.ok∧i64 c.x∧i64 c.y
theorem Akl {k u:Nat} {j v:TI} (hk:cx.ti.get k=some j) (hkt:j.ty= .int .i64) (hs:sizeOf cx k=1) (hu:cx.ti.get u=some v) (hut:v.ty= .int .u64) (hus:sizeOf cx u=1) (hti:cx.ti.get t=some i)
  (hty:i.ty= .struct [(0,k),(1,k),(2,k),(3,k),(4,u)]) (hsz:i.size=5) (h:Conf cx (m+1) t ts): ∃c:Config,ts=c.enc.cells∧c.ok:=by
 obtain ⟨h1,h2⟩:=Ahw hti hty h
 rw [hsz] at h1
 obtain ⟨n0,a0,b0⟩:=Ag2 (j:=0) hk hkt hs h2 (by simp)
 obtain ⟨n1,a1,b1⟩:=Ag2 (j:=1) hk hkt hs h2 (by simp)
 obtain ⟨n2,a2,b2⟩:=Ag2 (j:=2) hk hkt hs h2 (by simp)
 obtain ⟨n3,a3,b3⟩:=Ag2 (j:=3) hk hkt hs h2 (by simp)
 have h4:=h2 (4,u) (by simp)
 simp only [hus] at h4
 obtain ⟨n4,a4,b4⟩:=Anj hu hut h4
 refine ⟨⟨n0,n1,n2,n3,n4⟩,?_,b0,b1,b2,b3,b4⟩
 match ts,h1 with
 | [_,_,_,_,_],_=>simp_all [Config.enc,T.cells]
theorem Al9 {k u:Nat} {j v:TI} (hk:cx.ti.get k=some j) (hkt:j.ty= .int .i64) (hs:sizeOf cx k=1) (hu:cx.ti.get u=some v) (hut:v.ty= .bool) (hus:sizeOf cx u=1) (hti:cx.ti.get t=some i)
  (hty:i.ty= .struct [(0,k),(1,k),(2,u)]) (hsz:i.size=3) (h:Conf cx (m+1) t ts): ∃c:Input,ts=c.enc.cells∧c.ok:=by
 obtain ⟨h1,h2⟩:=Ahw hti hty h
 rw [hsz] at h1
 obtain ⟨n0,a0,b0⟩:=Ag2 (j:=0) hk hkt hs h2 (by simp)
 obtain ⟨n1,a1,b1⟩:=Ag2 (j:=1) hk hkt hs h2 (by simp)
 have h4:=h2 (2,u) (by simp)
 simp only [hus] at h4
 obtain ⟨n2,a2⟩:=Aj7 hu hut h4
 refine ⟨⟨n0,n1,n2⟩,?_,b0,b1⟩
 match ts,h1 with
 | [_,_,_],_=>simp_all [zr,T.cells]
theorem Ag3 (hti:cx.ti.get t=some i) (h: ∀fs,i.ty≠ .struct fs):isStruct cx t=false:=by
 unfold isStruct
 rw [hti]
 cases i with
 |mk ty s b q=>cases ty<;>simp_all
theorem Amx {fs:List (Nat×Nat)} (hti:cx.ti.get t=some i) (h:i.ty= .struct fs):isStruct cx t=true:=by
 unfold isStruct
 rw [hti]
 cases i with
 |mk ty s b q=>simp only at h;subst h;rfl
theorem Akr (hti:cx.ti.get t=some i) (hk:i.ty= .int .i64) {x:T} (h:Arg cx m t x): ∃n,x=ti n∧i64 n:=by
 obtain ⟨h1,h2,h3,h4⟩:=h
 obtain ⟨n,h5,h6⟩:=Akv hti hk h4
 rw [h3 (Ag3 hti (by rw [hk];simp))] at h5
 exact ⟨n,by simpa using h5,h6⟩
theorem AnD (hti:cx.ti.get t=some i) (hk:i.ty= .bool) {x:T} (h:Arg cx m t x): ∃b,x= .bool b:=by
 obtain ⟨h1,h2,h3,h4⟩:=h
 obtain ⟨n,h5⟩:=Aj7 hti hk h4
 rw [h3 (Ag3 hti (by rw [hk];simp))] at h5
 exact ⟨n,by simpa using h5⟩
theorem AnT {α:Type} {f:α→T} {P:α→Prop} {fs:List (Nat×Nat)} (hti:cx.ti.get t=some i) (hk:i.ty= .struct fs) (hf: ∀e,∃l,f e= .agg l) (hc: ∀ {ts},Conf cx m t ts→ ∃e,ts=(f e).cells∧P e) {x:T} (h:Arg cx m t x): ∃e,x=f e∧P e:=by
 obtain ⟨h1,h2,h3,h4⟩:=h
 obtain ⟨l,rfl⟩:=h2 (Amx hti hk)
 obtain ⟨e,h5,h6⟩:=hc h4
 obtain ⟨l',hl⟩:=hf e
 rw [hl] at h5
 simp only [T.cells] at h5
 exact ⟨e,by rw [hl,h5],h6⟩
theorem Aj9 {α:Type} {f:α→T} {P:α→Prop} {e s:Nat} (hti:cx.ti.get t=some i) (hk:i.ty= .slice e) (hs:sizeOf cx e=s) (hc: ∀ {x},Arg cx m e x→ ∃a,x=f a∧P a) {x:T} (h:Arg cx (m+1) t x):
  ∃l:List α,x= .sl s (l.map f)∧(∀a∈l,P a)∧l.length≤maxLen∧l.length*bytesOf cx e≤reachBytes:=by
 obtain ⟨h1,h2,h3,h4⟩:=h
 obtain ⟨xs,h5,h6,h7,h8⟩:=Al0 hti hk h4
 rw [h3 (Ag3 hti (by rw [hk];simp))] at h5
 obtain ⟨l,rfl,hl⟩:=AmP (f:=f) (P:=P) fun x hx=>hc (h8 x hx)
 refine ⟨l,?_,hl,by simpa using h6,by simpa using h7⟩
 rw [←hs]
 simpa using h5
end
end Go.Eva