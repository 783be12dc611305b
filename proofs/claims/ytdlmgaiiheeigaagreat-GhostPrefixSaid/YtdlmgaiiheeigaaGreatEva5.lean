/- A reading of the program, proved sound against the model, and what its functions answer by it: part 5. -/
import Derived.Test.YtdlmgaiiheeigaaGreatEva4
set_option linter.unusedSimpArgs false
set_option linter.unusedVariables false
open List renaming length → zq, map → zz, replicate → zj, set → zx, take → zw, drop → zk
open Int renaming toNat → zy, tmod → zg, fdiv → zh
open Go.IntKind renaming i64 → zd, u64 → zf, wrap → zp
open BitVec renaming ofInt → zb
open Go.Eva.Entity renaming enc → zm, less → z8, right → z9, mk → qw
open Go.Eva.Cross renaming enc → zn, less → z7
open Go.Eva.Input renaming enc → zr
open Go.Eva.Region renaming enc → zt
open Go.Eva.Config renaming regions → z0, near → z6
open Go.Eva.Wp renaming ev → qq
open Go.Eva.Res renaming mk → qz
open Go.Eva.Ex renaming ret → qj, exit → qx
open Go.Eva.Ob renaming arr → qv, one → qg
open Go.Eva.T renaming sl → qk
open Go.Eva.V renaming all → qy
namespace Go.Eva.S4
theorem AeB (c:Config) (rows A B Q:List InputL) (gone en:Int) (fr p f:Nat) (hp:p≤100) (hn:rows.length≤100) (hfr:fr≤100) (hlt:f<rows.length) (hpl:p<(gt rows f).length) (a b q a2 b2 q2:InputL) (ha:a.length≤100) (hb:b.length≤100) (hq:q.length≤100) (h:(p:Int)≠gone) (h3:f<fr)
  (ih1:Is cx (.loop 13 [0,1,0,1,0,0,1,0,0,1,0,1,1,1,1,1,1] 0 [vi fr,vi gone,vi en,.ptr 0 0 0,.all 1 none,.all 2 none,.all 3 none,.all 4 none,vi p,.all 5 none,.all 6 none,.all 7 none,vi (f+1:Nat)] [.one 5 (.t c.enc) false,.arr 1 ((rows).map encI) none false,.arr 1 ((A).map encI) none false,.arr 1 ((B).map encI) none false,.arr 1 ((Q).map encI) none false,.arr 3 ((a++ [gt (gt rows f) p]).map zr) none false,.arr 3 ((b++ [gt (gt rows f) p]).map zr) none false,.arr 3 ((q++ [gt (gt rows f) p]).map zr) none false])
   ⟨.exit 2,[vi fr,vi gone,vi en,.ptr 0 0 0,.all 1 none,.all 2 none,.all 3 none,.all 4 none,vi p,.all 5 none,.all 6 none,.all 7 none,vi (rows.length)],[.one 5 (.t c.enc) false,.arr 1 ((rows).map encI) none false,.arr 1 ((A).map encI) none false,.arr 1 ((B).map encI) none false,.arr 1 ((Q).map encI) none false,.arr 3 ((a2).map zr) none false,.arr 3 ((b2).map zr) none false,.arr 3 ((q2).map zr) none false]⟩):Is cx (.loop 13 [0,1,0,1,0,0,1,0,0,1,0,1,1,1,1,1,1] 0 [vi fr,vi gone,vi en,.ptr 0 0 0,.all 1 none,.all 2 none,.all 3 none,.all 4 none,vi p,.all 5 none,.all 6 none,.all 7 none,vi (f)] [.one 5 (.t c.enc) false,.arr 1 ((rows).map encI) none false,.arr 1 ((A).map encI) none false,.arr 1 ((B).map encI) none false,.arr 1 ((Q).map encI) none false,.arr 3 ((a).map zr) none false,.arr 3 ((b).map zr) none false,.arr 3 ((q).map zr) none false])
   ⟨.exit 2,[vi fr,vi gone,vi en,.ptr 0 0 0,.all 1 none,.all 2 none,.all 3 none,.all 4 none,vi p,.all 5 none,.all 6 none,.all 7 none,vi (rows.length)],[.one 5 (.t c.enc) false,.arr 1 ((rows).map encI) none false,.arr 1 ((A).map encI) none false,.arr 1 ((B).map encI) none false,.arr 1 ((Q).map encI) none false,.arr 3 ((a2).map zr) none false,.arr 3 ((b2).map zr) none false,.arr 3 ((q2).map zr) none false]⟩:=by
 refine qq ?_
 refine gg [.n (zq (zz encI rows)) (zq rows),.b (decide ((f:Int)<(↑(zq rows):Int))) true,.w (0≤(f:Int)),.n (zy (f:Int)) f,.w (f<zq (zz encI rows)),.g (zz encI rows) f (encI (gt rows f)),.w (0≤(p:Int)),.n (zy (p:Int)) p,.g (zz zr (gt rows f)) p (zr (gt (gt rows f) p)),.w ((0:Nat)<(24:Nat)),.t (qk 0 [zr (gt (gt rows f) p)]) (qk 0 (zz zr [gt (gt rows f) p])),.t (qk 0 (zz zr a++zz zr [gt (gt rows f) p])) (qk 0 (zz zr (a++ [gt (gt rows f) p]))),.w (room (zq (zz zr (a++ [gt (gt rows f) p]))) (24:Nat)),.b (decide ((f:Int)<(fr:Int))) true,.w (0≤(f:Int)),.n (zy (f:Int)) f] ⟨o_n (by simp),tP,oW,nK,o_w (by (simp;omega)),o_gt rfl (by assumption) (by intro h;cases h),oW,nK,o_gt rfl (by assumption) (by intro h;cases h),oW,o_l (Aae rfl Aah),o_l (Aag rfl rfl),o_w (by (simp [room,appendMax];omega)),tP,oW,nK,trivial⟩ ?_
 refine gg [.w (f<zq (zz encI rows)),.g (zz encI rows) f (encI (gt rows f)),.w (0≤(p:Int)),.n (zy (p:Int)) p,.g (zz zr (gt rows f)) p (zr (gt (gt rows f) p)),.w ((0:Nat)<(24:Nat)),.t (qk 0 [zr (gt (gt rows f) p)]) (qk 0 (zz zr [gt (gt rows f) p])),.t (qk 0 (zz zr b++zz zr [gt (gt rows f) p])) (qk 0 (zz zr (b++ [gt (gt rows f) p]))),.w (room (zq (zz zr (b++ [gt (gt rows f) p]))) (24:Nat)),.w (0≤(f:Int)),.n (zy (f:Int)) f,.w (f<zq (zz encI rows)),.g (zz encI rows) f (encI (gt rows f)),.w (0≤(p:Int)),.n (zy (p:Int)) p,.g (zz zr (gt rows f)) p (zr (gt (gt rows f) p))] ⟨o_w (by (simp;omega)),o_gt rfl (by assumption) (by intro h;cases h),oW,nK,o_gt rfl (by assumption) (by intro h;cases h),oW,o_l (Aae rfl Aah),o_l (Aag rfl rfl),o_w (by (simp [room,appendMax];omega)),oW,nK,o_w (by (simp;omega)),o_gt rfl (by assumption) (by intro h;cases h),oW,nK,o_gt rfl (by assumption) (by intro h;cases h),trivial⟩ ?_
 refine gg [.b ((p:Int)==gone) false,.ff,.ff,.ff,.ff,.w ((0:Nat)<(24:Nat)),.t (qk 0 [zr (gt (gt rows f) p)]) (qk 0 (zz zr [gt (gt rows f) p])),.t (qk 0 (zz zr q++zz zr [gt (gt rows f) p])) (qk 0 (zz zr (q++ [gt (gt rows f) p]))),.w (room (zq (zz zr (q++ [gt (gt rows f) p]))) (24:Nat)),.i zd ((f:Int)+1) ((↑(f+1):Int)),.a _ _] ⟨f_bre (by assumption),oW,o_l (Aae rfl Aah),o_l (Aag rfl rfl),o_w (by (simp [room,appendMax];omega)),oI,o_a ih1,trivial⟩ ?_
 exact ge
theorem Aex (c:Config) (rows A B Q:List InputL) (gone en:Int) (fr p f:Nat) (hp:p≤100) (hn:rows.length≤100) (hfr:fr≤100) (hlt:f<rows.length) (hpl:p<(gt rows f).length) (a b q a2 b2 q2:InputL) (ha:a.length≤100) (hb:b.length≤100) (hq:q.length≤100) (h:(p:Int)≠gone) (h3: ¬f<fr)
  (ih1:Is cx (.loop 13 [0,1,0,1,0,0,1,0,0,1,0,1,1,1,1,1,1] 0 [vi fr,vi gone,vi en,.ptr 0 0 0,.all 1 none,.all 2 none,.all 3 none,.all 4 none,vi p,.all 5 none,.all 6 none,.all 7 none,vi (f+1:Nat)] [.one 5 (.t c.enc) false,.arr 1 ((rows).map encI) none false,.arr 1 ((A).map encI) none false,.arr 1 ((B).map encI) none false,.arr 1 ((Q).map encI) none false,.arr 3 ((a++ [gt (gt rows f) p]).map zr) none false,.arr 3 ((b).map zr) none false,.arr 3 ((q++ [gt (gt rows f) p]).map zr) none false])
   ⟨.exit 2,[vi fr,vi gone,vi en,.ptr 0 0 0,.all 1 none,.all 2 none,.all 3 none,.all 4 none,vi p,.all 5 none,.all 6 none,.all 7 none,vi (rows.length)],[.one 5 (.t c.enc) false,.arr 1 ((rows).map encI) none false,.arr 1 ((A).map encI) none false,.arr 1 ((B).map encI) none false,.arr 1 ((Q).map encI) none false,.arr 3 ((a2).map zr) none false,.arr 3 ((b2).map zr) none false,.arr 3 ((q2).map zr) none false]⟩):Is cx (.loop 13 [0,1,0,1,0,0,1,0,0,1,0,1,1,1,1,1,1] 0 [vi fr,vi gone,vi en,.ptr 0 0 0,.all 1 none,.all 2 none,.all 3 none,.all 4 none,vi p,.all 5 none,.all 6 none,.all 7 none,vi (f)] [.one 5 (.t c.enc) false,.arr 1 ((rows).map encI) none false,.arr 1 ((A).map encI) none false,.arr 1 ((B).map encI) none false,.arr 1 ((Q).map encI) none false,.arr 3 ((a).map zr) none false,.arr 3 ((b).map zr) none false,.arr 3 ((q).map zr) none false])
   ⟨.exit 2,[vi fr,vi gone,vi en,.ptr 0 0 0,.all 1 none,.all 2 none,.all 3 none,.all 4 none,vi p,.all 5 none,.all 6 none,.all 7 none,vi (rows.length)],[.one 5 (.t c.enc) false,.arr 1 ((rows).map encI) none false,.arr 1 ((A).map encI) none false,.arr 1 ((B).map encI) none false,.arr 1 ((Q).map encI) none false,.arr 3 ((a2).map zr) none false,.arr 3 ((b2).map zr) none false,.arr 3 ((q2).map zr) none false]⟩:=by
 refine qq ?_
 refine gg [.n (zq (zz encI rows)) (zq rows),.b (decide ((f:Int)<(↑(zq rows):Int))) true,.w (0≤(f:Int)),.n (zy (f:Int)) f,.w (f<zq (zz encI rows)),.g (zz encI rows) f (encI (gt rows f)),.w (0≤(p:Int)),.n (zy (p:Int)) p,.g (zz zr (gt rows f)) p (zr (gt (gt rows f) p)),.w ((0:Nat)<(24:Nat)),.t (qk 0 [zr (gt (gt rows f) p)]) (qk 0 (zz zr [gt (gt rows f) p])),.t (qk 0 (zz zr a++zz zr [gt (gt rows f) p])) (qk 0 (zz zr (a++ [gt (gt rows f) p]))),.w (room (zq (zz zr (a++ [gt (gt rows f) p]))) (24:Nat)),.b (decide ((f:Int)<(fr:Int))) false,.w (0≤(f:Int)),.n (zy (f:Int)) f] ⟨o_n (by simp),tP,oW,nK,o_w (by (simp;omega)),o_gt rfl (by assumption) (by intro h;cases h),oW,nK,o_gt rfl (by assumption) (by intro h;cases h),oW,o_l (Aae rfl Aah),o_l (Aag rfl rfl),o_w (by (simp [room,appendMax];omega)),fP,oW,nK,trivial⟩ ?_
 refine gg [.w (f<zq (zz encI rows)),.g (zz encI rows) f (encI (gt rows f)),.w (0≤(p:Int)),.n (zy (p:Int)) p,.g (zz zr (gt rows f)) p (zr (gt (gt rows f) p)),.b ((p:Int)==gone) false,.ff,.ff,.ff,.ff,.w ((0:Nat)<(24:Nat)),.t (qk 0 [zr (gt (gt rows f) p)]) (qk 0 (zz zr [gt (gt rows f) p])),.t (qk 0 (zz zr q++zz zr [gt (gt rows f) p])) (qk 0 (zz zr (q++ [gt (gt rows f) p]))),.w (room (zq (zz zr (q++ [gt (gt rows f) p]))) (24:Nat)),.i zd ((f:Int)+1) ((↑(f+1):Int)),.a _ _] ⟨o_w (by (simp;omega)),o_gt rfl (by assumption) (by intro h;cases h),oW,nK,o_gt rfl (by assumption) (by intro h;cases h),f_bre (by assumption),oW,o_l (Aae rfl Aah),o_l (Aag rfl rfl),o_w (by (simp [room,appendMax];omega)),oI,o_a ih1,trivial⟩ ?_
 exact ge
theorem Ae5 (c:Config) (rows A B Q:List InputL) (gone en:Int) (fr p f:Nat) (hp:p≤100) (hn:rows.length≤100) (hfr:fr≤100) (hlt:f<rows.length) (hpl:p<(gt rows f).length) (a b q a2 b2 q2:InputL) (ha:a.length≤100) (hb:b.length≤100) (hq:q.length≤100) (h:(p:Int)=gone) (h2:(f:Int)<en) (h3:f<fr)
  (ih1:Is cx (.loop 13 [0,1,0,1,0,0,1,0,0,1,0,1,1,1,1,1,1] 0 [vi fr,vi gone,vi en,.ptr 0 0 0,.all 1 none,.all 2 none,.all 3 none,.all 4 none,vi p,.all 5 none,.all 6 none,.all 7 none,vi (f+1:Nat)] [.one 5 (.t c.enc) false,.arr 1 ((rows).map encI) none false,.arr 1 ((A).map encI) none false,.arr 1 ((B).map encI) none false,.arr 1 ((Q).map encI) none false,.arr 3 ((a++ [gt (gt rows f) p]).map zr) none false,.arr 3 ((b++ [gt (gt rows f) p]).map zr) none false,.arr 3 ((q++ [gt (gt rows f) p]).map zr) none false])
   ⟨.exit 2,[vi fr,vi gone,vi en,.ptr 0 0 0,.all 1 none,.all 2 none,.all 3 none,.all 4 none,vi p,.all 5 none,.all 6 none,.all 7 none,vi (rows.length)],[.one 5 (.t c.enc) false,.arr 1 ((rows).map encI) none false,.arr 1 ((A).map encI) none false,.arr 1 ((B).map encI) none false,.arr 1 ((Q).map encI) none false,.arr 3 ((a2).map zr) none false,.arr 3 ((b2).map zr) none false,.arr 3 ((q2).map zr) none false]⟩):Is cx (.loop 13 [0,1,0,1,0,0,1,0,0,1,0,1,1,1,1,1,1] 0 [vi fr,vi gone,vi en,.ptr 0 0 0,.all 1 none,.all 2 none,.all 3 none,.all 4 none,vi p,.all 5 none,.all 6 none,.all 7 none,vi (f)] [.one 5 (.t c.enc) false,.arr 1 ((rows).map encI) none false,.arr 1 ((A).map encI) none false,.arr 1 ((B).map encI) none false,.arr 1 ((Q).map encI) none false,.arr 3 ((a).map zr) none false,.arr 3 ((b).map zr) none false,.arr 3 ((q).map zr) none false])
   ⟨.exit 2,[vi fr,vi gone,vi en,.ptr 0 0 0,.all 1 none,.all 2 none,.all 3 none,.all 4 none,vi p,.all 5 none,.all 6 none,.all 7 none,vi (rows.length)],[.one 5 (.t c.enc) false,.arr 1 ((rows).map encI) none false,.arr 1 ((A).map encI) none false,.arr 1 ((B).map encI) none false,.arr 1 ((Q).map encI) none false,.arr 3 ((a2).map zr) none false,.arr 3 ((b2).map zr) none false,.arr 3 ((q2).map zr) none false]⟩:=by
 refine qq ?_
 refine gg [.n (zq (zz encI rows)) (zq rows),.b (decide ((f:Int)<(↑(zq rows):Int))) true,.w (0≤(f:Int)),.n (zy (f:Int)) f,.w (f<zq (zz encI rows)),.g (zz encI rows) f (encI (gt rows f)),.w (0≤(p:Int)),.n (zy (p:Int)) p,.g (zz zr (gt rows f)) p (zr (gt (gt rows f) p)),.w ((0:Nat)<(24:Nat)),.t (qk 0 [zr (gt (gt rows f) p)]) (qk 0 (zz zr [gt (gt rows f) p])),.t (qk 0 (zz zr a++zz zr [gt (gt rows f) p])) (qk 0 (zz zr (a++ [gt (gt rows f) p]))),.w (room (zq (zz zr (a++ [gt (gt rows f) p]))) (24:Nat)),.b (decide ((f:Int)<(fr:Int))) true,.w (0≤(f:Int)),.n (zy (f:Int)) f] ⟨o_n (by simp),tP,oW,nK,o_w (by (simp;omega)),o_gt rfl (by assumption) (by intro h;cases h),oW,nK,o_gt rfl (by assumption) (by intro h;cases h),oW,o_l (Aae rfl Aah),o_l (Aag rfl rfl),o_w (by (simp [room,appendMax];omega)),tP,oW,nK,trivial⟩ ?_
 refine gg [.w (f<zq (zz encI rows)),.g (zz encI rows) f (encI (gt rows f)),.w (0≤(p:Int)),.n (zy (p:Int)) p,.g (zz zr (gt rows f)) p (zr (gt (gt rows f) p)),.w ((0:Nat)<(24:Nat)),.t (qk 0 [zr (gt (gt rows f) p)]) (qk 0 (zz zr [gt (gt rows f) p])),.t (qk 0 (zz zr b++zz zr [gt (gt rows f) p])) (qk 0 (zz zr (b++ [gt (gt rows f) p]))),.w (room (zq (zz zr (b++ [gt (gt rows f) p]))) (24:Nat)),.w (0≤(f:Int)),.n (zy (f:Int)) f,.w (f<zq (zz encI rows)),.g (zz encI rows) f (encI (gt rows f)),.w (0≤(p:Int)),.n (zy (p:Int)) p,.g (zz zr (gt rows f)) p (zr (gt (gt rows f) p))] ⟨o_w (by (simp;omega)),o_gt rfl (by assumption) (by intro h;cases h),oW,nK,o_gt rfl (by assumption) (by intro h;cases h),oW,o_l (Aae rfl Aah),o_l (Aag rfl rfl),o_w (by (simp [room,appendMax];omega)),oW,nK,o_w (by (simp;omega)),o_gt rfl (by assumption) (by intro h;cases h),oW,nK,o_gt rfl (by assumption) (by intro h;cases h),trivial⟩ ?_
 refine gg [.b ((p:Int)==gone) true,.tt,.tt,.tt,.b (decide ((f:Int)≥en)) false,.w ((0:Nat)<(24:Nat)),.t (qk 0 [zr (gt (gt rows f) p)]) (qk 0 (zz zr [gt (gt rows f) p])),.t (qk 0 (zz zr q++zz zr [gt (gt rows f) p])) (qk 0 (zz zr (q++ [gt (gt rows f) p]))),.w (room (zq (zz zr (q++ [gt (gt rows f) p]))) (24:Nat)),.i zd ((f:Int)+1) ((↑(f+1):Int)),.a _ _] ⟨t_bre (by assumption),fP,oW,o_l (Aae rfl Aah),o_l (Aag rfl rfl),o_w (by (simp [room,appendMax];omega)),oI,o_a ih1,trivial⟩ ?_
 exact ge
theorem Ae8 (c:Config) (rows A B Q:List InputL) (gone en:Int) (fr p f:Nat) (hp:p≤100) (hn:rows.length≤100) (hfr:fr≤100) (hlt:f<rows.length) (hpl:p<(gt rows f).length) (a b q a2 b2 q2:InputL) (ha:a.length≤100) (hb:b.length≤100) (hq:q.length≤100) (h:(p:Int)=gone) (h2:(f:Int)<en) (h3: ¬f<fr)
  (ih1:Is cx (.loop 13 [0,1,0,1,0,0,1,0,0,1,0,1,1,1,1,1,1] 0 [vi fr,vi gone,vi en,.ptr 0 0 0,.all 1 none,.all 2 none,.all 3 none,.all 4 none,vi p,.all 5 none,.all 6 none,.all 7 none,vi (f+1:Nat)] [.one 5 (.t c.enc) false,.arr 1 ((rows).map encI) none false,.arr 1 ((A).map encI) none false,.arr 1 ((B).map encI) none false,.arr 1 ((Q).map encI) none false,.arr 3 ((a++ [gt (gt rows f) p]).map zr) none false,.arr 3 ((b).map zr) none false,.arr 3 ((q++ [gt (gt rows f) p]).map zr) none false])
   ⟨.exit 2,[vi fr,vi gone,vi en,.ptr 0 0 0,.all 1 none,.all 2 none,.all 3 none,.all 4 none,vi p,.all 5 none,.all 6 none,.all 7 none,vi (rows.length)],[.one 5 (.t c.enc) false,.arr 1 ((rows).map encI) none false,.arr 1 ((A).map encI) none false,.arr 1 ((B).map encI) none false,.arr 1 ((Q).map encI) none false,.arr 3 ((a2).map zr) none false,.arr 3 ((b2).map zr) none false,.arr 3 ((q2).map zr) none false]⟩):Is cx (.loop 13 [0,1,0,1,0,0,1,0,0,1,0,1,1,1,1,1,1] 0 [vi fr,vi gone,vi en,.ptr 0 0 0,.all 1 none,.all 2 none,.all 3 none,.all 4 none,vi p,.all 5 none,.all 6 none,.all 7 none,vi (f)] [.one 5 (.t c.enc) false,.arr 1 ((rows).map encI) none false,.arr 1 ((A).map encI) none false,.arr 1 ((B).map encI) none false,.arr 1 ((Q).map encI) none false,.arr 3 ((a).map zr) none false,.arr 3 ((b).map zr) none false,.arr 3 ((q).map zr) none false])
   ⟨.exit 2,[vi fr,vi gone,vi en,.ptr 0 0 0,.all 1 none,.all 2 none,.all 3 none,.all 4 none,vi p,.all 5 none,.all 6 none,.all 7 none,vi (rows.length)],[.one 5 (.t c.enc) false,.arr 1 ((rows).map encI) none false,.arr 1 ((A).map encI) none false,.arr 1 ((B).map encI) none false,.arr 1 ((Q).map encI) none false,.arr 3 ((a2).map zr) none false,.arr 3 ((b2).map zr) none false,.arr 3 ((q2).map zr) none false]⟩:=by
 refine qq ?_
 refine gg [.n (zq (zz encI rows)) (zq rows),.b (decide ((f:Int)<(↑(zq rows):Int))) true,.w (0≤(f:Int)),.n (zy (f:Int)) f,.w (f<zq (zz encI rows)),.g (zz encI rows) f (encI (gt rows f)),.w (0≤(p:Int)),.n (zy (p:Int)) p,.g (zz zr (gt rows f)) p (zr (gt (gt rows f) p)),.w ((0:Nat)<(24:Nat)),.t (qk 0 [zr (gt (gt rows f) p)]) (qk 0 (zz zr [gt (gt rows f) p])),.t (qk 0 (zz zr a++zz zr [gt (gt rows f) p])) (qk 0 (zz zr (a++ [gt (gt rows f) p]))),.w (room (zq (zz zr (a++ [gt (gt rows f) p]))) (24:Nat)),.b (decide ((f:Int)<(fr:Int))) false,.w (0≤(f:Int)),.n (zy (f:Int)) f] ⟨o_n (by simp),tP,oW,nK,o_w (by (simp;omega)),o_gt rfl (by assumption) (by intro h;cases h),oW,nK,o_gt rfl (by assumption) (by intro h;cases h),oW,o_l (Aae rfl Aah),o_l (Aag rfl rfl),o_w (by (simp [room,appendMax];omega)),fP,oW,nK,trivial⟩ ?_
 refine gg [.w (f<zq (zz encI rows)),.g (zz encI rows) f (encI (gt rows f)),.w (0≤(p:Int)),.n (zy (p:Int)) p,.g (zz zr (gt rows f)) p (zr (gt (gt rows f) p)),.b ((p:Int)==gone) true,.tt,.tt,.tt,.b (decide ((f:Int)≥en)) false,.w ((0:Nat)<(24:Nat)),.t (qk 0 [zr (gt (gt rows f) p)]) (qk 0 (zz zr [gt (gt rows f) p])),.t (qk 0 (zz zr q++zz zr [gt (gt rows f) p])) (qk 0 (zz zr (q++ [gt (gt rows f) p]))),.w (room (zq (zz zr (q++ [gt (gt rows f) p]))) (24:Nat)),.i zd ((f:Int)+1) ((↑(f+1):Int)),.a _ _] ⟨o_w (by (simp;omega)),o_gt rfl (by assumption) (by intro h;cases h),oW,nK,o_gt rfl (by assumption) (by intro h;cases h),t_bre (by assumption),fP,oW,o_l (Aae rfl Aah),o_l (Aag rfl rfl),o_w (by (simp [room,appendMax];omega)),oI,o_a ih1,trivial⟩ ?_
 exact ge
theorem Aep (c:Config) (rows A B Q:List InputL) (gone en:Int) (fr p f:Nat) (hp:p≤100) (hn:rows.length≤100) (hfr:fr≤100) (hlt:f<rows.length) (hpl:p<(gt rows f).length) (a b q a2 b2 q2:InputL) (ha:a.length≤100) (hb:b.length≤100) (hq:q.length≤100) (h:(p:Int)=gone) (h2:en≤(f:Int)) (h3:f<fr)
  (ih1:Is cx (.loop 13 [0,1,0,1,0,0,1,0,0,1,0,1,1,1,1,1,1] 0 [vi fr,vi gone,vi en,.ptr 0 0 0,.all 1 none,.all 2 none,.all 3 none,.all 4 none,vi p,.all 5 none,.all 6 none,.all 7 none,vi (f+1:Nat)] [.one 5 (.t c.enc) false,.arr 1 ((rows).map encI) none false,.arr 1 ((A).map encI) none false,.arr 1 ((B).map encI) none false,.arr 1 ((Q).map encI) none false,.arr 3 ((a++ [gt (gt rows f) p]).map zr) none false,.arr 3 ((b++ [gt (gt rows f) p]).map zr) none false,.arr 3 ((q++ [Input.zero]).map zr) none false])
   ⟨.exit 2,[vi fr,vi gone,vi en,.ptr 0 0 0,.all 1 none,.all 2 none,.all 3 none,.all 4 none,vi p,.all 5 none,.all 6 none,.all 7 none,vi (rows.length)],[.one 5 (.t c.enc) false,.arr 1 ((rows).map encI) none false,.arr 1 ((A).map encI) none false,.arr 1 ((B).map encI) none false,.arr 1 ((Q).map encI) none false,.arr 3 ((a2).map zr) none false,.arr 3 ((b2).map zr) none false,.arr 3 ((q2).map zr) none false]⟩):Is cx (.loop 13 [0,1,0,1,0,0,1,0,0,1,0,1,1,1,1,1,1] 0 [vi fr,vi gone,vi en,.ptr 0 0 0,.all 1 none,.all 2 none,.all 3 none,.all 4 none,vi p,.all 5 none,.all 6 none,.all 7 none,vi (f)] [.one 5 (.t c.enc) false,.arr 1 ((rows).map encI) none false,.arr 1 ((A).map encI) none false,.arr 1 ((B).map encI) none false,.arr 1 ((Q).map encI) none false,.arr 3 ((a).map zr) none false,.arr 3 ((b).map zr) none false,.arr 3 ((q).map zr) none false])
   ⟨.exit 2,[vi fr,vi gone,vi en,.ptr 0 0 0,.all 1 none,.all 2 none,.all 3 none,.all 4 none,vi p,.all 5 none,.all 6 none,.all 7 none,vi (rows.length)],[.one 5 (.t c.enc) false,.arr 1 ((rows).map encI) none false,.arr 1 ((A).map encI) none false,.arr 1 ((B).map encI) none false,.arr 1 ((Q).map encI) none false,.arr 3 ((a2).map zr) none false,.arr 3 ((b2).map zr) none false,.arr 3 ((q2).map zr) none false]⟩:=by
 refine qq ?_
 refine gg [.n (zq (zz encI rows)) (zq rows),.b (decide ((f:Int)<(↑(zq rows):Int))) true,.w (0≤(f:Int)),.n (zy (f:Int)) f,.w (f<zq (zz encI rows)),.g (zz encI rows) f (encI (gt rows f)),.w (0≤(p:Int)),.n (zy (p:Int)) p,.g (zz zr (gt rows f)) p (zr (gt (gt rows f) p)),.w ((0:Nat)<(24:Nat)),.t (qk 0 [zr (gt (gt rows f) p)]) (qk 0 (zz zr [gt (gt rows f) p])),.t (qk 0 (zz zr a++zz zr [gt (gt rows f) p])) (qk 0 (zz zr (a++ [gt (gt rows f) p]))),.w (room (zq (zz zr (a++ [gt (gt rows f) p]))) (24:Nat)),.b (decide ((f:Int)<(fr:Int))) true,.w (0≤(f:Int)),.n (zy (f:Int)) f] ⟨o_n (by simp),tP,oW,nK,o_w (by (simp;omega)),o_gt rfl (by assumption) (by intro h;cases h),oW,nK,o_gt rfl (by assumption) (by intro h;cases h),oW,o_l (Aae rfl Aah),o_l (Aag rfl rfl),o_w (by (simp [room,appendMax];omega)),tP,oW,nK,trivial⟩ ?_
 refine gg [.w (f<zq (zz encI rows)),.g (zz encI rows) f (encI (gt rows f)),.w (0≤(p:Int)),.n (zy (p:Int)) p,.g (zz zr (gt rows f)) p (zr (gt (gt rows f) p)),.w ((0:Nat)<(24:Nat)),.t (qk 0 [zr (gt (gt rows f) p)]) (qk 0 (zz zr [gt (gt rows f) p])),.t (qk 0 (zz zr b++zz zr [gt (gt rows f) p])) (qk 0 (zz zr (b++ [gt (gt rows f) p]))),.w (room (zq (zz zr (b++ [gt (gt rows f) p]))) (24:Nat)),.w (0≤(f:Int)),.n (zy (f:Int)) f,.w (f<zq (zz encI rows)),.g (zz encI rows) f (encI (gt rows f)),.w (0≤(p:Int)),.n (zy (p:Int)) p,.g (zz zr (gt rows f)) p (zr (gt (gt rows f) p))] ⟨o_w (by (simp;omega)),o_gt rfl (by assumption) (by intro h;cases h),oW,nK,o_gt rfl (by assumption) (by intro h;cases h),oW,o_l (Aae rfl Aah),o_l (Aag rfl rfl),o_w (by (simp [room,appendMax];omega)),oW,nK,o_w (by (simp;omega)),o_gt rfl (by assumption) (by intro h;cases h),oW,nK,o_gt rfl (by assumption) (by intro h;cases h),trivial⟩ ?_
 refine gg [.b ((p:Int)==gone) true,.tt,.tt,.tt,.b (decide ((f:Int)≥en)) true,.w ((0:Nat)<(24:Nat)),.s (qk 0 [T.agg [ti 0,ti 0,T.bool false]]),.t (qk 0 (zz zr q++ [T.agg [ti 0,ti 0,T.bool false]])) (qk 0 (zz zr (q++ [Input.mk 0 0 false]))),.w (room (zq (zz zr (q++ [Input.mk (0:Int) (0:Int) false]))) (24:Nat)),.i zd ((f:Int)+1) ((↑(f+1):Int)),.a _ _] ⟨t_bre (by assumption),t_brp (by assumption),oW,o_l (Aag rfl (Aae (e:=Input.mk 0 0 false) rfl Aah)),o_w (by (simp [room,appendMax];omega)),oI,o_a ih1,trivial⟩ ?_
 exact ge
theorem Aer (c:Config) (rows A B Q:List InputL) (gone en:Int) (fr p f:Nat) (hp:p≤100) (hn:rows.length≤100) (hfr:fr≤100) (hlt:f<rows.length) (hpl:p<(gt rows f).length) (a b q a2 b2 q2:InputL) (ha:a.length≤100) (hb:b.length≤100) (hq:q.length≤100) (h:(p:Int)=gone) (h2:en≤(f:Int)) (h3: ¬f<fr)
  (ih1:Is cx (.loop 13 [0,1,0,1,0,0,1,0,0,1,0,1,1,1,1,1,1] 0 [vi fr,vi gone,vi en,.ptr 0 0 0,.all 1 none,.all 2 none,.all 3 none,.all 4 none,vi p,.all 5 none,.all 6 none,.all 7 none,vi (f+1:Nat)] [.one 5 (.t c.enc) false,.arr 1 ((rows).map encI) none false,.arr 1 ((A).map encI) none false,.arr 1 ((B).map encI) none false,.arr 1 ((Q).map encI) none false,.arr 3 ((a++ [gt (gt rows f) p]).map zr) none false,.arr 3 ((b).map zr) none false,.arr 3 ((q++ [Input.zero]).map zr) none false])
   ⟨.exit 2,[vi fr,vi gone,vi en,.ptr 0 0 0,.all 1 none,.all 2 none,.all 3 none,.all 4 none,vi p,.all 5 none,.all 6 none,.all 7 none,vi (rows.length)],[.one 5 (.t c.enc) false,.arr 1 ((rows).map encI) none false,.arr 1 ((A).map encI) none false,.arr 1 ((B).map encI) none false,.arr 1 ((Q).map encI) none false,.arr 3 ((a2).map zr) none false,.arr 3 ((b2).map zr) none false,.arr 3 ((q2).map zr) none false]⟩):Is cx (.loop 13 [0,1,0,1,0,0,1,0,0,1,0,1,1,1,1,1,1] 0 [vi fr,vi gone,vi en,.ptr 0 0 0,.all 1 none,.all 2 none,.all 3 none,.all 4 none,vi p,.all 5 none,.all 6 none,.all 7 none,vi (f)] [.one 5 (.t c.enc) false,.arr 1 ((rows).map encI) none false,.arr 1 ((A).map encI) none false,.arr 1 ((B).map encI) none false,.arr 1 ((Q).map encI) none false,.arr 3 ((a).map zr) none false,.arr 3 ((b).map zr) none false,.arr 3 ((q).map zr) none false])
   ⟨.exit 2,[vi fr,vi gone,vi en,.ptr 0 0 0,.all 1 none,.all 2 none,.all 3 none,.all 4 none,vi p,.all 5 none,.all 6 none,.all 7 none,vi (rows.length)],[.one 5 (.t c.enc) false,.arr 1 ((rows).map encI) none false,.arr 1 ((A).map encI) none false,.arr 1 ((B).map encI) none false,.arr 1 ((Q).map encI) none false,.arr 3 ((a2).map zr) none false,.arr 3 ((b2).map zr) none false,.arr 3 ((q2).map zr) none false]⟩:=by
 refine qq ?_
 refine gg [.n (zq (zz encI rows)) (zq rows),.b (decide ((f:Int)<(↑(zq rows):Int))) true,.w (0≤(f:Int)),.n (zy (f:Int)) f,.w (f<zq (zz encI rows)),.g (zz encI rows) f (encI (gt rows f)),.w (0≤(p:Int)),.n (zy (p:Int)) p,.g (zz zr (gt rows f)) p (zr (gt (gt rows f) p)),.w ((0:Nat)<(24:Nat)),.t (qk 0 [zr (gt (gt rows f) p)]) (qk 0 (zz zr [gt (gt rows f) p])),.t (qk 0 (zz zr a++zz zr [gt (gt rows f) p])) (qk 0 (zz zr (a++ [gt (gt rows f) p]))),.w (room (zq (zz zr (a++ [gt (gt rows f) p]))) (24:Nat)),.b (decide ((f:Int)<(fr:Int))) false,.w (0≤(f:Int)),.n (zy (f:Int)) f] ⟨o_n (by simp),tP,oW,nK,o_w (by (simp;omega)),o_gt rfl (by assumption) (by intro h;cases h),oW,nK,o_gt rfl (by assumption) (by intro h;cases h),oW,o_l (Aae rfl Aah),o_l (Aag rfl rfl),o_w (by (simp [room,appendMax];omega)),fP,oW,nK,trivial⟩ ?_
 refine gg [.w (f<zq (zz encI rows)),.g (zz encI rows) f (encI (gt rows f)),.w (0≤(p:Int)),.n (zy (p:Int)) p,.g (zz zr (gt rows f)) p (zr (gt (gt rows f) p)),.b ((p:Int)==gone) true,.tt,.tt,.tt,.b (decide ((f:Int)≥en)) true,.w ((0:Nat)<(24:Nat)),.s (qk 0 [T.agg [ti 0,ti 0,T.bool false]]),.t (qk 0 (zz zr q++ [T.agg [ti 0,ti 0,T.bool false]])) (qk 0 (zz zr (q++ [Input.mk 0 0 false]))),.w (room (zq (zz zr (q++ [Input.mk (0:Int) (0:Int) false]))) (24:Nat)),.i zd ((f:Int)+1) ((↑(f+1):Int)),.a _ _] ⟨o_w (by (simp;omega)),o_gt rfl (by assumption) (by intro h;cases h),oW,nK,o_gt rfl (by assumption) (by intro h;cases h),t_bre (by assumption),t_brp (by assumption),oW,o_l (Aag rfl (Aae (e:=Input.mk 0 0 false) rfl Aah)),o_w (by (simp [room,appendMax];omega)),oI,o_a ih1,trivial⟩ ?_
 exact ge
theorem Aet (c:Config) (rows A B Q:List InputL) (gone en:Int) (fr p:Nat) (hp:p≤100) (hn:rows.length≤100) (hfr:fr≤100) (hr: ∀r∈rows,p<r.length): ∀(d f:Nat) (a b q:InputL),f+d=rows.length→a.length≤f→b.length≤f→q.length≤f→
  Is cx (.loop 13 [0,1,0,1,0,0,1,0,0,1,0,1,1,1,1,1,1] 0 [vi fr,vi gone,vi en,.ptr 0 0 0,.all 1 none,.all 2 none,.all 3 none,.all 4 none,vi p,.all 5 none,.all 6 none,.all 7 none,vi (f)] [.one 5 (.t c.enc) false,.arr 1 ((rows).map encI) none false,.arr 1 ((A).map encI) none false,.arr 1 ((B).map encI) none false,.arr 1 ((Q).map encI) none false,.arr 3 ((a).map zr) none false,.arr 3 ((b).map zr) none false,.arr 3 ((q).map zr) none false])
   ⟨.exit 2,[vi fr,vi gone,vi en,.ptr 0 0 0,.all 1 none,.all 2 none,.all 3 none,.all 4 none,vi p,.all 5 none,.all 6 none,.all 7 none,vi (rows.length)],[.one 5 (.t c.enc) false,.arr 1 ((rows).map encI) none false,.arr 1 ((A).map encI) none false,.arr 1 ((B).map encI) none false,.arr 1 ((Q).map encI) none false,.arr 3 ((a++(rows.drop f).map fun r=>gt r p).map zr) none false,.arr 3 ((b++((rows.take fr).drop f).map fun r=>gt r p).map zr) none false,.arr 3 ((q++((List.range rows.length).drop f).map (quietAt rows gone en p)).map zr) none false]⟩:=by
 intro d
 induction d with
 |zero=>
  intro f a b q hf ha hb hq
  rw [Aac (l:=rows) (by omega),Aac (l:=rows.take fr) (by simp;omega),Aac (l:=List.range rows.length) (by simp;omega)]
  refine qq ?_
  refine gg [.n (zq (zz encI rows)) (zq rows),.b (decide ((f:Int)<(↑(zq rows):Int))) false] ⟨o_n (by simp),fP,trivial⟩ ?_
  refine rT (a:=qz (qx 2) [vi (fr:Int),vi gone,vi en,V.ptr 0 0 0,qy 1 none,qy 2 none,qy 3 none,qy 4 none,vi (p:Int),qy 5 none,qy 6 none,qy 7 none,vi (f:Int)] [qg 5 (V.t (Config.enc c)) false,qv 1 (zz encI rows) none false,qv 1 (zz encI A) none false,qv 1 (zz encI B) none false,qv 1 (zz encI Q) none false,qv 3 (zz zr a) none false,qv 3 (zz zr b) none false,qv 3 (zz zr q) none false]) ?_
  ((have:f=rows.length:=by omega);subst this;simp)
 |succ d ih=>
  intro f a b q hf ha hb hq
  have hlt:f<rows.length:=by omega
  have hpl:=hr _ (Aav hlt)
  have e1:rows.drop f=gt rows f::rows.drop (f+1):=Aaf hlt
  have e2:(List.range rows.length).drop f=f::(List.range rows.length).drop (f+1):=by
   have:=Aaf (l:=List.range rows.length) (i:=f) (by simpa using hlt)
   rw [this]
   congr 1
   simp [gt,hlt]
  rw [e1,e2,List.map_cons,List.map_cons,List.append_cons,List.append_cons q]
  have e3:b++((rows.take fr).drop f).map (fun r=>gt r p)=(if f<fr then b++ [gt (gt rows f) p] else b)++((rows.take fr).drop (f+1)).map (fun r=>gt r p):=by
   split
   ·rename_i h
    have hl2:f<(rows.take fr).length:=by simp;omega
    have hg:gt (rows.take fr) f=gt rows f:=by unfold gt;rw [List.getElem?_take,if_pos h]
    rw [Aaf hl2,hg]
    simp
   ·rw [Aac (l:=rows.take fr) (by simp;omega),Aac (l:=rows.take fr) (by simp;omega)]
  rw [e3]
  have ih1:=ih (f+1) (a++ [gt (gt rows f) p]) (if f<fr then b++ [gt (gt rows f) p] else b) (q++ [quietAt rows gone en p f]) (by omega) (by simp;omega) (by split<;>(try simp)<;>omega) (by simp;omega)
  by_cases h3:f<fr
  ·rw [if_pos h3] at ih1⊢
   by_cases h:(p:Int)=gone
   ·by_cases h2:en≤(f:Int)
    ·rw [show quietAt rows gone en p f=Input.zero by unfold quietAt;rw [if_pos ⟨h,h2⟩]] at ih1⊢
     exact Aep c rows A B Q gone en fr p f hp hn hfr hlt hpl a b q _ _ _ (by omega) (by omega) (by omega) h h2 h3 ih1
    ·rw [show quietAt rows gone en p f=gt (gt rows f) p by unfold quietAt;rw [if_neg (fun q=>h2 q.2)]] at ih1⊢
     exact Ae5 c rows A B Q gone en fr p f hp hn hfr hlt hpl a b q _ _ _ (by omega) (by omega) (by omega) h (by omega) h3 ih1
   ·rw [show quietAt rows gone en p f=gt (gt rows f) p by unfold quietAt;rw [if_neg (fun q=>h q.1)]] at ih1⊢
    exact AeB c rows A B Q gone en fr p f hp hn hfr hlt hpl a b q _ _ _ (by omega) (by omega) (by omega) h h3 ih1
  ·rw [if_neg h3] at ih1⊢
   by_cases h:(p:Int)=gone
   ·by_cases h2:en≤(f:Int)
    ·rw [show quietAt rows gone en p f=Input.zero by unfold quietAt;rw [if_pos ⟨h,h2⟩]] at ih1⊢
     exact Aer c rows A B Q gone en fr p f hp hn hfr hlt hpl a b q _ _ _ (by omega) (by omega) (by omega) h h2 h3 ih1
    ·rw [show quietAt rows gone en p f=gt (gt rows f) p by unfold quietAt;rw [if_neg (fun q=>h2 q.2)]] at ih1⊢
     exact Ae8 c rows A B Q gone en fr p f hp hn hfr hlt hpl a b q _ _ _ (by omega) (by omega) (by omega) h (by omega) h3 ih1
   ·rw [show quietAt rows gone en p f=gt (gt rows f) p by unfold quietAt;rw [if_neg (fun q=>h q.1)]] at ih1⊢
    exact Aex c rows A B Q gone en fr p f hp hn hfr hlt hpl a b q _ _ _ (by omega) (by omega) (by omega) h h3 ih1
theorem Ae0 (c:Config) (rows:List InputL) (gone en:Int) (fr n:Nat) (hc:c.players=(n:Int)) (h6:n≤6) (hn:rows.length≤100) (hfr:fr≤100) (hr: ∀r∈rows,r.length=n): ∀(d p:Nat) (A B Q:List InputL),p+d=n→A.length≤p→B.length≤p→Q.length≤p→
  Is cx (.loop 13 [0,1,0,1,1,1,1,1,1] 0 [vi fr,vi gone,vi en,.ptr 0 0 0,.all 1 none,.all 2 none,.all 3 none,.all 4 none,vi (p)] [.one 5 (.t c.enc) false,.arr 1 ((rows).map encI) none false,.arr 1 ((A).map encI) none false,.arr 1 ((B).map encI) none false,.arr 1 ((Q).map encI) none false])
   ⟨.exit 0,[vi fr,vi gone,vi en,.ptr 0 0 0,.all 1 none,.all 2 none,.all 3 none,.all 4 none,vi (n)],[.one 5 (.t c.enc) false,.arr 1 ((rows).map encI) none false,.arr 1 ((A++((List.range n).drop p).map (colI rows)).map encI) none false,.arr 1 ((B++((List.range n).drop p).map (colI (rows.take fr))).map encI) none false,.arr 1 ((Q++((List.range n).drop p).map (quietI rows gone en)).map encI) none false]⟩:=by
 intro d
 induction d with
 |zero=>
  intro p A B Q hp hA hB hQ
  rw [Aac (l:=List.range n) (by simp;omega)]
  refine qq ?_
  refine gg [.b (decide ((p:Int)<c.players)) false] ⟨fP,trivial⟩ ?_
  refine rT (a:=qz (qx 0) [vi (fr:Int),vi gone,vi en,V.ptr 0 0 0,qy 1 none,qy 2 none,qy 3 none,qy 4 none,vi (p:Int)] [qg 5 (V.t (Config.enc c)) false,qv 1 (zz encI rows) none false,qv 1 (zz encI A) none false,qv 1 (zz encI B) none false,qv 1 (zz encI Q) none false]) ?_
  ((have:p=n:=by omega);subst this;simp)
 |succ d ih=>
  intro p A B Q hp hA hB hQ
  have hlt:p<n:=by omega
  have hI:=Aet c rows A B Q gone en fr p (by omega) hn hfr (fun r hr'=>by rw [hr r hr'];exact hlt) rows.length 0 [] [] [] (by omega) (by simp) (by simp) (by simp)
  rw [List.drop_zero,List.drop_zero,List.drop_zero,List.nil_append,List.nil_append,List.nil_append] at hI
  change Is cx _ ⟨_,_,[_,_,_,_,_,.arr 3 ((colI rows p).map zr) _ _,.arr 3 ((colI (rows.take fr) p).map zr) _ _,.arr 3 ((quietI rows gone en p).map zr) _ _]⟩ at hI
  have ih1:=ih (p+1) (A++ [colI rows p]) (B++ [colI (rows.take fr) p]) (Q++ [quietI rows gone en p]) (by omega) (by simp;omega) (by simp;omega) (by simp;omega)
  have e2:(List.range n).drop p=p::(List.range n).drop (p+1):=by
   have:=Aaf (l:=List.range n) (i:=p) (by simpa using hlt)
   rw [this]
   congr 1
   simp [gt,hlt]
  rw [e2,List.map_cons,List.map_cons,List.map_cons,List.append_cons,List.append_cons B,List.append_cons Q]
  clear ih hr e2
  generalize ((List.range n).drop (p+1)).map (colI rows)=X1 at*
  generalize ((List.range n).drop (p+1)).map (colI (rows.take fr))=X2 at*
  generalize ((List.range n).drop (p+1)).map (quietI rows gone en)=X3 at*
  generalize colI rows p=x1 at*
  generalize colI (rows.take fr) p=x2 at*
  generalize quietI rows gone en p=x3 at*
  refine qq ?_
  refine gg [.b (decide ((p:Int)<c.players)) true,.a _ _,.s (qk 3 (zz zr x1)),.w ((0:Nat)<(24:Nat)),.s (qk 0 [qk 3 (zz zr x1)]),.t (qk 0 (zz encI A++ [qk 3 (zz zr x1)])) (qk 0 (zz encI (A++ [x1]))),.w (room (zq (zz encI (A++ [x1]))) (24:Nat)),.s (qk 3 (zz zr x2)),.w ((0:Nat)<(24:Nat)),.s (qk 0 [qk 3 (zz zr x2)]),.t (qk 0 (zz encI B++ [qk 3 (zz zr x2)])) (qk 0 (zz encI (B++ [x2]))),.w (room (zq (zz encI (B++ [x2]))) (24:Nat)),.s (qk 3 (zz zr x3)),.w ((0:Nat)<(24:Nat)),.s (qk 0 [qk 3 (zz zr x3)]),.t (qk 0 (zz encI Q++ [qk 3 (zz zr x3)])) (qk 0 (zz encI (Q++ [x3])))] ⟨tP,o_a hI,oW,o_l (Aag rfl (Aae (e:=x1) rfl Aah)),o_w (by (simp [room,appendMax];omega)),oW,o_l (Aag rfl (Aae (e:=x2) rfl Aah)),o_w (by (simp [room,appendMax];omega)),oW,o_l (Aag rfl (Aae (e:=x3) rfl Aah)),trivial⟩ ?_
  refine gg [.w (room (zq (zz encI (Q++ [x3]))) (24:Nat)),.i zd ((p:Int)+1) ((↑(p+1):Int)),.a _ _] ⟨o_w (by (simp [room,appendMax];omega)),oI,o_a ih1,trivial⟩ ?_
  exact ge
theorem AeP (c g:Config) (l rows full cut quiet:List InputL) (k gone en:Int) (fr n:Nat) (go:Int) (e2:Int) (w1 w2:World) (ha:Fn cx 51 [] (.bool true)) (hC:Fn cx 16 [c.enc] g.enc) (hc:g.players=(n:Int)) (h6:1≤n∧n≤6)
  (hF:Is cx (.call 22 [.t g.enc,.t (.sl 1 (l.map encI)),vi 20] []) ⟨.ret,[.all 0 none],[.arr 1 (rows.map encI) none false]⟩) (hn:rows.length≤20)
  (hfr:(IntKind.u64.wrap k).tmod ((rows.length+1:Nat):Int)=(fr:Int)) (hfl:fr≤rows.length) (hgo:(IntKind.u64.wrap gone).tmod g.players=go) (hgo2:0≤go∧go<n) (hen:(IntKind.u64.wrap en).tmod 25=e2) (hen2:0≤e2∧e2<25)
  (hL:Is cx (.loop 13 [0,1,0,1,1,1,1,1,1] 0 [vi fr,vi go,vi e2,.ptr 0 0 0,.all 1 none,.all 2 none,.all 3 none,.all 4 none,vi ((0:Nat))] [.one 5 (.t g.enc) false,.arr 1 ((rows).map encI) none false,.arr 1 ((([]:List InputL)).map encI) none false,.arr 1 ((([]:List InputL)).map encI) none false,.arr 1 ((([]:List InputL)).map encI) none false])
   ⟨.exit 0,[vi fr,vi go,vi e2,.ptr 0 0 0,.all 1 none,.all 2 none,.all 3 none,.all 4 none,vi (n)],[.one 5 (.t g.enc) false,.arr 1 ((rows).map encI) none false,.arr 1 ((full).map encI) none false,.arr 1 ((cut).map encI) none false,.arr 1 ((quiet).map encI) none false]⟩)
  (q1:Is cx (.call 49 [.t g.enc,.t (.sl 1 (full.map encI)),vi (-1),vi 0,vi fr] []) ⟨.ret,[.t w1.enc,vi 0],[]⟩)
  (q2:Is cx (.call 49 [.t g.enc,.t (.sl 1 (cut.map encI)),vi (-1),vi 0,vi fr] []) ⟨.ret,[.t w1.enc,vi 0],[]⟩)
  (q3:Is cx (.call 49 [.t g.enc,.t (.sl 1 (full.map encI)),vi go,vi e2,vi rows.length] []) ⟨.ret,[.t w2.enc,vi 0],[]⟩)
  (q4:Is cx (.call 49 [.t g.enc,.t (.sl 1 (quiet.map encI)),vi (-1),vi 0,vi rows.length] []) ⟨.ret,[.t w2.enc,vi 0],[]⟩)
  (q5:Is cx (.call 44 [.t g.enc,.t (.sl 1 ((rows.take fr).map encI))] []) ⟨.ret,[.t w1.enc,vi 0],[]⟩)
  (s1:Fn cx 36 [w1.enc,w1.enc] (.bool true)) (s2:Fn cx 36 [w2.enc,w2.enc] (.bool true)):
  Fn cx 13 [c.enc,.sl 1 (l.map encI),ti k,ti gone,ti en] (.bool true):=by
 have hm1:=AaB (n:=k) (k:=((rows.length+1:Nat):Int)) (by omega)
 have hm2:=AaB (n:=gone) (k:=(n:Int)) (by omega)
 have hm3:=AaB (n:=en) (k:=25) (by decide)
 have x1:IntKind.u64.wrap ((rows.length+1:Nat):Int)=((rows.length+1:Nat):Int):=wu64 ⟨by omega,by omega,rfl⟩
 have x2:IntKind.u64.wrap (n:Int)=(n:Int):=wu64 ⟨by omega,by omega,rfl⟩
 rw [hc] at hgo
 refine qq ?_
 refine gg [.a _ _,.a _ _,.i zf k (zp zf k),.n (zq (zz encI rows)) (zq rows),.i zd ((↑(zq rows):Int)+1) ((↑(zq rows+1):Int)),.i zf ((↑(zq rows+1):Int)) ((↑(zq rows+1):Int)),.w ((↑(zq rows+(1:Nat)):Int)≠(0:Int)),.t (T.int zf (zg (zp zf k) (↑(zq rows+1):Int))) (T.int zf (fr:Int)),.i zd (fr:Int) (fr:Int),.i zf gone (zp zf gone),.i zf g.players (n:Int),.w ((n:Int)≠(0:Int)),.t (T.int zf (zg (zp zf gone) (n:Int))) (T.int zf go),.i zd go go,.i zf en (zp zf en),.w ((25:Int)≠(0:Int))] ⟨o_a hC,o_a hF,o_i rfl,o_n (by simp),oI,oU,o_w (by intro h;cases h),o_t (by rw [hfr]),oI,o_i rfl,oU,oW,o_t (by rw [hgo]),oI,o_i rfl,o_w (by intro h;cases h),trivial⟩ ?_
 refine gg [.t (T.int zf (zg (zp zf en) 25)) (T.int zf e2),.i zd e2 e2,.a _ _,.a _ _,.b (flats [World.enc w1,ti 0]) false,.a _ _,.b (flats [World.enc w1,ti 0]) false,.n (zq (zz encI rows)) (zq rows),.a _ _,.b (flats [World.enc w2,ti 0]) false,.n (zq (zz encI rows)) (zq rows),.a _ _,.b (flats [World.enc w2,ti 0]) false,.w (0≤(fr:Int)),.n (zy (fr:Int)) fr,.w ((0:Nat)≤fr∧fr≤zq (zz encI rows))] ⟨o_t (by rw [hen]),oI,o_a hL,o_a q1,bK,o_a q2,bK,o_n (by simp),o_a q3,bK,o_n (by simp),o_a q4,bK,oW,nK,o_w ⟨(by omega),(by (simp;omega))⟩,trivial⟩ ?_
 refine gg [.l 0,.n (fr-0) fr] ⟨nK,trivial⟩ ?_
 refine bO ?_ ?_
 all_goals
  refine gg [.t (qk 1 (zw fr (zk 0 (zz encI rows)))) (qk 1 (zz encI (zw fr rows))),.a _ _,.b (flats [World.enc w1,ti 0]) false,.a _ _,.tt,.tt,.tt,.b (0==0) true,.tt,.tt,.b (0==0) true,.tt,.tt,.b (0==0) true,.tt,.tt] ⟨o_l (nm_eq (AaL (AbO rfl)) (by kernel_rfl)),o_a q5,bK,o_a ha,bK,bK,bK,trivial⟩ ?_
  refine gg [.b (0==0) true,.tt,.tt,.b (0==0) true,.tt,.tt,.a _ _,.tt,.tt,.tt,.tt,.a _ _,.tt,.tt,.tt,.tt] ⟨bK,bK,o_a s1,o_a s2,trivial⟩ ?_
  refine gg [.a _ _,.tt] ⟨o_a s1,trivial⟩ ?_
  exact ge
theorem Acq (c:Config) (l:List InputL) (k gone en:Int) (hl:long l) (hr: ∀x∈l,long x):Fn cx 13 [c.enc,.sl 1 (l.map encI),ti k,ti gone,ti en] (.bool true):=by
 have ha:=Afg
 obtain ⟨hrt,h1,h2,h3,h4⟩:= @Config.play_ok c
 have hC:=AeS c
 generalize c.play=g at*
 obtain ⟨n,hc⟩: ∃n:Nat,g.players=n:=⟨g.players.toNat,by omega⟩
 have hF:=AeF g l 20 n hc (by omega) hl (by decide) hr
 have hro:= @AiB n l 20
 have hrl:= @Ahu n l 20
 generalize playFrames n l 20=rows at*
 have hm1:=AaB (n:=k) (k:=((rows.length+1:Nat):Int)) (by omega)
 obtain ⟨fr,hfr⟩: ∃t:Nat,(IntKind.u64.wrap k).tmod ((rows.length+1:Nat):Int)=t:=⟨((IntKind.u64.wrap k).tmod ((rows.length+1:Nat):Int)).toNat,by omega⟩
 have hm2:=AaB (n:=gone) (k:=g.players) (by omega)
 have hm3:=AaB (n:=en) (k:=25) (by decide)
 obtain ⟨go,hgo⟩: ∃t:Int,(IntKind.u64.wrap gone).tmod g.players=t:=⟨_,rfl⟩
 obtain ⟨e2,hen⟩: ∃t:Int,(IntKind.u64.wrap en).tmod 25=t:=⟨_,rfl⟩
 have hL:=Ae0 g rows go e2 fr n hc (by omega) (by omega) (by omega) (fun r hr=>(hro r hr).1) n 0 [] [] [] (by omega) (by simp) (by simp) (by simp)
 rw [List.drop_zero,List.nil_append,List.nil_append,List.nil_append] at hL
 have hlen: ∀(f:Nat→InputL),(((List.range n).map f).length:Int)=g.players:=fun f=>by simp [hc]
 have hnn:g.players.toNat=n:=by omega
 have hto: ∀r∈rows.take fr,r.length=n∧ ∀i∈r,i.right=true:=fun r hr=>hro r (List.mem_of_mem_take hr)
 have q1:=Aa9 g (colsI rows n) (-1) 0 fr hrt (hlen _) (by omega) (AfI hro)
 rw [hnn,AhV (by omega) (fun r hr=>(hro r hr).1)] at q1
 have q2:=Aa9 g (colsI (rows.take fr) n) (-1) 0 fr hrt (hlen _) (by omega) (AfI hto)
 rw [hnn,AhV (by simp;omega) (fun r hr=>(hto r hr).1),List.take_take,Nat.min_self] at q2
 have q3:=Aa9 g (colsI rows n) go e2 rows.length hrt (hlen _) (by omega) (AfI hro)
 rw [hnn,Aj5] at q3
 have q4:=Aa9 g (quietsI rows go e2 n) (-1) 0 rows.length hrt (hlen _) (by omega) (AfZ hro)
 rw [hnn] at q4
 have q5:=Agt g (rows.take fr) hrt (fun i hi=>⟨by have:=(hto i hi).1;omega,(hto i hi).2⟩) (by simp;omega)
 have hok4:=Ai9 (l:=quietsI rows go e2 n) (gone:= -1) (en:=0) (c:=g) (k:=rows.length) (by omega) (AfZ hro) (hlen _)
 rw [hnn] at hok4
 have f1:=Ag4 (rows:=rows.take fr) (Ac5 hrt) (by omega) (by simp;omega) (fun i hi=>⟨by have:=(hto i hi).1;omega,(hto i hi).2⟩)
 have f2:=Ag4 (rows:=ghostRows (quietsI rows go e2 n) (-1) 0 n rows.length) (Ac5 hrt) (by omega) (by simp [ghostRows];omega) hok4
 exact AeP c g l rows (colsI rows n) (colsI (rows.take fr) n) (quietsI rows go e2 n) k gone en fr n go e2 _ _ ha hC hc (by omega) hF (by omega) hfr (by omega) hgo (by omega) hen (by omega) hL q1 q2 q3 q4 q5 (Ajl f1) (Ajl f2)
end Go.Eva.S4
namespace Go.Eva.S4
open Go.Proofs
theorem cxTy:CxTy Tryz.prog cx:=AnI (by decide+kernel) (by decide+kernel) (⟨⟨Tryz.f179,by kernel_rfl,by decide+kernel,by kernel_rfl,by kernel_rfl,by kernel_rfl,by kernel_rfl,48,by kernel_rfl⟩,trivial⟩)
theorem ok13:FnOK Tryz.prog cx 13 fi13 Tryz.f13:=mkOk
theorem ok16:FnOK Tryz.prog cx 16 fi16 Tryz.f16:=mkOk
theorem ok17:FnOK Tryz.prog cx 17 fi17 Tryz.f17:=mkOk
theorem ok19:FnOK Tryz.prog cx 19 fi19 Tryz.f19:=mkOk
theorem ok22:FnOK Tryz.prog cx 22 fi22 Tryz.f22:=mkOk
theorem ok23:FnOK Tryz.prog cx 23 fi23 Tryz.f23:=mkOk
theorem ok24:FnOK Tryz.prog cx 24 fi24 Tryz.f24:=mkOk
theorem ok25:FnOK Tryz.prog cx 25 fi25 Tryz.f25:=mkOk
theorem ok26:FnOK Tryz.prog cx 26 fi26 Tryz.f26:=mkOk
theorem ok27:FnOK Tryz.prog cx 27 fi27 Tryz.f27:=mkOk
theorem ok28:FnOK Tryz.prog cx 28 fi28 Tryz.f28:=mkOk
theorem ok29:FnOK Tryz.prog cx 29 fi29 Tryz.f29:=mkOk
theorem ok30:FnOK Tryz.prog cx 30 fi30 Tryz.f30:=mkOk
theorem ok34:FnOK Tryz.prog cx 34 fi34 Tryz.f34:=mkOk
theorem ok35:FnOK Tryz.prog cx 35 fi35 Tryz.f35:=mkOk
theorem ok36:FnOK Tryz.prog cx 36 fi36 Tryz.f36:=mkOk
theorem ok37:FnOK Tryz.prog cx 37 fi37 Tryz.f37:=mkOk
theorem ok38:FnOK Tryz.prog cx 38 fi38 Tryz.f38:=mkOk
theorem ok39:FnOK Tryz.prog cx 39 fi39 Tryz.f39:=mkOk
theorem ok40:FnOK Tryz.prog cx 40 fi40 Tryz.f40:=mkOk
theorem ok41:FnOK Tryz.prog cx 41 fi41 Tryz.f41:=mkOk
theorem ok42:FnOK Tryz.prog cx 42 fi42 Tryz.f42:=mkOk
theorem ok43:FnOK Tryz.prog cx 43 fi43 Tryz.f43:=mkOk
theorem ok44:FnOK Tryz.prog cx 44 fi44 Tryz.f44:=mkOk
theorem ok45:FnOK Tryz.prog cx 45 fi45 Tryz.f45:=mkOk
theorem ok48:FnOK Tryz.prog cx 48 fi48 Tryz.f48:=mkOk
theorem ok49:FnOK Tryz.prog cx 49 fi49 Tryz.f49:=mkOk
theorem ok51:FnOK Tryz.prog cx 51 fi51 Tryz.f51:=mkOk
theorem ok52:FnOK Tryz.prog cx 52 fi52 Tryz.f52:=mkOk
theorem ok53:FnOK Tryz.prog cx 53 fi53 Tryz.f53:=mkOk
theorem ok54:FnOK Tryz.prog cx 54 fi54 Tryz.f54:=mkOk
theorem ok55:FnOK Tryz.prog cx 55 fi55 Tryz.f55:=mkOk
theorem ok56:FnOK Tryz.prog cx 56 fi56 Tryz.f56:=mkOk
theorem ok57:FnOK Tryz.prog cx 57 fi57 Tryz.f57:=mkOk
theorem ok58:FnOK Tryz.prog cx 58 fi58 Tryz.f58:=mkOk
theorem ok59:FnOK Tryz.prog cx 59 fi59 Tryz.f59:=mkOk
theorem ok60:FnOK Tryz.prog cx 60 fi60 Tryz.f60:=mkOk
theorem ok61:FnOK Tryz.prog cx 61 fi61 Tryz.f61:=mkOk
theorem ok62:FnOK Tryz.prog cx 62 fi62 Tryz.f62:=mkOk
theorem ok63:FnOK Tryz.prog cx 63 fi63 Tryz.f63:=mkOk
theorem ok64:FnOK Tryz.prog cx 64 fi64 Tryz.f64:=mkOk
theorem ok65:FnOK Tryz.prog cx 65 fi65 Tryz.f65:=mkOk
theorem ok66:FnOK Tryz.prog cx 66 fi66 Tryz.f66:=mkOk
theorem ok67:FnOK Tryz.prog cx 67 fi67 Tryz.f67:=mkOk
theorem ok68:FnOK Tryz.prog cx 68 fi68 Tryz.f68:=mkOk
theorem ok69:FnOK Tryz.prog cx 69 fi69 Tryz.f69:=mkOk
theorem ok70:FnOK Tryz.prog cx 70 fi70 Tryz.f70:=mkOk
theorem ok71:FnOK Tryz.prog cx 71 fi71 Tryz.f71:=mkOk
theorem ok72:FnOK Tryz.prog cx 72 fi72 Tryz.f72:=mkOk
theorem ok73:FnOK Tryz.prog cx 73 fi73 Tryz.f73:=mkOk
theorem ok74:FnOK Tryz.prog cx 74 fi74 Tryz.f74:=mkOk
theorem ok75:FnOK Tryz.prog cx 75 fi75 Tryz.f75:=mkOk
theorem ok76:FnOK Tryz.prog cx 76 fi76 Tryz.f76:=mkOk
theorem ok77:FnOK Tryz.prog cx 77 fi77 Tryz.f77:=mkOk
theorem ok78:FnOK Tryz.prog cx 78 fi78 Tryz.f78:=mkOk
theorem ok79:FnOK Tryz.prog cx 79 fi79 Tryz.f79:=mkOk
theorem ok80:FnOK Tryz.prog cx 80 fi80 Tryz.f80:=mkOk
theorem ok81:FnOK Tryz.prog cx 81 fi81 Tryz.f81:=mkOk
theorem ok82:FnOK Tryz.prog cx 82 fi82 Tryz.f82:=mkOk
theorem ok83:FnOK Tryz.prog cx 83 fi83 Tryz.f83:=mkOk
theorem ok84:FnOK Tryz.prog cx 84 fi84 Tryz.f84:=mkOk
theorem ok85:FnOK Tryz.prog cx 85 fi85 Tryz.f85:=mkOk
theorem ok86:FnOK Tryz.prog cx 86 fi86 Tryz.f86:=mkOk
theorem ok89:FnOK Tryz.prog cx 89 fi89 Tryz.f89:=mkOk
theorem ok90:FnOK Tryz.prog cx 90 fi90 Tryz.f90:=mkOk
theorem ok91:FnOK Tryz.prog cx 91 fi91 Tryz.f91:=mkOk
theorem ok92:FnOK Tryz.prog cx 92 fi92 Tryz.f92:=mkOk
theorem ok93:FnOK Tryz.prog cx 93 fi93 Tryz.f93:=mkOk
theorem ok94:FnOK Tryz.prog cx 94 fi94 Tryz.f94:=mkOk
theorem ok95:FnOK Tryz.prog cx 95 fi95 Tryz.f95:=mkOk
theorem ok96:FnOK Tryz.prog cx 96 fi96 Tryz.f96:=mkOk
theorem ok97:FnOK Tryz.prog cx 97 fi97 Tryz.f97:=mkOk
theorem ok98:FnOK Tryz.prog cx 98 fi98 Tryz.f98:=mkOk
theorem ok99:FnOK Tryz.prog cx 99 fi99 Tryz.f99:=mkOk
theorem ok100:FnOK Tryz.prog cx 100 fi100 Tryz.f100:=mkOk
theorem ok101:FnOK Tryz.prog cx 101 fi101 Tryz.f101:=mkOk
theorem ok102:FnOK Tryz.prog cx 102 fi102 Tryz.f102:=mkOk
theorem ok103:FnOK Tryz.prog cx 103 fi103 Tryz.f103:=mkOk
theorem ok104:FnOK Tryz.prog cx 104 fi104 Tryz.f104:=mkOk
theorem ok105:FnOK Tryz.prog cx 105 fi105 Tryz.f105:=mkOk
theorem ok106:FnOK Tryz.prog cx 106 fi106 Tryz.f106:=mkOk
theorem ok107:FnOK Tryz.prog cx 107 fi107 Tryz.f107:=mkOk
theorem ok108:FnOK Tryz.prog cx 108 fi108 Tryz.f108:=mkOk
theorem ok109:FnOK Tryz.prog cx 109 fi109 Tryz.f109:=mkOk
theorem ok110:FnOK Tryz.prog cx 110 fi110 Tryz.f110:=mkOk
theorem ok111:FnOK Tryz.prog cx 111 fi111 Tryz.f111:=mkOk
theorem ok112:FnOK Tryz.prog cx 112 fi112 Tryz.f112:=mkOk
theorem ok113:FnOK Tryz.prog cx 113 fi113 Tryz.f113:=mkOk
theorem ok114:FnOK Tryz.prog cx 114 fi114 Tryz.f114:=mkOk
theorem ok115:FnOK Tryz.prog cx 115 fi115 Tryz.f115:=mkOk
theorem ok116:FnOK Tryz.prog cx 116 fi116 Tryz.f116:=mkOk
theorem ok117:FnOK Tryz.prog cx 117 fi117 Tryz.f117:=mkOk
theorem ok118:FnOK Tryz.prog cx 118 fi118 Tryz.f118:=mkOk
theorem ok119:FnOK Tryz.prog cx 119 fi119 Tryz.f119:=mkOk
theorem ok120:FnOK Tryz.prog cx 120 fi120 Tryz.f120:=mkOk
theorem ok121:FnOK Tryz.prog cx 121 fi121 Tryz.f121:=mkOk
theorem ok122:FnOK Tryz.prog cx 122 fi122 Tryz.f122:=mkOk
theorem ok123:FnOK Tryz.prog cx 123 fi123 Tryz.f123:=mkOk
theorem ok124:FnOK Tryz.prog cx 124 fi124 Tryz.f124:=mkOk
theorem ok125:FnOK Tryz.prog cx 125 fi125 Tryz.f125:=mkOk
theorem ok126:FnOK Tryz.prog cx 126 fi126 Tryz.f126:=mkOk
theorem ok127:FnOK Tryz.prog cx 127 fi127 Tryz.f127:=mkOk
theorem ok128:FnOK Tryz.prog cx 128 fi128 Tryz.f128:=mkOk
theorem ok129:FnOK Tryz.prog cx 129 fi129 Tryz.f129:=mkOk
theorem ok130:FnOK Tryz.prog cx 130 fi130 Tryz.f130:=mkOk
theorem ok131:FnOK Tryz.prog cx 131 fi131 Tryz.f131:=mkOk
theorem ok132:FnOK Tryz.prog cx 132 fi132 Tryz.f132:=mkOk
theorem ok133:FnOK Tryz.prog cx 133 fi133 Tryz.f133:=mkOk
theorem ok134:FnOK Tryz.prog cx 134 fi134 Tryz.f134:=mkOk
theorem ok135:FnOK Tryz.prog cx 135 fi135 Tryz.f135:=mkOk
theorem ok136:FnOK Tryz.prog cx 136 fi136 Tryz.f136:=mkOk
theorem ok137:FnOK Tryz.prog cx 137 fi137 Tryz.f137:=mkOk
theorem ok138:FnOK Tryz.prog cx 138 fi138 Tryz.f138:=mkOk
theorem ok139:FnOK Tryz.prog cx 139 fi139 Tryz.f139:=mkOk
theorem ok140:FnOK Tryz.prog cx 140 fi140 Tryz.f140:=mkOk
theorem ok141:FnOK Tryz.prog cx 141 fi141 Tryz.f141:=mkOk
theorem ok142:FnOK Tryz.prog cx 142 fi142 Tryz.f142:=mkOk
theorem ok143:FnOK Tryz.prog cx 143 fi143 Tryz.f143:=mkOk
theorem ok144:FnOK Tryz.prog cx 144 fi144 Tryz.f144:=mkOk
theorem ok145:FnOK Tryz.prog cx 145 fi145 Tryz.f145:=mkOk
theorem ok146:FnOK Tryz.prog cx 146 fi146 Tryz.f146:=mkOk
theorem ok147:FnOK Tryz.prog cx 147 fi147 Tryz.f147:=mkOk
theorem ok148:FnOK Tryz.prog cx 148 fi148 Tryz.f148:=mkOk
theorem ok149:FnOK Tryz.prog cx 149 fi149 Tryz.f149:=mkOk
theorem ok150:FnOK Tryz.prog cx 150 fi150 Tryz.f150:=mkOk
theorem ok151:FnOK Tryz.prog cx 151 fi151 Tryz.f151:=mkOk
theorem ok152:FnOK Tryz.prog cx 152 fi152 Tryz.f152:=mkOk
theorem ok154:FnOK Tryz.prog cx 154 fi154 Tryz.f154:=mkOk
theorem ok155:FnOK Tryz.prog cx 155 fi155 Tryz.f155:=mkOk
theorem ok156:FnOK Tryz.prog cx 156 fi156 Tryz.f156:=mkOk
theorem ok157:FnOK Tryz.prog cx 157 fi157 Tryz.f157:=mkOk
theorem ok158:FnOK Tryz.prog cx 158 fi158 Tryz.f158:=mkOk
theorem ok159:FnOK Tryz.prog cx 159 fi159 Tryz.f159:=mkOk
theorem ok160:FnOK Tryz.prog cx 160 fi160 Tryz.f160:=mkOk
theorem ok161:FnOK Tryz.prog cx 161 fi161 Tryz.f161:=mkOk
theorem ok162:FnOK Tryz.prog cx 162 fi162 Tryz.f162:=mkOk
theorem ok163:FnOK Tryz.prog cx 163 fi163 Tryz.f163:=mkOk
theorem ok164:FnOK Tryz.prog cx 164 fi164 Tryz.f164:=mkOk
theorem ok165:FnOK Tryz.prog cx 165 fi165 Tryz.f165:=mkOk
theorem ok166:FnOK Tryz.prog cx 166 fi166 Tryz.f166:=mkOk
theorem ok167:FnOK Tryz.prog cx 167 fi167 Tryz.f167:=mkOk
theorem ok168:FnOK Tryz.prog cx 168 fi168 Tryz.f168:=mkOk
theorem ok169:FnOK Tryz.prog cx 169 fi169 Tryz.f169:=mkOk
theorem ok170:FnOK Tryz.prog cx 170 fi170 Tryz.f170:=mkOk
theorem ok171:FnOK Tryz.prog cx 171 fi171 Tryz.f171:=mkOk
theorem ok172:FnOK Tryz.prog cx 172 fi172 Tryz.f172:=mkOk
theorem ok173:FnOK Tryz.prog cx 173 fi173 Tryz.f173:=mkOk
theorem ok174:FnOK Tryz.prog cx 174 fi174 Tryz.f174:=mkOk
theorem ok175:FnOK Tryz.prog cx 175 fi175 Tryz.f175:=mkOk
theorem ok176:FnOK Tryz.prog cx 176 fi176 Tryz.f176:=mkOk
theorem ok177:FnOK Tryz.prog cx 177 fi177 Tryz.f177:=mkOk
theorem ok178:FnOK Tryz.prog cx 178 fi178 Tryz.f178:=mkOk
theorem ok180:FnOK Tryz.prog cx 180 fi180 Tryz.f180:=mkOk
theorem ok183:FnOK Tryz.prog cx 183 fi183 Tryz.f183:=mkOk
theorem ok184:FnOK Tryz.prog cx 184 fi184 Tryz.f184:=mkOk
theorem ok185:FnOK Tryz.prog cx 185 fi185 Tryz.f185:=mkOk
theorem ok186:FnOK Tryz.prog cx 186 fi186 Tryz.f186:=mkOk
theorem ok187:FnOK Tryz.prog cx 187 fi187 Tryz.f187:=mkOk
theorem ok188:FnOK Tryz.prog cx 188 fi188 Tryz.f188:=mkOk
theorem ok189:FnOK Tryz.prog cx 189 fi189 Tryz.f189:=mkOk
theorem ok190:FnOK Tryz.prog cx 190 fi190 Tryz.f190:=mkOk
theorem ok191:FnOK Tryz.prog cx 191 fi191 Tryz.f191:=mkOk
theorem ok192:FnOK Tryz.prog cx 192 fi192 Tryz.f192:=mkOk
theorem ok194:FnOK Tryz.prog cx 194 fi194 Tryz.f194:=mkOk
theorem ok195:FnOK Tryz.prog cx 195 fi195 Tryz.f195:=mkOk
theorem ok197:FnOK Tryz.prog cx 197 fi197 Tryz.f197:=mkOk
theorem fnsOK:FnsOK Tryz.prog cx:=Ana (⟨Aai _,⟨Aai _,⟨Aai _,⟨Aai _,⟨Aai _,⟨Aai _,⟨Aab ok63,⟨Aab ok127,trivial,trivial⟩,⟨Aab ok191,trivial,trivial⟩⟩,⟨Aab ok95,⟨Aab ok159,trivial,trivial⟩,trivial⟩⟩,⟨Aai _,⟨Aab ok79,⟨Aab ok143,trivial,trivial⟩,⟨Aai _,trivial,trivial⟩⟩,⟨Aab ok111,⟨Aab ok175,trivial,trivial⟩,trivial⟩⟩⟩,⟨Aab ok23,⟨Aab ok39,⟨Aab ok71,⟨Aab ok135,trivial,trivial⟩,⟨Aai _,trivial,trivial⟩⟩,⟨Aab ok103,⟨Aab ok167,trivial,trivial⟩,trivial⟩⟩,⟨Aab ok55,⟨Aai _,⟨Aab ok151,trivial,trivial⟩,trivial⟩,⟨Aab ok119,⟨Aab ok183,trivial,trivial⟩,trivial⟩⟩⟩⟩,⟨Aai _,⟨Aab ok19,⟨Aab ok35,⟨Aab ok67,⟨Aab ok131,trivial,trivial⟩,⟨Aab ok195,trivial,trivial⟩⟩,⟨Aab ok99,⟨Aab ok163,trivial,trivial⟩,trivial⟩⟩,⟨Aab ok51,⟨Aab ok83,⟨Aab ok147,trivial,trivial⟩,⟨Aai _,trivial,trivial⟩⟩,⟨Aab ok115,⟨Aai _,trivial,trivial⟩,trivial⟩⟩⟩,⟨Aab ok27,⟨Aab ok43,⟨Aab ok75,⟨Aab ok139,trivial,trivial⟩,⟨Aai _,trivial,trivial⟩⟩,⟨Aab ok107,⟨Aab ok171,trivial,trivial⟩,trivial⟩⟩,⟨Aab ok59,⟨Aab ok91,⟨Aab ok155,trivial,trivial⟩,trivial⟩,⟨Aab ok123,⟨Aab ok187,trivial,trivial⟩,trivial⟩⟩⟩⟩⟩,⟨Aai _,⟨Aai _,⟨Aab ok17,⟨Aai _,⟨Aab ok65,⟨Aab ok129,trivial,trivial⟩,⟨Aai _,trivial,trivial⟩⟩,⟨Aab ok97,⟨Aab ok161,trivial,trivial⟩,trivial⟩⟩,⟨Aab ok49,⟨Aab ok81,⟨Aab ok145,trivial,trivial⟩,⟨Aai _,trivial,trivial⟩⟩,⟨Aab ok113,⟨Aab ok177,trivial,trivial⟩,trivial⟩⟩⟩,⟨Aab ok25,⟨Aab ok41,⟨Aab ok73,⟨Aab ok137,trivial,trivial⟩,⟨Aai _,trivial,trivial⟩⟩,⟨Aab ok105,⟨Aab ok169,trivial,trivial⟩,trivial⟩⟩,⟨Aab ok57,⟨Aab ok89,⟨Aai _,trivial,trivial⟩,trivial⟩,⟨Aab ok121,⟨Aab ok185,trivial,trivial⟩,trivial⟩⟩⟩⟩,⟨Aab ok13,⟨Aai _,⟨Aab ok37,⟨Aab ok69,⟨Aab ok133,trivial,trivial⟩,⟨Aab ok197,trivial,trivial⟩⟩,⟨Aab ok101,⟨Aab ok165,trivial,trivial⟩,trivial⟩⟩,⟨Aab ok53,⟨Aab ok85,⟨Aab ok149,trivial,trivial⟩,⟨Aai _,trivial,trivial⟩⟩,⟨Aab ok117,⟨Aai _,trivial,trivial⟩,trivial⟩⟩⟩,⟨Aab ok29,⟨Aab ok45,⟨Aab ok77,⟨Aab ok141,trivial,trivial⟩,⟨Aai _,trivial,trivial⟩⟩,⟨Aab ok109,⟨Aab ok173,trivial,trivial⟩,trivial⟩⟩,⟨Aab ok61,⟨Aab ok93,⟨Aab ok157,trivial,trivial⟩,trivial⟩,⟨Aab ok125,⟨Aab ok189,trivial,trivial⟩,trivial⟩⟩⟩⟩⟩⟩,⟨Aai _,⟨Aai _,⟨Aai _,⟨Aab ok16,⟨Aai _,⟨Aab ok64,⟨Aab ok128,trivial,trivial⟩,⟨Aab ok192,trivial,trivial⟩⟩,⟨Aab ok96,⟨Aab ok160,trivial,trivial⟩,trivial⟩⟩,⟨Aab ok48,⟨Aab ok80,⟨Aab ok144,trivial,trivial⟩,⟨Aai _,trivial,trivial⟩⟩,⟨Aab ok112,⟨Aab ok176,trivial,trivial⟩,trivial⟩⟩⟩,⟨Aab ok24,⟨Aab ok40,⟨Aab ok72,⟨Aab ok136,trivial,trivial⟩,⟨Aai _,trivial,trivial⟩⟩,⟨Aab ok104,⟨Aab ok168,trivial,trivial⟩,trivial⟩⟩,⟨Aab ok56,⟨Aai _,⟨Aab ok152,trivial,trivial⟩,trivial⟩,⟨Aab ok120,⟨Aab ok184,trivial,trivial⟩,trivial⟩⟩⟩⟩,⟨Aai _,⟨Aai _,⟨Aab ok36,⟨Aab ok68,⟨Aab ok132,trivial,trivial⟩,⟨Aai _,trivial,trivial⟩⟩,⟨Aab ok100,⟨Aab ok164,trivial,trivial⟩,trivial⟩⟩,⟨Aab ok52,⟨Aab ok84,⟨Aab ok148,trivial,trivial⟩,⟨Aai _,trivial,trivial⟩⟩,⟨Aab ok116,⟨Aab ok180,trivial,trivial⟩,trivial⟩⟩⟩,⟨Aab ok28,⟨Aab ok44,⟨Aab ok76,⟨Aab ok140,trivial,trivial⟩,⟨Aai _,trivial,trivial⟩⟩,⟨Aab ok108,⟨Aab ok172,trivial,trivial⟩,trivial⟩⟩,⟨Aab ok60,⟨Aab ok92,⟨Aab ok156,trivial,trivial⟩,trivial⟩,⟨Aab ok124,⟨Aab ok188,trivial,trivial⟩,trivial⟩⟩⟩⟩⟩,⟨Aai _,⟨Aai _,⟨Aai _,⟨Aab ok34,⟨Aab ok66,⟨Aab ok130,trivial,trivial⟩,⟨Aab ok194,trivial,trivial⟩⟩,⟨Aab ok98,⟨Aab ok162,trivial,trivial⟩,trivial⟩⟩,⟨Aai _,⟨Aab ok82,⟨Aab ok146,trivial,trivial⟩,⟨Aai _,trivial,trivial⟩⟩,⟨Aab ok114,⟨Aab ok178,trivial,trivial⟩,trivial⟩⟩⟩,⟨Aab ok26,⟨Aab ok42,⟨Aab ok74,⟨Aab ok138,trivial,trivial⟩,⟨Aai _,trivial,trivial⟩⟩,⟨Aab ok106,⟨Aab ok170,trivial,trivial⟩,trivial⟩⟩,⟨Aab ok58,⟨Aab ok90,⟨Aab ok154,trivial,trivial⟩,trivial⟩,⟨Aab ok122,⟨Aab ok186,trivial,trivial⟩,trivial⟩⟩⟩⟩,⟨Aai _,⟨Aab ok22,⟨Aab ok38,⟨Aab ok70,⟨Aab ok134,trivial,trivial⟩,⟨Aai _,trivial,trivial⟩⟩,⟨Aab ok102,⟨Aab ok166,trivial,trivial⟩,trivial⟩⟩,⟨Aab ok54,⟨Aab ok86,⟨Aab ok150,trivial,trivial⟩,trivial⟩,⟨Aab ok118,⟨Aai _,trivial,trivial⟩,trivial⟩⟩⟩,⟨Aab ok30,⟨Aai _,⟨Aab ok78,⟨Aab ok142,trivial,trivial⟩,⟨Aai _,trivial,trivial⟩⟩,⟨Aab ok110,⟨Aab ok174,trivial,trivial⟩,trivial⟩⟩,⟨Aab ok62,⟨Aab ok94,⟨Aab ok158,trivial,trivial⟩,trivial⟩,⟨Aab ok126,⟨Aab ok190,trivial,trivial⟩,trivial⟩⟩⟩⟩⟩⟩⟩)
end Go.Eva.S4
namespace Go.Eva
section
variable {cx:Cx} {t m:Nat} {ts:List T} {i:TI}
theorem Ak1 (hti:cx.ti.get t=some i) (hk:i.ty= .int .i64) (h:Conf cx m t ts): ∃n,ts= [ti n]∧i64 n:=by
 cases m with
 |zero=>exact h.elim
 |succ m=>
  simp only [Conf,hti,hk] at h
  obtain ⟨n,rfl,hw⟩:=h
  refine ⟨n,rfl,?_⟩
  simp [Lit.wf,IntKind.min,IntKind.max,IntKind.signed,IntKind.bits] at hw
  exact ⟨by omega,by omega⟩
theorem Anx (hti:cx.ti.get t=some i) (hk:i.ty= .int .u64) (h:Conf cx m t ts): ∃n,ts= [.int .u64 n]∧0≤n∧n≤18446744073709551615:=by
 cases m with
 |zero=>exact h.elim
 |succ m=>
  simp only [Conf,hti,hk] at h
  obtain ⟨n,rfl,hw⟩:=h
  refine ⟨n,rfl,?_⟩
  simp [Lit.wf,IntKind.min,IntKind.max,IntKind.signed,IntKind.bits] at hw
  exact ⟨by omega,by omega⟩
theorem AmF (hti:cx.ti.get t=some i) (hk:i.ty= .bool) (h:Conf cx m t ts): ∃b,ts= [.bool b]:=by
 cases m with
 |zero=>exact h.elim
 |succ m=>simpa only [Conf,hti,hk] using h
theorem Ahk {fs:List (Nat×Nat)} (hti:cx.ti.get t=some i) (hk:i.ty= .struct fs) (h:Conf cx (m+1) t ts):ts.length=i.size∧ ∀p∈fs,Conf cx m p.2 ((ts.drop p.1).take (sizeOf cx p.2)):=by
 simpa only [Conf,hti,hk] using h
theorem Ale {e:Nat} (hti:cx.ti.get t=some i) (hk:i.ty= .slice e) (h:Conf cx (m+1) t ts):
  ∃xs,ts= [.sl (sizeOf cx e) xs]∧xs.length≤maxLen∧xs.length*bytesOf cx e≤reachBytes∧ ∀x∈xs,x≠ .any∧(isStruct cx e=true→ ∃l,x= .agg l)∧(isStruct cx e=false→x.cells= [x])∧Conf cx m e x.cells:=by
 simpa only [Conf,hti,hk] using h
theorem Af8 {j k:Nat} {fs:List (Nat×Nat)} (hi:cx.ti.get k=some i) (hk:i.ty= .int .i64) (hs:sizeOf cx k=1) (h: ∀p∈fs,Conf cx m p.2 ((ts.drop p.1).take (sizeOf cx p.2))) (hp:(j,k)∈fs): ∃n,ts[j]?=some (ti n)∧i64 n:=by
 have:=h _ hp
 simp only [hs] at this
 obtain ⟨n,h1,h2⟩:=Ak1 hi hk this
 refine ⟨n,?_,h2⟩
 have h3:=congrArg (fun l=>l[0]?) h1
 simpa [List.getElem?_take,List.getElem?_drop] using h3
theorem Al5 {α:Type} {f:α→T} {P:α→Prop}: ∀ {xs:List T},(∀x∈xs,∃e,x=f e∧P e)→ ∃l:List α,xs=l.map f∧ ∀e∈l,P e
 | [],_=>⟨[],rfl,by simp⟩
 |x::xs,h=>by
  obtain ⟨e,rfl,he⟩:=h x (List.mem_cons_self ..)
  obtain ⟨l,rfl,hl⟩:=Al5 fun y hy=>h y (List.mem_cons_of_mem _ hy)
  exact ⟨e::l,rfl,fun y hy=>by
   rcases List.mem_cons.1 hy with rfl|hy
   ·exact he
   ·exact hl y hy⟩
def Entity.ok (e:Entity):Prop:=i64 e.id∧i64 e.kind∧i64 e.x∧i64 e.y∧i64 e.vx∧i64 e.vy∧i64 e.health∧i64 e.age∧i64 e.owner
def Input.ok (e:Input):Prop:=i64 e.dx∧i64 e.dy
def Cross.ok (c:Cross):Prop:=i64 c.kind∧i64 c.frm∧i64 c.to∧i64 c.frame∧c.ent.ok∧i64 c.x∧i64 c.y
theorem AjR {k u:Nat} {j v:TI} (hk:cx.ti.get k=some j) (hkt:j.ty= .int .i64) (hs:sizeOf cx k=1) (hu:cx.ti.get u=some v) (hut:v.ty= .int .u64) (hus:sizeOf cx u=1) (hti:cx.ti.get t=some i)
  (hty:i.ty= .struct [(0,k),(1,k),(2,k),(3,k),(4,u)]) (hsz:i.size=5) (h:Conf cx (m+1) t ts): ∃c:Config,ts=c.enc.cells∧c.ok:=by
 obtain ⟨h1,h2⟩:=Ahk hti hty h
 rw [hsz] at h1
 obtain ⟨n0,a0,b0⟩:=Af8 (j:=0) hk hkt hs h2 (by simp)
 obtain ⟨n1,a1,b1⟩:=Af8 (j:=1) hk hkt hs h2 (by simp)
 obtain ⟨n2,a2,b2⟩:=Af8 (j:=2) hk hkt hs h2 (by simp)
 obtain ⟨n3,a3,b3⟩:=Af8 (j:=3) hk hkt hs h2 (by simp)
 have h4:=h2 (4,u) (by simp)
 simp only [hus] at h4
 obtain ⟨n4,a4,b4⟩:=Anx hu hut h4
 refine ⟨⟨n0,n1,n2,n3,n4⟩,?_,b0,b1,b2,b3,b4⟩
 match ts,h1 with
 | [_,_,_,_,_],_=>simp_all [Config.enc,T.cells]
theorem Alj {k u:Nat} {j v:TI} (hk:cx.ti.get k=some j) (hkt:j.ty= .int .i64) (hs:sizeOf cx k=1) (hu:cx.ti.get u=some v) (hut:v.ty= .bool) (hus:sizeOf cx u=1) (hti:cx.ti.get t=some i)
  (hty:i.ty= .struct [(0,k),(1,k),(2,u)]) (hsz:i.size=3) (h:Conf cx (m+1) t ts): ∃c:Input,ts=c.enc.cells∧c.ok:=by
 obtain ⟨h1,h2⟩:=Ahk hti hty h
 rw [hsz] at h1
 obtain ⟨n0,a0,b0⟩:=Af8 (j:=0) hk hkt hs h2 (by simp)
 obtain ⟨n1,a1,b1⟩:=Af8 (j:=1) hk hkt hs h2 (by simp)
 have h4:=h2 (2,u) (by simp)
 simp only [hus] at h4
 obtain ⟨n2,a2⟩:=AmF hu hut h4
 refine ⟨⟨n0,n1,n2⟩,?_,b0,b1⟩
 match ts,h1 with
 | [_,_,_],_=>simp_all [zr,T.cells]
theorem Ah8 (hti:cx.ti.get t=some i) (h: ∀fs,i.ty≠ .struct fs):isStruct cx t=false:=by
 unfold isStruct
 rw [hti]
 cases i with
 |mk ty s b q=>cases ty<;>simp_all
theorem Amu {fs:List (Nat×Nat)} (hti:cx.ti.get t=some i) (h:i.ty= .struct fs):isStruct cx t=true:=by
 unfold isStruct
 rw [hti]
 cases i with
 |mk ty s b q=>simp only at h;subst h;rfl
theorem AjO (hti:cx.ti.get t=some i) (hk:i.ty= .int .i64) {x:T} (h:Arg cx m t x): ∃n,x=ti n∧i64 n:=by
 obtain ⟨h1,h2,h3,h4⟩:=h
 obtain ⟨n,h5,h6⟩:=Ak1 hti hk h4
 rw [h3 (Ah8 hti (by rw [hk];simp))] at h5
 exact ⟨n,by simpa using h5,h6⟩
theorem An6 {α:Type} {f:α→T} {P:α→Prop} {fs:List (Nat×Nat)} (hti:cx.ti.get t=some i) (hk:i.ty= .struct fs) (hf: ∀e,∃l,f e= .agg l) (hc: ∀ {ts},Conf cx m t ts→ ∃e,ts=(f e).cells∧P e) {x:T} (h:Arg cx m t x): ∃e,x=f e∧P e:=by
 obtain ⟨h1,h2,h3,h4⟩:=h
 obtain ⟨l,rfl⟩:=h2 (Amu hti hk)
 obtain ⟨e,h5,h6⟩:=hc h4
 obtain ⟨l',hl⟩:=hf e
 rw [hl] at h5
 simp only [T.cells] at h5
 exact ⟨e,by rw [hl,h5],h6⟩
theorem AiK {α:Type} {f:α→T} {P:α→Prop} {e s:Nat} (hti:cx.ti.get t=some i) (hk:i.ty= .slice e) (hs:sizeOf cx e=s) (hc: ∀ {x},Arg cx m e x→ ∃a,x=f a∧P a) {x:T} (h:Arg cx (m+1) t x):
  ∃l:List α,x= .sl s (l.map f)∧(∀a∈l,P a)∧l.length≤maxLen∧l.length*bytesOf cx e≤reachBytes:=by
 obtain ⟨h1,h2,h3,h4⟩:=h
 obtain ⟨xs,h5,h6,h7,h8⟩:=Ale hti hk h4
 rw [h3 (Ah8 hti (by rw [hk];simp))] at h5
 obtain ⟨l,rfl,hl⟩:=Al5 (f:=f) (P:=P) fun x hx=>hc (h8 x hx)
 refine ⟨l,?_,hl,by simpa using h6,by simpa using h7⟩
 rw [←hs]
 simpa using h5
end
end Go.Eva