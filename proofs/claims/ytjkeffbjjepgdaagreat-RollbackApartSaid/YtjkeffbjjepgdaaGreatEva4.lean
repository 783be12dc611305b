/- A reading of the program, proved sound against the model, and what its functions answer by it: part 4. -/
import Derived.Test.YtjkeffbjjepgdaaGreatEva3
set_option linter.unusedSimpArgs false
set_option linter.unusedVariables false
open Bool renaming false → zq, true → zg, and_eq_true → zf, false_and → uf, true_and → u4
open List renaming length → zj, map → zw, getElem?_eq_some_iff → zh, replicate → zn, drop → z6, set → qz, getElem?_set_self → qw, getElem?_set_ne → qy, mem_cons → qf, getElem?_map → qb, drop_zero → qr, eq_nil_of_length_eq_zero → qi, append_assoc → ql, map_cons → qo, mem_cons_of_mem → qu, nil_append → jj, length_append → jx, mem_cons_self → jh, mem_append → jp, length_cons → j5, length_nil → xk, filter_cons → xp, cons_append → xr, map_append → vj, foldl_cons → wb, append_cons → uy, countP_le_length → pr, foldl_nil → pu, map_congr_left → dc, countP → bw, filter_nil → bh, drop_left' → md, take_left' → mf
open Option renaming none → zx, some → zb
open Go.Eva.Entity renaming enc → zk, mk → qh, zero → yq
open Go.IntKind renaming i64 → zy, u64 → zr
open Go.Eva.Cross renaming enc → zd, less → qk, cmp → ki
open Int renaming toNat → zm, fdiv → j7, fdiv_eq_ediv_of_nonneg → y4
open Go.Eva.Wp renaming ev → za
open Go.Eva.T renaming bool → zi, agg → qe, deep → jz, int → xc, row → yj, nilp → ke, clo → pe, box → dw
open Go.Eva.Res renaming mk → zl
open Go.Eva.Input renaming enc → zo
open Nat renaming le_refl → qn, zero_add → jk, le_of_ble_eq_true → jf
open Go.Eva.Sub renaming shut → jw, enc → dh
open Go.Eva.Ob renaming arr → jy, one → vh
open Go.Eva.Rec renaming ip → jg
open Go.Eva.Ex renaming exit → jr
open Go.Eva.V renaming all → xz, ptr → yn, agg → dp, fit → ng
open Go.Eva.Config renaming is_right → v8, of → uw, near → u6
open Go.Eva.Col renaming enc → wk
open Go.Eva.EngP renaming eng → yb, ob → gi, put → pb
open Go.Eva.Eng renaming enc → uu
open Go.Eva.Region renaming mk → ku
open Go.Eva.Stg renaming room → gx
namespace Go.Eva
open Go.RowKit
variable {cx:Cx}
theorem Ev.weak {f:Nat} {az:List V} {H:Heap} {vs vs':List V} {G G':Heap}
  (hw: ∀(ι:Io) (F:Nat→Prop) (w:Go.World) (v:Value),Good ι F w G→ResR ι F w G vs v→ ∃ι' F',Good ι' F' w G'∧Step ι F G w ι' F' G' w∧ResR ι' F' w G' vs' v)
  (h:Ev cx (.call f az H) (· =⟨.ret,vs,G⟩)):Ev cx (.call f az H) (· =⟨.ret,vs',G'⟩):=by
 intro P hc hfn w ι F vals hg hv;refine Calls.mono (h P hc hfn w ι F vals hg hv) ?_;rintro en w' ⟨x,v,ι',F',rfl,rfl,he,hg1,hr,hx⟩;obtain ⟨ι2,F2,h1,h2,h3⟩:=hw ι' F' w' v hg1 hr;exact ⟨_,v,ι2,F2,rfl,rfl,rfl,h1,h3,hx.trans (h2.ext _)⟩
theorem Ev.weak_fit {f:Nat} {az:List V} {H G:Heap} {s:Nat} {xs:List T} (h:Ev cx (.call f az H) (· =⟨.ret,[.fit s xs],G⟩)):Ev cx (.call f az H) (· =⟨.ret,[.t (.sl s xs)],G⟩):=by
 refine Ev.weak (fun ι F w v hg hr=>⟨ι,F,hg,.refl ..,?_⟩) h;cases hr with
 |fit _ _ a hh=>exact .t _ _ hh
theorem Ev.weak_all {f:Nat} {az:List V} {H G:Heap} {n s:Nat} {xs:List T} {sp:Option Nat} (hn:G[n]?=some (.arr s xs sp false)) (h:Ev cx (.call f az H) (· =⟨.ret,[.all n none],G⟩)):
  Ev cx (.call f az H) (· =⟨.ret,[.t (.sl s xs)],G.set n .dead⟩):=by
 refine Ev.weak (fun ι F w v hg hr=> ?_) h;obtain ⟨hg1,hs1⟩:=AlF hg [n];have hfz:fz [n] G (0+1) (.all n none)=some (.sl s xs):=by simp [fz,mem,Aae,hn]
 have hx:=((fz_ok hg [n] (0+1)).1 _ _ v hfz hr).1;have hro:(roAll 0 [n] G)[n]?=some (roOb (.arr s xs sp false)):=by rw [Acj,hn];simp
 obtain ⟨hg2,hs2⟩:=AbH hg1 hro;have e:(roAll 0 [n] G).set n .dead=G.set n .dead:=by
  apply List.ext_getElem?;intro i;by_cases hi:i=n
  ·subst hi;have h1:=(zh.1 hro).1;have h2:=(zh.1 hn).1;rw [qw h1,qw h2]
  ·rw [qy (Ne.symm hi),qy (Ne.symm hi),Acj];cases hgi:G[i]? with
   |none=>rfl
   |some o=>simp [hi]
 rw [e] at hg2 hs2;exact ⟨_,_,hg2,hs1.trans hs2,.t _ _ hx⟩
end Go.Eva
namespace Go.Eva
open Go.RowKit
variable {cx:Cx}
theorem Ev.weak_dead {f:Nat} {az vs:List V} {H G:Heap} (h:Ev cx (.call f az H) (· =⟨.ret,vs,G⟩)):Ev cx (.call f az H) (· =⟨.ret,vs,G++ [.dead]⟩):=by
 refine Ev.weak (fun ι F w v hg hr=> ?_) h;obtain ⟨hg1,hs1⟩:=Adp hg 1 (by omega);obtain ⟨hg2,hs2⟩:=AbH (id:=G.length) (o:= .arr 1 [] none false) hg1 (by simp);have e:(G++ [jy 1 [] none false]).set G.length .dead=G++ [.dead]:=by simp
 rw [e] at hg2 hs2;refine ⟨_,_,hg2,hs1.trans hs2,?_⟩;exact Ady rfl hr fun i v v' u hv hv' hu=>by
  rw [hv] at hv';obtain rfl:=Option.some.inj hv';exact (hs1.trans hs2).vr hg hu
end Go.Eva
namespace Go.Eva.S8
abbrev baseT (s:Region):T:= .agg [ti s.frame,.sl 9 (s.ents.map zk),.sl 15 []]
theorem AdU (c:Config) (r:Int) (s:Region) (hn:small s.ents):Fn cx 58 [c.enc,ti r,baseT s] (.bool (regionRight c r s)):=by
 have h:=AdQ c r s hn;cases hr:regionRight c r s with
 |true=>
  rw [hr] at h;have hL:Is cx (.loop 58 [0,1,0,1,1] 0 [vi r,.ptr 0 0 0,.ptr 1 0 0,vb zq,.t (.sl 15 []),vi 0,vi 0] [.one 5 (.t c.enc) zq,.one 3 (.t (baseT s)) zq]) ⟨.exit 0,[vi r,.ptr 0 0 0,.ptr 1 0 0,vb zq,.t (.sl 15 []),vi 0,vi 0],[.one 5 (.t c.enc) zq,.one 3 (.t (baseT s)) zq]⟩:=by
   exact za (gg [.b (decide (0<0)) zq] ⟨bK,tI⟩ ge)
  exact za (gg [.a _ _,.b (!Bool.true) zq,.l 0,.a _ _] ⟨o_a h,bK,o_a hL,tI⟩ ge)
 |false=>
  rw [hr] at h;exact za (gg [.a _ _,.b (!Bool.false) zg] ⟨o_a h,bK,tI⟩ ge)
theorem AdT (s:Region) (hn:small s.ents):Fn cx 59 [s.enc] s.enc:=by
 have h:=Aa0 s.ents hn;exact za (gg [.a _ _] ⟨o_a h,tI⟩ ge)
theorem Agn (p:EngP) (r:Int) (s:Region) (hn:small s.ents) (hk:r∉p.rs) (hl:p.subs.length=p.rs.length) (hr:regionRight p.c r s=zg):
  Is cx (.call 15 [.ptr 0 0 0,vi r,.agg [vi s.frame,.t (.sl 9 (s.ents.map zk)),.fit 15 []]] [p.ob]) ⟨.ret,[vi 0],[(p.add r s).ob]⟩:=by
 have h1:=AkY p.c r;have h2:=AdU p.c r s hn;have h3:=AdT s hn;have h4:Is cx (.call 60 [.t (.sl 15 [])] []) ⟨.ret,[.t (.sl 15 [])],[.dead]⟩:=Ev.weak_all (n:=0) rfl (Aas [] (by simp [small]));have h5:=Acm {p.eng with ks:=(p.rs++ [r]).map ti,xs:=(p.subs++ [Sub.new s]).map jw} s.frame;have hi:(decide (0≤r)&&decide (r<p.c.regions))=zg:=by
  have:p.c.is r=zg:=by simp only [regionRight,zf] at hr;exact hr.1.1.1.1
  have h0:=(Config.is_iff (v8 this)).1 this;simp;simp [Config.regions,v8 this];omega
 have hf:=AiL hk;have hkb:=AaR p.rs;rw [hr] at h2;simp only [hi] at h1;have e1:p.rs.map ti++ [ti r]=(p.rs++ [r]).map ti:=by simp
 have e2:(p.subs.map jw++ [ke]).set (p.rs.map ti).length (.box 10 (.agg [ti s.frame,.sl 9 (s.ents.map zk),.sl 15 [],.row 1 [],.row 1 [],.bool zq,ti 0,.sl 15 [],ti 0,ti 0]))=(p.subs++ [Sub.new s]).map jw:=by
  rw [Ak7 (by simp [hl]),vj];rfl
 have e3:(p.rs.map ti).length=p.rs.length:=by simp
 obtain ⟨c,cols,rs,subs,now,dirty,steps⟩:=p;simp only [EngP.add,gi,yb] at*;generalize noneT c=outs at*;generalize (rs++ [r]).map ti=RS at*;generalize (subs++ [Sub.new s]).map jw=XS at*;generalize rs.map ti=KS at*;generalize subs.map jw=SS at*;obtain ⟨ZS,e0⟩: ∃ZS,SS++ [ke]=ZS:=⟨_,rfl⟩
 rw [e0] at e2;exact za (gg [.ff,.s (T.ip 11 (qe [T.ip 1 (qe [T.sl 3 (zw wk cols)]) 0,ti c.cols,ti c.rows,ti c.players,ti c.window,xc zr c.seed,T.ip 1 (qe [T.sl 1 (deeps outs)]) 0,T.mp KS (deeps SS),ti now,ti dirty,ti steps]) 0),.a _ _,.b (!Bool.true) zq,.f zy r KS zx,.b (!Bool.true) zq,.a _ _,.b (!Bool.true) zq,.a _ _,.a _ _,.f zy r KS zx,.t (T.sl 0 (KS++ [ti r])) (T.sl 0 RS),.t (T.sl 0 (SS++ [ke])) (T.sl 0 ZS),.l (zj KS),.t (T.sl 0 (qz ZS (zj KS) (dw 10 (qe [ti s.frame,T.sl 9 (zw zk s.ents),T.sl 15 [],yj 1 [],yj 1 [],zi zq,ti 0,T.sl 15 [],ti 0,ti 0])))) (T.sl 0 XS),.a _ _] ⟨o_a (h1 (T.ip 1 (qe [T.sl 3 (zw wk cols)]) 0) (T.ip 1 (qe [T.sl 1 (deeps outs)]) 0) (T.mp KS (deeps SS)) (ti now) (ti dirty) (ti steps)),bK,oQ hf,bK,o_a h2,bK,o_a h3,o_a h4,oQ hf,o_l e1,o_l e0,o_l e2,o_a h5,tI⟩ ge)
end Go.Eva.S8
namespace Go.Eva.S8
abbrev storeT (D:List T):T:= .ip 1 (.agg [.sl 1 D]) 0
theorem Ah0 (D:List T) (i:Nat) (hi:D[i]?=zb (.mp [] [])) (hl:D.length≤16):Is cx (.call 153 [.t (storeT D),vi i] []) ⟨.ret,[vb zg],[]⟩:=by
 have h:=(zh.1 hi).1;refine za (gg [.b (decide ((i:Int)≥0)) zg,.tt,.tt,.tt,.tt,.tt,.l (zj D),.tt,.tt] ⟨bK,tI⟩ (rT (a:=zl Ex.ret [vb (decide ((i:Int)<(↑(zj D):Int)))] []) ?_));simp [h]
theorem Aep (D:List T) (i:Nat) (f:Int) (hi:D[i]?=zb (.mp [] [])) (hl:D.length≤16):Fn cx 121 [storeT D,ti i,ti f] (.bool zq):=by
 have h:=Ah0 D i hi hl;exact za (gg [.ff,.ff,.ff,.ff,.ff,.a _ _,.ff,.ff,.b (!Bool.true) zq,.w (0≤(i:Int)),.n (zm (i:Int)) i,.g D i (T.mp [] []),.f zy f [] zx] ⟨o_a h,bK,oW,nK,o_g hi (by intro h;cases h),oF,tI⟩ ge)
theorem AdW (D:List T) (i:Nat) (f:Int) (hi:D[i]?=zb (.mp [] [])) (hl:D.length≤16):Is cx (.call 234 [.t (storeT D),vi i,vi f] []) ⟨.ret,[.all 0 zx,vb zq],[.arr 15 [] zx zq]⟩:=by
 have h:=Ah0 D i hi hl;have h4:Is cx (.call 60 [.t (.sl 15 [])] []) ⟨.ret,[.all 0 zx],[.arr 15 [] zx zq]⟩:=Aas [] (by simp [small]);exact za (gg [.ff,.ff,.ff,.ff,.ff,.a _ _,.ff,.ff,.b (!Bool.true) zq,.w (0≤(i:Int)),.n (zm (i:Int)) i,.g D i (T.mp [] []),.f zy f [] zx,.a _ _] ⟨o_a h,bK,oW,nK,o_g hi (by intro h;cases h),oF,o_a h4,tI⟩ ge)
end Go.Eva.S8
namespace Go.Eva.S8
abbrev obO (e:Eng) (m:Nat):Ob:= .one 11 (.agg [.t (.box 1 (.agg [.row 3 (e.cols.map wk)])),vi e.c.cols,vi e.c.rows,vi e.c.players,vi e.c.window,.t (.int .u64 e.c.seed),.t (.box 1 (.agg [.vrow 1 e.outs])),.map m,vi e.now,vi e.dirty,vi e.steps]) zq
abbrev focA (p:EngP) (k:Nat) (s:Sub):Heap:= [obO p.eng 1,.map (p.rs.map ti) (p.subs.map jw) [(k,.ptr 2 0 0)],.one 10 (.t s.enc) zq]
theorem Aew (p:EngP) (k:Nat) (s:Sub) (q:Nat) (f:Int) (hq:(q:Int)<p.c.regions) (hf:findIx .i64 q (p.rs.map ti)=zx):
  Is cx (.call 188 [.ptr 0 0 0,vi q,vi f] (focA p k s)) ⟨.ret,[.fit 15 []],focA p k s⟩:=by
 have hG:=AdW (deeps (noneT p.c)) q f (Add hq) Ade;have hkb:=AaR p.rs;obtain ⟨c,cols,rs,subs,now,dirty,steps⟩:=p;simp only [yb,focA] at*;generalize noneT c=outs at*;generalize rs.map ti=KS at*;generalize subs.map jw=SS at*;exact za (gg [.s (T.ip 1 (qe [T.sl 1 (deeps outs)]) 0),.a _ _,.w (flat2s []=zg),.ff,.f zy (q:Int) KS zx,.b (!Bool.true) zq,.ff,.ff,.ff,.ff] ⟨o_a hG,o_w (by kernel_rfl),oQ hf,bK,tI⟩ ge)
theorem Aev (p:EngP) (k:Nat) (s:Sub) (q:Nat) (f:Int) (hq:(q:Int)<p.c.regions) (hf:findIx .i64 q (p.rs.map ti)=zb k) (hs:s.Fit) (hfr: -100≤f∧f≤20000):
  Is cx (.call 188 [.ptr 0 0 0,vi q,vi f] (focA p k s)) ⟨.ret,[.t (.sl 15 ((s.out f).map zd))],focA p k s⟩:=by
 have hG:=AdW (deeps (noneT p.c)) q f (Add hq) Ade;have hkb:=AaR p.rs;have hH:=Ajk s.base.frame f (s.recs.map jg);have hF:=Aax s.base.frame;obtain ⟨hb,hr,hsu⟩:=hs;replace hH:=fun x1 x2 x4 x5 x6 x7 x8 x9=>hH x1 x2 x4 x5 x6 x7 x8 x9 hb hfr (by simpa using hr);obtain ⟨c,cols,rs,subs,now,dirty,steps⟩:=p;simp only [yb,focA] at*;generalize noneT c=outs at*;generalize rs.map ti=KS at*;generalize subs.map jw=SS at*;by_cases h:s.base.frame≤f∧f-s.base.frame<s.recs.length
 ·have e:s.out f=(gt s.recs (f-s.base.frame).toNat).out:=if_pos h;rw [e];have hb1:(decide (s.base.frame≤f)&&decide (f-s.base.frame<((s.recs.map jg).length:Nat)))=zg:=by simp;exact h
  simp only [hb1] at hH;obtain ⟨j,hj⟩: ∃j:Nat,(f-s.base.frame).toNat=j:=⟨_,rfl⟩
  have hj2:f-s.base.frame=j:=by omega
  have hjl:j<s.recs.length:=by omega
  rw [hj];exact za (gg [.s (T.ip 1 (qe [T.sl 1 (deeps outs)]) 0),.a _ _,.w (flat2s []=zg),.ff,.f zy (q:Int) KS (zb k),.b (decide (k=k)) zg,.b (!Bool.false) zg,.tt,.tt,.s (T.ip 10 (qe [ti s.base.frame,T.sl 9 (zw zk s.base.ents),T.sl 15 [],T.sl 1 (zw jg s.recs),T.sl 1 (zw zi s.sure),zi s.settled,ti s.now,jz (inbT s.inb),ti s.mark,ti s.ready]) 0),.a _ _,.tt,.tt,.s (T.ip 10 (qe [ti s.base.frame,T.sl 9 (zw zk s.base.ents),T.sl 15 [],T.sl 1 (zw jg s.recs),T.sl 1 (zw zi s.sure),zi s.settled,ti s.now,jz (inbT s.inb),ti s.mark,ti s.ready]) 0),.a _ _,.i zy (f-s.base.frame) (j:Int)] ⟨o_a hG,o_w (by kernel_rfl),oQ hf,t_brp rfl,bK,o_a (hH (T.sl 9 (zw zk s.base.ents)) (T.sl 15 []) (T.sl 1 (zw zi s.sure)) (zi s.settled) (ti s.now) (jz (inbT s.inb)) (ti s.mark) (ti s.ready)),o_a (hF (T.sl 9 (zw zk s.base.ents)) (T.sl 15 []) (T.sl 1 (zw jg s.recs)) (T.sl 1 (zw zi s.sure)) (zi s.settled) (ti s.now) (jz (inbT s.inb)) (ti s.mark) (ti s.ready)),oI,tI⟩ (gg [.w (0≤(j:Int)),.n (zm (j:Int)) j,.w (j<zj (zw jg s.recs)),.g (zw jg s.recs) j (jg (gt s.recs j))] ⟨oW,nK,oS,oH,tI⟩ ge))
 ·have e:s.out f= []:=if_neg h;rw [e];have hb1:(decide (s.base.frame≤f)&&decide (f-s.base.frame<((s.recs.map jg).length:Nat)))=zq:=by rw [Bool.eq_false_iff];simp;intro h1;simp at h;have:=h h1;omega
  simp only [hb1] at hH;refine Ev.weak_fit ?_;exact za (gg [.s (T.ip 1 (qe [T.sl 1 (deeps outs)]) 0),.a _ _,.w (flat2s []=zg),.ff,.f zy (q:Int) KS (zb k),.b (decide (k=k)) zg,.b (!Bool.false) zg,.tt,.tt,.s (T.ip 10 (qe [ti s.base.frame,T.sl 9 (zw zk s.base.ents),T.sl 15 [],T.sl 1 (zw jg s.recs),T.sl 1 (zw zi s.sure),zi s.settled,ti s.now,jz (inbT s.inb),ti s.mark,ti s.ready]) 0),.a _ _,.tt,.ff] ⟨o_a hG,o_w (by kernel_rfl),oQ hf,t_brp rfl,bK,o_a (hH (T.sl 9 (zw zk s.base.ents)) (T.sl 15 []) (T.sl 1 (zw zi s.sure)) (zi s.settled) (ti s.now) (jz (inbT s.inb)) (ti s.mark) (ti s.ready)),tI⟩ ge)
theorem Aeu (p:EngP) (k i:Nat) (s:Sub) (q:Nat) (f:Int) (hq:(q:Int)<p.c.regions) (hf:findIx .i64 q (p.rs.map ti)=zb i) (hik:i≠k) (hil:i<p.subs.length) (hs:(gt p.subs i).Fit) (hfr: -100≤f∧f≤20000):
  Is cx (.call 188 [.ptr 0 0 0,vi q,vi f] (focA p k s)) ⟨.ret,[.t (.sl 15 (((gt p.subs i).out f).map zd))],focA p k s⟩:=by
 have hG:=AdW (deeps (noneT p.c)) q f (Add hq) Ade;have hkb:=AaR p.rs;have hset:=AhE (f:=jw) hil;have hget:(p.subs.map jw)[i]?=zb (gt p.subs i).shut:=by rw [qb,Aa7 hil];rfl
 generalize gt p.subs i=t at*;have hH:=Ajk t.base.frame f (t.recs.map jg);have hF:=Aax t.base.frame;obtain ⟨hb,hr,hsu⟩:=hs;replace hH:=fun x1 x2 x4 x5 x6 x7 x8 x9=>hH x1 x2 x4 x5 x6 x7 x8 x9 hb hfr (by simpa using hr);obtain ⟨c,cols,rs,subs,now,dirty,steps⟩:=p;simp only [yb,focA] at*;generalize noneT c=outs at*;generalize rs.map ti=KS at*;generalize subs.map jw=SS at*;by_cases h:t.base.frame≤f∧f-t.base.frame<t.recs.length
 ·have e:t.out f=(gt t.recs (f-t.base.frame).toNat).out:=if_pos h;rw [e];have hb1:(decide (t.base.frame≤f)&&decide (f-t.base.frame<((t.recs.map jg).length:Nat)))=zg:=by simp;exact h
  simp only [hb1] at hH;obtain ⟨j,hj⟩: ∃j:Nat,(f-t.base.frame).toNat=j:=⟨_,rfl⟩
  have hj2:f-t.base.frame=j:=by omega
  have hjl:j<t.recs.length:=by omega
  rw [hj];simp only [jw,dh] at hset hget;exact za (gg [.s (T.ip 1 (qe [T.sl 1 (deeps outs)]) 0),.a _ _,.w (flat2s []=zg),.ff,.f zy (q:Int) KS (zb i),.b (decide (i=k)) zq,.g SS i (dw 10 (qe [ti t.base.frame,T.sl 9 (zw zk t.base.ents),T.sl 15 [],yj 1 (zw jg t.recs),yj 1 (zw zi t.sure),zi t.settled,ti t.now,inbT t.inb,ti t.mark,ti t.ready])),.b (!Bool.false) zg,.tt,.tt,.s (T.ip 10 (qe [ti t.base.frame,T.sl 9 (zw zk t.base.ents),T.sl 15 [],T.sl 1 (zw jg t.recs),T.sl 1 (zw zi t.sure),zi t.settled,ti t.now,jz (inbT t.inb),ti t.mark,ti t.ready]) 0),.a _ _,.tt,.tt,.s (T.ip 10 (qe [ti t.base.frame,T.sl 9 (zw zk t.base.ents),T.sl 15 [],T.sl 1 (zw jg t.recs),T.sl 1 (zw zi t.sure),zi t.settled,ti t.now,jz (inbT t.inb),ti t.mark,ti t.ready]) 0),.a _ _] ⟨o_a hG,o_w (by kernel_rfl),oQ hf,fA,o_g hget (by intro h;cases h),bK,o_a (hH (T.sl 9 (zw zk t.base.ents)) (T.sl 15 []) (T.sl 1 (zw zi t.sure)) (zi t.settled) (ti t.now) (jz (inbT t.inb)) (ti t.mark) (ti t.ready)),o_a (hF (T.sl 9 (zw zk t.base.ents)) (T.sl 15 []) (T.sl 1 (zw jg t.recs)) (T.sl 1 (zw zi t.sure)) (zi t.settled) (ti t.now) (jz (inbT t.inb)) (ti t.mark) (ti t.ready)),tI⟩ (gg [.i zy (f-t.base.frame) (j:Int),.w (0≤(j:Int)),.n (zm (j:Int)) j,.w (j<zj (zw jg t.recs)),.g (zw jg t.recs) j (jg (gt t.recs j)),.t (T.sl 0 (qz SS i (dw 10 (qe [ti t.base.frame,T.sl 9 (zw zk t.base.ents),T.sl 15 [],yj 1 (zw jg t.recs),yj 1 (zw zi t.sure),zi t.settled,ti t.now,inbT t.inb,ti t.mark,ti t.ready])))) (T.sl 0 SS)] ⟨oI,oW,nK,oS,oH,o_l hset,tI⟩ ge))
 ·have e:t.out f= []:=if_neg h;rw [e];have hb1:(decide (t.base.frame≤f)&&decide (f-t.base.frame<((t.recs.map jg).length:Nat)))=zq:=by rw [Bool.eq_false_iff];simp;intro h1;simp at h;have:=h h1;omega
  simp only [hb1] at hH;refine Ev.weak_fit ?_;simp only [jw,dh] at hset hget;exact za (gg [.s (T.ip 1 (qe [T.sl 1 (deeps outs)]) 0),.a _ _,.w (flat2s []=zg),.ff,.f zy (q:Int) KS (zb i),.b (decide (i=k)) zq,.g SS i (dw 10 (qe [ti t.base.frame,T.sl 9 (zw zk t.base.ents),T.sl 15 [],yj 1 (zw jg t.recs),yj 1 (zw zi t.sure),zi t.settled,ti t.now,inbT t.inb,ti t.mark,ti t.ready])),.b (!Bool.false) zg,.tt,.tt,.s (T.ip 10 (qe [ti t.base.frame,T.sl 9 (zw zk t.base.ents),T.sl 15 [],T.sl 1 (zw jg t.recs),T.sl 1 (zw zi t.sure),zi t.settled,ti t.now,jz (inbT t.inb),ti t.mark,ti t.ready]) 0),.a _ _,.tt,.ff,.t (T.sl 0 (qz SS i (dw 10 (qe [ti t.base.frame,T.sl 9 (zw zk t.base.ents),T.sl 15 [],yj 1 (zw jg t.recs),yj 1 (zw zi t.sure),zi t.settled,ti t.now,inbT t.inb,ti t.mark,ti t.ready])))) (T.sl 0 SS)] ⟨o_a hG,o_w (by kernel_rfl),oQ hf,fA,o_g hget (by intro h;cases h),bK,o_a (hH (T.sl 9 (zw zk t.base.ents)) (T.sl 15 []) (T.sl 1 (zw zi t.sure)) (zi t.settled) (ti t.now) (jz (inbT t.inb)) (ti t.mark) (ti t.ready)),o_l hset,tI⟩ ge)
end Go.Eva.S8
namespace Go.Eva
theorem AdV {q:Int}: ∀ {ks:List Int} {i:Nat},findIx .i64 q (ks.map ti)=some i→i<ks.length∧gt ks i=q
 | [],_,h=>by simp [findIx] at h
 |k::r,i,h=>by
  simp only [qo,findIx,decide_true] at h;cases hq:(q==k) with
  |true=>
   rw [hq] at h;simp at h;subst h;have:q=k:=by simpa using hq
   simp [gt,this]
  |false=>
   rw [hq] at h;simp only at h;cases hf:findIx .i64 q (r.map ti) with
   |none=>rw [hf] at h;simp at h
   |some j=>
    rw [hf] at h;simp at h;subst h;obtain ⟨h1,h2⟩:=AdV hf;exact ⟨by simpa using h1,by simpa [gt] using h2⟩
def does1 (cols:List Col) (f:Int) (x:List Input×Bool) (id:Int):List Input×Bool:=(x.1.set (id-1).toNat ((gt cols (id-1).toNat).at f).1,x.2&&((gt cols (id-1).toNat).at f).2)
def doesL (cols:List Col) (f:Int) (ids:List Int) (x:List Input×Bool):List Input×Bool:=ids.foldl (does1 cols f) x
def idleL (n:Nat):List Input:=zn n ⟨0,0,false⟩
def EngP.made (p:EngP) (r:Int) (s:Sub) (f:Int):Rec×Bool:=
 let st:=s.at f
 let inb:=p.come r s f
 let y:=doesL p.cols f (presentL st.ents inb) (idleL p.cols.length,true)
 (⟨st,inb,y.1,(stepP p.c r st y.1 inb).1,(stepP p.c r st y.1 inb).2.1⟩,y.2)
def Sub.look (s:Sub) (f:Int) (x:Rec) (b:Bool):Sub×Int:=
 if (f-s.base.frame).toNat<s.recs.length then
  if (gt s.recs (f-s.base.frame).toNat).asks x.st x.inb x.ins then ({s with sure:=s.sure.set (f-s.base.frame).toNat b},0)
  else ({s with sure:=s.sure.set (f-s.base.frame).toNat b,recs:=s.recs.set (f-s.base.frame).toNat x},1)
 else ({s with recs:=s.recs++ [x],sure:=s.sure++ [b]},1)
theorem AiK: ∀(l:List Int),keyInts (l.map ti)=l
 | []=>rfl
 |x::r=>by simp [keyInts,AiK r]
theorem AnM: ∀ {l:List Int} {n:Int},n∉l→newI n l=true
 | [],_,_=>rfl
 |m::r,n,h=>by
  simp only [qf,not_or] at h;unfold newI;rw [show (n==m)=false by simpa using h.1];exact AnM h.2
theorem Alj: ∀ {l:List Int},l.Nodup→(∀x∈l,-9223372036854775808≤x∧x≤9223372036854775807)→goodI l=true
 | [],_,_=>rfl
 |x::l,hn,h=>by
  obtain ⟨h1,h2⟩:=List.nodup_cons.1 hn;simp only [goodI,zf,decide_eq_true_eq];exact ⟨⟨h x (by simp),AnM h1⟩,Alj h2 fun y hy=>h y (by simp [hy])⟩
theorem AnC {p:EngP} (h:p.Fit):goodKeys (p.rs.map ti)=true:=by
 have hlen:=h.few;simp only [goodKeys,zf];refine ⟨⟨AaR _,?_⟩,by simp;omega⟩;rw [AiK];exact Alj h.nd fun x hx=>by have:=h.rs x hx;have:= @Config.regions_le p.c;omega
def EngP.order (p:EngP):List Int:=sortI p.rs
theorem All {n x:Int}: ∀ {l:List Int},x∈insI n l↔x=n∨x∈l
 | []=>by simp [insI]
 |m::r=>by
  unfold insI;split
  ·simp
  ·simp only [qf,All (l:=r)];constructor
   ·rintro (h|h|h)<;>simp [h]
   ·rintro (h|h|h)<;>simp [h]
theorem AjQ {x:Int}: ∀ {l:List Int},x∈sortI l↔x∈l
 | []=>by simp [sortI]
 |n::r=>by simp only [sortI,All,AjQ (l:=r),qf]
theorem Alk {n:Int}: ∀ {l:List Int},(insI n l).length=l.length+1
 | []=>rfl
 |m::r=>by unfold insI;split<;>simp [Alk (l:=r)]
theorem AjP: ∀ {l:List Int},(sortI l).length=l.length
 | []=>rfl
 |n::r=>by simp [sortI,Alk,AjP (l:=r)]
def EngP.ix (p:EngP) (r:Int):Option Nat:=findIx .i64 r (p.rs.map ti)
def EngP.look1 (p:EngP) (f:Int) (r:Int):EngP×Int:=match p.ix r with
 |some k=>if (gt p.subs k).base.frame≤f then (p.put k ((gt p.subs k).look f (p.made r (gt p.subs k) f).1 (p.made r (gt p.subs k) f).2).1,((gt p.subs k).look f (p.made r (gt p.subs k) f).1 (p.made r (gt p.subs k) f).2).2) else (p,0)
 |none=>(p,0)
def EngP.lookL (f:Int):EngP×Int→List Int→EngP×Int
 |x,[]=>x
 |x,r::l=>EngP.lookL f ((x.1.look1 f r).1,x.2+(x.1.look1 f r).2) l
def EngP.lookF (l:List Int):Nat→Int→EngP×Int→EngP×Int
 |0,_,x=>x
 |d+1,f,x=>EngP.lookF l d (f+1) (EngP.lookL f x l)
theorem Adx {p:EngP} {k:Nat} (h:k<p.subs.length):p.put k (gt p.subs k)=p:=by
 have:=AhE (f:=fun (s:Sub)=>s) h;simp only [List.map_id'] at this;simp [pb,this]
end Go.Eva
namespace Go.Eva.S8
theorem Ais (p:EngP) (k:Nat) (s:Sub) (q:Nat) (f:Int) (hp:p.Fit) (hk:k<p.subs.length) (hs:s.Fit) (hq:(q:Int)<p.c.regions) (hfr: -100≤f∧f≤20000):
  Is cx (.call 188 [.ptr 0 0 0,vi q,vi f] (focA p k s)) ⟨.ret,[.t (.sl 15 (((p.put k s).emit q f).map zd))],focA p k s⟩:=by
 cases hf:findIx .i64 (q:Int) (p.rs.map ti) with
 |none=>
  rw [Ang hf];exact Ev.weak_fit (Aew p k s q f hq hf)
 |some i=>
  have hi:=(AdV hf).1;rw [←hp.len] at hi;by_cases hik:i=k
  ·subst hik;rw [Anf hf hk];exact Aev p i s q f hq hf hs hfr
  ·rw [Ane hf hik];exact Aeu p k i s q f hq hf hik hi (hp.subs i hi) hfr
abbrev focB (p:EngP) (k:Nat) (s:Sub):Heap:= [obO p.eng 2,.one 10 (.t s.enc) zq,.map (p.rs.map ti) (p.subs.map jw) [(k,.ptr 1 0 0)]]
theorem AeU (p:EngP) (k:Nat) (s:Sub) (r f:Int) (hp:p.Fit) (hk:k<p.subs.length) (hs:s.Fit) (hfr:0≤f∧f≤20000) (ho: ∀q,((p.put k s).emit q (f-1)).length≤10000) (l:List Int) (hl:l.length≤9) (hin: ∀q∈l,0≤q∧q<p.c.regions):
  ∀(d i:Nat) (A:List Cross),i+d=l.length→A.length≤10000*i→
  Is cx (.loop 116 [0,1,0,1,1,1] 3 [.ptr 0 0 0,vi r,.ptr 1 0 0,vi f,.all 3 zx,.t (.sl 1 (l.map ti)),vi l.length,vi i] (focB p k s++ [.arr 15 (A.map zd) zx zq]))
   ⟨.exit 0,[.ptr 0 0 0,vi r,.ptr 1 0 0,vi f,.all 3 zx,.t (.sl 1 (l.map ti)),vi l.length,vi l.length],focB p k s++ [.arr 15 ((A++comeL (fun q=>(p.put k s).emit q (f-1)) r (l.drop i)).map zd) zx zq]⟩:=by
 intro d;induction d with
 |zero=>
  intro i A hi hA;rw [Aad (by omega)];have e:A++comeL (fun q=>(p.put k s).emit q (f-1)) r []=A:=by simp [comeL]
  rw [e];obtain rfl:i=l.length:=by omega
  simp only [focB,xr,jj];clear ho;exact za (gg [.b (decide ((↑(zj l):Int)<(↑(zj l):Int))) zq] ⟨fP,tI⟩ ge)
 |succ d ih=>
  intro i A hi hA;have hlt:i<l.length:=by omega
  have hmem:=Aat hlt;obtain ⟨q,hq⟩: ∃q:Nat,gt l i=q:=⟨(gt l i).toNat,by have:=hin _ hmem;omega⟩
  have hq2:=(hin _ hmem).2;rw [hq] at hq2;have hE:=Ais p k s q (f-1) hp hk hs hq2 (by omega);have hol:=ho (q:Int);have hT:Is cx (.call 187 [.t (.sl 15 (((p.put k s).emit q (f-1)).map zd)),.t (ti r)] []) ⟨.ret,[.t (.sl 15 ((toL ((p.put k s).emit q (f-1)) r).map zd))],[.dead]⟩:=Ev.weak_all (n:=0) rfl (Amm ((p.put k s).emit q (f-1)) r (by unfold small;omega));have htl:= @Aqu ((p.put k s).emit q (f-1)) r;have ih1:=ih (i+1) (A++toL ((p.put k s).emit q (f-1)) r) (by omega) (by simp;omega);have e:A++comeL (fun q=>(p.put k s).emit q (f-1)) r (l.drop i)=(A++toL ((p.put k s).emit q (f-1)) r)++comeL (fun q=>(p.put k s).emit q (f-1)) r (l.drop (i+1)):=by
   rw [Aaf hlt,hq];simp [comeL]
  rw [e];generalize (A++toL ((p.put k s).emit q (f-1)) r)++comeL (fun q=>(p.put k s).emit q (f-1)) r (l.drop (i+1))=Z at*;clear ih ho e;generalize (p.put k s).emit q (f-1)=O at*;have hgl:l[i]?=zb (q:Int):=by rw [←hq];exact Aa7 hlt
  simp only [focB,focA,xr,jj] at*;generalize p.rs.map ti=KS at*;generalize p.subs.map jw=SS at*;exact za (gg [.b (decide ((i:Int)<(↑(zj l):Int))) zg,.w (0≤(i:Int)),.n (zm (i:Int)) i,.g (zw ti l) i (ti (q:Int)),.i zy (f-1) (f-1),.a _ _,.a _ _,.w ((0:Nat)<(120:Nat)),.s (T.sl 0 (zw zd (toL O r))),.t (T.sl 0 (zw zd A++zw zd (toL O r))) (T.sl 0 (zw zd (A++toL O r))),.w (room (zj (zw zd (A++toL O r))) (120:Nat)),.i zy ((i:Int)+1) (↑(i+1):Int),.a _ _] ⟨tP,oW,nK,o_gm rfl hgl (by intro h;cases h),oI,o_a hE,o_a hT,oW,o_l (Aa3 rfl rfl),oR,oI,o_a ih1,tI⟩ ge)
theorem AeT (p:EngP) (k:Nat) (s:Sub) (r:Int):Is cx (.call 116 [.ptr 0 0 0,vi r,.ptr 1 0 0,vi s.base.frame] (focB p k s)) ⟨.ret,[.t (.sl 15 [])],focB p k s⟩:=by
 have hF:=Aax s.base.frame;simp only [focB];generalize p.rs.map ti=KS at*;generalize p.subs.map jw=SS at*;exact za (gg [.s (T.ip 10 (qe [ti s.base.frame,T.sl 9 (zw zk s.base.ents),T.sl 15 [],T.sl 1 (zw jg s.recs),T.sl 1 (zw zi s.sure),zi s.settled,ti s.now,jz (inbT s.inb),ti s.mark,ti s.ready]) 0),.a _ _,.b (s.base.frame==s.base.frame) zg] ⟨o_a (hF (T.sl 9 (zw zk s.base.ents)) (T.sl 15 []) (T.sl 1 (zw jg s.recs)) (T.sl 1 (zw zi s.sure)) (zi s.settled) (ti s.now) (jz (inbT s.inb)) (ti s.mark) (ti s.ready)),t_bre rfl,tI⟩ ge)
theorem Af0 (p:EngP) (k:Nat) (s:Sub) (r f:Int) (hp:p.Fit) (hk:k<p.subs.length) (hs:s.Fit) (hfr:0≤f∧f≤20000) (ho: ∀q,((p.put k s).emit q (f-1)).length≤10000) (hr:p.c.is r=zg):
  Is cx (.call 116 [.ptr 0 0 0,vi r,.ptr 1 0 0,vi f] (focB p k s)) ⟨.ret,[.t (.sl 15 (((p.put k s).come r s f).map zd))],focB p k s++ [.dead]⟩:=by
 by_cases hb:f=s.base.frame
 ·have e:(p.put k s).come r s f= []:=if_pos hb;rw [e];subst hb;exact Ev.weak_dead (AeT p k s r)
 ·have e:(p.put k s).come r s f=comeL (fun q=>(p.put k s).emit q (f-1)) r (p.c.near r):=if_neg hb;rw [e];have hL:=AeU p k s r f hp hk hs hfr ho (p.c.near r) AaI (fun q hq=>Ak2 hr hq) (p.c.near r).length 0 [] (by omega) (by simp);rw [qr,jj] at hL;clear ho e;generalize comeL (fun q=>(p.put k s).emit q (f-1)) r (p.c.near r)=Z at*;have hF:=Aax s.base.frame;have hN:=AaS p.c r;have hns:= @AaI p.c r;generalize p.c.near r=NL at*;refine Ev.weak_all (G:=focB p k s++ [.arr 15 (Z.map zd) zx zq]) (n:=3) rfl ?_;simp only [focB,xr,jj] at*;generalize p.rs.map ti=KS at*;generalize p.subs.map jw=SS at*;exact za (gg [.s (T.ip 10 (qe [ti s.base.frame,T.sl 9 (zw zk s.base.ents),T.sl 15 [],T.sl 1 (zw jg s.recs),T.sl 1 (zw zi s.sure),zi s.settled,ti s.now,jz (inbT s.inb),ti s.mark,ti s.ready]) 0),.a _ _,.b (f==s.base.frame) zq,.a _ _,.n (zj (zw ti NL)) (zj NL),.a _ _] ⟨o_a (hF (T.sl 9 (zw zk s.base.ents)) (T.sl 15 []) (T.sl 1 (zw jg s.recs)) (T.sl 1 (zw zi s.sure)) (zi s.settled) (ti s.now) (jz (inbT s.inb)) (ti s.mark) (ti s.ready)),fQ,o_a hN,oM,o_a hL,tI⟩ ge)
end Go.Eva.S8
namespace Go.Eva.S8
abbrev tabT (cols:List Col):T:= .ip 1 (.agg [.sl 3 (cols.map wk)]) 0
theorem Ago (c:Config) (cols:List Col) (x6 x7 x8 x9 x10:T) (f:Int) (ids:List Int) (hids: ∀id∈ids,1≤id∧id≤cols.length) (hn:small ids) (h6:cols.length≤6) (hl: ∀k∈cols,k.l.length≤10000):
  ∀(d i:Nat) (A:List Input) (b:Bool),i+d=ids.length→A.length=cols.length→
  Is cx (.loop 117 [0,1,0,1,1] 0 [.t (.ip 11 (eA c (tabT cols) x6 x7 x8 x9 x10) 0),vi f,.all 0 zx,vb b,.t (.sl 1 (ids.map ti)),vi ids.length,vi i] [.arr 3 (A.map zo) (zb 0) zq])
   ⟨.exit 0,[.t (.ip 11 (eA c (tabT cols) x6 x7 x8 x9 x10) 0),vi f,.all 0 zx,vb (doesL cols f (ids.drop i) (A,b)).2,.t (.sl 1 (ids.map ti)),vi ids.length,vi ids.length],[.arr 3 ((doesL cols f (ids.drop i) (A,b)).1.map zo) (zb 0) zq]⟩:=by
 unfold small at hn;intro d;induction d with
 |zero=>
  intro i A b hi hA;rw [Aad (by omega)];have e:doesL cols f [] (A,b)=(A,b):=rfl;rw [e];obtain rfl:i=ids.length:=by omega
  clear hl hids;exact za (gg [.b (decide ((↑(zj ids):Int)<(↑(zj ids):Int))) zq] ⟨fP,tI⟩ ge)
 |succ d ih=>
  intro i A b hi hA;have hlt:i<ids.length:=by omega
  have hid:=hids _ (Aat hlt);obtain ⟨j,hj⟩: ∃j:Nat,gt ids i=((j+1:Nat):Int):=⟨(gt ids i-1).toNat,by omega⟩
  have hjl:j<cols.length:=by omega
  have hA':=Amk cols j f hjl h6 (hl _ (Aat hjl));have e1:doesL cols f (ids.drop i) (A,b)=doesL cols f (ids.drop (i+1)) (A.set j ((gt cols j).at f).1,b&&((gt cols j).at f).2):=by
   rw [Aaf hlt];simp only [doesL,wb,does1,hj];rw [show (((j+1:Nat):Int)-1).toNat=j by omega]
  have ih1:=ih (i+1) (A.set j ((gt cols j).at f).1) (b&&((gt cols j).at f).2) (by omega) (by simpa using hA);rw [e1];generalize doesL cols f (ids.drop (i+1)) (A.set j ((gt cols j).at f).1,b&&((gt cols j).at f).2)=Z at*;obtain ⟨Z1,Z2⟩:=Z;have hg:ids[i]?=zb ((j+1:Nat):Int):=by rw [←hj];exact Aa7 hlt
  clear ih hl hids e1 hid hj;generalize (gt cols j).at f=y at*;obtain ⟨y1,y2⟩:=y;simp only at*;cases b with
  |true=>
   rw [u4] at ih1;exact za (gg [.b (decide ((i:Int)<(↑(zj ids):Int))) zg,.w (0≤(i:Int)),.n (zm (i:Int)) i,.g (zw ti ids) i (ti (↑(j+1):Int)),.a _ _,.i zy ((↑(j+1):Int)-1) ((↑(j+1):Int)-1),.w (0≤(↑(j+(1:Nat)):Int)-(1:Int)),.n (zm ((↑(j+1):Int)-1)) j,.w (j<zj (zw zo A)),.w (j<zj (zw zo A)),.t (T.sl 0 (qz (zw zo A) j (zo y1))) (T.sl 0 (zw zo (qz A j y1))),.tt,.tt,.i zy ((i:Int)+1) (↑(i+1):Int),.a _ _] ⟨tP,oW,nK,o_gm rfl hg (by intro h;cases h),o_a hA',oI,oW,oN,oS,oS,o_l (Aaq rfl rfl),oI,o_a ih1,tI⟩ ge)
  |false=>
   rw [uf] at ih1;exact za (gg [.b (decide ((i:Int)<(↑(zj ids):Int))) zg,.w (0≤(i:Int)),.n (zm (i:Int)) i,.g (zw ti ids) i (ti (↑(j+1):Int)),.a _ _,.i zy ((↑(j+1):Int)-1) ((↑(j+1):Int)-1),.w (0≤(↑(j+(1:Nat)):Int)-(1:Int)),.n (zm ((↑(j+1):Int)-1)) j,.w (j<zj (zw zo A)),.w (j<zj (zw zo A)),.t (T.sl 0 (qz (zw zo A) j (zo y1))) (T.sl 0 (zw zo (qz A j y1))),.ff,.ff,.i zy ((i:Int)+1) (↑(i+1):Int),.a _ _] ⟨tP,oW,nK,o_gm rfl hg (by intro h;cases h),o_a hA',oI,oW,oN,oS,oS,o_l (Aaq rfl rfl),oI,o_a ih1,tI⟩ ge)
theorem Amn (c:Config) (cols:List Col) (x6 x7 x8 x9 x10:T) (f:Int) (ids:List Int) (hids: ∀id∈ids,1≤id∧id≤cols.length) (hn:small ids) (h6:cols.length≤6) (hl: ∀k∈cols,k.l.length≤10000) (hc:(cols.length:Int)=c.players):
  Is cx (.call 117 [.t (.ip 11 (eA c (tabT cols) x6 x7 x8 x9 x10) 0),.t (.sl 1 (ids.map ti)),vi f] []) ⟨.ret,[.all 0 zx,vb (doesL cols f ids (idleL cols.length,zg)).2],[.arr 3 ((doesL cols f ids (idleL cols.length,zg)).1.map zo) zx zq]⟩:=by
 have h:=Ago c cols x6 x7 x8 x9 x10 f ids hids hn h6 hl ids.length 0 (idleL cols.length) zg (by omega) (by simp [idleL]);rw [qr] at h;have hp:c.players.toNat=cols.length:=by omega
 have hz:(idleL cols.length).map zo=zn c.players.toNat (qe [ti 0,ti 0,.bool zq]):=by
  rw [hp];simp only [idleL,List.map_replicate];rfl
 rw [hz] at h;clear hl hids;generalize doesL cols f ids (idleL cols.length,zg)=Z at*;obtain ⟨Z1,Z2⟩:=Z;unfold small at hn;exact za (gg [.w (0≤c.players∧c.players≤c.players∧room (zm c.players) (24:Nat)),.l (zm c.players),.n (zj (zw ti ids)) (zj ids),.a _ _] ⟨o_w ⟨(by omega),⟨(by omega),(by (simp [room,appendMax];omega))⟩⟩,oM,o_a h,tI⟩ ge)
end Go.Eva.S8
namespace Go.Eva.S8
def Ready (ins:List Input) (A:List Entity) (p:Entity):Prop:=(-1000000≤p.age∧p.age≤1000000)∧(p.kind=1→(1≤p.id∧p.id≤ins.length)∧ ∃x∈A,x.id=p.id)
theorem Anp (c:Config) (r f:Int) (ins:List Input) (hi0:ins.length≤1000000) (hr:0≤r∧r≤16) (hf:0≤f∧f≤10000) (R:List Entity) (hR:R.length≤1000): ∀(d i:Nat) (A:List Entity) (made:Int),i+d=R.length→A.length≤1000+i→0≤made∧made≤8→(∀j,i≤j→j<R.length→Ready ins A (gt R j))→
  Is cx (.loop 195 [0,1] 2 [.ptr 0 0 0,.t (.sl 3 (ins.map zo)),.all 1 zx,vi R.length,vi i] [.one 10 (stepV c r f made (.all 2 zx) (.fit 15 [])) zq,.arr 9 (R.map zk) zx zg,.arr 9 (A.map zk) zx zq])
   ⟨.exit 0,[.ptr 0 0 0,.t (.sl 3 (ins.map zo)),.all 1 zx,vi R.length,vi R.length],[.one 10 (stepV c r f ((R.drop i).foldl (steer1 c r f ins) ⟨A,made,[]⟩).made (.all 2 zx) (.fit 15 [])) zq,.arr 9 (R.map zk) zx zg,.arr 9 (((R.drop i).foldl (steer1 c r f ins) ⟨A,made,[]⟩).l.map zk) zx zq]⟩:=by
 intro d;induction d with
 |zero=>
  intro i A made hi hA hm hP;rw [Aad (by omega),pu];refine za (gg [.b (decide ((i:Int)<(↑(zj R):Int))) zq] ⟨fP,tI⟩ (rT (a:=zl (jr 0) [yn 0 0 0,V.t (T.sl 3 (zw zo ins)),xz 1 zx,vi (↑(zj R):Int),vi (i:Int)] [vh 10 (dp [vi c.cols,vi c.rows,vi c.players,vi c.window,V.t (xc zr c.seed),vi r,vi f,xz 2 zx,vi made,ng 15 []]) zq,jy 9 (zw zk R) zx zg,jy 9 (zw zk A) zx zq]) ?_))
  ((have hq:i=R.length:=by omega);subst hq;rfl)
 |succ d ih=>
  intro i A made hi hA hm hP;have hlt:i<R.length:=by omega
  rw [Aaf hlt,wb];obtain ⟨hage,hp⟩:=hP i (qn _) hlt;by_cases hk:(gt R i).kind=1
  ·obtain ⟨hid,hx⟩:=hp hk;have hS:=AdP (gt R i) (inAt ins (gt R i).id) hage;have hSid:=(@AgX (gt R i) (inAt ins (gt R i).id)).1;cases hb:(steerE (gt R i) (inAt ins (gt R i).id)).2 with
   |true=>
    rw [hb] at hS;cases hroom:gx ⟨A,made,[]⟩ with
    |true=>
     obtain ⟨hm1,_⟩:=Stg.room_iff.1 hroom;simp only at hm1;have hrm:=Aa6 c r f ⟨A,made,[]⟩ (by unfold small;simp only;omega);rw [hroom] at hrm;have hnum:=Abf c r f made A [] hr hf (by omega);have e1:steer1 c r f ins ⟨A,made,[]⟩ (gt R i)=⟨setId (put1 A (shootE (steerE (gt R i) (inAt ins (gt R i).id)).1 (inAt ins (gt R i).id) (numI c r f made))) (gt R i).id (steerE (gt R i) (inAt ins (gt R i).id)).1,made+1,[]⟩:=by simp [steer1,hk,hb,hroom]
     rw [e1];have hsh:=AdO (steerE (gt R i) (inAt ins (gt R i).id)).1 (inAt ins (gt R i).id) (numI c r f made);generalize hE:(steerE (gt R i) (inAt ins (gt R i).id)).1=E at*;generalize shootE E (inAt ins (gt R i).id) (numI c r f made)=sh at*;have hput:=Abn A [sh] (by omega) (by simp);change Is cx _ ⟨_,_,[.arr 9 ((put1 A sh).map zk) zx zq]⟩ at hput;have hpl:= @Acx A sh;have hx1:=AfX (e:=sh) hx;have ih1:=ih (i+1) (setId (put1 A sh) (gt R i).id E) (made+1) (by omega) (by rw [AeO];omega) (by omega) fun j h1 h2=>by
      obtain ⟨g1,g2⟩:=hP j (by omega) h2;exact ⟨g1,fun hk=>⟨(g2 hk).1,Adl hx1 hSid (AfX (g2 hk).2)⟩⟩
     obtain ⟨k,hk1,hk2,_⟩:=AbT hx1;rw [Ac2 hk1] at ih1⊢;have hF:=Aa2 (put1 A sh) (gt R i).id (by unfold small;omega);rw [hk1] at hF;generalize put1 A sh=B at*;generalize numI c r f made=nn at*;clear ih hP e1 hE hroom hx hx1 hk1;unfold inAt at hS hsh;refine za (gg [.b (decide ((i:Int)<(↑(zj R):Int))) zg,.w (0≤(i:Int)),.n (zm (i:Int)) i,.w (i<zj (zw zk R)),.g (zw zk R) i (zk (gt R i)),.b ((gt R i).kind !=1) zq,.i zy ((gt R i).id-1) ((gt R i).id-1),.w (0≤(gt R i).id-(1:Int)),.l (zm ((gt R i).id-1)),.g (zw zo ins) (zm ((gt R i).id-1)) (zo (gt ins (zm ((gt R i).id-1)))),.a _ _,.tt,.tt,.a _ _,.b (flats [zi zg]) zg,.tt] ⟨tP,oW,nK,oS,oH,fC,oI,oW,oT,o_a hS,o_a hrm,bK,tI⟩ (gg [.tt] tI (bO (bO (bO ?_ ?_) (bO (bO ?_ ?_) ?_)) (bO (bO (bO ?_ ?_) (bO (bO ?_ ?_) ?_)) (bO (bO (bO ?_ ?_) (bO (bO ?_ ?_) ?_)) ?_)))))
     all_goals
      exact gg [.a _ _,.a _ _,.a _ _,.a _ _,.b (flats [ti (k:Int)]) zg,.w (0≤(k:Int)),.n (zm (k:Int)) k,.w (k<zj (zw zk B)),.w (k<zj (zw zk B)),.t (T.sl 0 (qz (zw zk B) k (zk E))) (T.sl 0 (zw zk (qz B k E))),.i zy ((i:Int)+1) (↑(i+1):Int),.a _ _] ⟨o_a hnum,o_a hsh,o_a hput,o_a hF,bK,oW,nK,oS,oS,o_l (Aaq rfl rfl),oI,o_a ih1,tI⟩ ge
    |false=>
     have hrm:=Aa6 c r f ⟨A,made,[]⟩ (by unfold small;simp only;omega);rw [hroom] at hrm;have e1:steer1 c r f ins ⟨A,made,[]⟩ (gt R i)=⟨setId A (gt R i).id {(steerE (gt R i) (inAt ins (gt R i).id)).1 with age:=0},made,[]⟩:=by simp [steer1,hk,hb,hroom]
     rw [e1];generalize hE:(steerE (gt R i) (inAt ins (gt R i).id)).1=E at*;have ih1:=ih (i+1) (setId A (gt R i).id {E with age:=0}) made (by omega) (by rw [AeO];omega) hm fun j h1 h2=>by
      obtain ⟨g1,g2⟩:=hP j (by omega) h2;exact ⟨g1,fun hk=>⟨(g2 hk).1,Adl hx hSid (g2 hk).2⟩⟩
     obtain ⟨k,hk1,hk2,_⟩:=AbT hx;rw [Ac2 hk1] at ih1⊢;have hF:=Aa2 A (gt R i).id (by unfold small;omega);rw [hk1] at hF;clear ih hP e1 hE hroom hx hk1;unfold inAt at hS;exact za (gg [.b (decide ((i:Int)<(↑(zj R):Int))) zg,.w (0≤(i:Int)),.n (zm (i:Int)) i,.w (i<zj (zw zk R)),.g (zw zk R) i (zk (gt R i)),.b ((gt R i).kind !=1) zq,.i zy ((gt R i).id-1) ((gt R i).id-1),.w (0≤(gt R i).id-(1:Int)),.l (zm ((gt R i).id-1)),.g (zw zo ins) (zm ((gt R i).id-1)) (zo (gt ins (zm ((gt R i).id-1)))),.a _ _,.tt,.tt,.a _ _,.b (flats [zi zq]) zg,.tt] ⟨tP,oW,nK,oS,oH,fC,oI,oW,oT,o_a hS,o_a hrm,bK,tI⟩ (gg [.ff,.tt,.a _ _,.b (flats [ti (k:Int)]) zg,.w (0≤(k:Int)),.n (zm (k:Int)) k,.w (k<zj (zw zk A)),.w (k<zj (zw zk A)),.t (T.sl 0 (qz (zw zk A) k (qe [ti E.id,ti E.kind,ti E.x,ti E.y,ti E.vx,ti E.vy,ti E.health,ti 0,ti E.owner]))) (T.sl 0 (zw zk (qz A k (qh E.id E.kind E.x E.y E.vx E.vy E.health 0 E.owner)))),.i zy ((i:Int)+1) (↑(i+1):Int),.a _ _] ⟨o_a hF,bK,oW,nK,oS,oS,o_l (Aaq (e:=qh E.id E.kind E.x E.y E.vx E.vy E.health 0 E.owner) rfl rfl),oI,o_a ih1,tI⟩ ge))
   |false=>
    rw [hb] at hS;have e1:steer1 c r f ins ⟨A,made,[]⟩ (gt R i)=⟨setId A (gt R i).id (steerE (gt R i) (inAt ins (gt R i).id)).1,made,[]⟩:=by simp [steer1,hk,hb]
    rw [e1];generalize hE:(steerE (gt R i) (inAt ins (gt R i).id)).1=E at*;have ih1:=ih (i+1) (setId A (gt R i).id E) made (by omega) (by rw [AeO];omega) hm fun j h1 h2=>by
     obtain ⟨g1,g2⟩:=hP j (by omega) h2;exact ⟨g1,fun hk=>⟨(g2 hk).1,Adl hx hSid (g2 hk).2⟩⟩
    obtain ⟨k,hk1,hk2,_⟩:=AbT hx;rw [Ac2 hk1] at ih1⊢;have hF:=Aa2 A (gt R i).id (by unfold small;omega);rw [hk1] at hF;clear ih hP e1 hE hx hk1;unfold inAt at hS;exact za (gg [.b (decide ((i:Int)<(↑(zj R):Int))) zg,.w (0≤(i:Int)),.n (zm (i:Int)) i,.w (i<zj (zw zk R)),.g (zw zk R) i (zk (gt R i)),.b ((gt R i).kind !=1) zq,.i zy ((gt R i).id-1) ((gt R i).id-1),.w (0≤(gt R i).id-(1:Int)),.l (zm ((gt R i).id-1)),.g (zw zo ins) (zm ((gt R i).id-1)) (zo (gt ins (zm ((gt R i).id-1)))),.a _ _,.ff,.ff,.ff,.ff,.ff] ⟨tP,oW,nK,oS,oH,fC,oI,oW,oT,o_a hS,tI⟩ (gg [.a _ _,.b (flats [ti (k:Int)]) zg,.w (0≤(k:Int)),.n (zm (k:Int)) k,.w (k<zj (zw zk A)),.w (k<zj (zw zk A)),.t (T.sl 0 (qz (zw zk A) k (zk E))) (T.sl 0 (zw zk (qz A k E))),.i zy ((i:Int)+1) (↑(i+1):Int),.a _ _] ⟨o_a hF,bK,oW,nK,oS,oS,o_l (Aaq rfl rfl),oI,o_a ih1,tI⟩ ge))
  ·have e1:steer1 c r f ins ⟨A,made,[]⟩ (gt R i)=⟨A,made,[]⟩:=by simp [steer1,hk]
   rw [e1];have ih1:=ih (i+1) A made (by omega) (by omega) hm fun j h1 h2=>hP j (by omega) h2;clear ih hP e1;exact za (gg [.b (decide ((i:Int)<(↑(zj R):Int))) zg,.w (0≤(i:Int)),.n (zm (i:Int)) i,.w (i<zj (zw zk R)),.g (zw zk R) i (zk (gt R i)),.b ((gt R i).kind !=1) zg,.i zy ((i:Int)+1) (↑(i+1):Int),.a _ _] ⟨tP,oW,nK,oS,oH,tC,oI,o_a ih1,tI⟩ ge)
theorem Ano (c:Config) (r f:Int) (ins:List Input) (hi0:ins.length≤1000000) (hr:0≤r∧r≤16) (hf:0≤f∧f≤10000): ∀(d i:Nat) (A:List Entity) (made:Int),i+d=A.length→A.length≤1000→0≤made∧made≤8→(∀j,i≤j→j<A.length→Ready ins A (gt A j))→
  Is cx (.loop 195 [0,1] 2 [.ptr 0 0 0,.t (.sl 3 (ins.map zo)),.all 1 zx,vi A.length,vi i] [.one 10 (stepV c r f made (.all 1 zx) (.fit 15 [])) zq,.arr 9 (A.map zk) zx zq])
   ⟨.exit 0,[.ptr 0 0 0,.t (.sl 3 (ins.map zo)),.all 1 zx,vi A.length,vi A.length],[.one 10 (stepV c r f ((A.drop i).foldl (steer1 c r f ins) ⟨A,made,[]⟩).made (.all 1 zx) (.fit 15 [])) zq,.arr 9 (((A.drop i).foldl (steer1 c r f ins) ⟨A,made,[]⟩).l.map zk) zx zq]⟩∨
  ∃X:List Entity,Is cx (.loop 195 [0,1] 2 [.ptr 0 0 0,.t (.sl 3 (ins.map zo)),.all 1 zx,vi A.length,vi i] [.one 10 (stepV c r f made (.all 1 zx) (.fit 15 [])) zq,.arr 9 (A.map zk) zx zq])
   ⟨.exit 0,[.ptr 0 0 0,.t (.sl 3 (ins.map zo)),.all 1 zx,vi A.length,vi A.length],[.one 10 (stepV c r f ((A.drop i).foldl (steer1 c r f ins) ⟨A,made,[]⟩).made (.all 2 zx) (.fit 15 [])) zq,.arr 9 (X.map zk) zx zg,.arr 9 (((A.drop i).foldl (steer1 c r f ins) ⟨A,made,[]⟩).l.map zk) zx zq]⟩:=by
 intro d;induction d with
 |zero=>
  intro i A made hi hA hm hP;left;rw [Aad (by omega),pu];refine za (gg [.b (decide ((i:Int)<(↑(zj A):Int))) zq] ⟨fP,tI⟩ (rT (a:=zl (jr 0) [yn 0 0 0,V.t (T.sl 3 (zw zo ins)),xz 1 zx,vi (↑(zj A):Int),vi (i:Int)] [vh 10 (dp [vi c.cols,vi c.rows,vi c.players,vi c.window,V.t (xc zr c.seed),vi r,vi f,xz 1 zx,vi made,ng 15 []]) zq,jy 9 (zw zk A) zx zq]) ?_))
  ((have hq:i=A.length:=by omega);subst hq;rfl)
 |succ d ih=>
  intro i A made hi hA hm hP;have hlt:i<A.length:=by omega
  obtain ⟨hage,hp⟩:=hP i (qn _) hlt;rw [Aaf hlt,wb];have step: ∀(k:Nat) (E:Entity),find A (gt A i).id=k→(∃x∈A,x.id=(gt A i).id)→E.id=(gt A i).id→(A.set k E).drop (i+1)=A.drop (i+1)∧(A.set k E).length=A.length∧ ∀j,i+1≤j→j<(A.set k E).length→Ready ins (A.set k E) (gt (A.set k E) j):=by
   intro k E hk hx hE;have hki:=ApR hlt rfl hk;refine ⟨Anc (by simp) fun j h1 _=>Ajq (by omega),by simp,fun j h1 h2=> ?_⟩;rw [Ajq (by omega)];obtain ⟨g1,g2⟩:=hP j (by omega) (by simpa using h2);refine ⟨g1,fun hk2=>⟨(g2 hk2).1,?_⟩⟩;have:=Adl hx hE (g2 hk2).2
   rwa [Ac2 hk] at this
  by_cases hk:(gt A i).kind=1
  ·obtain ⟨hid,hx⟩:=hp hk;have hS:=AdP (gt A i) (inAt ins (gt A i).id) hage;have hSid:=(@AgX (gt A i) (inAt ins (gt A i).id)).1;cases hb:(steerE (gt A i) (inAt ins (gt A i).id)).2 with
   |true=>
    rw [hb] at hS;cases hroom:gx ⟨A,made,[]⟩ with
    |true=>
     right;refine ⟨A,?_⟩;obtain ⟨hm1,_⟩:=Stg.room_iff.1 hroom;simp only at hm1;have hrm:=Aa6 c r f ⟨A,made,[]⟩ (by unfold small;simp only;omega);rw [hroom] at hrm;have hnum:=Abf c r f made A [] hr hf (by omega);have e1:steer1 c r f ins ⟨A,made,[]⟩ (gt A i)=⟨setId (put1 A (shootE (steerE (gt A i) (inAt ins (gt A i).id)).1 (inAt ins (gt A i).id) (numI c r f made))) (gt A i).id (steerE (gt A i) (inAt ins (gt A i).id)).1,made+1,[]⟩:=by simp [steer1,hk,hb,hroom]
     rw [e1];have hsh:=AdO (steerE (gt A i) (inAt ins (gt A i).id)).1 (inAt ins (gt A i).id) (numI c r f made);generalize hE:(steerE (gt A i) (inAt ins (gt A i).id)).1=E at*;generalize shootE E (inAt ins (gt A i).id) (numI c r f made)=sh at*;have hput:=Abn A [sh] (by omega) (by simp);change Is cx _ ⟨_,_,[.arr 9 ((put1 A sh).map zk) zx zq]⟩ at hput;have hpl:= @Acx A sh;have hx1:=AfX (e:=sh) hx;have ih1:=Anp c r f ins hi0 hr hf A hA d (i+1) (setId (put1 A sh) (gt A i).id E) (made+1) (by omega) (by rw [AeO];omega) (by omega) fun j h1 h2=>by
      obtain ⟨g1,g2⟩:=hP j (by omega) h2;exact ⟨g1,fun hk=>⟨(g2 hk).1,Adl hx1 hSid (AfX (g2 hk).2)⟩⟩
     obtain ⟨k,hk1,hk2,_⟩:=AbT hx1;rw [Ac2 hk1] at ih1⊢;have hF:=Aa2 (put1 A sh) (gt A i).id (by unfold small;omega);rw [hk1] at hF;generalize put1 A sh=B at*;generalize numI c r f made=nn at*;clear ih hP e1 hE hroom hx hx1 hk1 step;unfold inAt at hS hsh;refine za (gg [.b (decide ((i:Int)<(↑(zj A):Int))) zg,.w (0≤(i:Int)),.n (zm (i:Int)) i,.w (i<zj (zw zk A)),.g (zw zk A) i (zk (gt A i)),.b ((gt A i).kind !=1) zq,.i zy ((gt A i).id-1) ((gt A i).id-1),.w (0≤(gt A i).id-(1:Int)),.l (zm ((gt A i).id-1)),.g (zw zo ins) (zm ((gt A i).id-1)) (zo (gt ins (zm ((gt A i).id-1)))),.a _ _,.tt,.tt,.a _ _,.b (flats [zi zg]) zg,.tt] ⟨tP,oW,nK,oS,oH,fC,oI,oW,oT,o_a hS,o_a hrm,bK,tI⟩ (gg [.tt] tI (bO (bO (bO ?_ ?_) (bO (bO ?_ ?_) ?_)) (bO (bO (bO ?_ ?_) (bO (bO ?_ ?_) ?_)) (bO (bO (bO ?_ ?_) (bO (bO ?_ ?_) ?_)) ?_)))))
     all_goals
      exact gg [.a _ _,.a _ _,.a _ _,.a _ _,.b (flats [ti (k:Int)]) zg,.w (0≤(k:Int)),.n (zm (k:Int)) k,.w (k<zj (zw zk B)),.w (k<zj (zw zk B)),.t (T.sl 0 (qz (zw zk B) k (zk E))) (T.sl 0 (zw zk (qz B k E))),.i zy ((i:Int)+1) (↑(i+1):Int),.a _ _] ⟨o_a hnum,o_a hsh,o_a hput,o_a hF,bK,oW,nK,oS,oS,o_l (Aaq rfl rfl),oI,o_a ih1,tI⟩ ge
    |false=>
     have hrm:=Aa6 c r f ⟨A,made,[]⟩ (by unfold small;simp only;omega);rw [hroom] at hrm;have e1:steer1 c r f ins ⟨A,made,[]⟩ (gt A i)=⟨setId A (gt A i).id {(steerE (gt A i) (inAt ins (gt A i).id)).1 with age:=0},made,[]⟩:=by simp [steer1,hk,hb,hroom]
     rw [e1];generalize hE:(steerE (gt A i) (inAt ins (gt A i).id)).1=E at*;obtain ⟨k,hk1,hk2,_⟩:=AbT hx;obtain ⟨s1,s2,s3⟩:=step k {E with age:=0} hk1 hx hSid;rw [Ac2 hk1];have ih1:=ih (i+1) (A.set k {E with age:=0}) made (by omega) (by omega) hm s3;rw [s1,s2] at ih1;have hF:=Aa2 A (gt A i).id (by unfold small;omega);rw [hk1] at hF;clear ih hP e1 hE hroom hx hk1 step s1 s2 s3;unfold inAt at hS;rcases ih1 with ih1|⟨X,ih1⟩
     ·left;exact za (gg [.b (decide ((i:Int)<(↑(zj A):Int))) zg,.w (0≤(i:Int)),.n (zm (i:Int)) i,.w (i<zj (zw zk A)),.g (zw zk A) i (zk (gt A i)),.b ((gt A i).kind !=1) zq,.i zy ((gt A i).id-1) ((gt A i).id-1),.w (0≤(gt A i).id-(1:Int)),.l (zm ((gt A i).id-1)),.g (zw zo ins) (zm ((gt A i).id-1)) (zo (gt ins (zm ((gt A i).id-1)))),.a _ _,.tt,.tt,.a _ _,.b (flats [zi zq]) zg,.tt] ⟨tP,oW,nK,oS,oH,fC,oI,oW,oT,o_a hS,o_a hrm,bK,tI⟩ (gg [.ff,.tt,.a _ _,.b (flats [ti (k:Int)]) zg,.w (0≤(k:Int)),.n (zm (k:Int)) k,.w (k<zj (zw zk A)),.w (k<zj (zw zk A)),.t (T.sl 0 (qz (zw zk A) k (qe [ti E.id,ti E.kind,ti E.x,ti E.y,ti E.vx,ti E.vy,ti E.health,ti 0,ti E.owner]))) (T.sl 0 (zw zk (qz A k (qh E.id E.kind E.x E.y E.vx E.vy E.health 0 E.owner)))),.i zy ((i:Int)+1) (↑(i+1):Int),.a _ _] ⟨o_a hF,bK,oW,nK,oS,oS,o_l (Aaq (e:=qh E.id E.kind E.x E.y E.vx E.vy E.health 0 E.owner) rfl rfl),oI,o_a ih1,tI⟩ ge))
     ·right;refine ⟨X,?_⟩;exact za (gg [.b (decide ((i:Int)<(↑(zj A):Int))) zg,.w (0≤(i:Int)),.n (zm (i:Int)) i,.w (i<zj (zw zk A)),.g (zw zk A) i (zk (gt A i)),.b ((gt A i).kind !=1) zq,.i zy ((gt A i).id-1) ((gt A i).id-1),.w (0≤(gt A i).id-(1:Int)),.l (zm ((gt A i).id-1)),.g (zw zo ins) (zm ((gt A i).id-1)) (zo (gt ins (zm ((gt A i).id-1)))),.a _ _,.tt,.tt,.a _ _,.b (flats [zi zq]) zg,.tt] ⟨tP,oW,nK,oS,oH,fC,oI,oW,oT,o_a hS,o_a hrm,bK,tI⟩ (gg [.ff,.tt,.a _ _,.b (flats [ti (k:Int)]) zg,.w (0≤(k:Int)),.n (zm (k:Int)) k,.w (k<zj (zw zk A)),.w (k<zj (zw zk A)),.t (T.sl 0 (qz (zw zk A) k (qe [ti E.id,ti E.kind,ti E.x,ti E.y,ti E.vx,ti E.vy,ti E.health,ti 0,ti E.owner]))) (T.sl 0 (zw zk (qz A k (qh E.id E.kind E.x E.y E.vx E.vy E.health 0 E.owner)))),.i zy ((i:Int)+1) (↑(i+1):Int),.a _ _] ⟨o_a hF,bK,oW,nK,oS,oS,o_l (Aaq (e:=qh E.id E.kind E.x E.y E.vx E.vy E.health 0 E.owner) rfl rfl),oI,o_a ih1,tI⟩ ge))
   |false=>
    rw [hb] at hS;have e1:steer1 c r f ins ⟨A,made,[]⟩ (gt A i)=⟨setId A (gt A i).id (steerE (gt A i) (inAt ins (gt A i).id)).1,made,[]⟩:=by simp [steer1,hk,hb]
    rw [e1];generalize hE:(steerE (gt A i) (inAt ins (gt A i).id)).1=E at*;obtain ⟨k,hk1,hk2,_⟩:=AbT hx;obtain ⟨s1,s2,s3⟩:=step k E hk1 hx hSid;rw [Ac2 hk1];have ih1:=ih (i+1) (A.set k E) made (by omega) (by omega) hm s3;rw [s1,s2] at ih1;have hF:=Aa2 A (gt A i).id (by unfold small;omega);rw [hk1] at hF;clear ih hP e1 hE hx hk1 step s1 s2 s3;unfold inAt at hS;rcases ih1 with ih1|⟨X,ih1⟩
    ·left;exact za (gg [.b (decide ((i:Int)<(↑(zj A):Int))) zg,.w (0≤(i:Int)),.n (zm (i:Int)) i,.w (i<zj (zw zk A)),.g (zw zk A) i (zk (gt A i)),.b ((gt A i).kind !=1) zq,.i zy ((gt A i).id-1) ((gt A i).id-1),.w (0≤(gt A i).id-(1:Int)),.l (zm ((gt A i).id-1)),.g (zw zo ins) (zm ((gt A i).id-1)) (zo (gt ins (zm ((gt A i).id-1)))),.a _ _,.ff,.ff,.ff,.ff,.ff] ⟨tP,oW,nK,oS,oH,fC,oI,oW,oT,o_a hS,tI⟩ (gg [.a _ _,.b (flats [ti (k:Int)]) zg,.w (0≤(k:Int)),.n (zm (k:Int)) k,.w (k<zj (zw zk A)),.w (k<zj (zw zk A)),.t (T.sl 0 (qz (zw zk A) k (zk E))) (T.sl 0 (zw zk (qz A k E))),.i zy ((i:Int)+1) (↑(i+1):Int),.a _ _] ⟨o_a hF,bK,oW,nK,oS,oS,o_l (Aaq rfl rfl),oI,o_a ih1,tI⟩ ge))
    ·right;refine ⟨X,?_⟩;exact za (gg [.b (decide ((i:Int)<(↑(zj A):Int))) zg,.w (0≤(i:Int)),.n (zm (i:Int)) i,.w (i<zj (zw zk A)),.g (zw zk A) i (zk (gt A i)),.b ((gt A i).kind !=1) zq,.i zy ((gt A i).id-1) ((gt A i).id-1),.w (0≤(gt A i).id-(1:Int)),.l (zm ((gt A i).id-1)),.g (zw zo ins) (zm ((gt A i).id-1)) (zo (gt ins (zm ((gt A i).id-1)))),.a _ _,.ff,.ff,.ff,.ff,.ff] ⟨tP,oW,nK,oS,oH,fC,oI,oW,oT,o_a hS,tI⟩ (gg [.a _ _,.b (flats [ti (k:Int)]) zg,.w (0≤(k:Int)),.n (zm (k:Int)) k,.w (k<zj (zw zk A)),.w (k<zj (zw zk A)),.t (T.sl 0 (qz (zw zk A) k (zk E))) (T.sl 0 (zw zk (qz A k E))),.i zy ((i:Int)+1) (↑(i+1):Int),.a _ _] ⟨o_a hF,bK,oW,nK,oS,oS,o_l (Aaq rfl rfl),oI,o_a ih1,tI⟩ ge))
  ·have e1:steer1 c r f ins ⟨A,made,[]⟩ (gt A i)=⟨A,made,[]⟩:=by simp [steer1,hk]
   rw [e1];have ih1:=ih (i+1) A made (by omega) hA hm fun j h1 h2=>hP j (by omega) h2;clear ih hP e1 step;rcases ih1 with ih1|⟨X,ih1⟩
   ·left;exact za (gg [.b (decide ((i:Int)<(↑(zj A):Int))) zg,.w (0≤(i:Int)),.n (zm (i:Int)) i,.w (i<zj (zw zk A)),.g (zw zk A) i (zk (gt A i)),.b ((gt A i).kind !=1) zg,.i zy ((i:Int)+1) (↑(i+1):Int),.a _ _] ⟨tP,oW,nK,oS,oH,tC,oI,o_a ih1,tI⟩ ge)
   ·right;refine ⟨X,?_⟩;exact za (gg [.b (decide ((i:Int)<(↑(zj A):Int))) zg,.w (0≤(i:Int)),.n (zm (i:Int)) i,.w (i<zj (zw zk A)),.g (zw zk A) i (zk (gt A i)),.b ((gt A i).kind !=1) zg,.i zy ((i:Int)+1) (↑(i+1):Int),.a _ _] ⟨tP,oW,nK,oS,oH,tC,oI,o_a ih1,tI⟩ ge)
theorem Ahn (c:Config) (r f:Int) (ins:List Input) (L:List Entity) (hi0:ins.length≤1000000) (hr:0≤r∧r≤16) (hf:0≤f∧f≤10000) (hL:L.length≤1000) (hP: ∀p∈L,(-1000000≤p.age∧p.age≤1000000)∧(p.kind=1→1≤p.id∧p.id≤ins.length)):
  Is cx (.call 195 [.ptr 0 0 0,.t (.sl 3 (ins.map zo))] [.one 10 (stepV c r f 0 (.all 1 zx) (.fit 15 [])) zq,.arr 9 (L.map zk) zx zq])
   ⟨.ret,[],[.one 10 (stepV c r f (steerS c r f ins ⟨L,0,[]⟩).made (.all 1 zx) (.fit 15 [])) zq,.arr 9 ((steerS c r f ins ⟨L,0,[]⟩).l.map zk) zx zq]⟩∨
  ∃X:List Entity,Is cx (.call 195 [.ptr 0 0 0,.t (.sl 3 (ins.map zo))] [.one 10 (stepV c r f 0 (.all 1 zx) (.fit 15 [])) zq,.arr 9 (L.map zk) zx zq])
   ⟨.ret,[],[.one 10 (stepV c r f (steerS c r f ins ⟨L,0,[]⟩).made (.all 2 zx) (.fit 15 [])) zq,.arr 9 (X.map zk) zx zg,.arr 9 ((steerS c r f ins ⟨L,0,[]⟩).l.map zk) zx zq]⟩:=by
 have h:=Ano c r f ins hi0 hr hf L.length 0 L 0 (by omega) hL (by omega) fun j _ h2=>by
  obtain ⟨g1,g2⟩:=hP _ (Aat h2);exact ⟨g1,fun hk=>⟨g2 hk,_,Aat h2,rfl⟩⟩
 rw [qr] at h;change _∨ ∃X,_ at h;unfold steerS;simp only;generalize L.foldl (steer1 c r f ins) ⟨L,0,[]⟩=S at*;obtain ⟨A,made,o⟩:=S;simp only at h⊢;rcases h with h|⟨X,h⟩
 ·left;exact za (gg [.n (zj (zw zk L)) (zj L),.a _ _] ⟨oM,o_a h,tI⟩ ge)
 ·right;refine ⟨X,?_⟩;exact za (gg [.n (zj (zw zk L)) (zj L),.a _ _] ⟨oM,o_a h,tI⟩ ge)
theorem Am2 {c:Config} {e:Entity} {l:List Entity}:moveL c (e::l)=(if (goE c e).2=zg then [(goE c e).1] else [])++moveL c l:=by
 unfold moveL;rw [xp];split<;>simp
theorem Ako (c:Config) (r f made:Int) (L:List Entity) (hn:small L) (ha: ∀e∈L,-1000000≤e.age∧e.age≤1000000): ∀(d i:Nat) (A:List Entity),i+d=L.length→A.length≤i→
  Is cx (.loop 196 [0,1,0,1] 2 [.ptr 0 0 0,.all 2 zx,.all 1 zx,vi L.length,vi i] [.one 10 (stepV c r f made (.all 1 zx) (.fit 15 [])) zq,.arr 9 (L.map zk) zx zq,.arr 9 (A.map zk) zx zq])
   ⟨.exit 0,[.ptr 0 0 0,.all 2 zx,.all 1 zx,vi L.length,vi L.length],[.one 10 (stepV c r f made (.all 1 zx) (.fit 15 [])) zq,.arr 9 (L.map zk) zx zq,.arr 9 ((A++moveL c (L.drop i)).map zk) zx zq]⟩:=by
 unfold small at hn;intro d;induction d with
 |zero=>
  intro i A hi hA;rw [Aad (by omega)];refine za (gg [.b (decide ((i:Int)<(↑(zj L):Int))) zq] ⟨fP,tI⟩ (rT (a:=zl (jr 0) [yn 0 0 0,xz 2 zx,xz 1 zx,vi (↑(zj L):Int),vi (i:Int)] [vh 10 (dp [vi c.cols,vi c.rows,vi c.players,vi c.window,V.t (xc zr c.seed),vi r,vi f,xz 1 zx,vi made,ng 15 []]) zq,jy 9 (zw zk L) zx zq,jy 9 (zw zk A) zx zq]) ?_))
  ((have hq:i=L.length:=by omega);subst hq;simp [moveL])
 |succ d ih=>
  intro i A hi hA;have hlt:i<L.length:=by omega
  have hG:=Akp c (gt L i) (ha _ (Aat hlt));have ih1:=ih (i+1) A (by omega) (by omega);have ih2:=ih (i+1) (A++ [(goE c (gt L i)).1]) (by omega) (by simp;omega);clear ih;rw [Aaf hlt,Am2];generalize goE c (gt L i)=eb at*;obtain ⟨e,b⟩:=eb;cases b with
  |true=>
   simp only [if_true];rw [←ql];clear ih1;refine za (gg [.b (decide ((i:Int)<(↑(zj L):Int))) zg,.w (0≤(i:Int)),.n (zm (i:Int)) i,.w (i<zj (zw zk L)),.g (zw zk L) i (zk (gt L i))] ⟨tP,oW,nK,oR,oH,tI⟩ (bO ?_ ?_))
   all_goals
    exact gg [.a _ _,.tt,.w ((0:Nat)<(72:Nat)),.t (T.sl 0 [zk e]) (T.sl 0 (zw zk [e])),.t (T.sl 0 (zw zk A++zw zk [e])) (T.sl 0 (zw zk (A++ [e]))),.w (room (zj (zw zk (A++ [e]))) (72:Nat)),.i zy ((i:Int)+1) (↑(i+1):Int),.a _ _] ⟨o_a hG,oW,o_l (Aa1 rfl AaC),o_l (Aa3 rfl rfl),oR,oJ,o_a ih2,tI⟩ ge
  |false=>
   simp only [Bool.false_eq_true,if_false,jj];clear ih2;refine za (gg [.b (decide ((i:Int)<(↑(zj L):Int))) zg,.w (0≤(i:Int)),.n (zm (i:Int)) i,.w (i<zj (zw zk L)),.g (zw zk L) i (zk (gt L i))] ⟨tP,oW,nK,oS,oH,tI⟩ (bO ?_ ?_))
   all_goals
    exact gg [.a _ _,.ff,.i zy ((i:Int)+1) (↑(i+1):Int),.a _ _] ⟨o_a hG,oI,o_a ih1,tI⟩ ge
theorem Aiy (c:Config) (r f made:Int) (L:List Entity) (hn:small L) (ha: ∀e∈L,-1000000≤e.age∧e.age≤1000000):
  Is cx (.call 196 [.ptr 0 0 0] [.one 10 (stepV c r f made (.all 1 zx) (.fit 15 [])) zq,.arr 9 (L.map zk) zx zq])
   ⟨.ret,[],[.one 10 (stepV c r f made (.all 2 zx) (.fit 15 [])) zq,.arr 9 (L.map zk) zx zq,.arr 9 ((moveL c L).map zk) zx zq]⟩:=by
 have h:=Ako c r f made L hn ha L.length 0 [] (by omega) (by simp);rw [qr,jj] at h;generalize moveL c L=X at*;exact za (gg [.n (zj (zw zk L)) (zj L),.a _ _] ⟨oM,o_a h,tI⟩ ge)
end Go.Eva.S8
namespace Go.Eva.S8
def blastAt (r f q:Int) (e:Entity):Cross:=⟨2,r,q,f,yq,e.x,e.y⟩
theorem AdK (c:Config) (r f made:Int) (A:List Entity) (k:Nat) (id:Int) (ids near:List Int) (i:Nat) (hk:k<A.length) (hA:A.length≤1000) (hids:ids.length≤1000) (hn:near.length≤9): ∀(d j:Nat) (o:List Cross),j+d=near.length→o.length≤50000+j→
  Is cx (.loop 200 [0,1,0,1,1,0,0,1,1,0,0,1] 2 [.ptr 0 0 0,vi id,.ptr 1 k 0,.all 2 zx,vi ids.length,vi i,.t (.sl 1 (near.map ti)),vi near.length,vi j] [.one 10 (stepV c r f made (.all 1 zx) (.all 3 zx)) zq,.arr 9 (A.map zk) zx zq,.arr 1 (ids.map ti) zx zq,.arr 15 (o.map zd) zx zq])
   ⟨.exit 2,[.ptr 0 0 0,vi id,.ptr 1 k 0,.all 2 zx,vi ids.length,vi i,.t (.sl 1 (near.map ti)),vi near.length,vi near.length],[.one 10 (stepV c r f made (.all 1 zx) (.all 3 zx)) zq,.arr 9 (A.map zk) zx zq,.arr 1 (ids.map ti) zx zq,.arr 15 ((o++(near.drop j).map fun q=>blastAt r f q (gt A k)).map zd) zx zq]⟩:=by
 intro d;induction d with
 |zero=>
  intro j o hj ho;rw [Aad (by omega)];refine za (gg [.b (decide ((j:Int)<(↑(zj near):Int))) zq] ⟨fP,tI⟩ (rT (a:=zl (jr 2) [yn 0 0 0,vi id,yn 1 k 0,xz 2 zx,vi (↑(zj ids):Int),vi (i:Int),V.t (T.sl 1 (zw ti near)),vi (↑(zj near):Int),vi (j:Int)] [vh 10 (dp [vi c.cols,vi c.rows,vi c.players,vi c.window,V.t (xc zr c.seed),vi r,vi f,xz 1 zx,vi made,xz 3 zx]) zq,jy 9 (zw zk A) zx zq,jy 1 (zw ti ids) zx zq,jy 15 (zw zd o) zx zq]) ?_))
  ((have hq:j=near.length:=by omega);subst hq;simp)
 |succ d ih=>
  intro j o hj ho;have hlt:j<near.length:=by omega
  have ih1:=ih (j+1) (o++ [blastAt r f (gt near j) (gt A k)]) (by omega) (by simp;omega);clear ih;rw [Aaf hlt,qo,uy];have hs:=AaZ c r f made A o ⟨2,0,gt near j,0,yq,(gt A k).x,(gt A k).y⟩ (by omega);unfold blastAt at ih1⊢;unfold yq at*;exact za (gg [.b (decide ((j:Int)<(↑(zj near):Int))) zg,.w (0≤(j:Int)),.n (zm (j:Int)) j,.g (zw ti near) j (ti (gt near j)),.g (zw zk A) k (zk (gt A k)),.g (zw zk A) k (zk (gt A k)),.a _ _,.i zy ((j:Int)+1) (↑(j+1):Int),.a _ _] ⟨tP,oW,nK,oH,oH,oH,o_a hs,oI,o_a ih1,tI⟩ ge)
theorem Ahd (c:Config) (r f made:Int) (A:List Entity) (k:Nat) (id:Int) (ids near:List Int) (i:Nat) (hk:k<A.length) (hA:A.length≤1000) (hids:ids.length≤1000) (hn:near.length≤9) (h0:0<near.length):
  Is cx (.loop 200 [0,1,0,1,1,0,0,1,1,0,0,1] 2 [.ptr 0 0 0,vi id,.ptr 1 k 0,.all 2 zx,vi ids.length,vi i,.t (.sl 1 (near.map ti)),vi near.length,vi 0] [.one 10 (stepV c r f made (.all 1 zx) (.fit 15 [])) zq,.arr 9 (A.map zk) zx zq,.arr 1 (ids.map ti) zx zq])
   ⟨.exit 2,[.ptr 0 0 0,vi id,.ptr 1 k 0,.all 2 zx,vi ids.length,vi i,.t (.sl 1 (near.map ti)),vi near.length,vi near.length],[.one 10 (stepV c r f made (.all 1 zx) (.all 3 zx)) zq,.arr 9 (A.map zk) zx zq,.arr 1 (ids.map ti) zx zq,.arr 15 ((near.map fun q=>blastAt r f q (gt A k)).map zd) zx zq]⟩:=by
 have hs:=AcQ c r f made A ⟨2,0,gt near 0,0,yq,(gt A k).x,(gt A k).y⟩;have ih1:=AdK c r f made A k id ids near i hk hA hids hn (near.length-1) 1 [blastAt r f (gt near 0) (gt A k)] (by omega) (by simp);have e:near.map (fun q=>blastAt r f q (gt A k))= [blastAt r f (gt near 0) (gt A k)]++(near.drop 1).map fun q=>blastAt r f q (gt A k):=by
  have:=Aaf h0;rw [qr] at this
  conv=>lhs;rw [this,qo]
  rfl
 rw [e];unfold blastAt at ih1⊢;unfold yq at*;exact za (gg [.b (decide (0<(↑(zj near):Int))) zg,.w (0≤(0:Int)),.l 0,.g (zw ti near) 0 (ti (gt near 0)),.g (zw zk A) k (zk (gt A k)),.g (zw zk A) k (zk (gt A k)),.a _ _,.i zy 1 1,.a _ _] ⟨tP,oW,oH,oH,oH,o_a hs,oK,o_a ih1,tI⟩ ge)
theorem Ahf (c:Config) (r f made:Int) (ids:List Int) (hids:ids.length≤1000): ∀(d i:Nat) (A:List Entity) (o:List Cross),i+d=ids.length→A.length≤1000→o.length≤9*i+9→(∀id∈ids.drop i,∃x∈A,x.id=id)→
  Is cx (.loop 200 [0,1] 2 [.ptr 0 0 0,.all 2 zx,vi ids.length,vi i] [.one 10 (stepV c r f made (.all 1 zx) (.all 3 zx)) zq,.arr 9 (A.map zk) zx zq,.arr 1 (ids.map ti) zx zq,.arr 15 (o.map zd) zx zq])
   ⟨.exit 0,[.ptr 0 0 0,.all 2 zx,vi ids.length,vi ids.length],[.one 10 (stepV c r f made (.all 1 zx) (.all 3 zx)) zq,.arr 9 (((ids.drop i).foldl (fall1 c r f) ⟨A,made,o⟩).l.map zk) zx zq,.arr 1 (ids.map ti) zx zq,.arr 15 (((ids.drop i).foldl (fall1 c r f) ⟨A,made,o⟩).out.map zd) zx zq]⟩:=by
 intro d;induction d with
 |zero=>
  intro i A o hi hA ho hP;rw [Aad (by omega),pu];refine za (gg [.b (decide ((i:Int)<(↑(zj ids):Int))) zq] ⟨fP,tI⟩ (rT (a:=zl (jr 0) [yn 0 0 0,xz 2 zx,vi (↑(zj ids):Int),vi (i:Int)] [vh 10 (dp [vi c.cols,vi c.rows,vi c.players,vi c.window,V.t (xc zr c.seed),vi r,vi f,xz 1 zx,vi made,xz 3 zx]) zq,jy 9 (zw zk A) zx zq,jy 1 (zw ti ids) zx zq,jy 15 (zw zd o) zx zq]) ?_))
  ((have hq:i=ids.length:=by omega);subst hq;rfl)
 |succ d ih=>
  intro i A o hi hA ho hP;have hlt:i<ids.length:=by omega
  have hd:=Aaf hlt;have hx:=hP (gt ids i) (by rw [hd];exact jh ..);obtain ⟨k,hk1,hk2,_⟩:=AbT hx;have hns:= @AaI c r;have hlenb:(o++blastsAt c r f (gt A k)).length≤9*(i+1)+9:=by simp [blastsAt];omega
  have ih1:=ih (i+1) (A.set k (anewE c r f (gt ids i) (gt A k))) (o++blastsAt c r f (gt A k)) (by omega) (by simpa using hA) hlenb fun id hid=>by
   have:=hP id (by rw [hd];exact qu _ hid);exact Akz (Afh (e:=anewE c r f (gt ids i) (gt A k)) hk2 rfl).symm this
  rw [hd,wb];have e1:fall1 c r f ⟨A,made,o⟩ (gt ids i)=⟨A.set k (anewE c r f (gt ids i) (gt A k)),made,o++blastsAt c r f (gt A k)⟩:=by simp [fall1,hk1]
  rw [e1];have hF:=Aa2 A (gt ids i) (by unfold small;omega);rw [hk1] at hF;have hN:=AaS c r;have hB:=AdK c r f made A k (gt ids i) ids (c.near r) i hk2 hA hids hns (c.near r).length 0 o (by omega) (by omega);rw [qr] at hB;change Is cx _ ⟨_,_,[_,_,_,.arr 15 ((o++blastsAt c r f (gt A k)).map zd) zx zq]⟩ at hB;generalize blastsAt c r f (gt A k)=bl at*;have hpl:=Abl c r f 1 2 (gt ids i) ⟨A.set k {gt A k with health:=100,vx:=0,vy:=0,age:=0},made,o++bl⟩;clear ih hP e1 hx hk1 hd hlenb;unfold anewE at ih1⊢;exact za (gg [.b (decide ((i:Int)<(↑(zj ids):Int))) zg,.w (0≤(i:Int)),.n (zm (i:Int)) i,.w (i<zj (zw ti ids)),.g (zw ti ids) i (ti (gt ids i)),.a _ _,.b (flats [ti (k:Int)]) zg,.w (0≤(k:Int)),.n (zm (k:Int)) k,.w (k<zj (zw zk A)),.a _ _,.n (zj (zw ti (u6 c r))) (zj (u6 c r)),.a _ _,.g (zw zk A) k (zk (gt A k)),.t (T.sl 0 (qz (zw zk A) k (qe [ti (gt A k).id,ti (gt A k).kind,ti (gt A k).x,ti (gt A k).y,ti (gt A k).vx,ti (gt A k).vy,ti 100,ti (gt A k).age,ti (gt A k).owner]))) (T.sl 0 (zw zk (qz A k (qh (gt A k).id (gt A k).kind (gt A k).x (gt A k).y (gt A k).vx (gt A k).vy 100 (gt A k).age (gt A k).owner)))),.g (zw zk (qz A k (qh (gt A k).id (gt A k).kind (gt A k).x (gt A k).y (gt A k).vx (gt A k).vy 100 (gt A k).age (gt A k).owner))) k (zk (qh (gt A k).id (gt A k).kind (gt A k).x (gt A k).y (gt A k).vx (gt A k).vy 100 (gt A k).age (gt A k).owner))] ⟨tP,oW,nK,oS,oH,o_a hF,bK,oW,nK,oS,o_a hN,oM,o_a hB,oH,o_l (Aaq (e:=qh (gt A k).id (gt A k).kind (gt A k).x (gt A k).y (gt A k).vx (gt A k).vy 100 (gt A k).age (gt A k).owner) rfl rfl),o_gm rfl (AbU (by omega)) (by intro h;cases h),tI⟩ (gg [.t (T.sl 0 (qz (zw zk (qz A k (qh (gt A k).id (gt A k).kind (gt A k).x (gt A k).y (gt A k).vx (gt A k).vy 100 (gt A k).age (gt A k).owner))) k (qe [ti (gt A k).id,ti (gt A k).kind,ti (gt A k).x,ti (gt A k).y,ti 0,ti (gt A k).vy,ti 100,ti (gt A k).age,ti (gt A k).owner]))) (T.sl 0 (zw zk (qz A k (qh (gt A k).id (gt A k).kind (gt A k).x (gt A k).y 0 (gt A k).vy 100 (gt A k).age (gt A k).owner)))),.g (zw zk (qz A k (qh (gt A k).id (gt A k).kind (gt A k).x (gt A k).y 0 (gt A k).vy 100 (gt A k).age (gt A k).owner))) k (zk (qh (gt A k).id (gt A k).kind (gt A k).x (gt A k).y 0 (gt A k).vy 100 (gt A k).age (gt A k).owner)),.t (T.sl 0 (qz (zw zk (qz A k (qh (gt A k).id (gt A k).kind (gt A k).x (gt A k).y 0 (gt A k).vy 100 (gt A k).age (gt A k).owner))) k (qe [ti (gt A k).id,ti (gt A k).kind,ti (gt A k).x,ti (gt A k).y,ti 0,ti 0,ti 100,ti (gt A k).age,ti (gt A k).owner]))) (T.sl 0 (zw zk (qz A k (qh (gt A k).id (gt A k).kind (gt A k).x (gt A k).y 0 0 100 (gt A k).age (gt A k).owner)))),.g (zw zk (qz A k (qh (gt A k).id (gt A k).kind (gt A k).x (gt A k).y 0 0 100 (gt A k).age (gt A k).owner))) k (zk (qh (gt A k).id (gt A k).kind (gt A k).x (gt A k).y 0 0 100 (gt A k).age (gt A k).owner)),.t (T.sl 0 (qz (zw zk (qz A k (qh (gt A k).id (gt A k).kind (gt A k).x (gt A k).y 0 0 100 (gt A k).age (gt A k).owner))) k (qe [ti (gt A k).id,ti (gt A k).kind,ti (gt A k).x,ti (gt A k).y,ti 0,ti 0,ti 100,ti 0,ti (gt A k).owner]))) (T.sl 0 (zw zk (qz A k (qh (gt A k).id (gt A k).kind (gt A k).x (gt A k).y 0 0 100 0 (gt A k).owner)))),.a _ _,.b (flats [ti (placeX c r f 1 (gt ids i)),ti (placeY c r f 2 (gt ids i))]) zg,.g (zw zk (qz A k (qh (gt A k).id (gt A k).kind (gt A k).x (gt A k).y 0 0 100 0 (gt A k).owner))) k (zk (qh (gt A k).id (gt A k).kind (gt A k).x (gt A k).y 0 0 100 0 (gt A k).owner)),.t (T.sl 0 (qz (zw zk (qz A k (qh (gt A k).id (gt A k).kind (gt A k).x (gt A k).y 0 0 100 0 (gt A k).owner))) k (qe [ti (gt A k).id,ti (gt A k).kind,ti (placeX c r f 1 (gt ids i)),ti (gt A k).y,ti 0,ti 0,ti 100,ti 0,ti (gt A k).owner]))) (T.sl 0 (zw zk (qz A k (qh (gt A k).id (gt A k).kind (placeX c r f 1 (gt ids i)) (gt A k).y 0 0 100 0 (gt A k).owner)))),.g (zw zk (qz A k (qh (gt A k).id (gt A k).kind (placeX c r f 1 (gt ids i)) (gt A k).y 0 0 100 0 (gt A k).owner))) k (zk (qh (gt A k).id (gt A k).kind (placeX c r f 1 (gt ids i)) (gt A k).y 0 0 100 0 (gt A k).owner))] ⟨o_l (nm_eq (Aaq (e:=qh (gt A k).id (gt A k).kind (gt A k).x (gt A k).y 0 (gt A k).vy 100 (gt A k).age (gt A k).owner) rfl rfl) (by simp)),o_gm rfl (AbU (by omega)) (by intro h;cases h),o_l (nm_eq (Aaq (e:=qh (gt A k).id (gt A k).kind (gt A k).x (gt A k).y 0 0 100 (gt A k).age (gt A k).owner) rfl rfl) (by simp)),o_gm rfl (AbU (by omega)) (by intro h;cases h),o_l (nm_eq (Aaq (e:=qh (gt A k).id (gt A k).kind (gt A k).x (gt A k).y 0 0 100 0 (gt A k).owner) rfl rfl) (by simp)),o_a hpl,bK,o_gm rfl (AbU (by omega)) (by intro h;cases h),o_l (nm_eq (Aaq (e:=qh (gt A k).id (gt A k).kind (placeX c r f 1 (gt ids i)) (gt A k).y 0 0 100 0 (gt A k).owner) rfl rfl) (by simp)),o_gm rfl (AbU (by omega)) (by intro h;cases h),tI⟩ (gg [.t (T.sl 0 (qz (zw zk (qz A k (qh (gt A k).id (gt A k).kind (placeX c r f 1 (gt ids i)) (gt A k).y 0 0 100 0 (gt A k).owner))) k (qe [ti (gt A k).id,ti (gt A k).kind,ti (placeX c r f 1 (gt ids i)),ti (placeY c r f 2 (gt ids i)),ti 0,ti 0,ti 100,ti 0,ti (gt A k).owner]))) (T.sl 0 (zw zk (qz A k (qh (gt A k).id (gt A k).kind (placeX c r f 1 (gt ids i)) (placeY c r f 2 (gt ids i)) 0 0 100 0 (gt A k).owner)))),.i zy ((i:Int)+1) (↑(i+1):Int),.a _ _] ⟨o_l (nm_eq (Aaq (e:=qh (gt A k).id (gt A k).kind (placeX c r f 1 (gt ids i)) (placeY c r f 2 (gt ids i)) 0 0 100 0 (gt A k).owner) rfl rfl) (by simp)),oI,o_a ih1,tI⟩ ge)))
theorem Ahe (c:Config) (r f made:Int) (ids:List Int) (hids:ids.length≤1000) (A:List Entity) (hA:A.length≤1000) (h0:0<ids.length) (hnr:0<(c.near r).length) (hP: ∀id∈ids,∃x∈A,x.id=id):
  Is cx (.loop 200 [0,1] 2 [.ptr 0 0 0,.all 2 zx,vi ids.length,vi 0] [.one 10 (stepV c r f made (.all 1 zx) (.fit 15 [])) zq,.arr 9 (A.map zk) zx zq,.arr 1 (ids.map ti) zx zq])
   ⟨.exit 0,[.ptr 0 0 0,.all 2 zx,vi ids.length,vi ids.length],[.one 10 (stepV c r f made (.all 1 zx) (.all 3 zx)) zq,.arr 9 ((ids.foldl (fall1 c r f) ⟨A,made,[]⟩).l.map zk) zx zq,.arr 1 (ids.map ti) zx zq,.arr 15 ((ids.foldl (fall1 c r f) ⟨A,made,[]⟩).out.map zd) zx zq]⟩:=by
 have hd:=Aaf h0;rw [qr] at hd;have hx:=hP (gt ids 0) (Aat h0);obtain ⟨k,hk1,hk2,_⟩:=AbT hx;have hns:= @AaI c r;have hlenb:(blastsAt c r f (gt A k)).length≤9*1+9:=by simp [blastsAt];omega
 have ih1:=Ahf c r f made ids hids (ids.length-1) 1 (A.set k (anewE c r f (gt ids 0) (gt A k))) (blastsAt c r f (gt A k)) (by omega) (by simpa using hA) hlenb fun id hid=>by
  have:=hP id (by rw [hd];exact qu _ hid);exact Akz (Afh (e:=anewE c r f (gt ids 0) (gt A k)) hk2 rfl).symm this
 have e0:ids.foldl (fall1 c r f) ⟨A,made,[]⟩=(ids.drop 1).foldl (fall1 c r f) (fall1 c r f ⟨A,made,[]⟩ (gt ids 0)):=by
  conv=>lhs;rw [hd]
  rfl
 rw [e0];have e1:fall1 c r f ⟨A,made,[]⟩ (gt ids 0)=⟨A.set k (anewE c r f (gt ids 0) (gt A k)),made,blastsAt c r f (gt A k)⟩:=by simp [fall1,hk1]
 rw [e1];have hF:=Aa2 A (gt ids 0) (by unfold small;omega);rw [hk1] at hF;have hN:=AaS c r;have hB:=Ahd c r f made A k (gt ids 0) ids (c.near r) 0 hk2 hA hids hns hnr;change Is cx _ ⟨_,_,[_,_,_,.arr 15 ((blastsAt c r f (gt A k)).map zd) zx zq]⟩ at hB;generalize blastsAt c r f (gt A k)=bl at*;have hpl:=Abl c r f 1 2 (gt ids 0) ⟨A.set k {gt A k with health:=100,vx:=0,vy:=0,age:=0},made,bl⟩;clear hP e1 hx hk1 hd hlenb e0;unfold anewE at ih1⊢;exact za (gg [.b (decide (0<(↑(zj ids):Int))) zg,.w (0≤(0:Int)),.l 0,.w ((0:Nat)<zj (zw ti ids)),.g (zw ti ids) 0 (ti (gt ids 0)),.a _ _,.b (flats [ti (k:Int)]) zg,.w (0≤(k:Int)),.n (zm (k:Int)) k,.w (k<zj (zw zk A)),.a _ _,.n (zj (zw ti (u6 c r))) (zj (u6 c r)),.a _ _,.g (zw zk A) k (zk (gt A k)),.t (T.sl 0 (qz (zw zk A) k (qe [ti (gt A k).id,ti (gt A k).kind,ti (gt A k).x,ti (gt A k).y,ti (gt A k).vx,ti (gt A k).vy,ti 100,ti (gt A k).age,ti (gt A k).owner]))) (T.sl 0 (zw zk (qz A k (qh (gt A k).id (gt A k).kind (gt A k).x (gt A k).y (gt A k).vx (gt A k).vy 100 (gt A k).age (gt A k).owner)))),.g (zw zk (qz A k (qh (gt A k).id (gt A k).kind (gt A k).x (gt A k).y (gt A k).vx (gt A k).vy 100 (gt A k).age (gt A k).owner))) k (zk (qh (gt A k).id (gt A k).kind (gt A k).x (gt A k).y (gt A k).vx (gt A k).vy 100 (gt A k).age (gt A k).owner))] ⟨tP,oW,oS,oH,o_a hF,bK,oW,nK,oS,o_a hN,oM,o_a hB,oH,o_l (Aaq (e:=qh (gt A k).id (gt A k).kind (gt A k).x (gt A k).y (gt A k).vx (gt A k).vy 100 (gt A k).age (gt A k).owner) rfl rfl),o_gm rfl (AbU (by omega)) (by intro h;cases h),tI⟩ (gg [.t (T.sl 0 (qz (zw zk (qz A k (qh (gt A k).id (gt A k).kind (gt A k).x (gt A k).y (gt A k).vx (gt A k).vy 100 (gt A k).age (gt A k).owner))) k (qe [ti (gt A k).id,ti (gt A k).kind,ti (gt A k).x,ti (gt A k).y,ti 0,ti (gt A k).vy,ti 100,ti (gt A k).age,ti (gt A k).owner]))) (T.sl 0 (zw zk (qz A k (qh (gt A k).id (gt A k).kind (gt A k).x (gt A k).y 0 (gt A k).vy 100 (gt A k).age (gt A k).owner)))),.g (zw zk (qz A k (qh (gt A k).id (gt A k).kind (gt A k).x (gt A k).y 0 (gt A k).vy 100 (gt A k).age (gt A k).owner))) k (zk (qh (gt A k).id (gt A k).kind (gt A k).x (gt A k).y 0 (gt A k).vy 100 (gt A k).age (gt A k).owner)),.t (T.sl 0 (qz (zw zk (qz A k (qh (gt A k).id (gt A k).kind (gt A k).x (gt A k).y 0 (gt A k).vy 100 (gt A k).age (gt A k).owner))) k (qe [ti (gt A k).id,ti (gt A k).kind,ti (gt A k).x,ti (gt A k).y,ti 0,ti 0,ti 100,ti (gt A k).age,ti (gt A k).owner]))) (T.sl 0 (zw zk (qz A k (qh (gt A k).id (gt A k).kind (gt A k).x (gt A k).y 0 0 100 (gt A k).age (gt A k).owner)))),.g (zw zk (qz A k (qh (gt A k).id (gt A k).kind (gt A k).x (gt A k).y 0 0 100 (gt A k).age (gt A k).owner))) k (zk (qh (gt A k).id (gt A k).kind (gt A k).x (gt A k).y 0 0 100 (gt A k).age (gt A k).owner)),.t (T.sl 0 (qz (zw zk (qz A k (qh (gt A k).id (gt A k).kind (gt A k).x (gt A k).y 0 0 100 (gt A k).age (gt A k).owner))) k (qe [ti (gt A k).id,ti (gt A k).kind,ti (gt A k).x,ti (gt A k).y,ti 0,ti 0,ti 100,ti 0,ti (gt A k).owner]))) (T.sl 0 (zw zk (qz A k (qh (gt A k).id (gt A k).kind (gt A k).x (gt A k).y 0 0 100 0 (gt A k).owner)))),.a _ _,.b (flats [ti (placeX c r f 1 (gt ids 0)),ti (placeY c r f 2 (gt ids 0))]) zg,.g (zw zk (qz A k (qh (gt A k).id (gt A k).kind (gt A k).x (gt A k).y 0 0 100 0 (gt A k).owner))) k (zk (qh (gt A k).id (gt A k).kind (gt A k).x (gt A k).y 0 0 100 0 (gt A k).owner)),.t (T.sl 0 (qz (zw zk (qz A k (qh (gt A k).id (gt A k).kind (gt A k).x (gt A k).y 0 0 100 0 (gt A k).owner))) k (qe [ti (gt A k).id,ti (gt A k).kind,ti (placeX c r f 1 (gt ids 0)),ti (gt A k).y,ti 0,ti 0,ti 100,ti 0,ti (gt A k).owner]))) (T.sl 0 (zw zk (qz A k (qh (gt A k).id (gt A k).kind (placeX c r f 1 (gt ids 0)) (gt A k).y 0 0 100 0 (gt A k).owner)))),.g (zw zk (qz A k (qh (gt A k).id (gt A k).kind (placeX c r f 1 (gt ids 0)) (gt A k).y 0 0 100 0 (gt A k).owner))) k (zk (qh (gt A k).id (gt A k).kind (placeX c r f 1 (gt ids 0)) (gt A k).y 0 0 100 0 (gt A k).owner))] ⟨o_l (nm_eq (Aaq (e:=qh (gt A k).id (gt A k).kind (gt A k).x (gt A k).y 0 (gt A k).vy 100 (gt A k).age (gt A k).owner) rfl rfl) (by simp)),o_gm rfl (AbU (by omega)) (by intro h;cases h),o_l (nm_eq (Aaq (e:=qh (gt A k).id (gt A k).kind (gt A k).x (gt A k).y 0 0 100 (gt A k).age (gt A k).owner) rfl rfl) (by simp)),o_gm rfl (AbU (by omega)) (by intro h;cases h),o_l (nm_eq (Aaq (e:=qh (gt A k).id (gt A k).kind (gt A k).x (gt A k).y 0 0 100 0 (gt A k).owner) rfl rfl) (by simp)),o_a hpl,bK,o_gm rfl (AbU (by omega)) (by intro h;cases h),o_l (nm_eq (Aaq (e:=qh (gt A k).id (gt A k).kind (placeX c r f 1 (gt ids 0)) (gt A k).y 0 0 100 0 (gt A k).owner) rfl rfl) (by simp)),o_gm rfl (AbU (by omega)) (by intro h;cases h),tI⟩ (gg [.t (T.sl 0 (qz (zw zk (qz A k (qh (gt A k).id (gt A k).kind (placeX c r f 1 (gt ids 0)) (gt A k).y 0 0 100 0 (gt A k).owner))) k (qe [ti (gt A k).id,ti (gt A k).kind,ti (placeX c r f 1 (gt ids 0)),ti (placeY c r f 2 (gt ids 0)),ti 0,ti 0,ti 100,ti 0,ti (gt A k).owner]))) (T.sl 0 (zw zk (qz A k (qh (gt A k).id (gt A k).kind (placeX c r f 1 (gt ids 0)) (placeY c r f 2 (gt ids 0)) 0 0 100 0 (gt A k).owner)))),.i zy 1 1,.a _ _] ⟨o_l (nm_eq (Aaq (e:=qh (gt A k).id (gt A k).kind (placeX c r f 1 (gt ids 0)) (placeY c r f 2 (gt ids 0)) 0 0 100 0 (gt A k).owner) rfl rfl) (by simp)),oK,o_a ih1,tI⟩ ge)))
theorem Amr {L:List Entity}: ∀id∈fallenL L,∃x∈L,x.id=id:=by
 intro id h;obtain ⟨x,h1,h2⟩:=List.mem_map.1 h;exact ⟨x,(List.mem_filter.1 h1).1,h2⟩
theorem Ah1 {L:List Entity}:(fallenL L).length≤L.length:=by
 unfold fallenL;rw [List.length_map];exact List.length_filter_le ..
theorem Ag4 (c:Config) (r f made:Int) (L:List Entity) (hL:L.length≤1000) (h:fallenL L= []):
  Is cx (.call 200 [.ptr 0 0 0] [.one 10 (stepV c r f made (.all 1 zx) (.fit 15 [])) zq,.arr 9 (L.map zk) zx zq])
   ⟨.ret,[],[.one 10 (stepV c r f made (.all 1 zx) (.fit 15 [])) zq,.arr 9 (L.map zk) zx zq]⟩:=by
 have hF:=Ac7 L (by unfold small;omega);rw [h] at hF;have hl:Is cx (.loop 200 [0,1] 2 [.ptr 0 0 0,.all 2 zx,vi 0,vi 0] [.one 10 (stepV c r f made (.all 1 zx) (.fit 15 [])) zq,.arr 9 (L.map zk) zx zq,.arr 1 [] zx zq])
   ⟨.exit 0,[.ptr 0 0 0,.all 2 zx,vi 0,vi 0],[.one 10 (stepV c r f made (.all 1 zx) (.fit 15 [])) zq,.arr 9 (L.map zk) zx zq,.arr 1 [] zx zq]⟩:=by
  exact za (gg [.b (decide (0<0)) zq] ⟨bK,tI⟩ ge)
 exact za (gg [.a _ _,.l 0,.a _ _] ⟨o_a hF,o_a hl,tI⟩ ge)
theorem Ag5 (c:Config) (r f made:Int) (L:List Entity) (hL:L.length≤1000) (hnr:0<(c.near r).length) (h:fallenL L≠ []):
  Is cx (.call 200 [.ptr 0 0 0] [.one 10 (stepV c r f made (.all 1 zx) (.fit 15 [])) zq,.arr 9 (L.map zk) zx zq])
   ⟨.ret,[],[.one 10 (stepV c r f made (.all 1 zx) (.all 2 zx)) zq,.arr 9 ((fallS c r f ⟨L,made,[]⟩).l.map zk) zx zq,.arr 15 ((fallS c r f ⟨L,made,[]⟩).out.map zd) zx zq]⟩:=by
 have hF:=Ac7 L (by unfold small;omega);have hlen:= @Ah1 L;have hP:= @Amr L;unfold fallS;simp only;have h0:0<(fallenL L).length:=List.length_pos_iff.2 h;generalize fallenL L=ids at*;have hl:=Ahe c r f made ids (by omega) L hL h0 hnr hP;clear hP h;generalize ids.foldl (fall1 c r f) ⟨L,made,[]⟩=S at*;obtain ⟨A,m2,o⟩:=S;simp only at hl⊢;exact za (gg [.a _ _,.n (zj (zw ti ids)) (zj ids),.a _ _] ⟨o_a hF,oM,o_a hl,tI⟩ ge)
theorem Aey (c:Config) (r f made:Int) (L:List Entity) (o:List Cross) (hL:L.length≤1000): ∀(d i n:Nat),i+d=L.length→n≤i→
  Is cx (.loop 201 [0,1,0,1] 2 [.ptr 0 0 0,vi n,.all 1 zx,vi L.length,vi i] [.one 10 (stepV c r f made (.all 1 zx) (.fit 15 [])) zq,.arr 9 (L.map zk) zx zq])
   ⟨.exit 0,[.ptr 0 0 0,vi (n+(L.drop i).countP fun e=>e.kind==3:Nat),.all 1 zx,vi L.length,vi L.length],[.one 10 (stepV c r f made (.all 1 zx) (.fit 15 [])) zq,.arr 9 (L.map zk) zx zq]⟩:=by
 intro d;induction d with
 |zero=>
  intro i n hi hm;rw [Aad (by omega)];refine za (gg [.b (decide ((i:Int)<(↑(zj L):Int))) zq] ⟨fP,tI⟩ (rT (a:=zl (jr 0) [yn 0 0 0,vi (n:Int),xz 1 zx,vi (↑(zj L):Int),vi (i:Int)] [vh 10 (dp [vi c.cols,vi c.rows,vi c.players,vi c.window,V.t (xc zr c.seed),vi r,vi f,xz 1 zx,vi made,ng 15 []]) zq,jy 9 (zw zk L) zx zq]) ?_))
  ((have hq:i=L.length:=by omega);subst hq;rfl)
 |succ d ih=>
  intro i n hi hm;have hlt:i<L.length:=by omega
  have ih1:=ih (i+1) n (by omega) (by omega);have ih2:=ih (i+1) (n+1) (by omega) (by omega);clear ih;rw [Agk _ hlt];refine za (gg [.b (decide ((i:Int)<(↑(zj L):Int))) zg,.w (0≤(i:Int)),.n (zm (i:Int)) i,.w (i<zj (zw zk L)),.g (zw zk L) i (zk (gt L i))] ⟨tP,oW,nK,oS,oH,tI⟩ ?_);refine bre (x:=(gt L i).kind) (y:=3) (by kernel_rfl) (fun h1=> ?_) (fun h1=> ?_)
  ·refine gg [.i zy ((n:Int)+1) (↑(n+1):Int),.i zy ((i:Int)+1) (↑(i+1):Int),.a _ _] ⟨oI,oI,o_a ih2,tI⟩ (rT (a:=zl (jr 0) [yn 0 0 0,vi (↑(n+1+bw (fun (e:Entity)↦e.kind==3) (z6 (i+1) L)):Int),xz 1 zx,vi (↑(zj L):Int),vi (↑(zj L):Int)] [vh 10 (dp [vi c.cols,vi c.rows,vi c.players,vi c.window,V.t (xc zr c.seed),vi r,vi f,xz 1 zx,vi made,ng 15 []]) zq,jy 9 (zw zk L) zx zq]) ?_)
   (simp_all;try omega)
  ·refine gg [.i zy ((i:Int)+1) (↑(i+1):Int),.a _ _] ⟨oI,o_a ih1,tI⟩ (rT (a:=zl (jr 0) [yn 0 0 0,vi (↑(n+bw (fun (e:Entity)↦e.kind==3) (z6 (i+1) L)):Int),xz 1 zx,vi (↑(zj L):Int),vi (↑(zj L):Int)] [vh 10 (dp [vi c.cols,vi c.rows,vi c.players,vi c.window,V.t (xc zr c.seed),vi r,vi f,xz 1 zx,vi made,ng 15 []]) zq,jy 9 (zw zk L) zx zq]) ?_)
   (simp_all;try omega)
theorem Ae4 (c:Config) (r f made:Int) (L:List Entity) (o:List Cross) (hL:L.length≤1000) (h:below 8 c.seed [3,f,r]≠0∨3≤(L.countP fun e=>e.kind==3)∨gx ⟨L,made,[]⟩=zq):
  Is cx (.call 201 [.ptr 0 0 0] [.one 10 (stepV c r f made (.all 1 zx) (.fit 15 [])) zq,.arr 9 (L.map zk) zx zq])
   ⟨.ret,[],[.one 10 (stepV c r f made (.all 1 zx) (.fit 15 [])) zq,.arr 9 (L.map zk) zx zq]⟩:=by
 have hl:=Aey c r f made L o hL L.length 0 0 (by omega) (by omega);rw [qr,jk] at hl;have hb:=AaF 8 c.seed [3,f,r] (by decide) (by simp [small]);have hrm:=Aa6 c r f ⟨L,made,[]⟩ (by unfold small;simp only;omega);have hc:(L.countP fun e=>e.kind==3)≤L.length:=pr;generalize (L.countP fun e=>e.kind==3)=n at*;generalize below 8 c.seed [3,f,r]=b at*;generalize gx ⟨L,made,[]⟩=rm at*;by_cases h1:b=0
 ·by_cases h2:3≤n
  ·exact za (gg [.n (zj (zw zk L)) (zj L),.a _ _,.a _ _,.b (b !=0) zq,.ff,.ff,.b (decide ((n:Int)≥3)) zg,.tt,.tt,.tt,.tt] ⟨oM,o_a hl,o_a hb,fC,tP,tI⟩ ge)
  ·have h3:rm=zq:=by rcases h with h|h|h;exact absurd h1 h;exact absurd h h2;exact h
   subst h3;exact za (gg [.n (zj (zw zk L)) (zj L),.a _ _,.a _ _,.b (b !=0) zq,.ff,.ff,.b (decide ((n:Int)≥3)) zq,.ff,.a _ _,.b (flats [zi zq]) zg,.ff,.ff,.b (!Bool.false) zg] ⟨oM,o_a hl,o_a hb,fC,fP,o_a hrm,bK,bK,tI⟩ ge)
 ·exact za (gg [.n (zj (zw zk L)) (zj L),.a _ _,.a _ _,.b (b !=0) zg,.tt,.tt,.tt,.tt,.tt,.tt,.tt] ⟨oM,o_a hl,o_a hb,tC,tI⟩ ge)
theorem Aez (c:Config) (r f made:Int) (L:List Entity) (o:List Cross) (hL:L.length≤1000): ∀(d i n:Nat),i+d=L.length→n≤i→
  Is cx (.loop 201 [0,1,0,1] 3 [.ptr 0 0 0,vi n,.all 1 zx,vi L.length,vi i] [.one 10 (stepV c r f made (.all 1 zx) (.all 2 zx)) zq,.arr 9 (L.map zk) zx zq,.arr 15 (o.map zd) zx zq])
   ⟨.exit 0,[.ptr 0 0 0,vi (n+(L.drop i).countP fun e=>e.kind==3:Nat),.all 1 zx,vi L.length,vi L.length],[.one 10 (stepV c r f made (.all 1 zx) (.all 2 zx)) zq,.arr 9 (L.map zk) zx zq,.arr 15 (o.map zd) zx zq]⟩:=by
 intro d;induction d with
 |zero=>
  intro i n hi hm;rw [Aad (by omega)];refine za (gg [.b (decide ((i:Int)<(↑(zj L):Int))) zq] ⟨fP,tI⟩ (rT (a:=zl (jr 0) [yn 0 0 0,vi (n:Int),xz 1 zx,vi (↑(zj L):Int),vi (i:Int)] [vh 10 (dp [vi c.cols,vi c.rows,vi c.players,vi c.window,V.t (xc zr c.seed),vi r,vi f,xz 1 zx,vi made,xz 2 zx]) zq,jy 9 (zw zk L) zx zq,jy 15 (zw zd o) zx zq]) ?_))
  ((have hq:i=L.length:=by omega);subst hq;rfl)
 |succ d ih=>
  intro i n hi hm;have hlt:i<L.length:=by omega
  have ih1:=ih (i+1) n (by omega) (by omega);have ih2:=ih (i+1) (n+1) (by omega) (by omega);clear ih;rw [Agk _ hlt];refine za (gg [.b (decide ((i:Int)<(↑(zj L):Int))) zg,.w (0≤(i:Int)),.n (zm (i:Int)) i,.w (i<zj (zw zk L)),.g (zw zk L) i (zk (gt L i))] ⟨tP,oW,nK,oS,oH,tI⟩ ?_);refine bre (x:=(gt L i).kind) (y:=3) (by kernel_rfl) (fun h1=> ?_) (fun h1=> ?_)
  ·refine gg [.i zy ((n:Int)+1) (↑(n+1):Int),.i zy ((i:Int)+1) (↑(i+1):Int),.a _ _] ⟨oI,oI,o_a ih2,tI⟩ (rT (a:=zl (jr 0) [yn 0 0 0,vi (↑(n+1+bw (fun (e:Entity)↦e.kind==3) (z6 (i+1) L)):Int),xz 1 zx,vi (↑(zj L):Int),vi (↑(zj L):Int)] [vh 10 (dp [vi c.cols,vi c.rows,vi c.players,vi c.window,V.t (xc zr c.seed),vi r,vi f,xz 1 zx,vi made,xz 2 zx]) zq,jy 9 (zw zk L) zx zq,jy 15 (zw zd o) zx zq]) ?_)
   (simp_all;try omega)
  ·refine gg [.i zy ((i:Int)+1) (↑(i+1):Int),.a _ _] ⟨oI,o_a ih1,tI⟩ (rT (a:=zl (jr 0) [yn 0 0 0,vi (↑(n+bw (fun (e:Entity)↦e.kind==3) (z6 (i+1) L)):Int),xz 1 zx,vi (↑(zj L):Int),vi (↑(zj L):Int)] [vh 10 (dp [vi c.cols,vi c.rows,vi c.players,vi c.window,V.t (xc zr c.seed),vi r,vi f,xz 1 zx,vi made,xz 2 zx]) zq,jy 9 (zw zk L) zx zq,jy 15 (zw zd o) zx zq]) ?_)
   (simp_all;try omega)
theorem Ae5 (c:Config) (r f made:Int) (L:List Entity) (o:List Cross) (hL:L.length≤1000) (h:below 8 c.seed [3,f,r]≠0∨3≤(L.countP fun e=>e.kind==3)∨gx ⟨L,made,o⟩=zq):
  Is cx (.call 201 [.ptr 0 0 0] [.one 10 (stepV c r f made (.all 1 zx) (.all 2 zx)) zq,.arr 9 (L.map zk) zx zq,.arr 15 (o.map zd) zx zq])
   ⟨.ret,[],[.one 10 (stepV c r f made (.all 1 zx) (.all 2 zx)) zq,.arr 9 (L.map zk) zx zq,.arr 15 (o.map zd) zx zq]⟩:=by
 have hl:=Aez c r f made L o hL L.length 0 0 (by omega) (by omega);rw [qr,jk] at hl;have hb:=AaF 8 c.seed [3,f,r] (by decide) (by simp [small]);have hrm:=Aa6 c r f ⟨L,made,o⟩ (by unfold small;simp only;omega);have hc:(L.countP fun e=>e.kind==3)≤L.length:=pr;generalize (L.countP fun e=>e.kind==3)=n at*;generalize below 8 c.seed [3,f,r]=b at*;generalize gx ⟨L,made,o⟩=rm at*;by_cases h1:b=0
 ·by_cases h2:3≤n
  ·exact za (gg [.n (zj (zw zk L)) (zj L),.a _ _,.a _ _,.b (b !=0) zq,.ff,.ff,.b (decide ((n:Int)≥3)) zg,.tt,.tt,.tt,.tt] ⟨oM,o_a hl,o_a hb,fC,tP,tI⟩ ge)
  ·have h3:rm=zq:=by rcases h with h|h|h;exact absurd h1 h;exact absurd h h2;exact h
   subst h3;exact za (gg [.n (zj (zw zk L)) (zj L),.a _ _,.a _ _,.b (b !=0) zq,.ff,.ff,.b (decide ((n:Int)≥3)) zq,.ff,.a _ _,.b (flats [zi zq]) zg,.ff,.ff,.b (!Bool.false) zg] ⟨oM,o_a hl,o_a hb,fC,fP,o_a hrm,bK,bK,tI⟩ ge)
 ·exact za (gg [.n (zj (zw zk L)) (zj L),.a _ _,.a _ _,.b (b !=0) zg,.tt,.tt,.tt,.tt,.tt,.tt,.tt] ⟨oM,o_a hl,o_a hb,tC,tI⟩ ge)
theorem AdY (c:Config) (r f made:Int) (L:List Entity) (hL:L.length≤1000) (hr:0≤r∧r≤16) (hf:0≤f∧f≤10000) (hm:0≤made∧made≤1000) (h: ¬(below 8 c.seed [3,f,r]≠0∨3≤(L.countP fun e=>e.kind==3)∨gx ⟨L,made,[]⟩=zq)):
  Is cx (.call 201 [.ptr 0 0 0] [.one 10 (stepV c r f made (.all 1 zx) (.fit 15 [])) zq,.arr 9 (L.map zk) zx zq])
   ⟨.ret,[],[.one 10 (stepV c r f (made+1) (.all 2 zx) (.fit 15 [])) zq,.arr 9 (L.map zk) zx zg,.arr 9 ((put1 L (gemE c r f made)).map zk) zx zq]⟩:=by
 have hl:=Aey c r f made L [] hL L.length 0 0 (by omega) (by omega);rw [qr,jk] at hl;have hb:=AaF 8 c.seed [3,f,r] (by decide) (by simp [small]);have hrm:=Aa6 c r f ⟨L,made,[]⟩ (by unfold small;simp only;omega);have hc:(L.countP fun e=>e.kind==3)≤L.length:=pr;have hpl:=Abl c r f 4 5 r ⟨L,made,[]⟩;have hnum:=Abf c r f made L [] hr hf hm;have hput:=Abn L [gemE c r f made] (by omega) (by simp);change Is cx _ ⟨_,_,[.arr 9 ((put1 L (gemE c r f made)).map zk) zx zq]⟩ at hput;unfold gemE at*;generalize (L.countP fun e=>e.kind==3)=n at*;generalize below 8 c.seed [3,f,r]=b at*;generalize gx ⟨L,made,[]⟩=rm at*;generalize numI c r f made=nn at*;have h1:b=0:=by
  by_cases q:b=0
  ·exact q
  ·exact absurd (Or.inl q) h
 have h2: ¬3≤n:=fun q=>h (.inr (.inl q));have h3:rm=zg:=by
  cases rm with
  |true=>rfl
  |false=>exact absurd (Or.inr (Or.inr rfl)) h
 subst h1 h3;clear h;refine za (gg [.n (zj (zw zk L)) (zj L),.a _ _,.a _ _,.b (0 !=0) zq,.ff,.ff,.b (decide ((n:Int)≥3)) zq,.ff,.a _ _,.b (flats [zi zg]) zg,.ff,.ff,.b (!Bool.true) zq,.a _ _,.b (flats [ti (placeX c r f 4 r),ti (placeY c r f 5 r)]) zg] ⟨oM,o_a hl,o_a hb,bK,fP,o_a hrm,bK,bK,o_a hpl,bK,tI⟩ (bO ?_ ?_))
 all_goals
  exact gg [.a _ _,.a _ _] ⟨o_a hnum,o_a hput,tI⟩ ge
theorem AdZ (c:Config) (r f made:Int) (L:List Entity) (o:List Cross) (hL:L.length≤1000) (hr:0≤r∧r≤16) (hf:0≤f∧f≤10000) (hm:0≤made∧made≤1000) (h: ¬(below 8 c.seed [3,f,r]≠0∨3≤(L.countP fun e=>e.kind==3)∨gx ⟨L,made,o⟩=zq)):
  Is cx (.call 201 [.ptr 0 0 0] [.one 10 (stepV c r f made (.all 1 zx) (.all 2 zx)) zq,.arr 9 (L.map zk) zx zq,.arr 15 (o.map zd) zx zq])
   ⟨.ret,[],[.one 10 (stepV c r f (made+1) (.all 3 zx) (.all 2 zx)) zq,.arr 9 (L.map zk) zx zg,.arr 15 (o.map zd) zx zq,.arr 9 ((put1 L (gemE c r f made)).map zk) zx zq]⟩:=by
 have hl:=Aez c r f made L o hL L.length 0 0 (by omega) (by omega);rw [qr,jk] at hl;have hb:=AaF 8 c.seed [3,f,r] (by decide) (by simp [small]);have hrm:=Aa6 c r f ⟨L,made,o⟩ (by unfold small;simp only;omega);have hc:(L.countP fun e=>e.kind==3)≤L.length:=pr;have hpl:=Abl c r f 4 5 r ⟨L,made,o⟩;have hnum:=Afd c r f made L o hr hf hm;have hput:=Abn L [gemE c r f made] (by omega) (by simp);change Is cx _ ⟨_,_,[.arr 9 ((put1 L (gemE c r f made)).map zk) zx zq]⟩ at hput;unfold gemE at*;generalize (L.countP fun e=>e.kind==3)=n at*;generalize below 8 c.seed [3,f,r]=b at*;generalize gx ⟨L,made,o⟩=rm at*;generalize numI c r f made=nn at*;have h1:b=0:=by
  by_cases q:b=0
  ·exact q
  ·exact absurd (Or.inl q) h
 have h2: ¬3≤n:=fun q=>h (.inr (.inl q));have h3:rm=zg:=by
  cases rm with
  |true=>rfl
  |false=>exact absurd (Or.inr (Or.inr rfl)) h
 subst h1 h3;clear h;refine za (gg [.n (zj (zw zk L)) (zj L),.a _ _,.a _ _,.b (0 !=0) zq,.ff,.ff,.b (decide ((n:Int)≥3)) zq,.ff,.a _ _,.b (flats [zi zg]) zg,.ff,.ff,.b (!Bool.true) zq,.a _ _,.b (flats [ti (placeX c r f 4 r),ti (placeY c r f 5 r)]) zg] ⟨oM,o_a hl,o_a hb,bK,fP,o_a hrm,bK,bK,o_a hpl,bK,tI⟩ (bO ?_ ?_))
 all_goals
  exact gg [.a _ _,.a _ _] ⟨o_a hnum,o_a hput,tI⟩ ge
theorem Agx (c:Config) (r f made:Int) (L:List Entity) (hL:L.length≤1000): ∀(d i:Nat) (A:List Entity) (o:List Cross),i+d=L.length→A.length≤i→o.length≤50000+i→
  Is cx (.loop 202 [0,1,0,1] 2 [.ptr 0 0 0,.all 2 zx,.all 1 zx,vi L.length,vi i] [.one 10 (stepV c r f made (.all 1 zx) (.all 3 zx)) zq,.arr 9 (L.map zk) zx zq,.arr 9 (A.map zk) zx zq,.arr 15 (o.map zd) zx zq])
   ⟨.exit 0,[.ptr 0 0 0,.all 2 zx,.all 1 zx,vi L.length,vi L.length],[.one 10 (stepV c r f made (.all 1 zx) (.all 3 zx)) zq,.arr 9 (L.map zk) zx zq,.arr 9 ((A++(L.drop i).filter fun e=>decide (c.of e.x e.y=r)).map zk) zx zq,.arr 15 ((o++((L.drop i).filter fun e=> !decide (c.of e.x e.y=r)).map (handE c r f)).map zd) zx zq]⟩:=by
 intro d;induction d with
 |zero=>
  intro i A o hi hA ho;rw [Aad (by omega)];refine za (gg [.b (decide ((i:Int)<(↑(zj L):Int))) zq] ⟨fP,tI⟩ (rT (a:=zl (jr 0) [yn 0 0 0,xz 2 zx,xz 1 zx,vi (↑(zj L):Int),vi (i:Int)] [vh 10 (dp [vi c.cols,vi c.rows,vi c.players,vi c.window,V.t (xc zr c.seed),vi r,vi f,xz 1 zx,vi made,xz 3 zx]) zq,jy 9 (zw zk L) zx zq,jy 9 (zw zk A) zx zq,jy 15 (zw zd o) zx zq]) ?_))
  ((have hq:i=L.length:=by omega);subst hq;simp)
 |succ d ih=>
  intro i A o hi hA ho;have hlt:i<L.length:=by omega
  have hO:=Acb c (gt L i).x (gt L i).y;rw [Aaf hlt,xp,xp];by_cases h:c.of (gt L i).x (gt L i).y=r
  ·rw [if_pos (by simpa using h),if_neg (by simpa using h),uy];have ih1:=ih (i+1) (A++ [gt L i]) o (by omega) (by simp;omega) (by omega);clear ih;exact za (gg [.b (decide ((i:Int)<(↑(zj L):Int))) zg,.w (0≤(i:Int)),.n (zm (i:Int)) i,.w (i<zj (zw zk L)),.g (zw zk L) i (zk (gt L i)),.a _ _,.b (uw c (gt L i).x (gt L i).y !=r) zq,.w ((0:Nat)<(72:Nat)),.t (T.sl 0 [zk (gt L i)]) (T.sl 0 (zw zk [gt L i])),.t (T.sl 0 (zw zk A++zw zk [gt L i])) (T.sl 0 (zw zk (A++ [gt L i]))),.w (room (zj (zw zk (A++ [gt L i]))) (72:Nat)),.i zy ((i:Int)+1) (↑(i+1):Int),.a _ _] ⟨tP,oW,nK,oR,oH,o_a hO,fC,oW,o_l (Aa1 rfl AaC),o_l (Aa3 rfl rfl),oR,oJ,o_a ih1,tI⟩ ge)
  ·rw [if_neg (by simpa using h),if_pos (by simpa using h),qo,uy];have ih1:=ih (i+1) A (o++ [handE c r f (gt L i)]) (by omega) (by omega) (by simp;omega);have hs:=AaZ c r f made L o ⟨1,0,c.of (gt L i).x (gt L i).y,0,gt L i,0,0⟩ (by omega);clear ih;unfold handE at ih1⊢;exact za (gg [.b (decide ((i:Int)<(↑(zj L):Int))) zg,.w (0≤(i:Int)),.n (zm (i:Int)) i,.w (i<zj (zw zk L)),.g (zw zk L) i (zk (gt L i)),.a _ _,.b (uw c (gt L i).x (gt L i).y !=r) zg,.a _ _,.i zy ((i:Int)+1) (↑(i+1):Int),.a _ _] ⟨tP,oW,nK,oS,oH,o_a hO,tC,o_a hs,oI,o_a ih1,tI⟩ ge)
theorem Agz (c:Config) (r f made:Int) (L:List Entity) (hL:L.length≤1000): ∀(d i:Nat) (A:List Entity) (o:List Cross),i+d=L.length→A.length≤i→o.length≤50000+i→
  Is cx (.loop 202 [0,1,0,1] 3 [.ptr 0 0 0,.all 3 zx,.all 1 zx,vi L.length,vi i] [.one 10 (stepV c r f made (.all 1 zx) (.all 4 zx)) zq,.arr 9 (L.map zk) zx zq,.dead,.arr 9 (A.map zk) zx zq,.arr 15 (o.map zd) zx zq])
   ⟨.exit 0,[.ptr 0 0 0,.all 3 zx,.all 1 zx,vi L.length,vi L.length],[.one 10 (stepV c r f made (.all 1 zx) (.all 4 zx)) zq,.arr 9 (L.map zk) zx zq,.dead,.arr 9 ((A++(L.drop i).filter fun e=>decide (c.of e.x e.y=r)).map zk) zx zq,.arr 15 ((o++((L.drop i).filter fun e=> !decide (c.of e.x e.y=r)).map (handE c r f)).map zd) zx zq]⟩:=by
 intro d;induction d with
 |zero=>
  intro i A o hi hA ho;rw [Aad (by omega)];refine za (gg [.b (decide ((i:Int)<(↑(zj L):Int))) zq] ⟨fP,tI⟩ (rT (a:=zl (jr 0) [yn 0 0 0,xz 3 zx,xz 1 zx,vi (↑(zj L):Int),vi (i:Int)] [vh 10 (dp [vi c.cols,vi c.rows,vi c.players,vi c.window,V.t (xc zr c.seed),vi r,vi f,xz 1 zx,vi made,xz 4 zx]) zq,jy 9 (zw zk L) zx zq,Ob.dead,jy 9 (zw zk A) zx zq,jy 15 (zw zd o) zx zq]) ?_))
  ((have hq:i=L.length:=by omega);subst hq;simp)
 |succ d ih=>
  intro i A o hi hA ho;have hlt:i<L.length:=by omega
  have hO:=Acb c (gt L i).x (gt L i).y;rw [Aaf hlt,xp,xp];by_cases h:c.of (gt L i).x (gt L i).y=r
  ·rw [if_pos (by simpa using h),if_neg (by simpa using h),uy];have ih1:=ih (i+1) (A++ [gt L i]) o (by omega) (by simp;omega) (by omega);clear ih;exact za (gg [.b (decide ((i:Int)<(↑(zj L):Int))) zg,.w (0≤(i:Int)),.n (zm (i:Int)) i,.w (i<zj (zw zk L)),.g (zw zk L) i (zk (gt L i)),.a _ _,.b (uw c (gt L i).x (gt L i).y !=r) zq,.w ((0:Nat)<(72:Nat)),.t (T.sl 0 [zk (gt L i)]) (T.sl 0 (zw zk [gt L i])),.t (T.sl 0 (zw zk A++zw zk [gt L i])) (T.sl 0 (zw zk (A++ [gt L i]))),.w (room (zj (zw zk (A++ [gt L i]))) (72:Nat)),.i zy ((i:Int)+1) (↑(i+1):Int),.a _ _] ⟨tP,oW,nK,oR,oH,o_a hO,fC,oW,o_l (Aa1 rfl AaC),o_l (Aa3 rfl rfl),oR,oJ,o_a ih1,tI⟩ ge)
  ·rw [if_neg (by simpa using h),if_pos (by simpa using h),qo,uy];have ih1:=ih (i+1) A (o++ [handE c r f (gt L i)]) (by omega) (by omega) (by simp;omega);have hs:=AaZ c r f made L o ⟨1,0,c.of (gt L i).x (gt L i).y,0,gt L i,0,0⟩ (by omega);clear ih;unfold handE at ih1⊢;exact za (gg [.b (decide ((i:Int)<(↑(zj L):Int))) zg,.w (0≤(i:Int)),.n (zm (i:Int)) i,.w (i<zj (zw zk L)),.g (zw zk L) i (zk (gt L i)),.a _ _,.b (uw c (gt L i).x (gt L i).y !=r) zg,.a _ _,.i zy ((i:Int)+1) (↑(i+1):Int),.a _ _] ⟨tP,oW,nK,oS,oH,o_a hO,tC,o_a hs,oI,o_a ih1,tI⟩ ge)
theorem Agw (c:Config) (r f made:Int) (L:List Entity) (hL:L.length≤1000): ∀(d i:Nat) (A:List Entity),i+d=L.length→A.length≤i→
  Is cx (.loop 202 [0,1,0,1] 2 [.ptr 0 0 0,.all 2 zx,.all 1 zx,vi L.length,vi i] [.one 10 (stepV c r f made (.all 1 zx) (.fit 15 [])) zq,.arr 9 (L.map zk) zx zq,.arr 9 (A.map zk) zx zq])
   (if ((L.drop i).filter fun e=> !decide (c.of e.x e.y=r))= [] then
    ⟨.exit 0,[.ptr 0 0 0,.all 2 zx,.all 1 zx,vi L.length,vi L.length],[.one 10 (stepV c r f made (.all 1 zx) (.fit 15 [])) zq,.arr 9 (L.map zk) zx zq,.arr 9 ((A++(L.drop i).filter fun e=>decide (c.of e.x e.y=r)).map zk) zx zq]⟩
   else ⟨.exit 0,[.ptr 0 0 0,.all 2 zx,.all 1 zx,vi L.length,vi L.length],[.one 10 (stepV c r f made (.all 1 zx) (.all 3 zx)) zq,.arr 9 (L.map zk) zx zq,.arr 9 ((A++(L.drop i).filter fun e=>decide (c.of e.x e.y=r)).map zk) zx zq,.arr 15 ((((L.drop i).filter fun e=> !decide (c.of e.x e.y=r)).map (handE c r f)).map zd) zx zq]⟩):=by
 intro d;induction d with
 |zero=>
  intro i A hi hA;rw [Aad (by omega),bh,bh,if_pos rfl];refine za (gg [.b (decide ((i:Int)<(↑(zj L):Int))) zq] ⟨fP,tI⟩ (rT (a:=zl (jr 0) [yn 0 0 0,xz 2 zx,xz 1 zx,vi (↑(zj L):Int),vi (i:Int)] [vh 10 (dp [vi c.cols,vi c.rows,vi c.players,vi c.window,V.t (xc zr c.seed),vi r,vi f,xz 1 zx,vi made,ng 15 []]) zq,jy 9 (zw zk L) zx zq,jy 9 (zw zk A) zx zq]) ?_))
  ((have hq:i=L.length:=by omega);subst hq;simp)
 |succ d ih=>
  intro i A hi hA;have hlt:i<L.length:=by omega
  have hO:=Acb c (gt L i).x (gt L i).y;rw [Aaf hlt,xp,xp];by_cases h:c.of (gt L i).x (gt L i).y=r
  ·rw [if_pos (c:=decide (c.of (gt L i).x (gt L i).y=r)=zg) (by simpa using h),if_neg (c:=(!decide (c.of (gt L i).x (gt L i).y=r))=zg) (by simpa using h),uy];have ih1:=ih (i+1) (A++ [gt L i]) (by omega) (by simp;omega);clear ih;split at ih1
   ·rename_i hq;rw [if_pos hq];exact za (gg [.b (decide ((i:Int)<(↑(zj L):Int))) zg,.w (0≤(i:Int)),.n (zm (i:Int)) i,.w (i<zj (zw zk L)),.g (zw zk L) i (zk (gt L i)),.a _ _,.b (uw c (gt L i).x (gt L i).y !=r) zq,.w ((0:Nat)<(72:Nat)),.t (T.sl 0 [zk (gt L i)]) (T.sl 0 (zw zk [gt L i])),.t (T.sl 0 (zw zk A++zw zk [gt L i])) (T.sl 0 (zw zk (A++ [gt L i]))),.w (room (zj (zw zk (A++ [gt L i]))) (72:Nat)),.i zy ((i:Int)+1) (↑(i+1):Int),.a _ _] ⟨tP,oW,nK,oR,oH,o_a hO,fC,oW,o_l (Aa1 rfl AaC),o_l (Aa3 rfl rfl),oR,oJ,o_a ih1,tI⟩ ge)
   ·rename_i hq;rw [if_neg hq];exact za (gg [.b (decide ((i:Int)<(↑(zj L):Int))) zg,.w (0≤(i:Int)),.n (zm (i:Int)) i,.w (i<zj (zw zk L)),.g (zw zk L) i (zk (gt L i)),.a _ _,.b (uw c (gt L i).x (gt L i).y !=r) zq,.w ((0:Nat)<(72:Nat)),.t (T.sl 0 [zk (gt L i)]) (T.sl 0 (zw zk [gt L i])),.t (T.sl 0 (zw zk A++zw zk [gt L i])) (T.sl 0 (zw zk (A++ [gt L i]))),.w (room (zj (zw zk (A++ [gt L i]))) (72:Nat)),.i zy ((i:Int)+1) (↑(i+1):Int),.a _ _] ⟨tP,oW,nK,oR,oH,o_a hO,fC,oW,o_l (Aa1 rfl AaC),o_l (Aa3 rfl rfl),oR,oJ,o_a ih1,tI⟩ ge)
  ·rw [if_neg (c:=decide (c.of (gt L i).x (gt L i).y=r)=zg) (by simpa using h),if_pos (c:=(!decide (c.of (gt L i).x (gt L i).y=r))=zg) (by simpa using h),if_neg (by simp),qo];have ih1:=Agx c r f made L hL d (i+1) A [handE c r f (gt L i)] (by omega) (by omega) (by simp;omega);have hs:=AcQ c r f made L ⟨1,0,c.of (gt L i).x (gt L i).y,0,gt L i,0,0⟩;clear ih;unfold handE at ih1⊢;exact za (gg [.b (decide ((i:Int)<(↑(zj L):Int))) zg,.w (0≤(i:Int)),.n (zm (i:Int)) i,.w (i<zj (zw zk L)),.g (zw zk L) i (zk (gt L i)),.a _ _,.b (uw c (gt L i).x (gt L i).y !=r) zg,.a _ _,.i zy ((i:Int)+1) (↑(i+1):Int),.a _ _] ⟨tP,oW,nK,oS,oH,o_a hO,tC,o_a hs,oI,o_a ih1,tI⟩ ge)
theorem Agy (c:Config) (r f made:Int) (L:List Entity) (hL:L.length≤1000) (o:List Cross) (ho:o.length≤50000): ∀(d i:Nat) (A:List Entity),i+d=L.length→A.length≤i→
  Is cx (.loop 202 [0,1,0,1] 3 [.ptr 0 0 0,.all 3 zx,.all 1 zx,vi L.length,vi i] [.one 10 (stepV c r f made (.all 1 zx) (.all 2 zx)) zq,.arr 9 (L.map zk) zx zq,.arr 15 (o.map zd) zx zq,.arr 9 (A.map zk) zx zq])
   (if ((L.drop i).filter fun e=> !decide (c.of e.x e.y=r))= [] then
    ⟨.exit 0,[.ptr 0 0 0,.all 3 zx,.all 1 zx,vi L.length,vi L.length],[.one 10 (stepV c r f made (.all 1 zx) (.all 2 zx)) zq,.arr 9 (L.map zk) zx zq,.arr 15 (o.map zd) zx zq,.arr 9 ((A++(L.drop i).filter fun e=>decide (c.of e.x e.y=r)).map zk) zx zq]⟩
   else ⟨.exit 0,[.ptr 0 0 0,.all 3 zx,.all 1 zx,vi L.length,vi L.length],[.one 10 (stepV c r f made (.all 1 zx) (.all 4 zx)) zq,.arr 9 (L.map zk) zx zq,.dead,.arr 9 ((A++(L.drop i).filter fun e=>decide (c.of e.x e.y=r)).map zk) zx zq,.arr 15 ((o++((L.drop i).filter fun e=> !decide (c.of e.x e.y=r)).map (handE c r f)).map zd) zx zq]⟩):=by
 intro d;induction d with
 |zero=>
  intro i A hi hA;rw [Aad (by omega),bh,bh,if_pos rfl];refine za (gg [.b (decide ((i:Int)<(↑(zj L):Int))) zq] ⟨fP,tI⟩ (rT (a:=zl (jr 0) [yn 0 0 0,xz 3 zx,xz 1 zx,vi (↑(zj L):Int),vi (i:Int)] [vh 10 (dp [vi c.cols,vi c.rows,vi c.players,vi c.window,V.t (xc zr c.seed),vi r,vi f,xz 1 zx,vi made,xz 2 zx]) zq,jy 9 (zw zk L) zx zq,jy 15 (zw zd o) zx zq,jy 9 (zw zk A) zx zq]) ?_))
  ((have hq:i=L.length:=by omega);subst hq;simp)
 |succ d ih=>
  intro i A hi hA;have hlt:i<L.length:=by omega
  have hO:=Acb c (gt L i).x (gt L i).y;rw [Aaf hlt,xp,xp];by_cases h:c.of (gt L i).x (gt L i).y=r
  ·rw [if_pos (c:=decide (c.of (gt L i).x (gt L i).y=r)=zg) (by simpa using h),if_neg (c:=(!decide (c.of (gt L i).x (gt L i).y=r))=zg) (by simpa using h),uy];have ih1:=ih (i+1) (A++ [gt L i]) (by omega) (by simp;omega);clear ih;split at ih1
   ·rename_i hq;rw [if_pos hq];exact za (gg [.b (decide ((i:Int)<(↑(zj L):Int))) zg,.w (0≤(i:Int)),.n (zm (i:Int)) i,.w (i<zj (zw zk L)),.g (zw zk L) i (zk (gt L i)),.a _ _,.b (uw c (gt L i).x (gt L i).y !=r) zq,.w ((0:Nat)<(72:Nat)),.t (T.sl 0 [zk (gt L i)]) (T.sl 0 (zw zk [gt L i])),.t (T.sl 0 (zw zk A++zw zk [gt L i])) (T.sl 0 (zw zk (A++ [gt L i]))),.w (room (zj (zw zk (A++ [gt L i]))) (72:Nat)),.i zy ((i:Int)+1) (↑(i+1):Int),.a _ _] ⟨tP,oW,nK,oR,oH,o_a hO,fC,oW,o_l (Aa1 rfl AaC),o_l (Aa3 rfl rfl),oR,oJ,o_a ih1,tI⟩ ge)
   ·rename_i hq;rw [if_neg hq];exact za (gg [.b (decide ((i:Int)<(↑(zj L):Int))) zg,.w (0≤(i:Int)),.n (zm (i:Int)) i,.w (i<zj (zw zk L)),.g (zw zk L) i (zk (gt L i)),.a _ _,.b (uw c (gt L i).x (gt L i).y !=r) zq,.w ((0:Nat)<(72:Nat)),.t (T.sl 0 [zk (gt L i)]) (T.sl 0 (zw zk [gt L i])),.t (T.sl 0 (zw zk A++zw zk [gt L i])) (T.sl 0 (zw zk (A++ [gt L i]))),.w (room (zj (zw zk (A++ [gt L i]))) (72:Nat)),.i zy ((i:Int)+1) (↑(i+1):Int),.a _ _] ⟨tP,oW,nK,oR,oH,o_a hO,fC,oW,o_l (Aa1 rfl AaC),o_l (Aa3 rfl rfl),oR,oJ,o_a ih1,tI⟩ ge)
  ·rw [if_neg (c:=decide (c.of (gt L i).x (gt L i).y=r)=zg) (by simpa using h),if_pos (c:=(!decide (c.of (gt L i).x (gt L i).y=r))=zg) (by simpa using h),if_neg (by simp),qo,uy];have ih1:=Agz c r f made L hL d (i+1) A (o++ [handE c r f (gt L i)]) (by omega) (by omega) (by simp;omega);have hs:=AaZ c r f made L o ⟨1,0,c.of (gt L i).x (gt L i).y,0,gt L i,0,0⟩ (by omega);clear ih;unfold handE at ih1⊢;exact za (gg [.b (decide ((i:Int)<(↑(zj L):Int))) zg,.w (0≤(i:Int)),.n (zm (i:Int)) i,.w (i<zj (zw zk L)),.g (zw zk L) i (zk (gt L i)),.a _ _,.b (uw c (gt L i).x (gt L i).y !=r) zg,.a _ _,.i zy ((i:Int)+1) (↑(i+1):Int),.a _ _] ⟨tP,oW,nK,oS,oH,o_a hO,tC,o_a hs,oI,o_a ih1,tI⟩ ge)
theorem Ac8 (c:Config) (r f made:Int) (L:List Entity) (hL:L.length≤1000):
  Is cx (.call 202 [.ptr 0 0 0] [.one 10 (stepV c r f made (.all 1 zx) (.fit 15 [])) zq,.arr 9 (L.map zk) zx zq])
   (if (leaveS c r f ⟨L,made,[]⟩).out= [] then ⟨.ret,[],[.one 10 (stepV c r f made (.all 2 zx) (.fit 15 [])) zq,.arr 9 (L.map zk) zx zq,.arr 9 ((leaveS c r f ⟨L,made,[]⟩).l.map zk) zx zq]⟩
    else ⟨.ret,[],[.one 10 (stepV c r f made (.all 2 zx) (.all 3 zx)) zq,.arr 9 (L.map zk) zx zq,.arr 9 ((leaveS c r f ⟨L,made,[]⟩).l.map zk) zx zq,.arr 15 ((leaveS c r f ⟨L,made,[]⟩).out.map zd) zx zq]⟩):=by
 have h:=Agw c r f made L hL L.length 0 [] (by omega) (by simp);simp only [qr,jj] at h;unfold leaveS;simp only [jj,List.map_eq_nil_iff];generalize (L.filter fun e=>decide (c.of e.x e.y=r))=X at*;generalize (L.filter fun e=> !decide (c.of e.x e.y=r))=Y at*;generalize Y.map (handE c r f)=Z at*;split at h
 ·rename_i hq;rw [if_pos hq];exact za (gg [.n (zj (zw zk L)) (zj L),.a _ _] ⟨oM,o_a h,tI⟩ ge)
 ·rename_i hq;rw [if_neg hq];exact za (gg [.n (zj (zw zk L)) (zj L),.a _ _] ⟨oM,o_a h,tI⟩ ge)
theorem Ac9 (c:Config) (r f made:Int) (L:List Entity) (o:List Cross) (hL:L.length≤1000) (ho:o.length≤50000):
  Is cx (.call 202 [.ptr 0 0 0] [.one 10 (stepV c r f made (.all 1 zx) (.all 2 zx)) zq,.arr 9 (L.map zk) zx zq,.arr 15 (o.map zd) zx zq])
   (if (L.filter fun e=> !decide (c.of e.x e.y=r))= [] then ⟨.ret,[],[.one 10 (stepV c r f made (.all 3 zx) (.all 2 zx)) zq,.arr 9 (L.map zk) zx zq,.arr 15 (o.map zd) zx zq,.arr 9 ((leaveS c r f ⟨L,made,o⟩).l.map zk) zx zq]⟩
    else ⟨.ret,[],[.one 10 (stepV c r f made (.all 3 zx) (.all 4 zx)) zq,.arr 9 (L.map zk) zx zq,.dead,.arr 9 ((leaveS c r f ⟨L,made,o⟩).l.map zk) zx zq,.arr 15 ((leaveS c r f ⟨L,made,o⟩).out.map zd) zx zq]⟩):=by
 have h:=Agy c r f made L hL o ho L.length 0 [] (by omega) (by simp);simp only [qr,jj] at h;unfold leaveS;simp only;generalize (L.filter fun e=>decide (c.of e.x e.y=r))=X at*;generalize (L.filter fun e=> !decide (c.of e.x e.y=r))=Y at*;generalize o++Y.map (handE c r f)=Z at*;split at h
 ·rename_i hq;rw [if_pos hq];exact za (gg [.n (zj (zw zk L)) (zj L),.a _ _] ⟨oM,o_a h,tI⟩ ge)
 ·rename_i hq;rw [if_neg hq];exact za (gg [.n (zj (zw zk L)) (zj L),.a _ _] ⟨oM,o_a h,tI⟩ ge)
end Go.Eva.S8
namespace Go.Eva.S8
theorem AcH (a b n:Nat) (h1:a+n≤b): ∀(d i:Nat) (A:List Cross),i+d=n→b+n≤A.length→small A→
  Is cx (.loop 305 [0,1] 1 [.all 0 zx,vi a,vi b,vi n,vi i] [.arr 15 (A.map zd) zx zq])
   ⟨.exit 0,[.all 0 zx,vi a,vi b,vi n,vi n],[.arr 15 ((swR d A (a+i) (b+i)).map zd) zx zq]⟩:=by
 intro d;induction d with
 |zero=>
  intro i A hi h2 hn;unfold small at hn;refine za (gg [.b (decide ((i:Int)<(n:Int))) zq] ⟨fP,tI⟩ (rT (a:=zl (jr 0) [xz 0 zx,vi (a:Int),vi (b:Int),vi (n:Int),vi (i:Int)] [jy 15 (zw zd A) zx zq]) ?_))
  ((have hq:i=n:=by omega);subst hq;rfl)
 |succ d ih=>
  intro i A hi h2 hn;have ih1:=ih (i+1) (sw A (a+i) (b+i)) (by omega) (by rw [AcB];omega) (by unfold small;rw [AcB];exact hn);unfold small at hn;clear ih;unfold sw at ih1;refine za (gg [.b (decide ((i:Int)<(n:Int))) zg,.i zy ((a:Int)+(i:Int)) (↑(a+i):Int),.i zy ((b:Int)+(i:Int)) (↑(b+i):Int),.i zy ((b:Int)+(i:Int)) (↑(b+i):Int),.w (0≤(↑(b+i):Int)),.n (zm (↑(b+i):Int)) (b+i),.w (b+i<zj (zw zd A)),.i zy ((a:Int)+(i:Int)) (↑(a+i):Int),.w (0≤(↑(a+i):Int)),.n (zm (↑(a+i):Int)) (a+i),.w (a+i<zj (zw zd A)),.g (zw zd A) (b+i) (zd (gt A (b+i))),.g (zw zd A) (a+i) (zd (gt A (a+i))),.w (0≤(↑(a+i):Int)),.n (zm (↑(a+i):Int)) (a+i),.w (a+i<zj (zw zd A))] ⟨tP,oI,oI,oI,oW,nK,oS,oI,oW,nK,oS,oT,oT,oW,nK,oS,tI⟩ (gg [.w (a+i<zj (zw zd A)),.t (T.sl 0 (qz (zw zd A) (a+i) (zd (gt A (b+i))))) (T.sl 0 (zw zd (qz A (a+i) (gt A (b+i))))),.w (0≤(↑(b+i):Int)),.n (zm (↑(b+i):Int)) (b+i),.w (b+i<zj (zw zd (qz A (a+i) (gt A (b+i))))),.w (b+i<zj (zw zd (qz A (a+i) (gt A (b+i))))),.t (T.sl 0 (qz (zw zd (qz A (a+i) (gt A (b+i)))) (b+i) (zd (gt A (a+i))))) (T.sl 0 (zw zd (qz (qz A (a+i) (gt A (b+i))) (b+i) (gt A (a+i))))),.i zy ((i:Int)+1) (↑(i+1):Int),.a _ _] ⟨oS,o_l (Aaq rfl rfl),oW,nK,oS,oS,o_l (Aaq rfl rfl),oI,o_a ih1,tI⟩ (rT (a:=zl (jr 0) [xz 0 zx,vi (a:Int),vi (b:Int),vi (n:Int),vi (n:Int)] [jy 15 (zw zd (swR d (qz (qz A (a+i) (gt A (b+i))) (b+i) (gt A (a+i))) (a+(i+1)) (b+(i+1)))) zx zq]) ?_)))
  (simp_all [swR,sw,Nat.add_assoc];try omega)
theorem Abg (A:List Cross) (a b n:Nat) (h1:a+n≤b) (h2:b+n≤A.length) (hn:small A):Is cx (.call 305 [.all 0 zx,vi a,vi b,vi n,.t (.clo 186 [])] [.arr 15 (A.map zd) zx zq])
  ⟨.ret,[],[.arr 15 ((swR n A a b).map zd) zx zq]⟩:=by
 have h:=AcH a b n h1 n 0 A (by omega) h2 hn;rw [Nat.add_zero,Nat.add_zero] at h;unfold small at hn;exact za (gg [.a _ _] ⟨o_a h,tI⟩ ge)
theorem Acp (a b i:Nat): ∀(j:Nat) (A:List Cross),a≤j→j<A.length→small A→ ∃k:Nat,
  Is cx (.loop 299 [0,1,0,0,1,0,0,1] 1 [.all 0 zx,vi a,vi b,.t (.clo 186 []),vi i,vi j] [.arr 15 (A.map zd) zx zq])
   ⟨.exit 2,[.all 0 zx,vi a,vi b,.t (.clo 186 []),vi i,vi k],[.arr 15 ((insIn qk a j A).map zd) zx zq]⟩:=by
 intro j;induction j with
 |zero=>
  intro A h1 h2 hn;unfold small at hn;refine ⟨0,?_⟩;exact za (gg [.b (decide (0>(a:Int))) zq,.ff,.ff,.ff,.ff,.ff,.ff,.ff,.ff,.ff,.ff,.ff,.ff,.ff] ⟨bK,tI⟩ ge)
 |succ j ih=>
  intro A h1 h2 hn;by_cases hj:a<j+1
  ·cases hl:qk (gt A (j+1)) (gt A j) with
   |true=>
    obtain ⟨k,ih1⟩:=ih (sw A (j+1) j) (by omega) (by rw [AcB];omega) (by unfold small;rw [AcB];exact hn);unfold small at hn;clear ih;refine ⟨k,?_⟩;have e:insIn qk a (j+1) A=insIn qk a j (sw A (j+1) j):=by rw [insIn,if_pos hj,hl]
    rw [e];unfold sw at*;have ej:((j+1:Nat):Int)-1=(j:Nat):=by omega
    have hl:(gt A (j+1)).cmp (gt A j)<0:=by simpa [qk] using hl
    refine za (gg [.b (decide ((↑(j+1):Int)>(a:Int))) zg,.tt,.tt,.tt,.w (0≤(↑(j+(1:Nat)):Int)),.n (zm (↑(j+1):Int)) (j+1),.w (j+(1:Nat)<zj (zw zd A)),.tt,.tt,.tt,.i zy ((↑(j+1):Int)-1) (j:Int),.tt,.w (0≤(j:Int)),.n (zm (j:Int)) j,.w (j<zj (zw zd A)),.tt] ⟨tP,oW,nK,oS,oI,oW,nK,oS,tI⟩ (gg [.g (zw zd A) (j+1) (zd (gt A (j+1))),.tt,.g (zw zd A) j (zd (gt A j)),.tt,.w (isFnB cx (186:Nat)=zg),.a _ _,.tt,.tt,.b (decide (ki (gt A (j+1)) (gt A j)<0)) zg,.i zy ((↑(j+1):Int)-1) (j:Int),.i zy ((↑(j+1):Int)-1) (j:Int),.w (0≤(j:Int)),.n (zm (j:Int)) j,.w (j<zj (zw zd A)),.w (0≤(↑(j+(1:Nat)):Int)),.n (zm (↑(j+1):Int)) (j+1)] ⟨oH,oT,o_w (by kernel_rfl),o_a (Aaz (gt A (j+1)) (gt A j)),tA,oI,oI,oW,nK,oS,oW,nK,tI⟩ (gg [.w (j+(1:Nat)<zj (zw zd A)),.g (zw zd A) j (zd (gt A j)),.g (zw zd A) (j+1) (zd (gt A (j+1))),.w (0≤(↑(j+(1:Nat)):Int)),.n (zm (↑(j+1):Int)) (j+1),.w (j+(1:Nat)<zj (zw zd A)),.w (j+(1:Nat)<zj (zw zd A)),.t (T.sl 0 (qz (zw zd A) (j+1) (zd (gt A j)))) (T.sl 0 (zw zd (qz A (j+1) (gt A j)))),.w (0≤(j:Int)),.n (zm (j:Int)) j,.w (j<zj (zw zd (qz A (j+(1:Nat)) (gt A j)))),.w (j<zj (zw zd (qz A (j+(1:Nat)) (gt A j)))),.t (T.sl 0 (qz (zw zd (qz A (j+1) (gt A j))) j (zd (gt A (j+1))))) (T.sl 0 (zw zd (qz (qz A (j+1) (gt A j)) j (gt A (j+1))))),.i zy ((↑(j+1):Int)-1) (j:Int),.a _ _] ⟨oS,oT,oH,oW,nK,oS,oS,o_l (Aaq rfl rfl),oW,nK,oS,oS,o_l (Aaq rfl rfl),oI,o_a ih1,tI⟩ (rT (a:=zl (jr 2) [xz 0 zx,vi (a:Int),vi (b:Int),V.t (pe 186 []),vi (i:Int),vi (k:Int)] [jy 15 (zw zd (insIn qk a j (qz (qz A (j+1) (gt A j)) j (gt A (j+1))))) zx zq]) ?_))));simp_all
   |false=>
    unfold small at hn;clear ih;refine ⟨j+1,?_⟩;have e:insIn qk a (j+1) A=A:=by rw [insIn,if_pos hj,hl]
    rw [e];have hl: ¬(gt A (j+1)).cmp (gt A j)<0:=by simpa [qk] using hl
    refine za (gg [.b (decide ((↑(j+1):Int)>(a:Int))) zg,.tt,.tt,.tt,.w (0≤(↑(j+(1:Nat)):Int)),.n (zm (↑(j+1):Int)) (j+1),.w (j+(1:Nat)<zj (zw zd A)),.tt,.tt,.tt,.i zy ((↑(j+1):Int)-1) ((↑(j+1):Int)-1),.tt,.w (0≤(↑(j+(1:Nat)):Int)-(1:Int)),.n (zm ((↑(j+1):Int)-1)) j,.w (j<zj (zw zd A)),.tt] ⟨tP,oW,nK,oS,oI,oW,oN,oS,tI⟩ (gg [.g (zw zd A) (j+1) (zd (gt A (j+1))),.tt,.g (zw zd A) j (zd (gt A j)),.tt,.w (isFnB cx (186:Nat)=zg),.a _ _,.tt,.tt,.b (decide (ki (gt A (j+1)) (gt A j)<0)) zq] ⟨oH,oT,o_w (by kernel_rfl),o_a (Aaz (gt A (j+1)) (gt A j)),fA,tI⟩ (rT (a:=zl (jr 2) [xz 0 zx,vi (a:Int),vi (b:Int),V.t (pe 186 []),vi (i:Int),vi (↑(j+1):Int)] [jy 15 (zw zd A) zx zq]) ?_)));simp_all
  ·unfold small at hn;clear ih;refine ⟨j+1,?_⟩;have e:insIn qk a (j+1) A=A:=by rw [insIn,if_neg hj]
   rw [e];refine za (gg [.b (decide ((↑(j+1):Int)>(a:Int))) zq,.ff,.ff,.ff,.ff,.ff,.ff,.ff,.ff,.ff,.ff,.ff,.ff,.ff] ⟨fP,tI⟩ (rT (a:=zl (jr 2) [xz 0 zx,vi (a:Int),vi (b:Int),V.t (pe 186 []),vi (i:Int),vi (↑(j+1):Int)] [jy 15 (zw zd A) zx zq]) ?_));simp_all
theorem Acq (a b:Nat): ∀(d i:Nat) (A:List Cross),i+d=b→a≤i→b≤A.length→small A→ ∃k:Nat,
  Is cx (.loop 299 [0,1] 1 [.all 0 zx,vi a,vi b,.t (.clo 186 []),vi i] [.arr 15 (A.map zd) zx zq])
   ⟨.exit 0,[.all 0 zx,vi a,vi b,.t (.clo 186 []),vi k],[.arr 15 ((insOut qk a d i A).map zd) zx zq]⟩:=by
 intro d;induction d with
 |zero=>
  intro i A hi h1 h2 hn;unfold small at hn;refine ⟨i,?_⟩;exact za (gg [.b (decide ((i:Int)<(b:Int))) zq] ⟨fP,tI⟩ ge)
 |succ d ih=>
  intro i A hi h1 h2 hn;obtain ⟨k0,h0⟩:=Acp a b i i A h1 (by omega) hn;obtain ⟨k,ih1⟩:=ih (i+1) (insIn qk a i A) (by omega) (by omega) (by rw [AeB];omega) (by unfold small;rw [AeB];exact hn);unfold small at hn;clear ih;refine ⟨k,?_⟩;have hlen:(insIn qk a i A).length=A.length:=AeB ..;rw [insOut];exact za (gg [.b (decide ((i:Int)<(b:Int))) zg,.a _ _,.i zy ((i:Int)+1) (↑(i+1):Int),.a _ _] ⟨tP,o_a h0,oI,o_a ih1,tI⟩ ge)
theorem Abp (A:List Cross) (a b:Nat) (h1:a≤b) (h2:b≤A.length) (hn:small A):Is cx (.call 299 [.all 0 zx,vi a,vi b,.t (.clo 186 [])] [.arr 15 (A.map zd) zx zq])
  ⟨.ret,[],[.arr 15 ((srt qk A a b).map zd) zx zq]⟩:=by
 by_cases hab:a<b
 ·rw [←Amw Aal hab h2];obtain ⟨k,h⟩:=Acq a b (b-a-1) (a+1) A (by omega) (by omega) h2 hn;unfold small at hn;exact za (gg [.i zy ((a:Int)+1) (↑(a+1):Int),.a _ _] ⟨oI,o_a h,tI⟩ ge)
 ·obtain rfl:a=b:=by omega
  rw [Aow Aal (by omega) (by omega)];unfold small at hn;have h:Is cx (.loop 299 [0,1] 1 [.all 0 zx,vi a,vi a,.t (.clo 186 []),vi (a+1:Nat)] [.arr 15 (A.map zd) zx zq])
   ⟨.exit 0,[.all 0 zx,vi a,vi a,.t (.clo 186 []),vi (a+1:Nat)],[.arr 15 (A.map zd) zx zq]⟩:=by
   exact za (gg [.b (decide ((↑(a+1):Int)<(a:Int))) zq] ⟨fP,tI⟩ ge)
  exact za (gg [.i zy ((a:Int)+1) (↑(a+1):Int),.a _ _] ⟨oI,o_a h,tI⟩ ge)
theorem Aea (m:Nat): ∀(d i j:Nat) (A:List Cross),i+j≤d→0<i→0<j→i≤m→m+j≤A.length→small A→ ∃(k:Nat) (B:List Cross),
  Is cx (.loop 303 [0,0,1,1] 1 [.all 0 zx,vi m,.t (.clo 186 []),vi i,vi j] [.arr 15 (A.map zd) zx zq])
   ⟨.exit 0,[.all 0 zx,vi m,.t (.clo 186 []),vi k,vi k],[.arr 15 (B.map zd) zx zq]⟩∧k≤m∧m+k≤A.length∧B.length=A.length∧swR k B (m-k) m=rotL d A m i j:=by
 intro d;induction d with
 |zero=>intros;omega
 |succ d ih=>
  intro i j A hd h1 h2 h3 h4 hn;by_cases hij:i=j
  ·subst hij;refine ⟨i,A,?_,h3,h4,rfl,by rw [rotL,if_pos rfl]⟩;unfold small at hn;exact za (gg [.b ((i:Int) !=(i:Int)) zq] ⟨f_brn rfl,tI⟩ ge)
  ·by_cases hj:j<i
   ·obtain ⟨k,B,ih1,k1,k2,k3,k4⟩:=ih (i-j) j (swR j A (m-i) m) (by omega) (by omega) h2 (by omega) (by rw [AbV];omega) (by unfold small;rw [AbV];exact hn);rw [AbV] at k2 k3;refine ⟨k,B,?_,k1,k2,k3,by rw [rotL,if_neg hij,if_pos hj,k4]⟩;have h0:=Abg A (m-i) m j (by omega) (by omega) hn;have hlen:(swR j A (m-i) m).length=A.length:=AbV ..;unfold small at hn;clear ih;have e1:(m:Int)-i=(m-i:Nat):=by omega
    have e2:(i:Int)-j=(i-j:Nat):=by omega
    exact za (gg [.b ((i:Int) !=(j:Int)) zg,.b (decide ((i:Int)>(j:Int))) zg,.i zy ((m:Int)-(i:Int)) (↑(m-i):Int),.a _ _,.i zy ((i:Int)-(j:Int)) (↑(i-j):Int),.a _ _] ⟨tN,tP,oI,o_a h0,oI,o_a ih1,tI⟩ ge)
   ·obtain ⟨k,B,ih1,k1,k2,k3,k4⟩:=ih i (j-i) (swR i A (m-i) (m+j-i)) (by omega) h1 (by omega) h3 (by rw [AbV];omega) (by unfold small;rw [AbV];exact hn);rw [AbV] at k2 k3;refine ⟨k,B,?_,k1,k2,k3,by rw [rotL,if_neg hij,if_neg hj,k4]⟩;have h0:=Abg A (m-i) (m+j-i) i (by omega) (by omega) hn;have hlen:(swR i A (m-i) (m+j-i)).length=A.length:=AbV ..;unfold small at hn;clear ih;have e1:(m:Int)-i=(m-i:Nat):=by omega
    have e2:(j:Int)-i=(j-i:Nat):=by omega
    have e3:(m+j:Nat)-(i:Int)=(m+j-i:Nat):=by omega
    exact za (gg [.b ((i:Int) !=(j:Int)) zg,.b (decide ((i:Int)>(j:Int))) zq,.i zy ((m:Int)-(i:Int)) (↑(m-i):Int),.i zy ((m:Int)+(j:Int)) (↑(m+j):Int),.i zy ((↑(m+j):Int)-(i:Int)) (↑(m+j-i):Int),.a _ _,.i zy ((j:Int)-(i:Int)) (↑(j-i):Int),.a _ _] ⟨tN,fP,oI,oI,oI,o_a h0,oI,o_a ih1,tI⟩ ge)
theorem Aho (A:List Cross) (a m b:Nat) (h1:a<m) (h2:m<b) (h3:b≤A.length) (hn:small A):Is cx (.call 303 [.all 0 zx,vi a,vi m,vi b,.t (.clo 186 [])] [.arr 15 (A.map zd) zx zq])
  ⟨.ret,[],[.arr 15 ((A.take a++seg A m b++seg A a m++A.drop b).map zd) zx zq]⟩:=by
 rw [←Apl h1 h2 h3 (qn _)];obtain ⟨k,B,h,k1,k2,k3,k4⟩:=Aea m (b-a) (m-a) (b-m) A (by omega) (by omega) (by omega) (by omega) (by omega) hn;rw [←k4];have h0:=Abg B (m-k) m k (by omega) (by omega) (by unfold small;rw [k3];exact hn);unfold small at hn;have e1:(m:Int)-a=(m-a:Nat):=by omega
 have e2:(b:Int)-m=(b-m:Nat):=by omega
 have e3:(m:Int)-k=(m-k:Nat):=by omega
 exact za (gg [.i zy ((m:Int)-(a:Int)) (↑(m-a):Int),.i zy ((b:Int)-(m:Int)) (↑(b-m):Int),.a _ _,.i zy ((m:Int)-(k:Int)) (↑(m-k):Int),.a _ _] ⟨oI,oI,o_a h,oI,o_a h0,tI⟩ ge)
end Go.Eva.S8
namespace Go.Eva.S8
theorem AdG (A:List Cross) (a:Nat) (ha:a<A.length) (hn:small A): ∀(d i j:Nat),i≤j→j≤i+d→j≤A.length→
  Is cx (.loop 300 [0,0,1,1,0,1,0] 1 [.all 0 zx,vi a,.t (.clo 186 []),vi i,vi j] [.arr 15 (A.map zd) zx zq])
   ⟨.exit 0,[.all 0 zx,vi a,.t (.clo 186 []),vi (bs (fun h=>qk (gt A h) (gt A a)) d i j:Nat),vi (bs (fun h=>qk (gt A h) (gt A a)) d i j:Nat)],[.arr 15 (A.map zd) zx zq]⟩:=by
 intro d;induction d with
 |zero=>
  intro i j h1 h2 h3;obtain rfl:i=j:=by omega
  unfold small at hn;unfold bs;exact za (gg [.b (decide ((i:Int)<(i:Int))) zq] ⟨fP,tI⟩ ge)
 |succ d ih=>
  intro i j h1 h2 h3;by_cases hij:i<j
  ·obtain ⟨h,hh⟩: ∃h,(i+j)/2=h:=⟨_,rfl⟩
   have hf:j7 ((i+j:Nat):Int) 2=(h:Nat):=by rw [y4 _ (by omega)];omega
   have ih1:=ih (h+1) j (by omega) (by omega) (by omega);have ih2:=ih i h (by omega) (by omega) (by omega);unfold small at hn;clear ih;cases hl:(fun h=>qk (gt A h) (gt A a)) h with
   |true=>
    have e:bs (fun h=>qk (gt A h) (gt A a)) (d+1) i j=bs (fun h=>qk (gt A h) (gt A a)) d (h+1) j:=by exact bs_t hij hh hl
    rw [e];have hl:(gt A h).cmp (gt A a)<0:=by simpa [qk] using hl
    refine za (gg [.b (decide ((i:Int)<(j:Int))) zg,.i zy ((i:Int)+(j:Int)) (↑(i+j):Int),.i zr (↑(i+j):Int) (↑(i+j):Int),.w (0≤(1:Int)),.t (xc zr (j7 (↑(i+j):Int) 2)) (xc zr (h:Int)),.i zy (h:Int) (h:Int),.w (0≤(h:Int)),.n (zm (h:Int)) h,.w (h<zj (zw zd A)),.w (0≤(a:Int)),.n (zm (a:Int)) a,.w (a<zj (zw zd A)),.g (zw zd A) h (zd (gt A h)),.g (zw zd A) a (zd (gt A a)),.w (isFnB cx (186:Nat)=zg),.a _ _] ⟨tP,oI,oU,oW,o_t (by rw [hf]),oI,oW,nK,oS,oW,nK,oS,oT,oH,o_w (by kernel_rfl),o_a (Aaz (gt A h) (gt A a)),tI⟩ (gg [.b (decide (ki (gt A h) (gt A a)<0)) zg,.i zy ((h:Int)+1) (↑(h+1):Int),.a _ _] ⟨tA,oI,o_a ih1,tI⟩ (rT (a:=zl (jr 0) [xz 0 zx,vi (a:Int),V.t (pe 186 []),vi (↑(bs (fun (h:Nat)↦qk (gt A h) (gt A a)) d (h+1) j):Int),vi (↑(bs (fun (h:Nat)↦qk (gt A h) (gt A a)) d (h+1) j):Int)] [jy 15 (zw zd A) zx zq]) ?_)))
    (first|rfl|omega|(simp_all;done)|(simp_all;omega))
   |false=>
    have e:bs (fun h=>qk (gt A h) (gt A a)) (d+1) i j=bs (fun h=>qk (gt A h) (gt A a)) d i h:=by exact bs_f hij hh hl
    rw [e];have hl: ¬(gt A h).cmp (gt A a)<0:=by simpa [qk] using hl
    refine za (gg [.b (decide ((i:Int)<(j:Int))) zg,.i zy ((i:Int)+(j:Int)) (↑(i+j):Int),.i zr (↑(i+j):Int) (↑(i+j):Int),.w (0≤(1:Int)),.t (xc zr (j7 (↑(i+j):Int) 2)) (xc zr (h:Int)),.i zy (h:Int) (h:Int),.w (0≤(h:Int)),.n (zm (h:Int)) h,.w (h<zj (zw zd A)),.w (0≤(a:Int)),.n (zm (a:Int)) a,.w (a<zj (zw zd A)),.g (zw zd A) h (zd (gt A h)),.g (zw zd A) a (zd (gt A a)),.w (isFnB cx (186:Nat)=zg),.a _ _] ⟨tP,oI,oU,oW,o_t (by rw [hf]),oI,oW,nK,oS,oW,nK,oS,oT,oH,o_w (by kernel_rfl),o_a (Aaz (gt A h) (gt A a)),tI⟩ (gg [.b (decide (ki (gt A h) (gt A a)<0)) zq,.a _ _] ⟨fA,o_a ih2,tI⟩ (rT (a:=zl (jr 0) [xz 0 zx,vi (a:Int),V.t (pe 186 []),vi (↑(bs (fun (h:Nat)↦qk (gt A h) (gt A a)) d i h):Int),vi (↑(bs (fun (h:Nat)↦qk (gt A h) (gt A a)) d i h):Int)] [jy 15 (zw zd A) zx zq]) ?_)))
    (first|rfl|omega|(simp_all;done)|(simp_all;omega))
  ·obtain rfl:i=j:=by omega
   unfold small at hn;have e:bs (fun h=>qk (gt A h) (gt A a)) (d+1) i i=i:=by rw [bs,if_neg hij]
   rw [e];exact za (gg [.b (decide ((i:Int)<(i:Int))) zq] ⟨fP,tI⟩ ge)
theorem AdH (A:List Cross) (m:Nat) (hm:m<A.length) (hn:small A): ∀(d i j:Nat),i≤j→j≤i+d→j≤A.length→
  Is cx (.loop 300 [0,0,1,1,0,1,0,1] 1 [.all 0 zx,vi m,.t (.clo 186 []),vi i,vi j] [.arr 15 (A.map zd) zx zq])
   ⟨.exit 4,[.all 0 zx,vi m,.t (.clo 186 []),vi (bs (fun h=> !Cross.less (gt A m) (gt A h)) d i j:Nat),vi (bs (fun h=> !Cross.less (gt A m) (gt A h)) d i j:Nat)],[.arr 15 (A.map zd) zx zq]⟩:=by
 intro d;induction d with
 |zero=>
  intro i j h1 h2 h3;obtain rfl:i=j:=by omega
  unfold small at hn;unfold bs;exact za (gg [.b (decide ((i:Int)<(i:Int))) zq] ⟨fP,tI⟩ ge)
 |succ d ih=>
  intro i j h1 h2 h3;by_cases hij:i<j
  ·obtain ⟨h,hh⟩: ∃h,(i+j)/2=h:=⟨_,rfl⟩
   have hf:j7 ((i+j:Nat):Int) 2=(h:Nat):=by rw [y4 _ (by omega)];omega
   have ih1:=ih (h+1) j (by omega) (by omega) (by omega);have ih2:=ih i h (by omega) (by omega) (by omega);unfold small at hn;clear ih;cases hl:(fun h=> !Cross.less (gt A m) (gt A h)) h with
   |true=>
    have e:bs (fun h=> !Cross.less (gt A m) (gt A h)) (d+1) i j=bs (fun h=> !Cross.less (gt A m) (gt A h)) d (h+1) j:=by exact bs_t hij hh hl
    rw [e];have hl: ¬(gt A m).cmp (gt A h)<0:=by simpa [qk] using hl
    refine za (gg [.b (decide ((i:Int)<(j:Int))) zg,.i zy ((i:Int)+(j:Int)) (↑(i+j):Int),.i zr (↑(i+j):Int) (↑(i+j):Int),.w (0≤(1:Int)),.t (xc zr (j7 (↑(i+j):Int) 2)) (xc zr (h:Int)),.i zy (h:Int) (h:Int),.w (0≤(m:Int)),.n (zm (m:Int)) m,.w (m<zj (zw zd A)),.w (0≤(h:Int)),.n (zm (h:Int)) h,.w (h<zj (zw zd A)),.g (zw zd A) m (zd (gt A m)),.g (zw zd A) h (zd (gt A h)),.w (isFnB cx (186:Nat)=zg),.a _ _] ⟨tP,oI,oU,oW,o_t (by rw [hf]),oI,oW,nK,oS,oW,nK,oS,oH,oT,o_w (by kernel_rfl),o_a (Aaz (gt A m) (gt A h)),tI⟩ ?_);refine brnot (b:=decide (ki (gt A m) (gt A h)<0)) (by kernel_rfl) (fun h1=> ?_) (fun h1=> ?_)
    ·refine gg [.i zy ((h:Int)+1) (↑(h+1):Int),.a _ _] ⟨oI,o_a ih1,tI⟩ (rT (a:=zl (jr 4) [xz 0 zx,vi (m:Int),V.t (pe 186 []),vi (↑(bs (fun (h:Nat)↦ !Cross.less (gt A m) (gt A h)) d (h+1) j):Int),vi (↑(bs (fun (h:Nat)↦ !Cross.less (gt A m) (gt A h)) d (h+1) j):Int)] [jy 15 (zw zd A) zx zq]) ?_)
     (first|rfl|omega|(simp_all;done)|(simp_all;omega))
    ·refine gg [.a _ _] ⟨o_a ih2,tI⟩ (rT (a:=zl (jr 4) [xz 0 zx,vi (m:Int),V.t (pe 186 []),vi (↑(bs (fun (h:Nat)↦ !Cross.less (gt A m) (gt A h)) d i h):Int),vi (↑(bs (fun (h:Nat)↦ !Cross.less (gt A m) (gt A h)) d i h):Int)] [jy 15 (zw zd A) zx zq]) ?_)
     (first|rfl|omega|(simp_all;done)|(simp_all;omega))
   |false=>
    have e:bs (fun h=> !Cross.less (gt A m) (gt A h)) (d+1) i j=bs (fun h=> !Cross.less (gt A m) (gt A h)) d i h:=by exact bs_f hij hh hl
    rw [e];have hl:(gt A m).cmp (gt A h)<0:=by simpa [qk] using hl
    refine za (gg [.b (decide ((i:Int)<(j:Int))) zg,.i zy ((i:Int)+(j:Int)) (↑(i+j):Int),.i zr (↑(i+j):Int) (↑(i+j):Int),.w (0≤(1:Int)),.t (xc zr (j7 (↑(i+j):Int) 2)) (xc zr (h:Int)),.i zy (h:Int) (h:Int),.w (0≤(m:Int)),.n (zm (m:Int)) m,.w (m<zj (zw zd A)),.w (0≤(h:Int)),.n (zm (h:Int)) h,.w (h<zj (zw zd A)),.g (zw zd A) m (zd (gt A m)),.g (zw zd A) h (zd (gt A h)),.w (isFnB cx (186:Nat)=zg),.a _ _] ⟨tP,oI,oU,oW,o_t (by rw [hf]),oI,oW,nK,oS,oW,nK,oS,oH,oT,o_w (by kernel_rfl),o_a (Aaz (gt A m) (gt A h)),tI⟩ ?_);refine brnot (b:=decide (ki (gt A m) (gt A h)<0)) (by kernel_rfl) (fun h1=> ?_) (fun h1=> ?_)
    ·refine gg [.i zy ((h:Int)+1) (↑(h+1):Int),.a _ _] ⟨oI,o_a ih1,tI⟩ (rT (a:=zl (jr 4) [xz 0 zx,vi (m:Int),V.t (pe 186 []),vi (↑(bs (fun (h:Nat)↦ !Cross.less (gt A m) (gt A h)) d (h+1) j):Int),vi (↑(bs (fun (h:Nat)↦ !Cross.less (gt A m) (gt A h)) d (h+1) j):Int)] [jy 15 (zw zd A) zx zq]) ?_)
     (first|rfl|omega|(simp_all;done)|(simp_all;omega))
    ·refine gg [.a _ _] ⟨o_a ih2,tI⟩ (rT (a:=zl (jr 4) [xz 0 zx,vi (m:Int),V.t (pe 186 []),vi (↑(bs (fun (h:Nat)↦ !Cross.less (gt A m) (gt A h)) d i h):Int),vi (↑(bs (fun (h:Nat)↦ !Cross.less (gt A m) (gt A h)) d i h):Int)] [jy 15 (zw zd A) zx zq]) ?_)
     (first|rfl|omega|(simp_all;done)|(simp_all;omega))
  ·obtain rfl:i=j:=by omega
   unfold small at hn;have e:bs (fun h=> !Cross.less (gt A m) (gt A h)) (d+1) i i=i:=by rw [bs,if_neg hij]
   rw [e];exact za (gg [.b (decide ((i:Int)<(i:Int))) zq] ⟨fP,tI⟩ ge)
theorem AdI (A:List Cross) (a m b mid n p:Nat) (hn:small A): ∀(d i j:Nat),i≤j→j≤i+d→j≤p+1→p<i+A.length→j≤A.length→
  Is cx (.loop 300 [0,0,1,1,1,1,1,1,1] 1 [.all 0 zx,vi a,vi m,vi b,.t (.clo 186 []),vi mid,vi n,vi i,vi j,vi p] [.arr 15 (A.map zd) zx zq])
   ⟨.exit 8,[.all 0 zx,vi a,vi m,vi b,.t (.clo 186 []),vi mid,vi n,vi (bs (fun c=> !Cross.less (gt A (p-c)) (gt A c)) d i j:Nat),vi (bs (fun c=> !Cross.less (gt A (p-c)) (gt A c)) d i j:Nat),vi p],[.arr 15 (A.map zd) zx zq]⟩:=by
 intro d;induction d with
 |zero=>
  intro i j h1 h2 h3 h4 h5;obtain rfl:i=j:=by omega
  unfold small at hn;unfold bs;exact za (gg [.b (decide ((i:Int)<(i:Int))) zq] ⟨fP,tI⟩ ge)
 |succ d ih=>
  intro i j h1 h2 h3 h4 h5;by_cases hij:i<j
  ·obtain ⟨h,hh⟩: ∃h,(i+j)/2=h:=⟨_,rfl⟩
   have hf:j7 ((i+j:Nat):Int) 2=(h:Nat):=by rw [y4 _ (by omega)];omega
   have ih1:=ih (h+1) j (by omega) (by omega) (by omega) (by omega) (by omega);have ih2:=ih i h (by omega) (by omega) (by omega) (by omega) (by omega);unfold small at hn;clear ih;cases hl:(fun c=> !Cross.less (gt A (p-c)) (gt A c)) h with
   |true=>
    have e:bs (fun c=> !Cross.less (gt A (p-c)) (gt A c)) (d+1) i j=bs (fun c=> !Cross.less (gt A (p-c)) (gt A c)) d (h+1) j:=by exact bs_t hij hh hl
    rw [e];have hl: ¬(gt A (p-h)).cmp (gt A h)<0:=by simpa [qk] using hl
    have e1:(p:Int)-h=(p-h:Nat):=by omega
    refine za (gg [.b (decide ((i:Int)<(j:Int))) zg,.i zy ((i:Int)+(j:Int)) (↑(i+j):Int),.i zr (↑(i+j):Int) (↑(i+j):Int),.w (0≤(1:Int)),.t (xc zr (j7 (↑(i+j):Int) 2)) (xc zr (h:Int)),.i zy (h:Int) (h:Int),.i zy ((p:Int)-(h:Int)) (↑(p-h):Int),.w (0≤(↑(p-h):Int)),.n (zm (↑(p-h):Int)) (p-h),.w (p-h<zj (zw zd A)),.w (0≤(h:Int)),.n (zm (h:Int)) h,.w (h<zj (zw zd A)),.g (zw zd A) (p-h) (zd (gt A (p-h))),.g (zw zd A) h (zd (gt A h)),.w (isFnB cx (186:Nat)=zg)] ⟨tP,oI,oU,oW,o_t (by rw [hf]),oI,oI,oW,nK,oS,oW,nK,oS,oT,oT,o_w (by kernel_rfl),tI⟩ (gg [.a _ _] ⟨o_a (Aaz (gt A (p-h)) (gt A h)),tI⟩ ?_));refine brnot (b:=decide (ki (gt A (p-h)) (gt A h)<0)) (by kernel_rfl) (fun h1=> ?_) (fun h1=> ?_)
    ·refine gg [.i zy ((h:Int)+1) (↑(h+1):Int),.a _ _] ⟨oI,o_a ih1,tI⟩ (rT (a:=zl (jr 8) [xz 0 zx,vi (a:Int),vi (m:Int),vi (b:Int),V.t (pe 186 []),vi (mid:Int),vi (n:Int),vi (↑(bs (fun (c:Nat)↦ !Cross.less (gt A (p-c)) (gt A c)) d (h+1) j):Int),vi (↑(bs (fun (c:Nat)↦ !Cross.less (gt A (p-c)) (gt A c)) d (h+1) j):Int),vi (p:Int)] [jy 15 (zw zd A) zx zq]) ?_)
     (first|rfl|omega|(simp_all;done)|(simp_all;omega))
    ·refine gg [.a _ _] ⟨o_a ih2,tI⟩ (rT (a:=zl (jr 8) [xz 0 zx,vi (a:Int),vi (m:Int),vi (b:Int),V.t (pe 186 []),vi (mid:Int),vi (n:Int),vi (↑(bs (fun (c:Nat)↦ !Cross.less (gt A (p-c)) (gt A c)) d i h):Int),vi (↑(bs (fun (c:Nat)↦ !Cross.less (gt A (p-c)) (gt A c)) d i h):Int),vi (p:Int)] [jy 15 (zw zd A) zx zq]) ?_)
     (first|rfl|omega|(simp_all;done)|(simp_all;omega))
   |false=>
    have e:bs (fun c=> !Cross.less (gt A (p-c)) (gt A c)) (d+1) i j=bs (fun c=> !Cross.less (gt A (p-c)) (gt A c)) d i h:=by exact bs_f hij hh hl
    rw [e];have hl:(gt A (p-h)).cmp (gt A h)<0:=by simpa [qk] using hl
    have e1:(p:Int)-h=(p-h:Nat):=by omega
    refine za (gg [.b (decide ((i:Int)<(j:Int))) zg,.i zy ((i:Int)+(j:Int)) (↑(i+j):Int),.i zr (↑(i+j):Int) (↑(i+j):Int),.w (0≤(1:Int)),.t (xc zr (j7 (↑(i+j):Int) 2)) (xc zr (h:Int)),.i zy (h:Int) (h:Int),.i zy ((p:Int)-(h:Int)) (↑(p-h):Int),.w (0≤(↑(p-h):Int)),.n (zm (↑(p-h):Int)) (p-h),.w (p-h<zj (zw zd A)),.w (0≤(h:Int)),.n (zm (h:Int)) h,.w (h<zj (zw zd A)),.g (zw zd A) (p-h) (zd (gt A (p-h))),.g (zw zd A) h (zd (gt A h)),.w (isFnB cx (186:Nat)=zg)] ⟨tP,oI,oU,oW,o_t (by rw [hf]),oI,oI,oW,nK,oS,oW,nK,oS,oT,oT,o_w (by kernel_rfl),tI⟩ (gg [.a _ _] ⟨o_a (Aaz (gt A (p-h)) (gt A h)),tI⟩ ?_));refine brnot (b:=decide (ki (gt A (p-h)) (gt A h)<0)) (by kernel_rfl) (fun h1=> ?_) (fun h1=> ?_)
    ·refine gg [.i zy ((h:Int)+1) (↑(h+1):Int),.a _ _] ⟨oI,o_a ih1,tI⟩ (rT (a:=zl (jr 8) [xz 0 zx,vi (a:Int),vi (m:Int),vi (b:Int),V.t (pe 186 []),vi (mid:Int),vi (n:Int),vi (↑(bs (fun (c:Nat)↦ !Cross.less (gt A (p-c)) (gt A c)) d (h+1) j):Int),vi (↑(bs (fun (c:Nat)↦ !Cross.less (gt A (p-c)) (gt A c)) d (h+1) j):Int),vi (p:Int)] [jy 15 (zw zd A) zx zq]) ?_)
     (first|rfl|omega|(simp_all;done)|(simp_all;omega))
    ·refine gg [.a _ _] ⟨o_a ih2,tI⟩ (rT (a:=zl (jr 8) [xz 0 zx,vi (a:Int),vi (m:Int),vi (b:Int),V.t (pe 186 []),vi (mid:Int),vi (n:Int),vi (↑(bs (fun (c:Nat)↦ !Cross.less (gt A (p-c)) (gt A c)) d i h):Int),vi (↑(bs (fun (c:Nat)↦ !Cross.less (gt A (p-c)) (gt A c)) d i h):Int),vi (p:Int)] [jy 15 (zw zd A) zx zq]) ?_)
     (first|rfl|omega|(simp_all;done)|(simp_all;omega))
  ·obtain rfl:i=j:=by omega
   unfold small at hn;have e:bs (fun c=> !Cross.less (gt A (p-c)) (gt A c)) (d+1) i i=i:=by rw [bs,if_neg hij]
   rw [e];exact za (gg [.b (decide ((i:Int)<(i:Int))) zq] ⟨fP,tI⟩ ge)
theorem Aec: ∀(d k i:Nat) (A:List Cross),k+d=i-1→i≤A.length→small A→
  Is cx (.loop 300 [0,1,0,1,1,1,0,1,0] 1 [.all 0 zx,vi i,vi k] [.arr 15 (A.map zd) zx zq])
   ⟨.exit 2,[.all 0 zx,vi i,vi (i-1:Nat)],[.arr 15 ((up d A k).map zd) zx zq]⟩:=by
 intro d;induction d with
 |zero=>
  intro k i A h1 h2 hn;unfold small at hn;obtain rfl:k=i-1:=by omega
  unfold up;exact za (gg [.i zy ((i:Int)-1) ((i:Int)-1),.b (decide ((↑(i-1):Int)<(i:Int)-1)) zq] ⟨oI,fP,tI⟩ ge)
 |succ d ih=>
  intro k i A h1 h2 hn;have ih1:=ih (k+1) i (sw A k (k+1)) (by omega) (by rw [AcB];omega) (by unfold small;rw [AcB];exact hn);unfold small at hn;clear ih;unfold up;unfold sw at*;exact za (gg [.i zy ((i:Int)-1) ((i:Int)-1),.b (decide ((k:Int)<(i:Int)-1)) zg,.i zy ((k:Int)+1) (↑(k+1):Int),.i zy ((k:Int)+1) (↑(k+1):Int),.w (0≤(↑(k+(1:Nat)):Int)),.n (zm (↑(k+1):Int)) (k+1),.w (k+(1:Nat)<zj (zw zd A)),.w (0≤(k:Int)),.n (zm (k:Int)) k,.w (k<zj (zw zd A)),.g (zw zd A) (k+1) (zd (gt A (k+1))),.g (zw zd A) k (zd (gt A k)),.w (0≤(k:Int)),.n (zm (k:Int)) k,.w (k<zj (zw zd A)),.w (k<zj (zw zd A))] ⟨oI,tP,oI,oI,oW,nK,oS,oW,nK,oS,oT,oT,oW,nK,oS,oS,tI⟩ (gg [.t (T.sl 0 (qz (zw zd A) k (zd (gt A (k+1))))) (T.sl 0 (zw zd (qz A k (gt A (k+1))))),.w (0≤(↑(k+(1:Nat)):Int)),.n (zm (↑(k+1):Int)) (k+1),.w (k+(1:Nat)<zj (zw zd (qz A k (gt A (k+(1:Nat)))))),.w (k+(1:Nat)<zj (zw zd (qz A k (gt A (k+(1:Nat)))))),.t (T.sl 0 (qz (zw zd (qz A k (gt A (k+1)))) (k+1) (zd (gt A k)))) (T.sl 0 (zw zd (qz (qz A k (gt A (k+1))) (k+1) (gt A k)))),.i zy ((k:Int)+1) (↑(k+1):Int),.a _ _] ⟨o_l (Aaq rfl rfl),oW,nK,oS,oS,o_l (Aaq rfl rfl),oI,o_a ih1,tI⟩ ge))
theorem AcV (i:Nat): ∀(d k:Nat) (A:List Cross),k=i+d→k<A.length→small A→
  Is cx (.loop 300 [0,1,0,1,1,1,0,1,0,1] 1 [.all 0 zx,vi i,vi k] [.arr 15 (A.map zd) zx zq])
   ⟨.exit 6,[.all 0 zx,vi i,vi i],[.arr 15 ((down d A k).map zd) zx zq]⟩:=by
 intro d;induction d with
 |zero=>
  intro k A h1 h2 hn;unfold small at hn;obtain rfl:k=i:=by omega
  unfold down;exact za (gg [.b (decide ((k:Int)>(k:Int))) zq] ⟨fP,tI⟩ ge)
 |succ d ih=>
  intro k A h1 h2 hn;have ih1:=ih (k-1) (sw A k (k-1)) (by omega) (by rw [AcB];omega) (by unfold small;rw [AcB];exact hn);unfold small at hn;clear ih;have e1:(k:Int)-1=(k-1:Nat):=by omega
  unfold down;unfold sw at*;exact za (gg [.b (decide ((k:Int)>(i:Int))) zg,.i zy ((k:Int)-1) (↑(k-1):Int),.i zy ((k:Int)-1) (↑(k-1):Int),.w (0≤(↑(k-(1:Nat)):Int)),.n (zm (↑(k-1):Int)) (k-1),.w (k-(1:Nat)<zj (zw zd A)),.w (0≤(k:Int)),.n (zm (k:Int)) k,.w (k<zj (zw zd A)),.g (zw zd A) (k-1) (zd (gt A (k-1))),.g (zw zd A) k (zd (gt A k)),.w (0≤(k:Int)),.n (zm (k:Int)) k,.w (k<zj (zw zd A)),.w (k<zj (zw zd A)),.t (T.sl 0 (qz (zw zd A) k (zd (gt A (k-1))))) (T.sl 0 (zw zd (qz A k (gt A (k-1)))))] ⟨tP,oI,oI,oW,nK,oS,oW,nK,oS,oT,oH,oW,nK,oS,oS,o_l (Aaq rfl rfl),tI⟩ (gg [.w (0≤(↑(k-(1:Nat)):Int)),.n (zm (↑(k-1):Int)) (k-1),.w (k-(1:Nat)<zj (zw zd (qz A k (gt A (k-(1:Nat)))))),.w (k-(1:Nat)<zj (zw zd (qz A k (gt A (k-(1:Nat)))))),.t (T.sl 0 (qz (zw zd (qz A k (gt A (k-1)))) (k-1) (zd (gt A k)))) (T.sl 0 (zw zd (qz (qz A k (gt A (k-1))) (k-1) (gt A k)))),.i zy ((k:Int)-1) (↑(k-1):Int),.a _ _] ⟨oW,nK,oS,oS,o_l (Aaq rfl rfl),oI,o_a ih1,tI⟩ ge))
end Go.Eva.S8
namespace Go.Eva.S8
theorem AcI (P V Q:List Cross) (x:Cross) (a m b:Nat) (ha:a=P.length) (hm:m=a+1) (hb:b=m+V.length) (h0:0<V.length) (hV:Sd qk V) (hn:small (P++ [x]++V++Q)):
   Is cx (.call 300 [.all 0 zx,vi a,vi m,vi b,.t (.clo 186 [])] [.arr 15 ((P++ [x]++V++Q).map zd) zx zq])
  ⟨.ret,[],[.arr 15 ((P++sortS qk ([x]++V)++Q).map zd) zx zq]⟩:=by
 have hl:(P++ [x]++V++Q).length=b+Q.length:=by simp;omega
 have hbs:=AdG (P++ [x]++V++Q) a (by omega) hn (b-m) m b (by omega) (by omega) (by omega);obtain ⟨k1,k2,k3⟩:=Ak0 Aal (Q:=Q) (x:=x) (d:=b-m) ha hm hb (by omega) hV rfl;generalize bs _ (b-m) m b=s at*;have hup:=Aec (s-1-a) a s (P++ [x]++V++Q) (by omega) (by omega) hn;rw [k3] at hup;clear k3 hV;generalize P++ [x]++V++Q=A at*;generalize P++sortS qk ([x]++V)++Q=B at*;unfold small at hn;exact za (gg [.i zy ((m:Int)-(a:Int)) ((m:Int)-(a:Int)),.b ((m:Int)-(a:Int)==1) zg,.a _ _,.a _ _] ⟨oI,tE,o_a hbs,o_a hup,tI⟩ ge)
theorem AcY (P U Q:List Cross) (y:Cross) (a m b:Nat) (ha:a=P.length) (hm:m=a+U.length) (hb:b=m+1) (h0:1<U.length) (hU:Sd qk U) (hn:small (P++U++ [y]++Q)):
   Is cx (.call 300 [.all 0 zx,vi a,vi m,vi b,.t (.clo 186 [])] [.arr 15 ((P++U++ [y]++Q).map zd) zx zq])
  ⟨.ret,[],[.arr 15 ((P++sortS qk (U++ [y])++Q).map zd) zx zq]⟩:=by
 have hl:(P++U++ [y]++Q).length=b+Q.length:=by simp;omega
 have hbs:=AdH (P++U++ [y]++Q) m (by omega) hn (m-a) a m (by omega) (by omega) (by omega);obtain ⟨k1,k2,k3⟩:=Am1 Aal (Q:=Q) (y:=y) (d:=m-a) ha hm (by omega) hU rfl;generalize bs _ (m-a) a m=s at*;have hup:=AcV s (m-s) m (P++U++ [y]++Q) (by omega) (by omega) hn;rw [k3] at hup;clear k3 hU;generalize P++U++ [y]++Q=A at*;generalize P++sortS qk (U++ [y])++Q=B at*;unfold small at hn;exact za (gg [.i zy ((m:Int)-(a:Int)) ((m:Int)-(a:Int)),.b ((m:Int)-(a:Int)==1) zq,.i zy ((b:Int)-(m:Int)) ((b:Int)-(m:Int)),.b ((b:Int)-(m:Int)==1) zg,.a _ _,.a _ _] ⟨oI,fE,oI,tE,o_a hbs,o_a hup,tI⟩ ge)
end Go.Eva.S8
namespace Go.Eva.S8
theorem AcW (A0 A1 A2 A3:List Cross) (a m b mid s:Nat) (hmid:(a+b)/2=mid) (hc:m≤mid)
  (h1:a+1<m) (h2:m+1<b) (hb:b≤A0.length) (hn:small A0) (hs:a≤s∧s≤m)
  (hbs:Is cx (.loop 300 [0,0,1,1,1,1,1,1,1] 1 [.all 0 zx,vi a,vi m,vi b,.t (.clo 186 []),vi mid,vi (mid+m:Nat),vi a,vi m,vi (mid+m-1:Nat)] [.arr 15 (A0.map zd) zx zq])
   ⟨.exit 8,[.all 0 zx,vi a,vi m,vi b,.t (.clo 186 []),vi mid,vi (mid+m:Nat),vi s,vi s,vi (mid+m-1:Nat)],[.arr 15 (A0.map zd) zx zq]⟩)
  (k1:s<m→s<mid→Is cx (.call 303 [.all 0 zx,vi s,vi m,vi (mid+m-s:Nat),.t (.clo 186 [])] [.arr 15 (A0.map zd) zx zq]) ⟨.ret,[],[.arr 15 (A1.map zd) zx zq]⟩)
  (k1': ¬(s<m∧s<mid)→A0=A1)
  (k2:a<s→s<mid→Is cx (.call 300 [.all 0 zx,vi a,vi s,vi mid,.t (.clo 186 [])] [.arr 15 (A1.map zd) zx zq]) ⟨.ret,[],[.arr 15 (A2.map zd) zx zq]⟩)
  (k2': ¬(a<s∧s<mid)→A1=A2)
  (k3:s<m→mid+m<b+s→Is cx (.call 300 [.all 0 zx,vi mid,vi (mid+m-s:Nat),vi b,.t (.clo 186 [])] [.arr 15 (A2.map zd) zx zq]) ⟨.ret,[],[.arr 15 (A3.map zd) zx zq]⟩)
  (k3': ¬(s<m∧mid+m<b+s)→A2=A3):
  Is cx (.call 300 [.all 0 zx,vi a,vi m,vi b,.t (.clo 186 [])] [.arr 15 (A0.map zd) zx zq])
  ⟨.ret,[],[.arr 15 (A3.map zd) zx zq]⟩:=by
 have hf:j7 ((a+b:Nat):Int) 2=(mid:Nat):=by rw [y4 _ (by omega)];omega
 have hmm:a<mid∧mid<b:=by omega
 unfold small at hn;have e1:((mid+m:Nat):Int)-1=(mid+m-1:Nat):=by omega
 have e2:((mid+m:Nat):Int)-s=(mid+m-s:Nat):=by omega
 by_cases c1:s<m∧s<mid
 ·have j1:=k1 c1.1 c1.2;by_cases c2:a<s
  ·have j2:=k2 c2 c1.2;by_cases c3:mid+m<b+s
   ·have j3:=k3 c1.1 c3;clear k1' k2' k3' k1 k2 k3;exact za (gg [.i zy ((m:Int)-(a:Int)) ((m:Int)-(a:Int)),.b ((m:Int)-(a:Int)==1) zq,.i zy ((b:Int)-(m:Int)) ((b:Int)-(m:Int)),.b ((b:Int)-(m:Int)==1) zq,.i zy ((a:Int)+(b:Int)) (↑(a+b):Int),.i zr (↑(a+b):Int) (↑(a+b):Int),.w (0≤(1:Int)),.t (xc zr (j7 (↑(a+b):Int) 2)) (xc zr (mid:Int)),.i zy (mid:Int) (mid:Int),.i zy ((mid:Int)+(m:Int)) (↑(mid+m):Int),.b (decide ((m:Int)>(mid:Int))) zq,.i zy ((↑(mid+m):Int)-1) (↑(mid+m-1):Int),.a _ _,.i zy ((↑(mid+m):Int)-(s:Int)) (↑(mid+m-s):Int),.b (decide ((s:Int)<(m:Int))) zg,.tt] ⟨oI,fE,oI,fE,oI,oU,oW,o_t (by rw [hf]),oI,oI,fP,oI,o_a hbs,oI,tP,tI⟩ (gg [.tt,.tt,.b (decide ((m:Int)<(↑(mid+m-s):Int))) zg,.a _ _,.b (decide ((a:Int)<(s:Int))) zg,.tt,.tt,.tt,.b (decide ((s:Int)<(mid:Int))) zg,.a _ _,.b (decide ((mid:Int)<(↑(mid+m-s):Int))) zg,.tt,.tt,.tt,.b (decide ((↑(mid+m-s):Int)<(b:Int))) zg,.a _ _] ⟨tP,o_a j1,tP,tP,o_a j2,tP,tP,o_a j3,tI⟩ ge))
   ·obtain rfl:=k3' (fun h=>c3 h.2);clear k1' k2' k3' k1 k2 k3;omega
  ·obtain rfl:=k2' (fun h=>c2 h.1);by_cases c3:mid+m<b+s
   ·have j3:=k3 c1.1 c3;clear k1' k2' k3' k1 k2 k3;exact za (gg [.i zy ((m:Int)-(a:Int)) ((m:Int)-(a:Int)),.b ((m:Int)-(a:Int)==1) zq,.i zy ((b:Int)-(m:Int)) ((b:Int)-(m:Int)),.b ((b:Int)-(m:Int)==1) zq,.i zy ((a:Int)+(b:Int)) (↑(a+b):Int),.i zr (↑(a+b):Int) (↑(a+b):Int),.w (0≤(1:Int)),.t (xc zr (j7 (↑(a+b):Int) 2)) (xc zr (mid:Int)),.i zy (mid:Int) (mid:Int),.i zy ((mid:Int)+(m:Int)) (↑(mid+m):Int),.b (decide ((m:Int)>(mid:Int))) zq,.i zy ((↑(mid+m):Int)-1) (↑(mid+m-1):Int),.a _ _,.i zy ((↑(mid+m):Int)-(s:Int)) (↑(mid+m-s):Int),.b (decide ((s:Int)<(m:Int))) zg,.tt] ⟨oI,fE,oI,fE,oI,oU,oW,o_t (by rw [hf]),oI,oI,fP,oI,o_a hbs,oI,tP,tI⟩ (gg [.tt,.tt,.b (decide ((m:Int)<(↑(mid+m-s):Int))) zg,.a _ _,.b (decide ((a:Int)<(s:Int))) zq,.ff,.ff,.ff,.ff,.b (decide ((mid:Int)<(↑(mid+m-s):Int))) zg,.tt,.tt,.tt,.b (decide ((↑(mid+m-s):Int)<(b:Int))) zg,.a _ _] ⟨tP,o_a j1,fP,tP,tP,o_a j3,tI⟩ ge))
   ·obtain rfl:=k3' (fun h=>c3 h.2);clear k1' k2' k3' k1 k2 k3;exact za (gg [.i zy ((m:Int)-(a:Int)) ((m:Int)-(a:Int)),.b ((m:Int)-(a:Int)==1) zq,.i zy ((b:Int)-(m:Int)) ((b:Int)-(m:Int)),.b ((b:Int)-(m:Int)==1) zq,.i zy ((a:Int)+(b:Int)) (↑(a+b):Int),.i zr (↑(a+b):Int) (↑(a+b):Int),.w (0≤(1:Int)),.t (xc zr (j7 (↑(a+b):Int) 2)) (xc zr (mid:Int)),.i zy (mid:Int) (mid:Int),.i zy ((mid:Int)+(m:Int)) (↑(mid+m):Int),.b (decide ((m:Int)>(mid:Int))) zq,.i zy ((↑(mid+m):Int)-1) (↑(mid+m-1):Int),.a _ _,.i zy ((↑(mid+m):Int)-(s:Int)) (↑(mid+m-s):Int),.b (decide ((s:Int)<(m:Int))) zg,.tt] ⟨oI,fE,oI,fE,oI,oU,oW,o_t (by rw [hf]),oI,oI,fP,oI,o_a hbs,oI,tP,tI⟩ (gg [.tt,.tt,.b (decide ((m:Int)<(↑(mid+m-s):Int))) zg,.a _ _,.b (decide ((a:Int)<(s:Int))) zq,.ff,.ff,.ff,.ff,.b (decide ((mid:Int)<(↑(mid+m-s):Int))) zg,.tt,.tt,.tt,.b (decide ((↑(mid+m-s):Int)<(b:Int))) zq] ⟨tP,o_a j1,fP,tP,fP,tI⟩ ge))
 ·obtain rfl:=k1' c1;by_cases c0:s<m
  ·have c4: ¬s<mid:=fun h=>c1 ⟨c0,h⟩;obtain rfl:=k2' (fun h=>c4 h.2);by_cases c3:mid+m<b+s
   ·have j3:=k3 c0 c3;clear k1' k2' k3' k1 k2 k3;by_cases c2:a<s
    ·omega
    ·omega
   ·obtain rfl:=k3' (fun h=>c3 h.2);clear k1' k2' k3' k1 k2 k3;by_cases c2:a<s
    ·omega
    ·omega
  ·obtain rfl:=k3' (fun h=>c0 h.1);by_cases c4:s<mid
   ·have j2:=k2 (by omega) c4;clear k1' k2' k3' k1 k2 k3;exact za (gg [.i zy ((m:Int)-(a:Int)) ((m:Int)-(a:Int)),.b ((m:Int)-(a:Int)==1) zq,.i zy ((b:Int)-(m:Int)) ((b:Int)-(m:Int)),.b ((b:Int)-(m:Int)==1) zq,.i zy ((a:Int)+(b:Int)) (↑(a+b):Int),.i zr (↑(a+b):Int) (↑(a+b):Int),.w (0≤(1:Int)),.t (xc zr (j7 (↑(a+b):Int) 2)) (xc zr (mid:Int)),.i zy (mid:Int) (mid:Int),.i zy ((mid:Int)+(m:Int)) (↑(mid+m):Int),.b (decide ((m:Int)>(mid:Int))) zq,.i zy ((↑(mid+m):Int)-1) (↑(mid+m-1):Int),.a _ _,.i zy ((↑(mid+m):Int)-(s:Int)) (↑(mid+m-s):Int),.b (decide ((s:Int)<(m:Int))) zq,.ff] ⟨oI,fE,oI,fE,oI,oU,oW,o_t (by rw [hf]),oI,oI,fP,oI,o_a hbs,oI,fP,tI⟩ (gg [.ff,.ff,.ff,.b (decide ((a:Int)<(s:Int))) zg,.tt,.tt,.tt,.b (decide ((s:Int)<(mid:Int))) zg,.a _ _,.b (decide ((mid:Int)<(↑(mid+m-s):Int))) zq,.ff,.ff,.ff,.ff] ⟨tP,tP,o_a j2,fP,tI⟩ ge))
   ·obtain rfl:=k2' (fun h=>c4 h.2);clear k1' k2' k3' k1 k2 k3;by_cases c2:a<s
    ·exact za (gg [.i zy ((m:Int)-(a:Int)) ((m:Int)-(a:Int)),.b ((m:Int)-(a:Int)==1) zq,.i zy ((b:Int)-(m:Int)) ((b:Int)-(m:Int)),.b ((b:Int)-(m:Int)==1) zq,.i zy ((a:Int)+(b:Int)) (↑(a+b):Int),.i zr (↑(a+b):Int) (↑(a+b):Int),.w (0≤(1:Int)),.t (xc zr (j7 (↑(a+b):Int) 2)) (xc zr (mid:Int)),.i zy (mid:Int) (mid:Int),.i zy ((mid:Int)+(m:Int)) (↑(mid+m):Int),.b (decide ((m:Int)>(mid:Int))) zq,.i zy ((↑(mid+m):Int)-1) (↑(mid+m-1):Int),.a _ _,.i zy ((↑(mid+m):Int)-(s:Int)) (↑(mid+m-s):Int),.b (decide ((s:Int)<(m:Int))) zq,.ff] ⟨oI,fE,oI,fE,oI,oU,oW,o_t (by rw [hf]),oI,oI,fP,oI,o_a hbs,oI,fP,tI⟩ (gg [.ff,.ff,.ff,.b (decide ((a:Int)<(s:Int))) zg,.tt,.tt,.tt,.b (decide ((s:Int)<(mid:Int))) zq,.b (decide ((mid:Int)<(↑(mid+m-s):Int))) zq,.ff,.ff,.ff,.ff] ⟨tP,fP,fP,tI⟩ ge))
    ·omega
theorem AcX (A0 A1 A2 A3:List Cross) (a m b mid s:Nat) (hmid:(a+b)/2=mid) (hc:mid<m)
  (h1:a+1<m) (h2:m+1<b) (hb:b≤A0.length) (hn:small A0) (hs:mid+m-b≤s∧s≤mid)
  (hbs:Is cx (.loop 300 [0,0,1,1,1,1,1,1,1] 1 [.all 0 zx,vi a,vi m,vi b,.t (.clo 186 []),vi mid,vi (mid+m:Nat),vi (mid+m-b:Nat),vi mid,vi (mid+m-1:Nat)] [.arr 15 (A0.map zd) zx zq])
   ⟨.exit 8,[.all 0 zx,vi a,vi m,vi b,.t (.clo 186 []),vi mid,vi (mid+m:Nat),vi s,vi s,vi (mid+m-1:Nat)],[.arr 15 (A0.map zd) zx zq]⟩)
  (k1:s<m→s<mid→Is cx (.call 303 [.all 0 zx,vi s,vi m,vi (mid+m-s:Nat),.t (.clo 186 [])] [.arr 15 (A0.map zd) zx zq]) ⟨.ret,[],[.arr 15 (A1.map zd) zx zq]⟩)
  (k1': ¬(s<m∧s<mid)→A0=A1)
  (k2:a<s→s<mid→Is cx (.call 300 [.all 0 zx,vi a,vi s,vi mid,.t (.clo 186 [])] [.arr 15 (A1.map zd) zx zq]) ⟨.ret,[],[.arr 15 (A2.map zd) zx zq]⟩)
  (k2': ¬(a<s∧s<mid)→A1=A2)
  (k3:s<m→mid+m<b+s→Is cx (.call 300 [.all 0 zx,vi mid,vi (mid+m-s:Nat),vi b,.t (.clo 186 [])] [.arr 15 (A2.map zd) zx zq]) ⟨.ret,[],[.arr 15 (A3.map zd) zx zq]⟩)
  (k3': ¬(s<m∧mid+m<b+s)→A2=A3):
  Is cx (.call 300 [.all 0 zx,vi a,vi m,vi b,.t (.clo 186 [])] [.arr 15 (A0.map zd) zx zq])
  ⟨.ret,[],[.arr 15 (A3.map zd) zx zq]⟩:=by
 have hf:j7 ((a+b:Nat):Int) 2=(mid:Nat):=by rw [y4 _ (by omega)];omega
 have hmm:a<mid∧mid<b:=by omega
 unfold small at hn;have e1:((mid+m:Nat):Int)-1=(mid+m-1:Nat):=by omega
 have e2:((mid+m:Nat):Int)-s=(mid+m-s:Nat):=by omega
 have e3:((mid+m:Nat):Int)-b=(mid+m-b:Nat):=by omega
 by_cases c1:s<m∧s<mid
 ·have j1:=k1 c1.1 c1.2;by_cases c2:a<s
  ·have j2:=k2 c2 c1.2;by_cases c3:mid+m<b+s
   ·have j3:=k3 c1.1 c3;clear k1' k2' k3' k1 k2 k3;exact za (gg [.i zy ((m:Int)-(a:Int)) ((m:Int)-(a:Int)),.b ((m:Int)-(a:Int)==1) zq,.i zy ((b:Int)-(m:Int)) ((b:Int)-(m:Int)),.b ((b:Int)-(m:Int)==1) zq,.i zy ((a:Int)+(b:Int)) (↑(a+b):Int),.i zr (↑(a+b):Int) (↑(a+b):Int),.w (0≤(1:Int)),.t (xc zr (j7 (↑(a+b):Int) 2)) (xc zr (mid:Int)),.i zy (mid:Int) (mid:Int),.i zy ((mid:Int)+(m:Int)) (↑(mid+m):Int),.b (decide ((m:Int)>(mid:Int))) zg,.i zy ((↑(mid+m):Int)-(b:Int)) (↑(mid+m-b):Int),.i zy ((↑(mid+m):Int)-1) (↑(mid+m-1):Int),.a _ _,.i zy ((↑(mid+m):Int)-(s:Int)) (↑(mid+m-s):Int),.b (decide ((s:Int)<(m:Int))) zg] ⟨oI,fE,oI,fE,oI,oU,oW,o_t (by rw [hf]),oI,oI,tP,oI,oI,o_a hbs,oI,tP,tI⟩ (gg [.tt,.tt,.tt,.b (decide ((m:Int)<(↑(mid+m-s):Int))) zg,.a _ _,.b (decide ((a:Int)<(s:Int))) zg,.tt,.tt,.tt,.b (decide ((s:Int)<(mid:Int))) zg,.a _ _,.b (decide ((mid:Int)<(↑(mid+m-s):Int))) zg,.tt,.tt,.tt,.b (decide ((↑(mid+m-s):Int)<(b:Int))) zg] ⟨tP,o_a j1,tP,tP,o_a j2,tP,tP,tI⟩ (gg [.a _ _] ⟨o_a j3,tI⟩ ge)))
   ·obtain rfl:=k3' (fun h=>c3 h.2);clear k1' k2' k3' k1 k2 k3;exact za (gg [.i zy ((m:Int)-(a:Int)) ((m:Int)-(a:Int)),.b ((m:Int)-(a:Int)==1) zq,.i zy ((b:Int)-(m:Int)) ((b:Int)-(m:Int)),.b ((b:Int)-(m:Int)==1) zq,.i zy ((a:Int)+(b:Int)) (↑(a+b):Int),.i zr (↑(a+b):Int) (↑(a+b):Int),.w (0≤(1:Int)),.t (xc zr (j7 (↑(a+b):Int) 2)) (xc zr (mid:Int)),.i zy (mid:Int) (mid:Int),.i zy ((mid:Int)+(m:Int)) (↑(mid+m):Int),.b (decide ((m:Int)>(mid:Int))) zg,.i zy ((↑(mid+m):Int)-(b:Int)) (↑(mid+m-b):Int),.i zy ((↑(mid+m):Int)-1) (↑(mid+m-1):Int),.a _ _,.i zy ((↑(mid+m):Int)-(s:Int)) (↑(mid+m-s):Int),.b (decide ((s:Int)<(m:Int))) zg] ⟨oI,fE,oI,fE,oI,oU,oW,o_t (by rw [hf]),oI,oI,tP,oI,oI,o_a hbs,oI,tP,tI⟩ (gg [.tt,.tt,.tt,.b (decide ((m:Int)<(↑(mid+m-s):Int))) zg,.a _ _,.b (decide ((a:Int)<(s:Int))) zg,.tt,.tt,.tt,.b (decide ((s:Int)<(mid:Int))) zg,.a _ _,.b (decide ((mid:Int)<(↑(mid+m-s):Int))) zg,.tt,.tt,.tt,.b (decide ((↑(mid+m-s):Int)<(b:Int))) zq] ⟨tP,o_a j1,tP,tP,o_a j2,tP,fP,tI⟩ ge))
  ·obtain rfl:=k2' (fun h=>c2 h.1);by_cases c3:mid+m<b+s
   ·have j3:=k3 c1.1 c3;clear k1' k2' k3' k1 k2 k3;omega
   ·obtain rfl:=k3' (fun h=>c3 h.2);clear k1' k2' k3' k1 k2 k3;exact za (gg [.i zy ((m:Int)-(a:Int)) ((m:Int)-(a:Int)),.b ((m:Int)-(a:Int)==1) zq,.i zy ((b:Int)-(m:Int)) ((b:Int)-(m:Int)),.b ((b:Int)-(m:Int)==1) zq,.i zy ((a:Int)+(b:Int)) (↑(a+b):Int),.i zr (↑(a+b):Int) (↑(a+b):Int),.w (0≤(1:Int)),.t (xc zr (j7 (↑(a+b):Int) 2)) (xc zr (mid:Int)),.i zy (mid:Int) (mid:Int),.i zy ((mid:Int)+(m:Int)) (↑(mid+m):Int),.b (decide ((m:Int)>(mid:Int))) zg,.i zy ((↑(mid+m):Int)-(b:Int)) (↑(mid+m-b):Int),.i zy ((↑(mid+m):Int)-1) (↑(mid+m-1):Int),.a _ _,.i zy ((↑(mid+m):Int)-(s:Int)) (↑(mid+m-s):Int),.b (decide ((s:Int)<(m:Int))) zg] ⟨oI,fE,oI,fE,oI,oU,oW,o_t (by rw [hf]),oI,oI,tP,oI,oI,o_a hbs,oI,tP,tI⟩ (gg [.tt,.tt,.tt,.b (decide ((m:Int)<(↑(mid+m-s):Int))) zg,.a _ _,.b (decide ((a:Int)<(s:Int))) zq,.ff,.ff,.ff,.ff,.b (decide ((mid:Int)<(↑(mid+m-s):Int))) zg,.tt,.tt,.tt,.b (decide ((↑(mid+m-s):Int)<(b:Int))) zq] ⟨tP,o_a j1,fP,tP,fP,tI⟩ ge))
 ·obtain rfl:=k1' c1;by_cases c0:s<m
  ·have c4: ¬s<mid:=fun h=>c1 ⟨c0,h⟩;obtain rfl:=k2' (fun h=>c4 h.2);by_cases c3:mid+m<b+s
   ·have j3:=k3 c0 c3;clear k1' k2' k3' k1 k2 k3;by_cases c2:a<s
    ·exact za (gg [.i zy ((m:Int)-(a:Int)) ((m:Int)-(a:Int)),.b ((m:Int)-(a:Int)==1) zq,.i zy ((b:Int)-(m:Int)) ((b:Int)-(m:Int)),.b ((b:Int)-(m:Int)==1) zq,.i zy ((a:Int)+(b:Int)) (↑(a+b):Int),.i zr (↑(a+b):Int) (↑(a+b):Int),.w (0≤(1:Int)),.t (xc zr (j7 (↑(a+b):Int) 2)) (xc zr (mid:Int)),.i zy (mid:Int) (mid:Int),.i zy ((mid:Int)+(m:Int)) (↑(mid+m):Int),.b (decide ((m:Int)>(mid:Int))) zg,.i zy ((↑(mid+m):Int)-(b:Int)) (↑(mid+m-b):Int),.i zy ((↑(mid+m):Int)-1) (↑(mid+m-1):Int),.a _ _,.i zy ((↑(mid+m):Int)-(s:Int)) (↑(mid+m-s):Int),.b (decide ((s:Int)<(m:Int))) zg] ⟨oI,fE,oI,fE,oI,oU,oW,o_t (by rw [hf]),oI,oI,tP,oI,oI,o_a hbs,oI,tP,tI⟩ (gg [.tt,.tt,.tt,.b (decide ((m:Int)<(↑(mid+m-s):Int))) zq,.b (decide ((a:Int)<(s:Int))) zg,.tt,.tt,.tt,.b (decide ((s:Int)<(mid:Int))) zq,.b (decide ((mid:Int)<(↑(mid+m-s):Int))) zg,.tt,.tt,.tt,.b (decide ((↑(mid+m-s):Int)<(b:Int))) zg,.a _ _] ⟨fP,tP,fP,tP,tP,o_a j3,tI⟩ ge))
    ·omega
   ·obtain rfl:=k3' (fun h=>c3 h.2);clear k1' k2' k3' k1 k2 k3;by_cases c2:a<s
    ·omega
    ·omega
  ·obtain rfl:=k3' (fun h=>c0 h.1);by_cases c4:s<mid
   ·have j2:=k2 (by omega) c4;clear k1' k2' k3' k1 k2 k3;omega
   ·obtain rfl:=k2' (fun h=>c4 h.2);clear k1' k2' k3' k1 k2 k3;by_cases c2:a<s
    ·omega
    ·omega
theorem AcA: ∀(n:Nat) (P U V Q:List Cross) (a m b:Nat),U.length+V.length≤n→a=P.length→m=a+U.length→b=m+V.length→0<U.length→0<V.length→Sd qk U→Sd qk V→small (P++U++V++Q)→
  Is cx (.call 300 [.all 0 zx,vi a,vi m,vi b,.t (.clo 186 [])] [.arr 15 ((P++U++V++Q).map zd) zx zq])
  ⟨.ret,[],[.arr 15 ((P++sortS qk (U++V)++Q).map zd) zx zq]⟩:=by
 intro n;induction n with
 |zero=>intros;omega
 |succ n ih=>
  intro P U V Q a m b hl ha hm hb hu hv hU hV hn;by_cases hu1:U.length=1
  ·obtain ⟨x,rfl⟩:=List.length_eq_one_iff.1 hu1;exact AcI P V Q x a m b ha (by simpa using hm) hb hv hV hn
  ·by_cases hv1:V.length=1
   ·obtain ⟨y,rfl⟩:=List.length_eq_one_iff.1 hv1;exact AcY P U Q y a m b ha hm (by simpa using hb) (by omega) hU hn
   ·obtain ⟨mid,hmid⟩: ∃mid,(a+b)/2=mid:=⟨_,rfl⟩
    obtain ⟨s0,r0,hs0⟩: ∃s0 r0,m≤mid∧s0=a∧r0=m∨mid<m∧s0=mid+m-b∧r0=mid:=by
     by_cases h:m≤mid
     ·exact ⟨a,m,.inl ⟨h,rfl,rfl⟩⟩
     ·exact ⟨mid+m-b,mid,.inr ⟨by omega,rfl,rfl⟩⟩
    have hlen:(P++U++V++Q).length=b+Q.length:=by simp;omega
    have hbs:=AdI (P++U++V++Q) a m b mid (mid+m) (mid+m-1) hn (r0-s0) s0 r0 (by omega) (by omega) (by omega) (by omega) (by omega);have hp:(fun c=> !Cross.less (gt (P++U++V++Q) (mid+m-1-c)) (gt (P++U++V++Q) c))=fun c=> !Cross.less (gt (P++U++V++Q) (mid+m-1-c)) (gt (P++U++V++Q) c):=rfl;obtain ⟨k1,k2,U1,U2,V1,V2,e1,e2,l1,l2,e3,u1,u2,v1,v2⟩:=AnI Aal (Q:=Q) ha hm hb hU hV hu hv hmid hs0 (d:=r0-s0) (by omega) rfl;generalize bs _ (r0-s0) s0 r0=s at*;subst e1 e2;simp only [jx] at hl hm hb hu hv hlen hu1 hv1;have hsm: ∀ {X Y:List Cross},X.length=Y.length→small Y→small X:=fun h k=>by unfold small at*;rw [h];exact k
    have g1:s<m→s<mid→Is cx (.call 303 [.all 0 zx,vi s,vi m,vi (mid+m-s:Nat),.t (.clo 186 [])] [.arr 15 ((P++(U1++U2)++(V1++V2)++Q).map zd) zx zq]) ⟨.ret,[],[.arr 15 ((P++U1++V1++(U2++V2++Q)).map zd) zx zq]⟩:=by
     intro c1 c2;have:=Aho (P++(U1++U2)++(V1++V2)++Q) s m (mid+m-s) c1 (by omega) (by simp;omega) hn;have e:(P++(U1++U2)++(V1++V2)++Q).take s++seg (P++(U1++U2)++(V1++V2)++Q) m (mid+m-s)++seg (P++(U1++U2)++(V1++V2)++Q) s m++(P++(U1++U2)++(V1++V2)++Q).drop (mid+m-s)=P++U1++V1++(U2++V2++Q):=by
      have f1:P++(U1++U2)++(V1++V2)++Q=(P++U1)++(U2++(V1++(V2++Q))):=by simp
      have f2:P++(U1++U2)++(V1++V2)++Q=(P++U1++U2)++(V1++(V2++Q)):=by simp
      have f3:P++(U1++U2)++(V1++V2)++Q=(P++U1++U2++V1)++(V2++Q):=by simp
      have g1:(P++(U1++U2)++(V1++V2)++Q).take s=P++U1:=by rw [f1,mf (by simp;omega)]
      have g2:seg (P++(U1++U2)++(V1++V2)++Q) m (mid+m-s)=V1:=by unfold seg;rw [f2,md (by simp;omega),mf (by omega)]
      have g3:seg (P++(U1++U2)++(V1++V2)++Q) s m=U2:=by unfold seg;rw [f1,md (by simp;omega),mf (by omega)]
      have g4:(P++(U1++U2)++(V1++V2)++Q).drop (mid+m-s)=V2++Q:=by rw [f3,md (by simp;omega)]
      rw [g1,g2,g3,g4];simp
     rw [e] at this;exact this
    have g1': ¬(s<m∧s<mid)→(P++(U1++U2)++(V1++V2)++Q)=(P++U1++V1++(U2++V2++Q)):=by
     intro c;have:U2= []∨V1= []:=by
      by_cases h:s<m
      ·right;exact qi (by omega)
      ·left;exact qi (by omega)
     rcases this with rfl|rfl<;>simp
    have g2:a<s→s<mid→Is cx (.call 300 [.all 0 zx,vi a,vi s,vi mid,.t (.clo 186 [])] [.arr 15 ((P++U1++V1++(U2++V2++Q)).map zd) zx zq]) ⟨.ret,[],[.arr 15 ((P++sortS qk (U1++V1)++(U2++V2++Q)).map zd) zx zq]⟩:=by
     intro c1 c2;exact ih P U1 V1 (U2++V2++Q) a s mid (by omega) ha (by omega) (by omega) (by omega) (by omega) u1 v1 (hsm (by simp;omega) hn)
    have g2': ¬(a<s∧s<mid)→(P++U1++V1++(U2++V2++Q))=(P++sortS qk (U1++V1)++(U2++V2++Q)):=by
     intro c;have:U1= []∨V1= []:=by
      by_cases h:a<s
      ·right;exact qi (by omega)
      ·left;exact qi (by omega)
     rcases this with rfl|rfl
     ·simp [AaO Aal v1]
     ·simp [AaO Aal u1]
    have g3:s<m→mid+m<b+s→Is cx (.call 300 [.all 0 zx,vi mid,vi (mid+m-s:Nat),vi b,.t (.clo 186 [])] [.arr 15 ((P++sortS qk (U1++V1)++(U2++V2++Q)).map zd) zx zq]) ⟨.ret,[],[.arr 15 ((P++sortS qk ((U1++U2)++(V1++V2))++Q).map zd) zx zq]⟩:=by
     intro c1 c2;have hL:(sortS qk (U1++V1)).length=U1.length+V1.length:=by rw [Ack Aal];simp
     have:=ih (P++sortS qk (U1++V1)) U2 V2 Q mid (mid+m-s) b (by omega) (by simp;omega) (by omega) (by omega) (by omega) (by omega) u2 v2 (hsm (by simp;omega) hn);rw [←e3];simpa using this
    have g3': ¬(s<m∧mid+m<b+s)→(P++sortS qk (U1++V1)++(U2++V2++Q))=(P++sortS qk ((U1++U2)++(V1++V2))++Q):=by
     intro c;have:U2= []∨V2= []:=by
      by_cases h:s<m
      ·right;exact qi (by omega)
      ·left;exact qi (by omega)
     rw [←e3];rcases this with rfl|rfl
     ·simp [AaO Aal v2]
     ·simp [AaO Aal u2]
    rcases hs0 with ⟨hc,rfl,rfl⟩|⟨hc,rfl,rfl⟩
    ·exact AcW _ _ _ _ s0 r0 b mid s hmid hc (by omega) (by omega) (by simp;omega) hn ⟨k1,k2⟩ hbs g1 g1' g2 g2' g3 g3'
    ·exact AcX _ _ _ _ a m b r0 s hmid hc (by omega) (by omega) (by simp;omega) hn ⟨k1,k2⟩ hbs g1 g1' g2 g2' g3 g3'
end Go.Eva.S8
namespace Go.Eva.S8
theorem AdD (n:Nat) (hn:n≤1000000): ∀(d:Nat) (P R:List Cross) (a:Nat),a=P.length→R.length≤d→(P++R).length=n→Full qk 20 P→
  ∃(P' R':List Cross),Is cx (.loop 289 [0,0,1,1] 1 [.all 0 zx,vi n,.t (.clo 186 []),vi 20,vi a,vi (a+20:Nat)] [.arr 15 ((P++R).map zd) zx zq])
   ⟨.exit 0,[.all 0 zx,vi n,.t (.clo 186 []),vi 20,vi P'.length,vi (P'.length+20:Nat)],[.arr 15 ((P'++R').map zd) zx zq]⟩∧
   Full qk 20 P'∧R'.length<20∧StEq qk (P'++R') (P++R)∧(P'++R').length=n:=by
 intro d;induction d with
 |zero=>
  intro P R a ha hR hl hP;refine ⟨P,R,?_,hP,by omega,.refl _,hl⟩;rw [jx] at hl;subst ha;exact za (gg [.b (decide ((↑(zj P+20):Int)≤(n:Int))) zq] ⟨fP,tI⟩ ge)
 |succ d ih=>
  intro P R a ha hR hl hP;by_cases h:20≤R.length
  ·obtain ⟨S,R,rfl,hS⟩:=App R h;rw [jx] at hR;have hs:(sortS qk S).length=20:=by rw [Ack Aal,hS]
   have hl':((P++sortS qk S)++R).length=n:=by rw [←hl];simp;omega
   obtain ⟨P',R',h1,h2,h3,h4,h5⟩:=ih (P++sortS qk S) R (a+20) (by simp;omega) (by omega) hl' (.snoc hP hs (Ab6 Aal S));refine ⟨P',R',?_,h2,h3,?_,h5⟩
   ·clear ih;have hA:(P++(S++R)).length=n:=hl;have hi:=Abp (P++(S++R)) a (a+20) (by omega) (by simp;omega) (by unfold small;omega);rw [show srt qk (P++(S++R)) a (a+20)=P++sortS qk S++R by rw [←ql];exact Aov P S R ha (by omega)] at hi;simp only [jx] at hA;generalize P++(S++R)=A at*;generalize P++sortS qk S++R=B at*;exact za (gg [.b (decide ((↑(a+20):Int)≤(n:Int))) zg,.a _ _,.i zy ((↑(a+20):Int)+20) (↑(a+20+20):Int),.a _ _] ⟨tP,o_a hi,oI,o_a h1,tI⟩ ge)
   ·refine h4.trans ?_;have:=StEq.mid (P:=P) (Q:=R) (Abm Aal S);simpa using this
  ·refine ⟨P,R,?_,hP,by omega,.refl _,hl⟩;rw [jx] at hl;subst ha;clear ih;exact za (gg [.b (decide ((↑(zj P+20):Int)≤(n:Int))) zq] ⟨fP,tI⟩ ge)
theorem AdE (n bs:Nat) (hn:n≤1000000) (hb:20≤bs) (hbs:bs≤n): ∀(d:Nat) (P R:List Cross) (a:Nat),a=P.length→R.length≤d→(P++R).length=n→Full qk (2*bs) P→Blks qk bs R→
  ∃(P' R':List Cross),Is cx (.loop 289 [0,0,1,0,1,0,0,1,1,1,1] 1 [.all 0 zx,vi n,.t (.clo 186 []),vi bs,vi a,vi (a+2*bs:Nat)] [.arr 15 ((P++R).map zd) zx zq])
   ⟨.exit 4,[.all 0 zx,vi n,.t (.clo 186 []),vi bs,vi P'.length,vi (P'.length+2*bs:Nat)],[.arr 15 ((P'++R').map zd) zx zq]⟩∧
   Full qk (2*bs) P'∧Blks qk bs R'∧R'.length<2*bs∧StEq qk (P'++R') (P++R)∧(P'++R').length=n:=by
 intro d;induction d with
 |zero=>
  intro P R a ha hR hl hP hB;refine ⟨P,R,?_,hP,hB,by omega,.refl _,hl⟩;rw [jx] at hl;subst ha;exact za (gg [.b (decide ((↑(zj P+2*bs):Int)≤(n:Int))) zq] ⟨fP,tI⟩ ge)
 |succ d ih=>
  intro P R a ha hR hl hP hB;by_cases h:2*bs≤R.length
  ·obtain ⟨S1,S2,R,rfl,l1,l2,s1,s2,hB⟩:=hB.two (by omega) h;simp only [jx] at hR h;have hs:(sortS qk (S1++S2)).length=2*bs:=by rw [Ack Aal];simp;omega
   have hl':((P++sortS qk (S1++S2))++R).length=n:=by rw [←hl];simp;omega
   obtain ⟨P',R',h1,h2,h3,h4,h5,h6⟩:=ih (P++sortS qk (S1++S2)) R (a+2*bs) (by simp;omega) (by omega) hl' (.snoc hP hs (Ab6 Aal _)) hB;refine ⟨P',R',?_,h2,h3,h4,?_,h6⟩
   ·clear ih;have hA:(P++(S1++S2++R)).length=n:=hl;have hi:=AcA (S1.length+S2.length) P S1 S2 R a (a+bs) (a+2*bs) (qn _) ha (by omega) (by omega) (by omega) (by omega) s1 s2 (by unfold small;simp at hA⊢;omega);rw [show P++S1++S2++R=P++(S1++S2++R) by simp] at hi;simp only [jx] at hA;generalize P++(S1++S2++R)=A at*;generalize P++sortS qk (S1++S2)++R=B at*;exact za (gg [.b (decide ((↑(a+2*bs):Int)≤(n:Int))) zg,.i zy ((a:Int)+(bs:Int)) (↑(a+bs):Int),.a _ _,.i zy (2*(bs:Int)) (↑(2*bs):Int),.i zy ((↑(a+2*bs):Int)+(↑(2*bs):Int)) (↑(a+2*bs+2*bs):Int),.a _ _] ⟨tP,oI,o_a hi,oI,oI,o_a h1,tI⟩ ge)
   ·refine h5.trans ?_;have:=StEq.mid (P:=P) (Q:=R) (Abm Aal (S1++S2));simpa using this
  ·refine ⟨P,R,?_,hP,hB,by omega,.refl _,hl⟩;rw [jx] at hl;subst ha;clear ih;exact za (gg [.b (decide ((↑(zj P+2*bs):Int)≤(n:Int))) zq] ⟨fP,tI⟩ ge)
theorem AdF (n:Nat) (hn:n≤1000000): ∀(d bs:Nat) (A:List Cross),n≤bs+d→20≤bs→bs≤2000000→A.length=n→Blks qk bs A→
  ∃(bs':Nat) (B:List Cross),Is cx (.loop 289 [0,1,1,1,1] 1 [.all 0 zx,vi n,.t (.clo 186 []),vi bs] [.arr 15 (A.map zd) zx zq])
   ⟨.exit 2,[.all 0 zx,vi n,.t (.clo 186 []),vi bs'],[.arr 15 (B.map zd) zx zq]⟩∧Sd qk B∧StEq qk B A:=by
 intro d;induction d with
 |zero=>
  intro bs A h1 h2 h3 hl hB;refine ⟨bs,A,?_,hB.sd (by omega),.refl _⟩;exact za (gg [.b (decide ((bs:Int)<(n:Int))) zq] ⟨fP,tI⟩ ge)
 |succ d ih=>
  intro bs A h1 h2 h3 hl hB;by_cases h:bs<n
  ·obtain ⟨P,R,k1,k2,k3,k4,k5,k6⟩:=AdE n bs hn h2 (by omega) A.length [] A 0 rfl (qn _) (by simpa using hl) .nil hB;rw [jj,jk] at k1;rw [jj] at k5;by_cases hr:bs<R.length
   ·obtain ⟨S1,S2,rfl,l1,s1,s2,l2⟩:=k3.one hr k4;have hm:=AcA (S1.length+S2.length) P S1 S2 [] P.length (P.length+bs) n (qn _) rfl (by omega) (by simp at k6;omega) (by omega) l2 s1 s2 (by unfold small;simp at k6⊢;omega);simp only [List.append_nil] at hm;rw [ql] at hm;simp only [jx] at k4 k6 hr;have hs:(sortS qk (S1++S2)).length=S1.length+S2.length:=by rw [Ack Aal];simp
    obtain ⟨bs',B,j1,j2,j3⟩:=ih (bs*2) (P++sortS qk (S1++S2)) (by omega) (by omega) (by omega) (by simp;omega) (by rw [Nat.mul_comm];exact k2.blks (.last (by omega) (Ab6 Aal _)));refine ⟨bs',B,?_,j2,j3.trans (StEq.trans ?_ k5)⟩
    ·clear ih j2 j3 k2 k3 k5;have e1:(P++(S1++S2)).length=n:=by simp;omega
     have e2:(P++sortS qk (S1++S2)).length=n:=by simp;omega
     generalize P++(S1++S2)=X at*;generalize P++sortS qk (S1++S2)=Y at*;exact za (gg [.b (decide ((bs:Int)<(n:Int))) zg,.i zy (2*(bs:Int)) (↑(2*bs):Int),.a _ _,.i zy ((↑(zj P):Int)+(bs:Int)) (↑(zj P+bs):Int),.b (decide ((↑(zj P+bs):Int)<(n:Int))) zg,.a _ _,.i zy ((bs:Int)*2) (↑(bs*2):Int),.a _ _] ⟨tP,oI,o_a k1,oI,tP,o_a hm,oI,o_a j1,tI⟩ ge)
    ·exact (StEq.refl _).append (Abm Aal _)
   ·obtain ⟨bs',B,j1,j2,j3⟩:=ih (bs*2) (P++R) (by omega) (by omega) (by omega) k6 (by rw [Nat.mul_comm];exact k2.blks (.last (by omega) (k3.sd (by omega))));refine ⟨bs',B,?_,j2,j3.trans k5⟩;clear ih j2 j3 k2 k3 k5;rw [jx] at k6;generalize P++R=X at*;exact za (gg [.b (decide ((bs:Int)<(n:Int))) zg,.i zy (2*(bs:Int)) (↑(2*bs):Int),.a _ _,.i zy ((↑(zj P):Int)+(bs:Int)) (↑(zj P+bs):Int),.b (decide ((↑(zj P+bs):Int)<(n:Int))) zq,.i zy ((bs:Int)*2) (↑(bs*2):Int),.a _ _] ⟨tP,oI,o_a k1,oI,fP,oI,o_a j1,tI⟩ ge)
  ·refine ⟨bs,A,?_,hB.sd (by omega),.refl _⟩;clear ih;exact za (gg [.b (decide ((bs:Int)<(n:Int))) zq] ⟨fP,tI⟩ ge)
theorem AcU (A:List Cross) (hn:small A):Is cx (.call 289 [.all 0 zx,vi A.length,.t (.clo 186 [])] [.arr 15 (A.map zd) zx zq])
  ⟨.ret,[],[.arr 15 ((sortS qk A).map zd) zx zq]⟩:=by
 unfold small at hn;obtain ⟨P,R,k1,k2,k3,k4,k5⟩:=AdD A.length hn A.length [] A 0 rfl (qn _) (by simp) .nil;rw [jj,jk] at k1;rw [jj] at k4;rw [jx] at k5;have hi:=Abp (P++R) P.length A.length (by omega) (by simp;omega) (by unfold small;simp;omega);rw [show srt qk (P++R) P.length A.length=P++sortS qk R by have:=Aov (lt:=qk) P R [] rfl k5.symm;simpa using this] at hi;have hs:(sortS qk R).length=R.length:=Ack Aal R;obtain ⟨bs,B,j1,j2,j3⟩:=AdF A.length hn A.length 20 (P++sortS qk R) (by omega) (by omega) (by omega) (by simp;omega) (k2.blks (.last (by omega) (Ab6 Aal _)));rw [Aga Aal j2 (j3.trans (((StEq.refl _).append (Abm Aal _)).trans k4))] at j1;clear j2 j3 k2 k4;have e1:(P++R).length=A.length:=by simp;omega
 have e2:(P++sortS qk R).length=A.length:=by simp;omega
 generalize P++R=X at*;generalize P++sortS qk R=Y at*;exact za (gg [.a _ _,.a _ _,.a _ _] ⟨o_a k1,o_a hi,o_a j1,tI⟩ ge)
theorem AcC (A:List Cross) (hn:small A):Is cx (.call 259 [.all 0 zx,.t (.clo 186 [])] [.arr 15 (A.map zd) zx zq])
  ⟨.ret,[],[.arr 15 ((sortS qk A).map zd) zx zq]⟩:=by
 have h:=AcU A hn;unfold small at hn;exact za (gg [.n (zj (zw zd A)) (zj A),.a _ _] ⟨oM,o_a h,tI⟩ ge)
end Go.Eva.S8
namespace Go.Eva.S8
theorem Aiz (n:Nat) (hn:n≤1000000):Is cx (.call 288 [.fit 15 [],vi n] []) ⟨.ret,[.all 0 zx],[.arr 15 [] zx zq]⟩:=by
 refine za (gg [.b (decide ((n:Int)<0)) zq,.l 0,.l 0,.i zy 0 0,.i zy ((n:Int)-0) ((n:Int)-0)] ⟨bK,oK,oJ,tI⟩ ?_);refine brp (p:=(n:Int)-0>0) (by kernel_rfl) (fun h1=> ?_) (fun h1=> ?_)
 ·refine gg [.l 0,.w (0≤(0:Int)),.l 0,.w ((0:Nat)≤(0:Nat)∧(0:Nat)≤(0:Nat)),.b (decide (0=0)) zg,.s (T.sl 15 []),.w (0≤(n:Int)-(0:Int)∧room (zm ((n:Int)-(0:Int))) (120:Nat)),.n (zm ((n:Int)-0)) n,.s (T.sl 0 (zn n (qe [ti 0,ti 0,ti 0,ti 0,ti 0,ti 0,ti 0,ti 0,ti 0,ti 0,ti 0,ti 0,ti 0,ti 0,ti 0]))),.w (room (zj (zn n (qe [ti (0:Int),ti (0:Int),ti (0:Int),ti (0:Int),ti (0:Int),ti (0:Int),ti (0:Int),ti (0:Int),ti (0:Int),ti (0:Int),ti (0:Int),ti (0:Int),ti (0:Int),ti (0:Int),ti (0:Int)]))) (120:Nat)),.l 0,.w (0≤(0:Int)),.l 0,.w ((0:Nat)≤(0:Nat)∧(0:Nat)≤zj (zn n (qe [ti (0:Int),ti (0:Int),ti (0:Int),ti (0:Int),ti (0:Int),ti (0:Int),ti (0:Int),ti (0:Int),ti (0:Int),ti (0:Int),ti (0:Int),ti (0:Int),ti (0:Int),ti (0:Int),ti (0:Int)]))),.l 0,.l 0] ⟨oW,o_w ⟨(jf (by kernel_rfl)),(jf (by kernel_rfl))⟩,bK,o_w ⟨(by omega),(by (simp [room,appendMax];omega))⟩,nK,oR,oW,o_w ⟨(jf (by kernel_rfl)),(by omega)⟩,tI⟩ (gg [.s (T.sl 0 [])] tI (rT (a:=zl Ex.ret [xz 0 zx] [jy 15 [] zx zq]) ?_));simp
 ·refine rT (a:=zl Ex.ret [xz 0 zx] [jy 15 [] zx zq]) ?_;simp
theorem AcR (ls:List (List Cross)) (hl:ls.length≤1000) (ht:total ls≤1000000): ∀(d i s:Nat),i+d=ls.length→s+total (ls.drop i)=total ls→
  Is cx (.loop 258 [0,1,0,1,1] 0 [.t (.sl 1 (ls.map encL)),vi s,.t (.sl 1 (ls.map encL)),vi ls.length,vi i] [])
   ⟨.exit 0,[.t (.sl 1 (ls.map encL)),vi (total ls),.t (.sl 1 (ls.map encL)),vi ls.length,vi ls.length],[]⟩:=by
 intro d;induction d with
 |zero=>
  intro i s hi hs;rw [Ao4 (by omega)] at hs;refine za (gg [.b (decide ((i:Int)<(↑(zj ls):Int))) zq] ⟨fP,tI⟩ (rT (a:=zl (jr 0) [V.t (T.sl 1 (zw encL ls)),vi (s:Int),V.t (T.sl 1 (zw encL ls)),vi (↑(zj ls):Int),vi (i:Int)] []) ?_))
  ((have hq:i=ls.length:=by omega);subst hq;(have hq2:s=total ls:=by omega);subst hq2;rfl)
 |succ d ih=>
  intro i s hi hs;have hlt:i<ls.length:=by omega
  rw [AlM hlt] at hs;have ih1:=ih (i+1) (s+(gt ls i).length) (by omega) (by omega);clear ih;exact za (gg [.b (decide ((i:Int)<(↑(zj ls):Int))) zg,.w (0≤(i:Int)),.n (zm (i:Int)) i,.g (zw encL ls) i (encL (gt ls i)),.n (zj (zw zd (gt ls i))) (zj (gt ls i)),.i zy ((s:Int)+(↑(zj (gt ls i)):Int)) ((↑(s+zj (gt ls i)):Int)),.b (decide ((↑(s+zj (gt ls i)):Int)<0)) zq,.i zy ((i:Int)+1) (↑(i+1):Int),.a _ _] ⟨tP,oW,nK,oH,oM,oI,bK,oI,o_a ih1,tI⟩ ge)
theorem Aeb (ls:List (List Cross)) (hl:ls.length≤1000) (ht:total ls≤1000000): ∀(d i:Nat) (A:List Cross),i+d=ls.length→A.length+total (ls.drop i)=total ls→
  Is cx (.loop 258 [0,1,0,1,1,1,1] 0 [.all 0 zx,.t (.sl 1 (ls.map encL)),vi ls.length,vi i] [.arr 15 (A.map zd) zx zq])
   ⟨.exit 2,[.all 0 zx,.t (.sl 1 (ls.map encL)),vi ls.length,vi ls.length],[.arr 15 ((A++(ls.drop i).flatten).map zd) zx zq]⟩:=by
 intro d;induction d with
 |zero=>
  intro i A hi hs;rw [Aad (by omega)];refine za (gg [.b (decide ((i:Int)<(↑(zj ls):Int))) zq] ⟨fP,tI⟩ (rT (a:=zl (jr 2) [xz 0 zx,V.t (T.sl 1 (zw encL ls)),vi (↑(zj ls):Int),vi (i:Int)] [jy 15 (zw zd A) zx zq]) ?_))
  ((have hq:i=ls.length:=by omega);subst hq;simp)
 |succ d ih=>
  intro i A hi hs;have hlt:i<ls.length:=by omega
  rw [AlM hlt] at hs;have ih1:=ih (i+1) (A++gt ls i) (by omega) (by simp;omega);clear ih;rw [ApU hlt];refine za (gg [.b (decide ((i:Int)<(↑(zj ls):Int))) zg,.w (0≤(i:Int)),.n (zm (i:Int)) i,.g (zw encL ls) i (encL (gt ls i)),.w ((0:Nat)<(120:Nat)),.s (T.sl 0 (zw zd (gt ls i))),.t (T.sl 0 (zw zd A++zw zd (gt ls i))) (T.sl 0 (zw zd (A++gt ls i))),.w (room (zj (zw zd (A++gt ls i))) (120:Nat)),.i zy ((i:Int)+1) (↑(i+1):Int),.a _ _] ⟨tP,oW,nK,oH,oW,o_l (Aa3 rfl rfl),oR,oJ,o_a ih1,tI⟩ (rT (a:=zl (jr 2) [xz 0 zx,V.t (T.sl 1 (zw encL ls)),vi (↑(zj ls):Int),vi (↑(zj ls):Int)] [jy 15 (zw zd (A++gt ls i++List.flatten (z6 (i+1) ls))) zx zq]) ?_));simp
theorem Ag7 (ls:List (List Cross)) (hl:ls.length≤1000) (ht:total ls≤1000000):
  Is cx (.call 258 [.t (.sl 1 (ls.map encL))] []) ⟨.ret,[.all 0 zx],[.arr 15 (ls.flatten.map zd) zx zq]⟩:=by
 have h1:=AcR ls hl ht ls.length 0 0 (by omega) (by simp);have h2:=Aeb ls hl ht ls.length 0 [] (by omega) (by simp);rw [qr,jj] at h2;have h3:=Aiz (total ls) ht;exact za (gg [.n (zj (zw encL ls)) (zj ls),.a _ _,.a _ _,.n (zj (zw encL ls)) (zj ls),.a _ _] ⟨oM,o_a h1,o_a h3,oM,o_a h2,tI⟩ ge)
theorem Aje (ls:List (List Cross)) (hl:ls.length≤1000) (ht:total ls≤1000000):
  Is cx (.call 203 [.t (.sl 1 (ls.map encL))] []) ⟨.ret,[.all 0 zx],[.arr 15 ((sortS qk ls.flatten).map zd) zx zq]⟩:=by
 have h1:=Ag7 ls hl ht;have h2:=AcC ls.flatten (by unfold small;rw [AoI];exact ht);exact za (gg [.a _ _,.a _ _] ⟨o_a h1,o_a h2,tI⟩ ge)
theorem AaG (l:List Cross) (h:small l):Is cx (.call 203 [.t (.sl 1 [.sl 15 (l.map zd)])] []) ⟨.ret,[.all 0 zx],[.arr 15 ((sortS qk l).map zd) zx zq]⟩:=by
 have:=Aje [l] (by simp) (by unfold small at h;simpa [total] using h);rw [show [l].flatten=l by simp] at this;exact this
end Go.Eva.S8
namespace Go.Eva.S8
theorem AfO (c:Config) (r:Int) (s:Region) (ins:List Input) (inbox:List Cross) (hn:small s.ents) (hi:small ins) (hb:small inbox) (h:askedE c r s ins inbox≠0):
  Is cx (.call 120 [.t c.enc,vi r,.t s.enc,.t (.sl 3 (ins.map zo)),.t (.sl 15 (inbox.map zd))] []) ⟨.ret,[.t Region.zero.enc,.t (.sl 15 []),vi (askedE c r s ins inbox)],[]⟩:=by
 have ha:=AdR c r s ins inbox hn hi hb;generalize askedE c r s ins inbox=e at*;obtain ⟨f,l⟩:=s;exact za (gg [.a _ _,.b (e !=0) zg] ⟨o_a ha,tC,tI⟩ ge)
theorem Afc (c:Config) (r:Int) (s:Region) (ins:List Input) (inbox:List Cross) (hn:s.ents.length≤100000) (hi:small ins) (hb:inbox.length≤100000) (h:askedE c r s ins inbox=0):
  Is cx (.call 120 [.t c.enc,vi r,.t s.enc,.t (.sl 3 (ins.map zo)),.t (.sl 15 (inbox.map zd))] []) ⟨.ret,[.t (Region.enc ⟨s.frame+1,(stepS c r s ins inbox).l⟩),.t (.sl 15 ((sortS qk (stepS c r s ins inbox).out).map zd)),vi 0],[]⟩:=by
 have hfine:=AlZ h;have hrc:=v8 hfine.is;have ha:=AdR c r s ins inbox (by unfold small;omega) hi (by unfold small;omega);rw [h] at ha;have hA:=AcO c r s inbox hn hb;have hsane:=hfine.sane;obtain ⟨hst1,hst2⟩:=Apq hfine;have hr:=Config.is_le hfine.is;have hreg:= @Config.regions_le c;have hf:=hfine.frame;have hst:=Ahn c r s.frame ins (arriveL s.ents inbox) hi (by omega) (by omega) (Nat.le_trans (hsane.len hrc) (by omega)) fun p hp=>by
  have hpr:=(hsane.ents p hp).1;refine ⟨?_,fun hk=> ?_⟩
  ·have:=AjF hpr;omega
  ·have:=Entity.right_player hpr hk;have:=hfine.len;omega
 unfold stepS restS;have hnear:=Apd hfine.is;generalize steerS c r s.frame ins ⟨arriveL s.ents inbox,0,[]⟩=S at*;generalize arriveL s.ents inbox=L at*;obtain ⟨A,made,o⟩:=S;simp only at hst hst1 hst2⊢;subst hst2;have hmade:=hst1.made;simp only at hmade;have hAs:=hst1.sane;simp only at hAs;have hAl:=hAs.len hrc;have hmv:=Aiy c r s.frame made A (by unfold small;omega) fun e he=>by have:=AjF (hAs.ents e he).1;omega
 obtain ⟨hM,hMr⟩:=Am3 hAs;have hMl:=hM.len hrc;have hHm:=(Amv (inbox:=inbox) hM).1;have hHl:=hHm.len hrc;have hsh:=Agu (moveL c A) (by unfold small;omega);have h1l:(shotsL (moveL c A)).length≤30:=by
  have:=(AgU (l:=moveL c A) fun e he _=>AjG (hMr e he)).moved hM;exact this.len hrc
 have hge:=Ahg (shotsL (moveL c A)) (by unfold small;omega);have h2l:(gemsL (shotsL (moveL c A))).length≤30:=by
  have k1:=AgU (l:=moveL c A) fun e he _=>AjG (hMr e he);have:=(Alh (l:=shotsL (moveL c A)) k1.low).moved (k1.moved hM);exact this.len hrc
 have hbl:=AfG (gemsL (shotsL (moveL c A))) inbox (by unfold small;omega) (by unfold small;omega);clear hHm hM hMr hst1 hsane hfine h hAs;generalize blastsL (gemsL (shotsL (moveL c A))) inbox=H at*;generalize gemsL (shotsL (moveL c A))=M2 at*;generalize shotsL (moveL c A)=M1 at*;generalize moveL c A=M at*;obtain ⟨f,l⟩:=s;simp only at*;by_cases hfl:fallenL H= []
 ·have hfa:=Ag4 c r f made H (by omega) hfl;have e1:fallS c r f ⟨H,made,[]⟩=⟨H,made,[]⟩:=by unfold fallS;simp only;rw [hfl];rfl
  rw [e1];by_cases hg:below 8 c.seed [3,f,r]≠0∨3≤(H.countP fun e=>e.kind==3)∨gx ⟨H,made,[]⟩=zq
  ·have hgr:=Ae4 c r f made H [] (by omega) hg;have e2:growS c r f ⟨H,made,[]⟩=⟨H,made,[]⟩:=by unfold growS;rw [if_pos hg]
   rw [e2];clear e1 e2 hg hfl;have hlv:=Ac8 c r f made H (by omega);have hso:=AaG (leaveS c r f ⟨H,made,[]⟩).out (by have:= @AeF c r f ⟨H,made,[]⟩;unfold small;simp only [xk] at this;omega);split at hlv
   ·rename_i hq;rw [hq] at hso⊢;change Is cx _ ⟨_,[_,.t (.sl 15 []),_],_⟩;replace hso:=AaG [] (by simp [small]);clear hq;generalize (leaveS c r f ⟨H,made,[]⟩).l=Z at*;rcases hst with hst|⟨X,hst⟩
    ·exact za (gg [.a _ _,.b (0 !=0) zq,.a _ _,.a _ _,.a _ _,.a _ _,.a _ _,.a _ _,.a _ _,.a _ _,.a _ _] ⟨o_a ha,bK,o_a hA,o_a hst,o_a hmv,o_a hsh,o_a hge,o_a hbl,o_a hfa,o_a hgr,o_a hlv,tI⟩ (gg [.i zy (f+1) (f+1),.a _ _] ⟨oI,o_a hso,tI⟩ ge))
    ·exact za (gg [.a _ _,.b (0 !=0) zq,.a _ _,.a _ _,.a _ _,.a _ _,.a _ _,.a _ _,.a _ _,.a _ _,.a _ _] ⟨o_a ha,bK,o_a hA,o_a hst,o_a hmv,o_a hsh,o_a hge,o_a hbl,o_a hfa,o_a hgr,o_a hlv,tI⟩ (gg [.i zy (f+1) (f+1),.a _ _] ⟨oI,o_a hso,tI⟩ ge))
   ·rename_i hq;clear hq;generalize (leaveS c r f ⟨H,made,[]⟩).l=Z at*;generalize hoo:(leaveS c r f ⟨H,made,[]⟩).out=oo at*;generalize sortS qk oo=so at*;rcases hst with hst|⟨X,hst⟩
    ·exact za (gg [.a _ _,.b (0 !=0) zq,.a _ _,.a _ _,.a _ _,.a _ _,.a _ _,.a _ _,.a _ _,.a _ _,.a _ _] ⟨o_a ha,bK,o_a hA,o_a hst,o_a hmv,o_a hsh,o_a hge,o_a hbl,o_a hfa,o_a hgr,o_a hlv,tI⟩ (gg [.i zy (f+1) (f+1),.s (T.sl 15 (zw zd oo)),.a _ _] ⟨oI,o_a hso,tI⟩ ge))
    ·exact za (gg [.a _ _,.b (0 !=0) zq,.a _ _,.a _ _,.a _ _,.a _ _,.a _ _,.a _ _,.a _ _,.a _ _,.a _ _] ⟨o_a ha,bK,o_a hA,o_a hst,o_a hmv,o_a hsh,o_a hge,o_a hbl,o_a hfa,o_a hgr,o_a hlv,tI⟩ (gg [.i zy (f+1) (f+1),.s (T.sl 15 (zw zd oo)),.a _ _] ⟨oI,o_a hso,tI⟩ ge))
  ·have hgr:=AdY c r f made H (by omega) (by omega) (by omega) (by omega) hg;have e2:growS c r f ⟨H,made,[]⟩=⟨put1 H (gemE c r f made),made+1,[]⟩:=by unfold growS;rw [if_neg hg]
   rw [e2];clear e1 e2 hg hfl;have hpl:=(@Acx H (gemE c r f made)).2;generalize put1 H (gemE c r f made)=G at*;have hlv:=Ac8 c r f (made+1) G (by omega);have hso:=AaG (leaveS c r f ⟨G,made+1,[]⟩).out (by have:= @AeF c r f ⟨G,made+1,[]⟩;unfold small;simp only [xk] at this;omega);split at hlv
   ·rename_i hq;rw [hq] at hso⊢;change Is cx _ ⟨_,[_,.t (.sl 15 []),_],_⟩;replace hso:=AaG [] (by simp [small]);clear hq;generalize (leaveS c r f ⟨G,made+1,[]⟩).l=Z at*;rcases hst with hst|⟨X,hst⟩
    ·exact za (gg [.a _ _,.b (0 !=0) zq,.a _ _,.a _ _,.a _ _,.a _ _,.a _ _,.a _ _,.a _ _,.a _ _,.a _ _] ⟨o_a ha,bK,o_a hA,o_a hst,o_a hmv,o_a hsh,o_a hge,o_a hbl,o_a hfa,o_a hgr,o_a hlv,tI⟩ (gg [.i zy (f+1) (f+1),.a _ _] ⟨oI,o_a hso,tI⟩ ge))
    ·exact za (gg [.a _ _,.b (0 !=0) zq,.a _ _,.a _ _,.a _ _,.a _ _,.a _ _,.a _ _,.a _ _,.a _ _,.a _ _] ⟨o_a ha,bK,o_a hA,o_a hst,o_a hmv,o_a hsh,o_a hge,o_a hbl,o_a hfa,o_a hgr,o_a hlv,tI⟩ (gg [.i zy (f+1) (f+1),.a _ _] ⟨oI,o_a hso,tI⟩ ge))
   ·rename_i hq;clear hq;generalize (leaveS c r f ⟨G,made+1,[]⟩).l=Z at*;generalize hoo:(leaveS c r f ⟨G,made+1,[]⟩).out=oo at*;generalize sortS qk oo=so at*;rcases hst with hst|⟨X,hst⟩
    ·exact za (gg [.a _ _,.b (0 !=0) zq,.a _ _,.a _ _,.a _ _,.a _ _,.a _ _,.a _ _,.a _ _,.a _ _,.a _ _] ⟨o_a ha,bK,o_a hA,o_a hst,o_a hmv,o_a hsh,o_a hge,o_a hbl,o_a hfa,o_a hgr,o_a hlv,tI⟩ (gg [.i zy (f+1) (f+1),.s (T.sl 15 (zw zd oo)),.a _ _] ⟨oI,o_a hso,tI⟩ ge))
    ·exact za (gg [.a _ _,.b (0 !=0) zq,.a _ _,.a _ _,.a _ _,.a _ _,.a _ _,.a _ _,.a _ _,.a _ _,.a _ _] ⟨o_a ha,bK,o_a hA,o_a hst,o_a hmv,o_a hsh,o_a hge,o_a hbl,o_a hfa,o_a hgr,o_a hlv,tI⟩ (gg [.i zy (f+1) (f+1),.s (T.sl 15 (zw zd oo)),.a _ _] ⟨oI,o_a hso,tI⟩ ge))
 ·have hfa:=Ag5 c r f made H (by omega) hnear hfl;have hlen:(fallS c r f ⟨H,made,[]⟩).l.length=H.length∧(fallS c r f ⟨H,made,[]⟩).made=made∧(fallS c r f ⟨H,made,[]⟩).out.length≤1000:=by
   obtain ⟨k1,k2,k3⟩:= @AoH c r f (fallenL H) ⟨H,made,[]⟩;refine ⟨k1,k2,?_⟩;change ((fallenL H).foldl (fall1 c r f) ⟨H,made,[]⟩).out.length≤1000;rw [k3];have hfn:= @Ah1 H;have hns:= @AaI c r;have:=Nat.mul_le_mul (Nat.le_trans hfn hHl) hns;simp only [xk];omega
  generalize fallS c r f ⟨H,made,[]⟩=F at*;obtain ⟨FL,fm,o⟩:=F;simp only at hlen hfa⊢;obtain ⟨hl1,rfl,hl3⟩:=hlen;by_cases hg:below 8 c.seed [3,f,r]≠0∨3≤(FL.countP fun e=>e.kind==3)∨gx ⟨FL,fm,o⟩=zq
  ·have hgr:=Ae5 c r f fm FL o (by omega) hg;have e2:growS c r f ⟨FL,fm,o⟩=⟨FL,fm,o⟩:=by unfold growS;rw [if_pos hg]
   rw [e2];clear e2 hg hfl;have hlv:=Ac9 c r f fm FL o (by omega) (by omega);have hso:=AaG (leaveS c r f ⟨FL,fm,o⟩).out (by have:= @AeF c r f ⟨FL,fm,o⟩;unfold small;simp only at this;omega);split at hlv
   ·rename_i hq;rw [show (leaveS c r f ⟨FL,fm,o⟩).out=o from AhB hq] at hso⊢;clear hq;generalize (leaveS c r f ⟨FL,fm,o⟩).l=Z at*;generalize sortS qk o=so at*;rcases hst with hst|⟨X,hst⟩
    ·exact za (gg [.a _ _,.b (0 !=0) zq,.a _ _,.a _ _,.a _ _,.a _ _,.a _ _,.a _ _,.a _ _,.a _ _,.a _ _] ⟨o_a ha,bK,o_a hA,o_a hst,o_a hmv,o_a hsh,o_a hge,o_a hbl,o_a hfa,o_a hgr,o_a hlv,tI⟩ (gg [.i zy (f+1) (f+1),.s (T.sl 15 (zw zd o)),.a _ _] ⟨oI,o_a hso,tI⟩ ge))
    ·exact za (gg [.a _ _,.b (0 !=0) zq,.a _ _,.a _ _,.a _ _,.a _ _,.a _ _,.a _ _,.a _ _,.a _ _,.a _ _] ⟨o_a ha,bK,o_a hA,o_a hst,o_a hmv,o_a hsh,o_a hge,o_a hbl,o_a hfa,o_a hgr,o_a hlv,tI⟩ (gg [.i zy (f+1) (f+1),.s (T.sl 15 (zw zd o)),.a _ _] ⟨oI,o_a hso,tI⟩ ge))
   ·rename_i hq;clear hq;generalize (leaveS c r f ⟨FL,fm,o⟩).l=Z at*;generalize hoo:(leaveS c r f ⟨FL,fm,o⟩).out=oo at*;generalize sortS qk oo=so at*;rcases hst with hst|⟨X,hst⟩
    ·exact za (gg [.a _ _,.b (0 !=0) zq,.a _ _,.a _ _,.a _ _,.a _ _,.a _ _,.a _ _,.a _ _,.a _ _,.a _ _] ⟨o_a ha,bK,o_a hA,o_a hst,o_a hmv,o_a hsh,o_a hge,o_a hbl,o_a hfa,o_a hgr,o_a hlv,tI⟩ (gg [.i zy (f+1) (f+1),.s (T.sl 15 (zw zd oo)),.a _ _] ⟨oI,o_a hso,tI⟩ ge))
    ·exact za (gg [.a _ _,.b (0 !=0) zq,.a _ _,.a _ _,.a _ _,.a _ _,.a _ _,.a _ _,.a _ _,.a _ _,.a _ _] ⟨o_a ha,bK,o_a hA,o_a hst,o_a hmv,o_a hsh,o_a hge,o_a hbl,o_a hfa,o_a hgr,o_a hlv,tI⟩ (gg [.i zy (f+1) (f+1),.s (T.sl 15 (zw zd oo)),.a _ _] ⟨oI,o_a hso,tI⟩ ge))
  ·have hgr:=AdZ c r f fm FL o (by omega) (by omega) (by omega) (by omega) hg;have e2:growS c r f ⟨FL,fm,o⟩=⟨put1 FL (gemE c r f fm),fm+1,o⟩:=by unfold growS;rw [if_neg hg]
   rw [e2];clear e2 hg hfl;have hpl:=(@Acx FL (gemE c r f fm)).2;generalize put1 FL (gemE c r f fm)=G at*;have hlv:=Ac9 c r f (fm+1) G o (by omega) (by omega);have hso:=AaG (leaveS c r f ⟨G,fm+1,o⟩).out (by have:= @AeF c r f ⟨G,fm+1,o⟩;unfold small;simp only at this;omega);split at hlv
   ·rename_i hq;rw [show (leaveS c r f ⟨G,fm+1,o⟩).out=o from AhB hq] at hso⊢;clear hq;generalize (leaveS c r f ⟨G,fm+1,o⟩).l=Z at*;generalize sortS qk o=so at*;rcases hst with hst|⟨X,hst⟩
    ·exact za (gg [.a _ _,.b (0 !=0) zq,.a _ _,.a _ _,.a _ _,.a _ _,.a _ _,.a _ _,.a _ _,.a _ _,.a _ _] ⟨o_a ha,bK,o_a hA,o_a hst,o_a hmv,o_a hsh,o_a hge,o_a hbl,o_a hfa,o_a hgr,o_a hlv,tI⟩ (gg [.i zy (f+1) (f+1),.s (T.sl 15 (zw zd o)),.a _ _] ⟨oI,o_a hso,tI⟩ ge))
    ·exact za (gg [.a _ _,.b (0 !=0) zq,.a _ _,.a _ _,.a _ _,.a _ _,.a _ _,.a _ _,.a _ _,.a _ _,.a _ _] ⟨o_a ha,bK,o_a hA,o_a hst,o_a hmv,o_a hsh,o_a hge,o_a hbl,o_a hfa,o_a hgr,o_a hlv,tI⟩ (gg [.i zy (f+1) (f+1),.s (T.sl 15 (zw zd o)),.a _ _] ⟨oI,o_a hso,tI⟩ ge))
   ·rename_i hq;clear hq;generalize (leaveS c r f ⟨G,fm+1,o⟩).l=Z at*;generalize hoo:(leaveS c r f ⟨G,fm+1,o⟩).out=oo at*;generalize sortS qk oo=so at*;rcases hst with hst|⟨X,hst⟩
    ·exact za (gg [.a _ _,.b (0 !=0) zq,.a _ _,.a _ _,.a _ _,.a _ _,.a _ _,.a _ _,.a _ _,.a _ _,.a _ _] ⟨o_a ha,bK,o_a hA,o_a hst,o_a hmv,o_a hsh,o_a hge,o_a hbl,o_a hfa,o_a hgr,o_a hlv,tI⟩ (gg [.i zy (f+1) (f+1),.s (T.sl 15 (zw zd oo)),.a _ _] ⟨oI,o_a hso,tI⟩ ge))
    ·exact za (gg [.a _ _,.b (0 !=0) zq,.a _ _,.a _ _,.a _ _,.a _ _,.a _ _,.a _ _,.a _ _,.a _ _,.a _ _] ⟨o_a ha,bK,o_a hA,o_a hst,o_a hmv,o_a hsh,o_a hge,o_a hbl,o_a hfa,o_a hgr,o_a hlv,tI⟩ (gg [.i zy (f+1) (f+1),.s (T.sl 15 (zw zd oo)),.a _ _] ⟨oI,o_a hso,tI⟩ ge))
theorem Aix (c:Config) (r:Int) (s:Region) (ins:List Input) (inbox:List Cross) (hn:s.ents.length≤100000) (hi:small ins) (hb:inbox.length≤100000):
  Is cx (.call 120 [.t c.enc,vi r,.t s.enc,.t (.sl 3 (ins.map zo)),.t (.sl 15 (inbox.map zd))] []) ⟨.ret,[.t (stepP c r s ins inbox).1.enc,.t (.sl 15 ((stepP c r s ins inbox).2.1.map zd)),vi (stepP c r s ins inbox).2.2],[]⟩:=by
 unfold stepP;by_cases h:askedE c r s ins inbox=0
 ·rw [if_neg (by simp [h])];exact Afc c r s ins inbox hn hi hb h
 ·rw [if_pos h];exact AfO c r s ins inbox (by unfold small;omega) hi (by unfold small;omega) h
end Go.Eva.S8
namespace Go.Eva
structure LineL where
 region:Int
 base:Int
 sure:List Bool
 known:List (List Bool)
deriving Inhabited
def bools (l:List Bool):T:= .sl 1 (l.map .bool)
def LineL.cells (l:LineL):List T:= [ti l.region,ti l.base,bools l.sure,.sl 1 (l.known.map bools)]
def LineL.enc (l:LineL):T:= .agg l.cells
structure Mk where
 line:LineL
 near:List Int
 steps:Int
 sure:Int
deriving Inhabited
def Mk.enc (m:Mk):T:= .agg [ti m.line.region,ti m.line.base,bools m.line.sure,.sl 1 (m.line.known.map bools),.sl 1 (m.near.map ti),ti m.steps,ti m.sure]
def badAt (n:Nat):List (List Bool)→Nat
 | []=>0
 |k::r=>if k.length=n then badAt n r+1 else 0
def LineL.bad (l:LineL) (n:Nat):Bool:=l.known.any fun k=>k.length !=n
def madeL (c:Config) (l:LineL):Option Mk:=
 if (c.near l.region).length=0∨l.base<0∨10000<l.base then none
 else if l.bad (c.near l.region).length=true then none
 else some ⟨l,c.near l.region,minI l.sure.length l.known.length,l.base⟩
abbrev pinL (b:Nat):T:= .pin (.pointer (some ⟨b,0,none⟩))
theorem Abk (bs:List Nat):keysB .i64 (blkKeys bs)=true:=by
 induction bs with
 |nil=>rfl
 |cons b r ih=>simpa [blkKeys,keysB] using ih
theorem Ao1 (ks:List Int):keysB .i64 (ks.map ti)=true:=by
 induction ks with
 |nil=>rfl
 |cons b r ih=>simpa [keysB] using ih
theorem Adr: ∀ {bs:List Nat},bs.Nodup→ ∀ {j:Nat},j<bs.length→findIx .i64 ((gt bs j:Nat):Int) (blkKeys bs)=some j
 | [],_,j,h=>by simp at h
 |b::r,hn,0,_=>by
  show findIx .i64 (b:Int) (xc .i64 (b:Int)::blkKeys r)=some 0;simp [findIx]
 |b::r,hn,j+1,h=>by
  have hn':=List.nodup_cons.1 hn;have hj:j<r.length:=by simpa using h
  have ih:=Adr hn'.2 hj;have hg:gt (b::r) (j+1)=gt r j:=rfl;have hne:gt r j≠b:=fun e=>hn'.1 (e ▸ Aat hj);have hb:(((gt r j:Nat):Int)==(b:Int))=false:=by
   rw [beq_eq_false_iff_ne];omega
  rw [hg];show findIx .i64 ((gt r j:Nat):Int) (xc .i64 (b:Int)::blkKeys r)=some (j+1);simp only [findIx,hb,ih];simp
structure Lines where
 bs:List Nat
 ls:List Mk
 ks:List Int
 vs:List Nat
def Lines.ok (x:Lines):Prop:=x.bs.Nodup∧x.bs.length=x.ls.length∧x.vs.length=x.ks.length∧ ∀i,i<x.ks.length→gt x.vs i<x.ls.length
def Lines.map (x:Lines):Ob:= .map (x.ks.map ti) (x.vs.map fun j=>pinL (gt x.bs j)) []
def Lines.pool (x:Lines):Ob:= .pool x.bs (x.ls.map Mk.enc)
def Lines.known (x:Lines) (q f:Int):Bool:=match findIx .i64 q (x.ks.map ti) with
 |none=>false
 |some i=>decide ((gt x.ls (gt x.vs i)).line.base≤f-1)&&decide (f≤(gt x.ls (gt x.vs i)).sure)
theorem Afi {q:Int}: ∀ {ks:List Int} {i:Nat},findIx .i64 q (ks.map ti)=some i→i<ks.length
 | [],_,h=>by simp [findIx] at h
 |k::r,i,h=>by
  simp only [qo,findIx] at h;split at h
  ·simp at h;subst h;simp
  ·split at h
   ·rename_i j hj;simp at h;subst h;have:=Afi hj;simp;omega
   ·contradiction
structure Mk.ok (m:Mk):Prop where
 b0:0≤m.line.base
 b1:m.line.base≤10000
 st:m.steps=minI m.line.sure.length m.line.known.length
 s0:m.line.base≤m.sure
 s1:m.sure≤m.line.base+m.steps
 kn: ∀k∈m.line.known,k.length=m.near.length
 nr:m.near.length≤9
 kl:m.line.known.length≤4611686018427387904
def Lines.lacks (x:Lines) (m:Mk) (I k:Nat) (q:Int):Bool:=decide (0<I)&& !(gt (gt m.line.known I) k)&& !x.known q m.sure
def Lines.lackAt (x:Lines) (m:Mk) (I:Nat):Nat→List Int→Option Nat
 |_,[]=>none
 |k,q::r=>match x.lacks m I k q with
  |true=>some k
  |false=>x.lackAt m I (k+1) r
def Lines.goes (x:Lines) (m:Mk):Bool:=
 if m.sure-m.line.base≥m.steps then false
 else if gt m.line.sure (m.sure-m.line.base).toNat=true then (x.lackAt m (m.sure-m.line.base).toNat 0 m.near).isNone
 else false
structure Acc where
 ls:List Mk
 ks:List Int
 vs:List Nat
 al:List (Option Nat)
def Acc.add (c:Config) (a:Acc) (y:LineL):Acc:=match madeL c y with
 |none=>⟨a.ls,a.ks,a.vs,a.al++ [none]⟩
 |some m=>match findIx .i64 m.line.region (a.ks.map ti) with
  |none=>⟨a.ls++ [m],a.ks++ [m.line.region],a.vs++ [a.ls.length],a.al++ [some a.ls.length]⟩
  |some _=>⟨a.ls++ [m],a.ks,a.vs,a.al++ [some a.ls.length]⟩
def pinO (bs:List Nat):Option Nat→T
 |none=> .nilp
 |some j=>pinL (gt bs j)
theorem AhF {bs:List Nat} {n:Nat} (h:bs.Nodup) (hn:n∉bs):(bs++ [n]).Nodup:=by
 rw [List.nodup_append];refine ⟨h,by simp,?_⟩;intro x hx y hy e;simp at hy;subst hy e;exact hn hx
theorem An2 {bs:List Nat} {n j:Nat} (h:j<bs.length):gt (bs++ [n]) j=gt bs j:=by
 unfold gt;rw [List.getElem?_append_left h]
theorem An1 {bs:List Nat} {n:Nat}:gt (bs++ [n]) bs.length=n:=by simp [gt]
theorem AmP {bs:List Nat} {n:Nat} (hn:n∉bs):findIx .i64 (n:Int) (blkKeys (bs++ [n]))=some bs.length:=by
 induction bs with
 |nil=>simp [blkKeys,findIx]
 |cons b r ih=>
  simp only [qf,not_or] at hn;have h:=ih hn.2;have hb:((n:Int)==(b:Int))=false:=by
   rw [beq_eq_false_iff_ne];have:=hn.1;omega
  show findIx .i64 (n:Int) (xc .i64 (b:Int)::blkKeys (r++ [n]))=some (r.length+1);simp only [findIx,hb,h];simp
theorem Apj {bs:List Nat} {n:Nat} {al:List (Option Nat)} (h: ∀j,some j∈al→j<bs.length):al.map (pinO bs)=al.map (pinO (bs++ [n])):=by
 refine dc fun o ho=> ?_;cases o with
 |none=>rfl
 |some j=>simp only [pinO];rw [An2 (h j ho)]
theorem pin_more' {bs:List Nat} {n:Nat} {vs:List Nat} (h: ∀j∈vs,j<bs.length):vs.map (fun j=>pinL (gt bs j))=vs.map (fun j=>pinL (gt (bs++ [n]) j)):=by
 refine dc fun j hj=> ?_;rw [An2 (h j hj)]
theorem AnJ {bs:List Nat} {n k:Nat} {al:List (Option Nat)} (h: ∀j,some j∈al→j<bs.length) (hk:bs.length=k): ∀j,some j∈al++ [some k]→j<(bs++ [n]).length:=by
 intro j hj;simp only [jx,j5,xk];rcases jp.1 hj with hj|hj
 ·have:=h j hj;omega
 ·simp at hj;omega
theorem Aqf {bs:List Nat} {n k:Nat} {vs:List Nat} (h: ∀j∈vs,j<bs.length) (hk:bs.length=k): ∀j∈vs++ [k],j<(bs++ [n]).length:=by
 intro j hj;simp only [jx,j5,xk];rcases jp.1 hj with hj|hj
 ·have:=h j hj;omega
 ·simp at hj;omega
def Mk.more (m:Mk):Mk:=⟨m.line,m.near,m.steps,m.sure+1⟩
def Lines.bump (x:Lines) (j:Nat):Lines:=⟨x.bs,x.ls.set j (gt x.ls j).more,x.ks,x.vs⟩
def Lines.run:Nat→Lines→Nat→Lines
 |0,x,_=>x
 |f+1,x,j=>match x.goes (gt x.ls j) with
  |true=>Lines.run f (x.bump j) j
  |false=>x
theorem Adb {x:Lines} {m:Mk} (h:x.goes m=true):m.sure-m.line.base<m.steps:=by
 unfold Lines.goes at h;split at h
 ·contradiction
 ·omega
theorem Mk.ok.more {m:Mk} (h:m.ok) (hl:m.sure-m.line.base<m.steps):m.more.ok:=
 ⟨h.b0,h.b1,h.st,Int.le_trans h.s0 (by simp only [Mk.more];omega),by simp only [Mk.more];omega,h.kn,h.nr,h.kl⟩
theorem Lines.ok.bump {x:Lines} (h:x.ok) (j:Nat):(x.bump j).ok:=
 ⟨h.1,by simpa [Lines.bump] using h.2.1,h.2.2.1,fun i hi=>by simpa [Lines.bump] using h.2.2.2 i hi⟩
theorem An3 {α:Type} [Inhabited α] {l:List α} {j:Nat} {a:α} (h:j<l.length):gt (l.set j a) j=a:=by
 simp [gt,h]
def Lines.left (x:Lines) (j:Nat):Nat:=((gt x.ls j).line.base+(gt x.ls j).steps-(gt x.ls j).sure).toNat
def Lines.sweep:Bool→Lines→List (Option Nat)→Bool×Lines
 |ag,x,[]=>(ag,x)
 |ag,x,none::r=>Lines.sweep ag x r
 |ag,x,some j::r=>Lines.sweep (ag||x.goes (gt x.ls j)) (Lines.run (x.left j) x j) r
def Lines.fine (x:Lines) (bs:List Nat) (n:Nat):Prop:=x.ok∧x.bs=bs∧x.ls.length=n∧ ∀i,i<n→(gt x.ls i).ok
theorem AoO {α:Type} [Inhabited α] {l:List α} {i j:Nat} {a:α} (h:j≠i):gt (l.set j a) i=gt l i:=by
 unfold gt;rw [qy h]
theorem AiW {x:Lines} {bs:List Nat} {n j:Nat} (h:x.fine bs n) (hj:j<n) (hg:x.goes (gt x.ls j)=true):(x.bump j).fine bs n:=by
 obtain ⟨h1,h2,h3,h4⟩:=h;refine ⟨h1.bump j,h2,by simpa [Lines.bump] using h3,fun i hi=> ?_⟩;show (gt (x.ls.set j (gt x.ls j).more) i).ok;by_cases e:j=i
 ·subst e;rw [An3 (by omega)];exact (h4 j hi).more (Adb hg)
 ·rw [AoO e];exact h4 i hi
theorem Aee {bs:List Nat} {n j:Nat} (hj:j<n): ∀ {d:Nat} {x:Lines},x.fine bs n→(Lines.run d x j).fine bs n
 |0,_,h=>h
 |d+1,x,h=>by
  unfold Lines.run;split
  ·rename_i hg;exact Aee hj (AiW h hj hg)
  ·exact h
def Mk.left (m:Mk):Nat:=(m.line.base+m.steps-m.sure).toNat
def lefts:List Mk→Nat
 | []=>0
 |m::r=>m.left+lefts r
def Lines.fix (al:List (Option Nat)):Nat→Lines→Lines
 |0,x=>(Lines.sweep false x al).2
 |f+1,x=>match (Lines.sweep false x al).1 with
  |true=>Lines.fix al f (Lines.sweep false x al).2
  |false=>(Lines.sweep false x al).2
theorem Ajr: ∀ {l:List Mk} {j:Nat} {a:Mk},j<l.length→lefts (l.set j a)+(gt l j).left=lefts l+a.left
 | [],_,_,h=>by simp at h
 |m::r,0,a,_=>by
  have:gt (m::r) 0=m:=rfl;rw [this,List.set_cons_zero];simp only [lefts];omega
 |m::r,j+1,a,h=>by
  have hj:j<r.length:=by simpa using h
  have ih:=Ajr (a:=a) hj;have:gt (m::r) (j+1)=gt r j:=rfl;rw [this,List.set_cons_succ];simp only [lefts];omega
theorem Amb {x:Lines} {j:Nat} (hj:j<x.ls.length) (hg:x.goes (gt x.ls j)=true):lefts (x.bump j).ls+1=lefts x.ls:=by
 have h1:=Ajr (a:=(gt x.ls j).more) hj;have h2:=Adb hg;have h3:(gt x.ls j).more.left+1=(gt x.ls j).left:=by simp only [Mk.left,Mk.more];omega
 show lefts (x.ls.set j _)+1=_;omega
theorem AjK {bs:List Nat} {n j:Nat} (hj:j<n): ∀ {d:Nat} {x:Lines},x.fine bs n→lefts (Lines.run d x j).ls≤lefts x.ls∧(0<d→x.goes (gt x.ls j)=true→lefts (Lines.run d x j).ls<lefts x.ls)
 |0,x,_=>⟨qn _,fun h=>absurd h (Nat.lt_irrefl _)⟩
 |d+1,x,h=>by
  unfold Lines.run;split
  ·rename_i hg;have h1:=Amb (by have:=h.2.2.1;omega) hg;have h2:=(AjK hj (d:=d) (AiW h hj hg)).1;exact ⟨by omega,fun _ _=>by omega⟩
  ·rename_i hg;exact ⟨qn _,fun _ h=>by rw [h] at hg;contradiction⟩
theorem AaT {bs:List Nat} {n:Nat}: ∀ {l:List (Option Nat)} {ag:Bool} {x:Lines},x.fine bs n→(∀j,some j∈l→j<n)→
  (Lines.sweep ag x l).2.fine bs n∧lefts (Lines.sweep ag x l).2.ls≤lefts x.ls∧((Lines.sweep ag x l).1=true→ag=true∨lefts (Lines.sweep ag x l).2.ls<lefts x.ls)
 | [],ag,x,h,_=>⟨h,qn _,fun h=> .inl h⟩
 |none::r,ag,x,h,hl=>by
  simp only [Lines.sweep];exact AaT h fun j hj=>hl j (qu _ hj)
 |some j::r,ag,x,h,hl=>by
  simp only [Lines.sweep];have hj:=hl j (jh ..);obtain ⟨h1,h2,h3⟩:=AaT (ag:=ag||x.goes (gt x.ls j)) (Aee hj (d:=x.left j) h) fun j hj=>hl j (qu _ hj);obtain ⟨r1,r2⟩:=AjK hj (d:=x.left j) h;refine ⟨h1,by omega,fun h4=> ?_⟩;rcases h3 h4 with h5|h5
  ·cases ag with
   |true=>exact .inl rfl
   |false=>
    right;simp only [Bool.false_or] at h5;have:=Adb h5;have:=r2 (by unfold Lines.left;omega) h5;simp only [h5,Bool.or_true] at h2⊢;omega
  ·right;omega
def Lines.at (x:Lines) (bs:List Nat):Lines:=⟨bs,x.ls,x.ks,x.vs⟩
theorem AnD {x:Lines} {b:List Nat} {m:Mk} {I:Nat}: ∀ {l:List Int} {k:Nat},(x.at b).lackAt m I k l=x.lackAt m I k l
 | [],_=>rfl
 |q::r,k=>by
  simp only [Lines.lackAt];rw [show (x.at b).lacks m I k q=x.lacks m I k q from rfl,AnD]
theorem An0 {x:Lines} {b:List Nat} {m:Mk}:(x.at b).goes m=x.goes m:=by
 unfold Lines.goes;rw [AnD]
theorem ApC {b:List Nat} {j:Nat}: ∀ {d:Nat} {x:Lines},Lines.run d (x.at b) j=(Lines.run d x j).at b
 |0,_=>rfl
 |d+1,x=>by
  simp only [Lines.run];rw [show (x.at b).ls=x.ls from rfl,An0];cases x.goes (gt x.ls j) with
  |true=>exact ApC (x:=x.bump j)
  |false=>rfl
theorem Agb {b:List Nat}: ∀ {l:List (Option Nat)} {ag:Bool} {x:Lines},Lines.sweep ag (x.at b) l=((Lines.sweep ag x l).1,(Lines.sweep ag x l).2.at b)
 | [],_,_=>rfl
 |none::r,ag,x=>by simp only [Lines.sweep];exact Agb
 |some j::r,ag,x=>by
  simp only [Lines.sweep];rw [show (x.at b).ls=x.ls from rfl,An0,show (x.at b).left j=x.left j from rfl,ApC];exact Agb
theorem Anu {al:List (Option Nat)} {b:List Nat}: ∀ {d:Nat} {x:Lines},Lines.fix al d (x.at b)=(Lines.fix al d x).at b
 |0,x=>by simp only [Lines.fix,Agb]
 |d+1,x=>by
  simp only [Lines.fix,Agb];cases (Lines.sweep false x al).1 with
  |true=>exact Anu
  |false=>rfl
theorem Ale {bs:List Nat} {n:Nat} {al:List (Option Nat)} (hal: ∀j,some j∈al→j<n): ∀ {d:Nat} {x:Lines},x.fine bs n→(Lines.fix al d x).fine bs n
 |0,x,h=>(AaT h hal).1
 |d+1,x,h=>by
  simp only [Lines.fix];cases (Lines.sweep false x al).1 with
  |true=>exact Ale hal (AaT h hal).1
  |false=>exact (AaT h hal).1
structure Acc.ok (a:Acc):Prop where
 vk:a.vs.length=a.ks.length
 vs: ∀j∈a.vs,j<a.ls.length
 al: ∀j,some j∈a.al→j<a.ls.length
 ls: ∀m∈a.ls,m.ok
theorem Aqe {c:Config} {l:LineL} {m:Mk} (hk:l.known.length≤4611686018427387904) (h:madeL c l=some m):m.ok:=by
 unfold madeL at h;split at h
 ·contradiction
 ·rename_i h1;split at h
  ·contradiction
  ·rename_i h2;simp only [Option.some.injEq] at h;subst h;refine ⟨by simp only;omega,by simp only;omega,rfl,Int.le_refl _,?_,fun k hkk=> ?_,AaI,hk⟩
   ·simp only;unfold minI;split<;>omega
   ·simp only [LineL.bad,Bool.not_eq_true,List.any_eq_false,bne_iff_ne,ne_eq,Decidable.not_not] at h2;exact h2 k hkk
theorem Aq0 {c:Config} {a:Acc} {y:LineL} (h:a.ok) (hk:y.known.length≤4611686018427387904):(a.add c y).ok:=by
 unfold Acc.add;split
 ·refine ⟨h.vk,h.vs,fun j hj=> ?_,h.ls⟩;exact h.al j (by simpa using hj)
 ·rename_i m hm;have hmo:=Aqe hk hm;have hls: ∀m'∈a.ls++ [m],m'.ok:=fun m' hm'=>by
   rcases jp.1 hm' with h'|h'
   ·exact h.ls m' h'
   ·simp at h';subst h';exact hmo
  have hal: ∀j,some j∈a.al++ [some a.ls.length]→j<(a.ls++ [m]).length:=fun j hj=>by
   simp only [jx,j5,xk];rcases jp.1 hj with h'|h'
   ·have:=h.al j h';omega
   ·simp at h';omega
  split
  ·refine ⟨by simp [h.vk],fun j hj=> ?_,hal,hls⟩;simp only [jx,j5,xk];rcases jp.1 hj with h'|h'
   ·have:=h.vs j h';omega
   ·simp at h';omega
  ·refine ⟨h.vk,fun j hj=> ?_,hal,hls⟩;have:=h.vs j hj;simp;omega
theorem AmM {c:Config}: ∀ {L:List LineL} {a:Acc},a.ok→(∀y∈L,y.known.length≤4611686018427387904)→(L.foldl (Acc.add c) a).ok∧(L.foldl (Acc.add c) a).al.length=a.al.length+L.length
 | [],_,h,_=>⟨h,rfl⟩
 |y::r,a,h,hk=>by
  obtain ⟨h1,h2⟩:=AmM (c:=c) (L:=r) (Aq0 (c:=c) h (hk y (jh ..))) fun z hz=>hk z (qu _ hz);refine ⟨h1,?_⟩;rw [wb,h2];have:(a.add c y).al.length=a.al.length+1:=by
   unfold Acc.add;split
   ·simp
   ·split<;>simp
  simp;omega
def Acc.lines (a:Acc):Lines:=⟨[],a.ls,a.ks,a.vs⟩
def accOf (c:Config) (L:List LineL):Acc:=L.foldl (Acc.add c) ⟨[],[],[],[]⟩
def sureO (ls:List Mk):Option Nat→Int
 |none=> -1
 |some j=>(gt ls j).sure
def marksL (c:Config) (L:List LineL):List Int:=(accOf c L).al.map (sureO (Lines.fix (accOf c L).al (lefts (accOf c L).ls) (accOf c L).lines).ls)
end Go.Eva
namespace Go.Eva
def unknown (n:Nat):List Bool:=zn n false
def Sub.line (s:Sub) (c:Config) (r:Int):LineL:=⟨r,s.base.frame,s.sure,zn s.recs.length (unknown (c.near r).length)⟩
def EngP.subAt (p:EngP) (r:Int):Sub:=match p.ix r with
 |some k=>gt p.subs k
 |none=>default
def EngP.lines (p:EngP) (L:List Int):List LineL:=L.map fun r=>(p.subAt r).line p.c r
theorem AlE {α:Type} {n:Nat} {x:α}:zn n x++ [x]=zn (n+1) x:=by rw [List.replicate_succ']
theorem AlJ {p:EngP} {k:Nat} (h:k<p.subs.length):(deeps (p.subs.map jw))[k]?=some (.ip 10 (gt p.subs k).flat 0):=by
 rw [AaE,List.map_map,qb,Aa7 h];rfl
def sureL (subs:List Sub) (rs:List Int) (f:Int):List Int→Bool
 | []=>true
 |q::l=>(match findIx .i64 q (rs.map ti) with
  |some i=>decide ((gt subs i).base.frame≤f-1)&&decide (f≤(gt subs i).mark)
  |none=>false)&&sureL subs rs f l
def EngP.sureE (p:EngP) (r f:Int):Bool:=sureL p.subs p.rs f (p.c.near r)
def Sub.told (s:Sub) (now m:Int):Sub:= {s with settled:=true,now:=now,mark:=m,inb:=none}
def EngP.mark1 (p:EngP) (r m:Int):EngP:=match p.ix r with
 |some k=>p.put k (if ((gt p.subs k).told p.now m).base.frame≤p.now then {(gt p.subs k).told p.now m with inb:=some ((p.put k ((gt p.subs k).told p.now m)).come r ((gt p.subs k).told p.now m) p.now)} else (gt p.subs k).told p.now m)
 |none=>p
def EngP.markL:EngP→List Int→List Int→EngP
 |p,r::l,m::ms=>EngP.markL (p.mark1 r m) l ms
 |p,_,_=>p
def readyN (p:EngP) (r b:Int):Nat→Int→Int
 |0,x=>x
 |n+1,x=>if b<x∧p.sureE r x=false then readyN p r b n (x-1) else x
def EngP.ready1 (p:EngP) (r:Int):EngP:=match p.ix r with
 |some k=>p.put k {gt p.subs k with ready:=readyN p r (gt p.subs k).base.frame ((gt p.subs k).mark-(gt p.subs k).base.frame).toNat (gt p.subs k).mark}
 |none=>p
def EngP.readyL:EngP→List Int→EngP
 |p,[]=>p
 |p,r::l=>EngP.readyL (p.ready1 r) l
def EngP.reckon (p:EngP):EngP:=(p.markL p.order (marksL p.c (p.lines p.order))).readyL p.order
theorem AjU {subs:List Sub} {rs:List Int} {f:Int} {k:Nat} {s:Sub} (hk:k<subs.length) (hb:s.base=(gt subs k).base) (hm:s.mark=(gt subs k).mark): ∀ {l:List Int},sureL (subs.set k s) rs f l=sureL subs rs f l
 | []=>rfl
 |q::l=>by
  simp only [sureL];rw [AjU hk hb hm];congr 1;cases findIx .i64 q (rs.map ti) with
  |none=>rfl
  |some i=>
   dsimp only;by_cases hi:k=i
   ·subst hi;rw [gtSetSelf hk,hb,hm]
   ·rw [gtSetNe hi]
theorem AoJ {p:EngP} {k:Nat} {s:Sub} {i:Nat} (hi:i<(p.subs.set k s).length):((deeps (p.subs.map jw)).set k (.ip 10 s.flat 0))[i]?=some (.ip 10 (gt (p.subs.set k s) i).flat 0):=by
 have hl:i<p.subs.length:=by simpa using hi
 by_cases h:k=i
 ·subst h;rw [qw (by rw [AaE];simpa using hl),gtSetSelf hl]
 ·rw [qy h,gtSetNe h];exact AlJ hl
structure ComeOk (p:EngP) (k:Nat) (s:Sub) (r f:Int):Prop where
 out: ∀q,((p.put k s).emit q (f-1)).length≤10000
 inb:((p.put k s).come r s f).length≤100000
def MarksOk:EngP→List Int→List Int→Prop
 |p,r::l,m::ms=>(p.Fit∧p.c.is r=true∧ ∃k,p.ix r=some k∧(((gt p.subs k).told p.now m).base.frame≤p.now→ComeOk p k ((gt p.subs k).told p.now m) r p.now))∧MarksOk (p.mark1 r m) l ms
 |_,_,_=>True
def ReadysOk:EngP→List Int→Prop
 |_,[]=>True
 |p,r::l=>(p.Fit∧p.c.is r=true∧(∃k,p.ix r=some k∧0≤(gt p.subs k).mark∧(gt p.subs k).mark≤20000))∧ReadysOk (p.ready1 r) l
end Go.Eva
namespace Go.Eva
theorem AoW {p:EngP} {f r:Int}:0≤(p.look1 f r).2∧(p.look1 f r).2≤1:=by
 unfold EngP.look1;split
 ·split
  ·unfold Sub.look;split<;>(try split)<;>simp
  ·simp
 ·simp
theorem AiA {f:Int}: ∀ {L:List Int} {x:EngP×Int},x.2≤(EngP.lookL f x L).2∧(EngP.lookL f x L).2≤x.2+L.length
 | [],x=>by simp [EngP.lookL]
 |r::l,x=>by
  have h1:= @AoW x.1 f r;have h2:= @AiA f l ((x.1.look1 f r).1,x.2+(x.1.look1 f r).2);simp only [EngP.lookL,j5] at*;omega
theorem AnF {p:EngP} {f r:Int}:(p.look1 f r).1.now=p.now∧(p.look1 f r).1.rs=p.rs∧(p.look1 f r).1.c=p.c∧(p.look1 f r).1.steps=p.steps:=by
 unfold EngP.look1;split
 ·split<;>simp [pb]
 ·simp
theorem AgF {f:Int}: ∀ {L:List Int} {x:EngP×Int},(EngP.lookL f x L).1.now=x.1.now∧(EngP.lookL f x L).1.rs=x.1.rs∧(EngP.lookL f x L).1.c=x.1.c∧(EngP.lookL f x L).1.steps=x.1.steps
 | [],x=>by simp [EngP.lookL]
 |r::l,x=>by
  have h1:= @AnF x.1 f r;have h2:= @AgF f l ((x.1.look1 f r).1,x.2+(x.1.look1 f r).2);simp only [EngP.lookL] at*;exact ⟨h2.1.trans h1.1,h2.2.1.trans h1.2.1,h2.2.2.1.trans h1.2.2.1,h2.2.2.2.trans h1.2.2.2⟩
theorem Aju {L:List Int}: ∀ {d:Nat} {f:Int} {x:EngP×Int},(EngP.lookF L d f x).1.now=x.1.now∧(EngP.lookF L d f x).1.rs=x.1.rs∧(EngP.lookF L d f x).1.c=x.1.c∧(EngP.lookF L d f x).1.steps=x.1.steps
 |0,f,x=>by simp [EngP.lookF]
 |d+1,f,x=>by
  have h1:= @AgF f L x;have h2:= @Aju L d (f+1) (EngP.lookL f x L);simp only [EngP.lookF] at*;exact ⟨h2.1.trans h1.1,h2.2.1.trans h1.2.1,h2.2.2.1.trans h1.2.2.1,h2.2.2.2.trans h1.2.2.2⟩
theorem Alt {L:List Int}: ∀ {d:Nat} {f:Int} {x:EngP×Int},x.2≤(EngP.lookF L d f x).2∧(EngP.lookF L d f x).2≤x.2+L.length*d
 |0,f,x=>by simp [EngP.lookF]
 |d+1,f,x=>by
  have h1:= @AiA f L x;have h2:= @Alt L d (f+1) (EngP.lookL f x L);simp only [EngP.lookF] at*;have:(L.length:Int)*((d+1:Nat):Int)=L.length*d+L.length:=by rw [Int.natCast_succ,Int.mul_add,Int.mul_one]
  omega
def maxD:Int:=9223372036854775807
def EngP.looked (p:EngP):EngP×Int:=EngP.lookF p.order (p.now-p.dirty).toNat p.dirty (p,0)
def EngP.clean (x:EngP×Int):EngP:= {x.1 with dirty:=maxD,steps:=x.1.steps+x.2}
def EngP.settle (p:EngP):EngP×Int:=(((EngP.clean p.looked).markL p.order (marksL p.c ((EngP.clean p.looked).lines p.order))).readyL p.order,p.looked.2)
structure LookOk (p:EngP) (k:Nat) (s:Sub) (r f:Int):Prop where
 fit:p.Fit
 kk:k<p.subs.length
 sf:s.Fit
 room:s.recs.length<10000
 is:p.c.is r=true
 ff:s.base.frame≤f∧f≤s.top
 out: ∀q,((p.put k s).emit q (f-1)).length≤10000
 inb:((p.put k s).come r s f).length≤100000
 st:(s.at f).ents.length≤100000
 ids: ∀id∈presentL (s.at f).ents ((p.put k s).come r s f),1≤id∧id≤p.cols.length
 idn:small (presentL (s.at f).ents ((p.put k s).come r s f))
 cols:p.cols.length≤6
 col: ∀x∈p.cols,x.l.length≤10000
 pl:(p.cols.length:Int)=p.c.players
 old: ∀x∈s.recs,small x.st.ents∧small x.inb∧small x.ins
def LooksOk (f:Int):EngP→List Int→Prop
 |_,[]=>True
 |p,r::l=>(∃k,p.ix r=some k∧((gt p.subs k).Fit)∧k<p.subs.length∧((gt p.subs k).base.frame≤f→LookOk p k (gt p.subs k) r f))∧LooksOk f (p.look1 f r).1 l
def FramesOk (L:List Int):Nat→Int→EngP×Int→Prop
 |0,_,_=>True
 |d+1,f,x=>LooksOk f x.1 L∧FramesOk L d (f+1) (EngP.lookL f x L)
structure SettleOk (p:EngP):Prop where
 fit:p.Fit
 pos:0<p.rs.length
 now:0≤p.now∧p.now≤10000
 dirty:0≤p.dirty∧p.dirty≤maxD
 steps:0≤p.steps∧p.steps≤1000000000
 frames:FramesOk p.order (p.now-p.dirty).toNat p.dirty (p,0)
 fit2:(EngP.clean p.looked).Fit
 marks:(marksL p.c ((EngP.clean p.looked).lines p.order)).length=p.order.length
 m1:MarksOk (EngP.clean p.looked) p.order (marksL p.c ((EngP.clean p.looked).lines p.order))
 m2:ReadysOk ((EngP.clean p.looked).markL p.order (marksL p.c ((EngP.clean p.looked).lines p.order))) p.order
end Go.Eva
namespace Go.Eva.S8
theorem Akr (s:Sub) (f:Int) (hs:s.Fit) (hf:s.base.frame≤f∧f≤s.top):Is cx (.call 69 [.ptr 0 0 0,vi f] [.one 10 (.t s.enc) zq]) ⟨.ret,[.t (s.at f).enc],[.one 10 (.t s.enc) zq]⟩:=by
 unfold Sub.top at hf;by_cases h:f=s.base.frame
 ·have e:s.at f=s.base:=if_pos h;rw [e,h];exact AfR s
 ·have e:s.at f=(gt s.recs (f-s.base.frame-1).toNat).nx:=if_neg h;rw [e];exact AfS s f hs (f-s.base.frame-1).toNat (by omega) (by omega)
theorem AkU {cols:List Col} {f:Int}: ∀ {ids:List Int} {x:List Input×Bool},(doesL cols f ids x).1.length=x.1.length
 | [],x=>rfl
 |id::r,x=>by
  have:= @AkU cols f r (does1 cols f x id);simp only [doesL,wb] at*;rw [this];simp [does1]
theorem Amo (p:EngP) (k:Nat) (s:Sub) (r f:Int) (h:LookOk p k s r f):
  Is cx (.call 63 [.ptr 0 0 0,vi r,.ptr 1 0 0,vi f] (focB p k s)) ⟨.ret,[vi (s.look f ((p.put k s).made r s f).1 ((p.put k s).made r s f).2).2],focB p k (s.look f ((p.put k s).made r s f).1 ((p.put k s).made r s f).2).1⟩:=by
 obtain ⟨hp,hk,hs,hroom,his,hf,hout,hinb,hst,hids,hidn,hcols,hcol,hpl,hrec⟩:=h;obtain ⟨⟨hb0,hb1⟩,hsr,hsu⟩:=id hs;have hft:f≤s.base.frame+s.recs.length:=hf.2;have hS:=Akr s f hs hf;have hC:=Af0 p k s r f hp hk hs (by omega) hout his;have hP:=AfM p.c r (s.at f) ((p.put k s).come r s f) hst hinb;have hD:=fun x6 x7 x8 x9 x10=>Amn p.c p.cols x6 x7 x8 x9 x10 f (presentL (s.at f).ents ((p.put k s).come r s f)) hids hidn hcols hcol hpl;have hF:=Aax s.base.frame;have hyl:(doesL p.cols f (presentL (s.at f).ents ((p.put k s).come r s f)) (idleL p.cols.length,zg)).1.length≤6:=by rw [AkU];simp [idleL];omega
 have hR:=Aix p.c r (s.at f) (doesL p.cols f (presentL (s.at f).ents ((p.put k s).come r s f)) (idleL p.cols.length,zg)).1 ((p.put k s).come r s f) hst (by unfold small;omega) hinb;have hcl:=Aas ((p.put k s).come r s f) (by unfold small;omega);have hA:=fun (x:Rec) (hx:x∈s.recs)=>Akq x (s.at f) ((p.put k s).come r s f) (doesL p.cols f (presentL (s.at f).ents ((p.put k s).come r s f)) (idleL p.cols.length,zg)).1 (hrec x hx).1 (by unfold small;omega) (hrec x hx).2.1 (by unfold small;omega) (hrec x hx).2.2 (by unfold small;omega);have erec:(p.put k s).made r s f=(⟨s.at f,(p.put k s).come r s f,(doesL p.cols f (presentL (s.at f).ents ((p.put k s).come r s f)) (idleL p.cols.length,zg)).1,(stepP p.c r (s.at f) (doesL p.cols f (presentL (s.at f).ents ((p.put k s).come r s f)) (idleL p.cols.length,zg)).1 ((p.put k s).come r s f)).1,(stepP p.c r (s.at f) (doesL p.cols f (presentL (s.at f).ents ((p.put k s).come r s f)) (idleL p.cols.length,zg)).1 ((p.put k s).come r s f)).2.1⟩,(doesL p.cols f (presentL (s.at f).ents ((p.put k s).come r s f)) (idleL p.cols.length,zg)).2):=rfl;rw [erec];clear erec hids hidn hout hcol hrec hst;obtain ⟨j,hj⟩: ∃j:Nat,(f-s.base.frame).toNat=j:=⟨_,rfl⟩
 have hj2:f-s.base.frame=j:=by omega
 have hjl:j≤s.recs.length:=by omega
 generalize stepP p.c r (s.at f) (doesL p.cols f (presentL (s.at f).ents ((p.put k s).come r s f)) (idleL p.cols.length,zg)).1 ((p.put k s).come r s f)=W at*;generalize doesL p.cols f (presentL (s.at f).ents ((p.put k s).come r s f)) (idleL p.cols.length,zg)=Y at*;generalize presentL (s.at f).ents ((p.put k s).come r s f)=P at*;generalize (p.put k s).come r s f=B at*;generalize s.at f=A at*;obtain ⟨Y1,Y2⟩:=Y;obtain ⟨W1,W2,W3⟩:=W;obtain ⟨A1,A2⟩:=A;obtain ⟨N1,N2⟩:=W1;have hflat:flat2s (Y1.map zo)=zg:=Ah5 fun _=>rfl;unfold Sub.look;rw [hj];by_cases hlt:j<s.recs.length
 ·rw [if_pos hlt];have hAj:=hA _ (Aat hlt);clear hA;cases hq:(gt s.recs j).asks ⟨A1,A2⟩ B Y1 with
  |true=>
   rw [if_pos rfl];rw [hq] at hAj;simp only [focB,xr,jj] at*;generalize p.rs.map ti=KS at*;generalize p.subs.map jw=SS at*;exact za (gg [.a _ _,.a _ _,.a _ _,.s (T.ip 11 (qe [T.ip 1 (qe [T.sl 3 (zw wk p.cols)]) 0,ti p.c.cols,ti p.c.rows,ti p.c.players,ti p.c.window,xc zr p.c.seed,T.ip 1 (qe [T.sl 1 (deeps (noneT p.c))]) 0,T.mp KS (qz (deeps SS) k (T.ip 10 (qe [jz (ti s.base.frame),jz (T.sl 9 (zw zk s.base.ents)),jz (T.sl 15 []),jz (yj 1 (zw jg s.recs)),jz (yj 1 (zw zi s.sure)),jz (zi s.settled),jz (ti s.now),jz (inbT s.inb),jz (ti s.mark),jz (ti s.ready)]) 0)),ti p.now,ti p.dirty,ti p.steps]) 0),.a _ _,.w (flat2s (zw zo Y1)=zg),.s (T.ip 10 (qe [ti s.base.frame,T.sl 9 (zw zk s.base.ents),T.sl 15 [],T.sl 1 (zw jg s.recs),T.sl 1 (zw zi s.sure),zi s.settled,ti s.now,jz (inbT s.inb),ti s.mark,ti s.ready]) 0),.a _ _] ⟨o_a hS,o_a hC,o_a hP,o_a (hD (T.ip 1 (qe [T.sl 1 (deeps (noneT p.c))]) 0) (T.mp KS (qz (deeps SS) k (T.ip 10 (qe [jz (ti s.base.frame),jz (T.sl 9 (zw zk s.base.ents)),jz (T.sl 15 []),jz (yj 1 (zw jg s.recs)),jz (yj 1 (zw zi s.sure)),jz (zi s.settled),jz (ti s.now),jz (inbT s.inb),jz (ti s.mark),jz (ti s.ready)]) 0))) (ti p.now) (ti p.dirty) (ti p.steps)),oA,o_a (hF (T.sl 9 (zw zk s.base.ents)) (T.sl 15 []) (T.sl 1 (zw jg s.recs)) (T.sl 1 (zw zi s.sure)) (zi s.settled) (ti s.now) (jz (inbT s.inb)) (ti s.mark) (ti s.ready)),tI⟩ (gg [.i zy (f-s.base.frame) (j:Int),.n (zj (zw jg s.recs)) (zj s.recs),.b (decide ((j:Int)<(↑(zj s.recs):Int))) zg,.w (0≤(j:Int)),.n (zm (j:Int)) j,.w (j<zj (zw zi s.sure)),.g (zw zi s.sure) j (zi (gt s.sure j)),.t (T.sl 0 (qz (zw zi s.sure) j (zi Y2))) (T.sl 0 (zw zi (qz s.sure j Y2))),.w (0≤(j:Int)),.n (zm (j:Int)) j,.w (j<zj (zw jg s.recs)),.g (zw jg s.recs) j (jg (gt s.recs j)),.a _ _,.b (flats [zi zg]) zg,.tt] ⟨oI,oM,tP,oW,nK,oS,oT,o_l (Aaq rfl rfl),oW,nK,oS,oH,o_a hAj,bK,tI⟩ ge))
  |false=>
   rw [if_neg (by simp)];rw [hq] at hAj;simp only [focB,xr,jj] at*;generalize p.rs.map ti=KS at*;generalize p.subs.map jw=SS at*;exact za (gg [.a _ _,.a _ _,.a _ _,.s (T.ip 11 (qe [T.ip 1 (qe [T.sl 3 (zw wk p.cols)]) 0,ti p.c.cols,ti p.c.rows,ti p.c.players,ti p.c.window,xc zr p.c.seed,T.ip 1 (qe [T.sl 1 (deeps (noneT p.c))]) 0,T.mp KS (qz (deeps SS) k (T.ip 10 (qe [jz (ti s.base.frame),jz (T.sl 9 (zw zk s.base.ents)),jz (T.sl 15 []),jz (yj 1 (zw jg s.recs)),jz (yj 1 (zw zi s.sure)),jz (zi s.settled),jz (ti s.now),jz (inbT s.inb),jz (ti s.mark),jz (ti s.ready)]) 0)),ti p.now,ti p.dirty,ti p.steps]) 0),.a _ _,.w (flat2s (zw zo Y1)=zg),.s (T.ip 10 (qe [ti s.base.frame,T.sl 9 (zw zk s.base.ents),T.sl 15 [],T.sl 1 (zw jg s.recs),T.sl 1 (zw zi s.sure),zi s.settled,ti s.now,jz (inbT s.inb),ti s.mark,ti s.ready]) 0),.a _ _] ⟨o_a hS,o_a hC,o_a hP,o_a (hD (T.ip 1 (qe [T.sl 1 (deeps (noneT p.c))]) 0) (T.mp KS (qz (deeps SS) k (T.ip 10 (qe [jz (ti s.base.frame),jz (T.sl 9 (zw zk s.base.ents)),jz (T.sl 15 []),jz (yj 1 (zw jg s.recs)),jz (yj 1 (zw zi s.sure)),jz (zi s.settled),jz (ti s.now),jz (inbT s.inb),jz (ti s.mark),jz (ti s.ready)]) 0))) (ti p.now) (ti p.dirty) (ti p.steps)),oA,o_a (hF (T.sl 9 (zw zk s.base.ents)) (T.sl 15 []) (T.sl 1 (zw jg s.recs)) (T.sl 1 (zw zi s.sure)) (zi s.settled) (ti s.now) (jz (inbT s.inb)) (ti s.mark) (ti s.ready)),tI⟩ (gg [.i zy (f-s.base.frame) (j:Int),.n (zj (zw jg s.recs)) (zj s.recs),.b (decide ((j:Int)<(↑(zj s.recs):Int))) zg,.w (0≤(j:Int)),.n (zm (j:Int)) j,.w (j<zj (zw zi s.sure)),.g (zw zi s.sure) j (zi (gt s.sure j)),.t (T.sl 0 (qz (zw zi s.sure) j (zi Y2))) (T.sl 0 (zw zi (qz s.sure j Y2))),.w (0≤(j:Int)),.n (zm (j:Int)) j,.w (j<zj (zw jg s.recs)),.g (zw jg s.recs) j (jg (gt s.recs j)),.a _ _,.b (flats [zi zq]) zg,.ff,.a _ _] ⟨oI,oM,tP,oW,nK,oS,oT,o_l (Aaq rfl rfl),oW,nK,oS,oH,o_a hAj,bK,o_a hcl,tI⟩ (gg [.a _ _,.b (flats [Region.enc (ku N1 N2),T.sl 15 (zw zd W2),ti W3]) zq,.w (0≤(j:Int)),.n (zm (j:Int)) j,.w (j<zj (zw jg s.recs)),.s (T.ip 7 (qe [ti A1,T.sl 9 (zw zk A2),T.sl 15 (zw zd B),T.sl 3 (zw zo Y1),ti N1,T.sl 9 (zw zk N2),T.sl 15 (zw zd W2)]) 0),.g (zw jg s.recs) j (jg (gt s.recs j)),.t (T.sl 0 (qz (zw jg s.recs) j (T.ip 7 (qe [ti A1,T.sl 9 (zw zk A2),T.sl 15 (zw zd B),T.sl 3 (zw zo Y1),ti N1,T.sl 9 (zw zk N2),T.sl 15 (zw zd W2)]) 0))) (T.sl 0 (zw jg (qz s.recs j (Rec.mk (ku A1 A2) B Y1 (ku N1 N2) W2))))] ⟨o_a hR,bK,oW,nK,oS,oH,o_l (Aaq (e:=Rec.mk (ku A1 A2) B Y1 (ku N1 N2) W2) rfl rfl),tI⟩ ge)))
 ·rw [if_neg hlt];have hjj:j=s.recs.length:=by omega
  clear hA;have e2:(s.recs.map jg++ [ke]).set j (jg ⟨⟨A1,A2⟩,B,Y1,⟨N1,N2⟩,W2⟩)=(s.recs++ [(⟨⟨A1,A2⟩,B,Y1,⟨N1,N2⟩,W2⟩:Rec)]).map jg:=by rw [Ak7 (by simp [hjj]),vj];rfl
  have hgj:(s.recs.map jg++ [ke])[j]?=zb ke:=by simp [hjj]
  obtain ⟨ZR,e0⟩: ∃ZR,s.recs.map jg++ [ke]=ZR:=⟨_,rfl⟩
  have hzl:ZR.length=s.recs.length+1:=by rw [←e0];simp
  rw [e0] at e2 hgj;have ef:dh {s with recs:=s.recs++ [(⟨⟨A1,A2⟩,B,Y1,⟨N1,N2⟩,W2⟩:Rec)],sure:=s.sure++ [Y2]}= .agg [ti s.base.frame,.sl 9 (s.base.ents.map zk),.sl 15 [],.row 1 ((s.recs++ [(⟨⟨A1,A2⟩,B,Y1,⟨N1,N2⟩,W2⟩:Rec)]).map jg),.row 1 ((s.sure++ [Y2]).map zi),.bool s.settled,ti s.now,inbT s.inb,ti s.mark,ti s.ready]:=rfl;simp only [focB,xr,jj,ef] at*;generalize (s.recs++ [(⟨⟨A1,A2⟩,B,Y1,⟨N1,N2⟩,W2⟩:Rec)]).map jg=RR at*;simp only [jg,Rec.enc] at e2;generalize p.rs.map ti=KS at*;generalize p.subs.map jw=SS at*;refine za (gg [.a _ _,.a _ _,.a _ _,.s (T.ip 11 (qe [T.ip 1 (qe [T.sl 3 (zw wk p.cols)]) 0,ti p.c.cols,ti p.c.rows,ti p.c.players,ti p.c.window,xc zr p.c.seed,T.ip 1 (qe [T.sl 1 (deeps (noneT p.c))]) 0,T.mp KS (qz (deeps SS) k (T.ip 10 (qe [jz (ti s.base.frame),jz (T.sl 9 (zw zk s.base.ents)),jz (T.sl 15 []),jz (yj 1 (zw jg s.recs)),jz (yj 1 (zw zi s.sure)),jz (zi s.settled),jz (ti s.now),jz (inbT s.inb),jz (ti s.mark),jz (ti s.ready)]) 0)),ti p.now,ti p.dirty,ti p.steps]) 0),.a _ _,.w (flat2s (zw zo Y1)=zg),.s (T.ip 10 (qe [ti s.base.frame,T.sl 9 (zw zk s.base.ents),T.sl 15 [],T.sl 1 (zw jg s.recs),T.sl 1 (zw zi s.sure),zi s.settled,ti s.now,jz (inbT s.inb),ti s.mark,ti s.ready]) 0),.a _ _] ⟨o_a hS,o_a hC,o_a hP,o_a (hD (T.ip 1 (qe [T.sl 1 (deeps (noneT p.c))]) 0) (T.mp KS (qz (deeps SS) k (T.ip 10 (qe [jz (ti s.base.frame),jz (T.sl 9 (zw zk s.base.ents)),jz (T.sl 15 []),jz (yj 1 (zw jg s.recs)),jz (yj 1 (zw zi s.sure)),jz (zi s.settled),jz (ti s.now),jz (inbT s.inb),jz (ti s.mark),jz (ti s.ready)]) 0))) (ti p.now) (ti p.dirty) (ti p.steps)),oA,o_a (hF (T.sl 9 (zw zk s.base.ents)) (T.sl 15 []) (T.sl 1 (zw jg s.recs)) (T.sl 1 (zw zi s.sure)) (zi s.settled) (ti s.now) (jz (inbT s.inb)) (ti s.mark) (ti s.ready)),tI⟩ (gg [.i zy (f-s.base.frame) (j:Int),.n (zj (zw jg s.recs)) (zj s.recs),.b (decide ((j:Int)<(↑(zj s.recs):Int))) zq] ⟨oI,oM,fP,tI⟩ (bO (bO ?_ (bO (bO ?_ ?_) (bO ?_ ?_))) (bO (bO (bO ?_ ?_) ?_) (bO (bO ?_ ?_) ?_)))))
  all_goals
   exact gg [.w ((0:Nat)<(8:Nat)),.s (T.sl 0 [ke]),.t (T.sl 0 (zw jg s.recs++ [ke])) (T.sl 0 ZR),.w (room (zj ZR) (8:Nat)),.w ((0:Nat)<(1:Nat)),.t (T.sl 0 [zi Y2]) (T.sl 0 (zw zi [Y2])),.t (T.sl 0 (zw zi s.sure++zw zi [Y2])) (T.sl 0 (zw zi (s.sure++ [Y2]))),.w (room (zj (zw zi (s.sure++ [Y2]))) (1:Nat)),.a _ _,.a _ _,.b (flats [Region.enc (ku N1 N2),T.sl 15 (zw zd W2),ti W3]) zq,.w (0≤(j:Int)),.n (zm (j:Int)) j,.w (j<zj ZR),.s (T.ip 7 (qe [ti A1,T.sl 9 (zw zk A2),T.sl 15 (zw zd B),T.sl 3 (zw zo Y1),ti N1,T.sl 9 (zw zk N2),T.sl 15 (zw zd W2)]) 0),.g ZR j ke] ⟨oW,o_l e0,oR,oW,o_l (Aa1 rfl AaC),o_l (Aa3 rfl rfl),oR,o_a hcl,o_a hR,bK,oW,nK,oW,o_g hgj (by intro h;cases h),tI⟩ (gg [.t (T.sl 0 (qz ZR j (T.ip 7 (qe [ti A1,T.sl 9 (zw zk A2),T.sl 15 (zw zd B),T.sl 3 (zw zo Y1),ti N1,T.sl 9 (zw zk N2),T.sl 15 (zw zd W2)]) 0))) (T.sl 0 RR)] ⟨o_l e2,tI⟩ ge)
end Go.Eva.S8
namespace Go.Eva.S8
theorem Ag0 (KS SS:List T):Is cx (.call 78 [.map 0] [.map KS SS []]) ⟨.ret,[.clo 157 [.ptr 1 0 0]],[.map KS SS [],.one 1 (.map 0) zq]⟩:=by
 exact za ge
theorem Air (p:EngP) (hp:p.Fit):Is cx (.call 31 [.ptr 0 0 0] [p.ob]) ⟨.ret,[.t (.sl 1 (p.order.map ti))],[p.ob]⟩:=by
 have hg:=AnC hp;have hK:=Ag0 (p.rs.map ti) (p.subs.map jw);have e:(sortI (keyInts (p.rs.map ti))).map (xc .i64)=p.order.map ti:=by rw [AiK];rfl
 generalize p.order.map ti=OL at*;simp only [gi,yb,Eng.ob,uu];generalize p.rs.map ti=KS at*;generalize p.subs.map jw=SS at*;exact za (gg [.ff,.a _ _,.w (goodKeys KS=zg),.t (T.sl 1 (zw (xc zy) (sortI (keyInts KS)))) (T.sl 1 OL)] ⟨o_a hK,oA,o_l e,tI⟩ ge)
theorem Aes (L:List Int) (hL:L.length≤16) (f:Int) (hf:0≤f∧f≤10000): ∀(d i:Nat) (p:EngP) (n:Int),i+d=L.length→0≤n∧n≤1000000+i→LooksOk f p (L.drop i)→
  Is cx (.loop 17 [0,1,0,0,1,0,0,1,0,1,1,1,1] 1 [.ptr 0 0 0,vi n,.t (.sl 1 (L.map ti)),vi f,.t (.sl 1 (L.map ti)),vi L.length,vi i] [p.ob])
   ⟨.exit 2,[.ptr 0 0 0,vi (EngP.lookL f (p,n) (L.drop i)).2,.t (.sl 1 (L.map ti)),vi f,.t (.sl 1 (L.map ti)),vi L.length,vi L.length],[(EngP.lookL f (p,n) (L.drop i)).1.ob]⟩:=by
 intro d;induction d with
 |zero=>
  intro i p n hi hn hok;rw [Aad (by omega)];simp only [EngP.lookL];obtain rfl:i=L.length:=by omega
  exact za (gg [.b (decide ((↑(zj L):Int)<(↑(zj L):Int))) zq] ⟨fP,tI⟩ ge)
 |succ d ih=>
  intro i p n hi hn hok;have hlt:i<L.length:=by omega
  rw [Aaf hlt] at hok⊢;obtain ⟨⟨k,hk,hsf,hkl,hlook⟩,hok2⟩:=hok;simp only [EngP.lookL];have hgl:L[i]?=zb (gt L i):=Aa7 hlt;have hkb:=AaR p.rs;have hset:=fun (x:Sub)=>show (p.subs.map jw).set k x.shut=(p.subs.set k x).map jw from (List.map_set ..).symm;have hget:(p.subs.map jw)[k]?=zb (gt p.subs k).shut:=by rw [qb,Aa7 hkl];rfl
  have hF:=Aax (gt p.subs k).base.frame;have hk2:=hk;simp only [EngP.ix] at hk2;by_cases hb:(gt p.subs k).base.frame≤f
  ·have hl:=Amo p k (gt p.subs k) (gt L i) f (hlook hb);rw [Adx hkl] at hl;have e1:p.look1 f (gt L i)=(p.put k ((gt p.subs k).look f (p.made (gt L i) (gt p.subs k) f).1 (p.made (gt L i) (gt p.subs k) f).2).1,((gt p.subs k).look f (p.made (gt L i) (gt p.subs k) f).1 (p.made (gt L i) (gt p.subs k) f).2).2):=by
    simp only [EngP.look1,hk,if_pos hb]
   rw [e1] at hok2⊢;have hz:0≤((gt p.subs k).look f (p.made (gt L i) (gt p.subs k) f).1 (p.made (gt L i) (gt p.subs k) f).2).2∧((gt p.subs k).look f (p.made (gt L i) (gt p.subs k) f).1 (p.made (gt L i) (gt p.subs k) f).2).2≤1:=by
    unfold Sub.look;split<;>(try split)<;>simp
   generalize (gt p.subs k).look f (p.made (gt L i) (gt p.subs k) f).1 (p.made (gt L i) (gt p.subs k) f).2=z at*;obtain ⟨s',m⟩:=z;simp only at hz hok2 hl⊢;have ih1:=ih (i+1) (p.put k s') (n+m) (by omega) (by omega) hok2;have hs1:=hset s';generalize EngP.lookL f (p.put k s',n+m) (L.drop (i+1))=Z at*;obtain ⟨Z1,Z2⟩:=Z;clear ih hok2 hlook hset e1 hk;simp only [pb,gi,yb,Eng.ob,uu] at ih1⊢;generalize (p.subs.set k s').map jw=SS' at*;generalize gt p.subs k=s at*;simp only [focB,yb] at hl;generalize p.rs.map ti=KS at*;generalize p.subs.map jw=SS at*;simp only [jw] at hs1;simp only [jw,dh] at hget;have hs2:=hs1;simp only [dh] at hs2;exact za (gg [.b (decide ((i:Int)<(↑(zj L):Int))) zg,.w (0≤(i:Int)),.n (zm (i:Int)) i,.g (zw ti L) i (ti (gt L i)),.f zy (gt L i) KS (zb k),.g SS k (dw 10 (qe [ti s.base.frame,T.sl 9 (zw zk s.base.ents),T.sl 15 [],yj 1 (zw jg s.recs),yj 1 (zw zi s.sure),zi s.settled,ti s.now,inbT s.inb,ti s.mark,ti s.ready])),.s (T.ip 10 (qe [ti s.base.frame,T.sl 9 (zw zk s.base.ents),T.sl 15 [],T.sl 1 (zw jg s.recs),T.sl 1 (zw zi s.sure),zi s.settled,ti s.now,jz (inbT s.inb),ti s.mark,ti s.ready]) 0),.a _ _,.b (decide (f≥s.base.frame)) zg,.a _ _,.i zy (n+m) (n+m),.i zy ((i:Int)+1) (↑(i+1):Int),.t (T.sl 0 (qz SS k (dw 10 (dh s')))) (T.sl 0 SS'),.a _ _] ⟨tP,oW,nK,o_gm rfl hgl (by intro h;cases h),oQ hk2,o_g hget (by intro h;cases h),o_a (hF (T.sl 9 (zw zk s.base.ents)) (T.sl 15 []) (T.sl 1 (zw jg s.recs)) (T.sl 1 (zw zi s.sure)) (zi s.settled) (ti s.now) (jz (inbT s.inb)) (ti s.mark) (ti s.ready)),tA,o_a hl,oI,oI,o_l hs1,o_a ih1,tI⟩ ge)
  ·have e1:p.look1 f (gt L i)=(p,0):=by simp only [EngP.look1,hk,if_neg hb]
   rw [e1] at hok2⊢;have ih1:=ih (i+1) p (n+0) (by omega) (by omega) hok2;have hs1:=hset (gt p.subs k);have e2:p.subs.set k (gt p.subs k)=p.subs:=by have:=Adx hkl;simpa [pb] using congrArg EngP.subs this
   rw [e2] at hs1;simp only at ih1⊢;generalize EngP.lookL f (p,n+0) (L.drop (i+1))=Z at*;obtain ⟨Z1,Z2⟩:=Z;clear ih hok2 hlook hset e1 hk e2;simp only [gi,yb,Eng.ob,uu] at ih1⊢;generalize gt p.subs k=s at*;generalize p.rs.map ti=KS at*;generalize p.subs.map jw=SS at*;simp only [jw] at hs1;simp only [jw,dh] at hget;have hs2:=hs1;simp only [dh] at hs2;rw [Int.add_zero] at ih1;exact za (gg [.b (decide ((i:Int)<(↑(zj L):Int))) zg,.w (0≤(i:Int)),.n (zm (i:Int)) i,.g (zw ti L) i (ti (gt L i)),.f zy (gt L i) KS (zb k),.g SS k (dw 10 (qe [ti s.base.frame,T.sl 9 (zw zk s.base.ents),T.sl 15 [],yj 1 (zw jg s.recs),yj 1 (zw zi s.sure),zi s.settled,ti s.now,inbT s.inb,ti s.mark,ti s.ready])),.s (T.ip 10 (qe [ti s.base.frame,T.sl 9 (zw zk s.base.ents),T.sl 15 [],T.sl 1 (zw jg s.recs),T.sl 1 (zw zi s.sure),zi s.settled,ti s.now,jz (inbT s.inb),ti s.mark,ti s.ready]) 0),.a _ _,.b (decide (f≥s.base.frame)) zq,.i zy ((i:Int)+1) (↑(i+1):Int),.t (T.sl 0 (qz SS k (dw 10 (qe [ti s.base.frame,T.sl 9 (zw zk s.base.ents),T.sl 15 [],yj 1 (zw jg s.recs),yj 1 (zw zi s.sure),zi s.settled,ti s.now,inbT s.inb,ti s.mark,ti s.ready])))) (T.sl 0 SS),.a _ _] ⟨tP,oW,nK,o_gm rfl hgl (by intro h;cases h),oQ hk2,o_g hget (by intro h;cases h),o_a (hF (T.sl 9 (zw zk s.base.ents)) (T.sl 15 []) (T.sl 1 (zw jg s.recs)) (T.sl 1 (zw zi s.sure)) (zi s.settled) (ti s.now) (jz (inbT s.inb)) (ti s.mark) (ti s.ready)),fA,oI,o_l hs2,o_a ih1,tI⟩ ge)
end Go.Eva.S8
namespace Go.Eva.S8
abbrev lineV (r b:Int) (x:T) (Ks:List T):Ob:= .one 4 (.t (.agg [ti r,ti b,x,.row 1 Ks])) zq
theorem Ahi (c:Config) (x0 x7 x8 x9 x10:T) (D:List T) (u1 u2:Value) (r b fr:Int) (S1 S2 S3 S4 S5 S6 S7 S8 S9 x:T) (Ls Ks RL:List T) (i19 n19 n43 i9:Int) (NL:List Int) (hN:NL.length≤9) (hD:D.length≤16) (hq: ∀q∈NL,∃j:Nat,q=j∧D[j]?=zb (.mp [] []))
  (hfr:0≤fr∧fr≤10000) (hi9:0≤i9∧i9≤10000): ∀(d j:Nat),j+d=NL.length→
  Is cx (.loop 64 [0,1,0,1,1,0,0,1,1,0,0,1,0,1,1,1,0,0,1,1,0,0,1,0,1] 0 [.also u1 (.ip 11 (eA c x0 (storeT D) x7 x8 x9 x10) 0),.also u2 (.sl 1 RL),.all 0 zx,vi r,.t (.ip 10 (sA fr S1 S2 S3 S4 S5 S6 S7 S8 S9) 0),.ptr 1 0 0,vi i9,.all 2 zx,.t (.sl 1 RL),vi n19,vi i19,vi n43,vi i9,.t (.sl 1 (NL.map ti)),vi NL.length,vi j]
    [.arr 4 Ls zx zq,lineV r b x Ks,.arr 1 ((unknown j).map zi) zx zq])
   ⟨.exit 4,[.also u1 (.ip 11 (eA c x0 (storeT D) x7 x8 x9 x10) 0),.also u2 (.sl 1 RL),.all 0 zx,vi r,.t (.ip 10 (sA fr S1 S2 S3 S4 S5 S6 S7 S8 S9) 0),.ptr 1 0 0,vi i9,.all 2 zx,.t (.sl 1 RL),vi n19,vi i19,vi n43,vi i9,.t (.sl 1 (NL.map ti)),vi NL.length,vi NL.length],
    [.arr 4 Ls zx zq,lineV r b x Ks,.arr 1 ((unknown NL.length).map zi) zx zq]⟩:=by
 intro d;induction d with
 |zero=>
  intro j hj;obtain rfl:j=NL.length:=by omega
  clear hq;exact za (gg [.b (decide ((↑(zj NL):Int)<(↑(zj NL):Int))) zq] ⟨fP,tI⟩ ge)
 |succ d ih=>
  intro j hj;have hlt:j<NL.length:=by omega
  obtain ⟨q,hq1,hq2⟩:=hq _ (Aat hlt);have hgl:NL[j]?=zb (q:Int):=by rw [←hq1];exact Aa7 hlt
  have ih1:=ih (j+1) (by omega);have e:unknown j++ [zq]=unknown (j+1):=AlE;rw [←e] at ih1;have hl:(unknown j).length≤9:=by simp [unknown];omega
  have hF:=Aax fr S1 S2 S3 S4 S5 S6 S7 S8 S9;have hK:=Aep D q (fr+i9-1) hq2 hD;clear ih hq hq1 hq2;generalize unknown NL.length=R2 at*;generalize unknown j=R0 at*;clear e;exact za (gg [.b (decide ((j:Int)<(↑(zj NL):Int))) zg,.w (0≤(j:Int)),.n (zm (j:Int)) j,.g (zw ti NL) j (ti (q:Int)),.a _ _,.i zy (fr+i9) (fr+i9),.i zy (fr+i9-1) (fr+i9-1),.a _ _,.w ((0:Nat)<(1:Nat)),.t (T.sl 0 [zi zq]) (T.sl 0 (zw zi [zq])),.t (T.sl 0 (zw zi R0++zw zi [zq])) (T.sl 0 (zw zi (R0++ [zq]))),.w (room (zj (zw zi (R0++ [zq]))) (1:Nat)),.i zy ((j:Int)+1) (↑(j+1):Int),.a _ _] ⟨tP,oW,nK,o_gm rfl hgl (by intro h;cases h),o_a hF,oI,oI,o_a hK,oW,o_l (Aa1 rfl AaC),o_l (Aa3 rfl rfl),oR,oI,o_a ih1,tI⟩ ge)
abbrev rowsU (i n:Nat):List T:=(zn i (unknown n)).map bools
theorem AmA {i n:Nat}:rowsU i n++ [.sl 1 ((unknown n).map zi)]=rowsU (i+1) n:=by
 rw [rowsU,rowsU,←AlE,vj];rfl
theorem Ahm (c:Config) (x0 x7 x8 x9 x10:T) (D:List T) (u1 u2:Value) (r b fr:Int) (S1 S3 S4 S5 S6 S7 S8 S9 x:T) (st:List T) (Ls RL:List T) (i19 n19:Int) (hD:D.length≤16) (hq: ∀q∈c.near r,∃j:Nat,q=j∧D[j]?=zb (.mp [] []))
  (hfr:0≤fr∧fr≤10000) (n43:Nat) (hn:n43≤10000): ∀(d i:Nat),i+d=n43→
  Is cx (.loop 64 [0,1,0,1,1,1,0,0,1,1,0,0,1,0,1] 0 [.also u1 (.ip 11 (eA c x0 (storeT D) x7 x8 x9 x10) 0),.also u2 (.sl 1 RL),.all 0 zx,vi r,.t (.ip 10 (sA fr S1 (.sl 15 []) (.sl 1 st) S4 S5 S6 S7 S8 S9) 0),.ptr 1 0 0,.t (.sl 1 RL),vi n19,vi i19,vi n43,vi i]
    [.arr 4 Ls zx zq,lineV r b x (rowsU i (c.near r).length)])
   ⟨.exit 2,[.also u1 (.ip 11 (eA c x0 (storeT D) x7 x8 x9 x10) 0),.also u2 (.sl 1 RL),.all 0 zx,vi r,.t (.ip 10 (sA fr S1 (.sl 15 []) (.sl 1 st) S4 S5 S6 S7 S8 S9) 0),.ptr 1 0 0,.t (.sl 1 RL),vi n19,vi i19,vi n43,vi n43],
    [.arr 4 Ls zx zq,lineV r b x (rowsU n43 (c.near r).length)]⟩:=by
 intro d;induction d with
 |zero=>
  intro i hi;obtain rfl:i=n43:=by omega
  clear hq;exact za (gg [.b (decide ((i:Int)<(i:Int))) zq] ⟨fP,tI⟩ ge)
 |succ d ih=>
  intro i hi;have hlt:i<n43:=by omega
  have ih1:=ih (i+1) (by omega);have e:=AmA (i:=i) (n:=(c.near r).length);have hB:=Ahi c x0 x7 x8 x9 x10 D u1 u2 r b fr S1 (.sl 15 []) (.sl 1 st) S4 S5 S6 S7 S8 S9 x Ls (rowsU i (c.near r).length) RL i19 n19 n43 i (c.near r) AaI hD hq hfr (by omega) (c.near r).length 0 (by omega);have hN:=AaS c r;have hrl:(rowsU i (c.near r).length).length≤10000:=by simp;omega
  have hrl1:(rowsU (i+1) (c.near r).length).length≤10001:=by simp;omega
  clear ih hq;generalize rowsU (i+1) (c.near r).length=R1 at*;generalize rowsU n43 (c.near r).length=R2 at*;generalize rowsU i (c.near r).length=R0 at*;generalize c.near r=NL at*;simp only [unknown,List.replicate_zero,List.map_nil] at hB;rw [show zn NL.length zq=unknown NL.length from rfl] at hB;generalize unknown NL.length=UN at*;exact za (gg [.b (decide ((i:Int)<(n43:Int))) zg,.a _ _,.n (zj (zw ti NL)) (zj NL),.a _ _,.s (T.sl 1 (zw zi UN)),.w ((0:Nat)<(24:Nat)),.s (T.sl 0 [T.sl 1 (zw zi UN)]),.t (T.sl 0 (R0++ [T.sl 1 (zw zi UN)])) (T.sl 0 R1),.w (room (zj R1) (24:Nat)),.i zy ((i:Int)+1) (↑(i+1):Int),.a _ _] ⟨tP,o_a hN,oM,o_a hB,oW,o_l e,oR,oI,o_a ih1,tI⟩ ge)
theorem Amz {p:EngP} {L:List Int} {i:Nat} (h:i<L.length):p.lines (L.take (i+1))=p.lines (L.take i)++ [(p.subAt (gt L i)).line p.c (gt L i)]:=by
 have e:L.take (i+1)=L.take i++ [gt L i]:=by rw [List.take_add_one,Aa7 h];rfl
 rw [e,EngP.lines,EngP.lines,vj];rfl
theorem Ahj (p:EngP) (hp:p.Fit) (x0 x8 x9 x10:T) (u1 u2:Value) (L:List Int) (hL:L.length≤16) (hin: ∀r∈L,∃k,p.ix r=zb k): ∀(d i:Nat),i+d=L.length→
  Is cx (.loop 64 [0,1,0,1] 0 [.also u1 (.ip 11 (eA p.c x0 (storeT (deeps (noneT p.c))) (.mp (p.rs.map ti) (deeps (p.subs.map jw))) x8 x9 x10) 0),.also u2 (.sl 1 (L.map ti)),.all 0 zx,.t (.sl 1 (L.map ti)),vi L.length,vi i] [.arr 4 ((p.lines (L.take i)).map LineL.enc) zx zq])
   ⟨.exit 0,[.also u1 (.ip 11 (eA p.c x0 (storeT (deeps (noneT p.c))) (.mp (p.rs.map ti) (deeps (p.subs.map jw))) x8 x9 x10) 0),.also u2 (.sl 1 (L.map ti)),.all 0 zx,.t (.sl 1 (L.map ti)),vi L.length,vi L.length],[.arr 4 ((p.lines L).map LineL.enc) zx zq]⟩:=by
 intro d;induction d with
 |zero=>
  intro i hi;obtain rfl:i=L.length:=by omega
  rw [List.take_length];clear hin;generalize p.rs.map ti=KS at*;generalize p.subs.map jw=SS at*;generalize p.lines L=LL at*;exact za (gg [.b (decide ((↑(zj L):Int)<(↑(zj L):Int))) zq] ⟨fP,tI⟩ ge)
 |succ d ih=>
  intro i hi;have hlt:i<L.length:=by omega
  have hgl:L[i]?=zb (gt L i):=Aa7 hlt;obtain ⟨k,hk⟩:=hin _ (Aat hlt);have hkl:k<p.subs.length:=by have:=(AdV hk).1;have:=hp.len;omega
  have hget:=AlJ hkl;have hkb:=AaR p.rs;have hsa:p.subAt (gt L i)=gt p.subs k:=by simp only [EngP.subAt,hk]
  have ih1:=ih (i+1) (by omega);rw [Amz hlt,hsa,vj] at ih1;have hsf:=hp.subs k hkl;have hll:((p.lines (L.take i)).map LineL.enc).length≤16:=by simp [EngP.lines];omega
  have hln:((p.lines (L.take i)).map LineL.enc++zw LineL.enc [(gt p.subs k).line p.c (gt L i)]).length≤17:=by simp [EngP.lines];omega
  have hqq: ∀q∈p.c.near (gt L i),∃j:Nat,q=j∧(deeps (noneT p.c))[j]?=zb (.mp [] []):=by
   intro q hq;have hi0:0≤q∧q<p.c.regions:=by
    have:p.c.is (gt L i)=zg:=by
     obtain ⟨h1,h2⟩:=AdV hk;have:=hp.rs _ (h2 ▸ Aat h1);rw [Config.is_iff hp.right];simp [Config.regions,hp.right] at this;omega
    exact Ak2 this hq
   exact ⟨q.toNat,by omega,Add (by omega)⟩
  have hS:=Ahm p.c x0 (.mp (p.rs.map ti) (deeps (p.subs.map jw))) x8 x9 x10 (deeps (noneT p.c)) u1 u2 (gt L i) (gt p.subs k).base.frame (gt p.subs k).base.frame (.sl 9 ((gt p.subs k).base.ents.map zk)) .any (.sl 1 ((gt p.subs k).sure.map zi)) (.bool (gt p.subs k).settled) (ti (gt p.subs k).now) (inbT (gt p.subs k).inb).deep (ti (gt p.subs k).mark) (ti (gt p.subs k).ready) (.sl 1 ((gt p.subs k).sure.map zi)) ((gt p.subs k).recs.map jg) ((p.lines (L.take i)).map LineL.enc) (L.map ti) i L.length Ade hqq hsf.base (gt p.subs k).recs.length hsf.recs (gt p.subs k).recs.length 0 (by omega);have hF:=Aax (gt p.subs k).base.frame;have el:((p.lines (L.take i)).map LineL.enc)++ [.agg [ti (gt L i),ti (gt p.subs k).base.frame,.sl 1 ((gt p.subs k).sure.map zi),.sl 1 (rowsU (gt p.subs k).recs.length (p.c.near (gt L i)).length)]]=(p.lines (L.take i)).map LineL.enc++zw LineL.enc [(gt p.subs k).line p.c (gt L i)]:=rfl;have hk2:=hk;simp only [EngP.ix] at hk2;clear ih hin hqq hsa hk;generalize (p.lines (L.take i)).map LineL.enc++zw LineL.enc [(gt p.subs k).line p.c (gt L i)]=LN at*;generalize (p.lines (L.take i)).map LineL.enc=LO at*;generalize rowsU (gt p.subs k).recs.length (p.c.near (gt L i)).length=RW at*;simp only [Sub.flat] at hget;generalize p.lines L=LL at*;generalize noneT p.c=DD at*;generalize gt p.subs k=s at*;generalize p.rs.map ti=KS at*;generalize p.subs.map jw=SS at*;refine za (gg [.b (decide ((i:Int)<(↑(zj L):Int))) zg,.w (0≤(i:Int)),.n (zm (i:Int)) i,.g (zw ti L) i (ti (gt L i)),.f zy (gt L i) KS (zb k),.g (deeps SS) k (T.ip 10 (qe [ti s.base.frame,T.sl 9 (zw zk s.base.ents),T.sl 15 [],T.sl 1 (zw jg s.recs),T.sl 1 (zw zi s.sure),zi s.settled,ti s.now,jz (inbT s.inb),ti s.mark,ti s.ready]) 0)] ⟨tP,oW,nK,o_gm rfl hgl (by intro h;cases h),oQ hk2,o_g hget (by intro h;cases h),tI⟩ (bO ?_ ?_))
  all_goals
   exact gg [.a _ _,.n (zj (zw jg s.recs)) (zj s.recs),.a _ _,.s (qe [ti (gt L i),ti s.base.frame,T.sl 1 (zw zi s.sure),T.sl 1 RW]),.w ((0:Nat)<(64:Nat)),.s (T.sl 0 [qe [ti (gt L i),ti s.base.frame,T.sl 1 (zw zi s.sure),T.sl 1 RW]]),.t (T.sl 0 (LO++ [qe [ti (gt L i),ti s.base.frame,T.sl 1 (zw zi s.sure),T.sl 1 RW]])) (T.sl 0 LN),.w (room (zj LN) (64:Nat)),.i zy ((i:Int)+1) (↑(i+1):Int),.a _ _] ⟨o_a (hF (T.sl 9 (zw zk s.base.ents)) (T.sl 15 []) (T.sl 1 (zw jg s.recs)) (T.sl 1 (zw zi s.sure)) (zi s.settled) (ti s.now) (jz (inbT s.inb)) (ti s.mark) (ti s.ready)),oM,o_a hS,oW,o_l el,oR,oI,o_a ih1,tI⟩ ge
end Go.Eva.S8
namespace Go.Eva.S8
theorem Agp (c:Config) (x0 x8 x9 x10:T) (D XS:List T) (rs:List Int) (subs:List Sub) (f:Int) (NL:List Int) (hN:NL.length≤9) (hD:D.length≤16) (hq: ∀q∈NL,∃j:Nat,q=j∧D[j]?=zb (.mp [] [])) (hl:subs.length=rs.length)
  (hX: ∀i,i<subs.length→XS[i]?=zb (.ip 10 (gt subs i).flat 0)) (hf: -100≤f∧f≤20000): ∀(d i:Nat),i+d=NL.length→ ∃k:Nat,
  Is cx (.loop 123 [0,1,0,1] 0 [.t (.ip 11 (eA c x0 (storeT D) (.mp (rs.map ti) XS) x8 x9 x10) 0),vi f,vb zq,.t (.sl 1 (NL.map ti)),vi NL.length,vi i] [])
   (match sureL subs rs f (NL.drop i) with
    |true=>⟨.exit 0,[.t (.ip 11 (eA c x0 (storeT D) (.mp (rs.map ti) XS) x8 x9 x10) 0),vi f,vb zq,.t (.sl 1 (NL.map ti)),vi NL.length,vi NL.length],[]⟩
    |false=>⟨.ret,[.t (.ip 11 (eA c x0 (storeT D) (.mp (rs.map ti) XS) x8 x9 x10) 0),vi f,vb zq,.t (.sl 1 (NL.map ti)),vi NL.length,vi k],[]⟩):=by
 intro d;induction d with
 |zero=>
  intro i hi;refine ⟨0,?_⟩;rw [Aad (by omega)];obtain rfl:i=NL.length:=by omega
  clear hq hX;simp only [sureL];exact za (gg [.b (decide ((↑(zj NL):Int)<(↑(zj NL):Int))) zq] ⟨fP,tI⟩ ge)
 |succ d ih=>
  intro i hi;have hlt:i<NL.length:=by omega
  obtain ⟨q,hq1,hq2⟩:=hq _ (Aat hlt);have hgl:NL[i]?=zb (q:Int):=by rw [←hq1];exact Aa7 hlt
  obtain ⟨k0,ih1⟩:=ih (i+1) (by omega);have hK:=Aep D q (f-1) hq2 hD;have hkb:=AaR rs;rw [Aaf hlt,hq1];simp only [sureL];clear ih hq;cases hx:findIx .i64 (q:Int) (rs.map ti) with
  |none=>
   refine ⟨i,?_⟩;clear ih1 hX;rw [uf];simp only;generalize rs.map ti=KS at*;exact za (gg [.b (decide ((i:Int)<(↑(zj NL):Int))) zg,.w (0≤(i:Int)),.n (zm (i:Int)) i,.g (zw ti NL) i (ti (q:Int)),.f zy (q:Int) KS zx,.i zy (f-1) (f-1),.a _ _,.b (!Bool.false) zg,.tt,.tt,.tt,.tt,.tt,.tt,.tt,.tt] ⟨tP,oW,nK,o_gm rfl hgl (by intro h;cases h),oQ hx,oI,o_a hK,bK,tI⟩ (gg [.tt,.tt,.tt,.tt,.tt,.tt,.tt,.tt,.tt,.tt,.tt,.tt] tI ge))
  |some j=>
   dsimp only;have hj:j<subs.length:=by have:=(AdV hx).1;omega
   have hXj:=hX j hj;clear hX;have hF:=Aax (gt subs j).base.frame;generalize gt subs j=s at*;simp only [Sub.flat] at hXj;by_cases h1:s.base.frame≤f-1
   ·by_cases h2:f≤s.mark
    ·refine ⟨k0,?_⟩;rw [decide_eq_true h1,decide_eq_true h2,u4,u4];generalize rs.map ti=KS at*;cases hs:sureL subs rs f (NL.drop (i+1)) with
     |true=>
      rw [hs] at ih1;simp only at ih1⊢;exact za (gg [.b (decide ((i:Int)<(↑(zj NL):Int))) zg,.w (0≤(i:Int)),.n (zm (i:Int)) i,.g (zw ti NL) i (ti (q:Int)),.f zy (q:Int) KS (zb j),.g XS j (T.ip 10 (qe [ti s.base.frame,T.sl 9 (zw zk s.base.ents),T.sl 15 [],T.sl 1 (zw jg s.recs),T.sl 1 (zw zi s.sure),zi s.settled,ti s.now,jz (inbT s.inb),ti s.mark,ti s.ready]) 0),.i zy (f-1) (f-1),.a _ _,.b (!Bool.false) zg,.tt,.tt,.ff,.ff,.a _ _,.ff,.ff] ⟨tP,oW,nK,o_gm rfl hgl (by intro h;cases h),oQ hx,o_g hXj (by intro h;cases h),oI,o_a hK,bK,o_a (hF (T.sl 9 (zw zk s.base.ents)) (T.sl 15 []) (T.sl 1 (zw jg s.recs)) (T.sl 1 (zw zi s.sure)) (zi s.settled) (ti s.now) (jz (inbT s.inb)) (ti s.mark) (ti s.ready)),tI⟩ (gg [.i zy (f-1) (f-1),.ff,.tt,.ff,.tt,.b (decide (s.base.frame>f-1)) zq,.ff,.ff,.ff,.ff,.ff,.tt,.ff,.tt,.b (decide (s.mark<f)) zq,.i zy ((i:Int)+1) (↑(i+1):Int)] ⟨oI,fP,fP,oI,tI⟩ (gg [.a _ _] ⟨o_a ih1,tI⟩ ge)))
     |false=>
      rw [hs] at ih1;simp only at ih1⊢;exact za (gg [.b (decide ((i:Int)<(↑(zj NL):Int))) zg,.w (0≤(i:Int)),.n (zm (i:Int)) i,.g (zw ti NL) i (ti (q:Int)),.f zy (q:Int) KS (zb j),.g XS j (T.ip 10 (qe [ti s.base.frame,T.sl 9 (zw zk s.base.ents),T.sl 15 [],T.sl 1 (zw jg s.recs),T.sl 1 (zw zi s.sure),zi s.settled,ti s.now,jz (inbT s.inb),ti s.mark,ti s.ready]) 0),.i zy (f-1) (f-1),.a _ _,.b (!Bool.false) zg,.tt,.tt,.ff,.ff,.a _ _,.ff,.ff] ⟨tP,oW,nK,o_gm rfl hgl (by intro h;cases h),oQ hx,o_g hXj (by intro h;cases h),oI,o_a hK,bK,o_a (hF (T.sl 9 (zw zk s.base.ents)) (T.sl 15 []) (T.sl 1 (zw jg s.recs)) (T.sl 1 (zw zi s.sure)) (zi s.settled) (ti s.now) (jz (inbT s.inb)) (ti s.mark) (ti s.ready)),tI⟩ (gg [.i zy (f-1) (f-1),.ff,.tt,.ff,.tt,.b (decide (s.base.frame>f-1)) zq,.ff,.ff,.ff,.ff,.ff,.tt,.ff,.tt,.b (decide (s.mark<f)) zq,.i zy ((i:Int)+1) (↑(i+1):Int)] ⟨oI,fP,fP,oI,tI⟩ (gg [.a _ _] ⟨o_a ih1,tI⟩ ge)))
    ·refine ⟨i,?_⟩;clear ih1;rw [decide_eq_false h2,Bool.and_false,uf];simp only;generalize rs.map ti=KS at*;exact za (gg [.b (decide ((i:Int)<(↑(zj NL):Int))) zg,.w (0≤(i:Int)),.n (zm (i:Int)) i,.g (zw ti NL) i (ti (q:Int)),.f zy (q:Int) KS (zb j),.g XS j (T.ip 10 (qe [ti s.base.frame,T.sl 9 (zw zk s.base.ents),T.sl 15 [],T.sl 1 (zw jg s.recs),T.sl 1 (zw zi s.sure),zi s.settled,ti s.now,jz (inbT s.inb),ti s.mark,ti s.ready]) 0),.i zy (f-1) (f-1),.a _ _,.b (!Bool.false) zg,.tt,.tt,.ff,.ff,.a _ _,.ff,.ff] ⟨tP,oW,nK,o_gm rfl hgl (by intro h;cases h),oQ hx,o_g hXj (by intro h;cases h),oI,o_a hK,bK,o_a (hF (T.sl 9 (zw zk s.base.ents)) (T.sl 15 []) (T.sl 1 (zw jg s.recs)) (T.sl 1 (zw zi s.sure)) (zi s.settled) (ti s.now) (jz (inbT s.inb)) (ti s.mark) (ti s.ready)),tI⟩ (gg [.i zy (f-1) (f-1),.ff,.tt,.ff,.tt,.b (decide (s.base.frame>f-1)) zq,.ff,.ff,.ff,.ff,.ff,.tt,.ff,.tt,.b (decide (s.mark<f)) zg] ⟨oI,fP,tP,tI⟩ ge))
   ·refine ⟨i,?_⟩;clear ih1;rw [decide_eq_false h1,uf,uf];simp only;generalize rs.map ti=KS at*;exact za (gg [.b (decide ((i:Int)<(↑(zj NL):Int))) zg,.w (0≤(i:Int)),.n (zm (i:Int)) i,.g (zw ti NL) i (ti (q:Int)),.f zy (q:Int) KS (zb j),.g XS j (T.ip 10 (qe [ti s.base.frame,T.sl 9 (zw zk s.base.ents),T.sl 15 [],T.sl 1 (zw jg s.recs),T.sl 1 (zw zi s.sure),zi s.settled,ti s.now,jz (inbT s.inb),ti s.mark,ti s.ready]) 0),.i zy (f-1) (f-1),.a _ _,.b (!Bool.false) zg,.tt,.tt,.ff,.ff,.a _ _,.ff,.ff] ⟨tP,oW,nK,o_gm rfl hgl (by intro h;cases h),oQ hx,o_g hXj (by intro h;cases h),oI,o_a hK,bK,o_a (hF (T.sl 9 (zw zk s.base.ents)) (T.sl 15 []) (T.sl 1 (zw jg s.recs)) (T.sl 1 (zw zi s.sure)) (zi s.settled) (ti s.now) (jz (inbT s.inb)) (ti s.mark) (ti s.ready)),tI⟩ (gg [.i zy (f-1) (f-1),.ff,.tt,.ff,.tt,.b (decide (s.base.frame>f-1)) zg,.tt,.tt,.tt,.tt,.tt,.tt,.tt,.tt,.tt] ⟨oI,tP,tI⟩ ge))
theorem Amp (c:Config) (x0 x8 x9 x10:T) (D XS:List T) (rs:List Int) (subs:List Sub) (r f:Int) (hD:D.length≤16) (hq: ∀q∈c.near r,∃j:Nat,q=j∧D[j]?=zb (.mp [] [])) (hl:subs.length=rs.length)
  (hX: ∀i,i<subs.length→XS[i]?=zb (.ip 10 (gt subs i).flat 0)) (hf: -100≤f∧f≤20000):
  Fn cx 123 [.ip 11 (eA c x0 (storeT D) (.mp (rs.map ti) XS) x8 x9 x10) 0,ti r,ti f] (.bool (sureL subs rs f (c.near r))):=by
 obtain ⟨k,hL⟩:=Agp c x0 x8 x9 x10 D XS rs subs f (c.near r) AaI hD hq hl hX hf (c.near r).length 0 (by omega);rw [qr] at hL;have hN:=AaS c r;have hns:= @AaI c r;clear hq hX;generalize rs.map ti=KS at*;cases hs:sureL subs rs f (c.near r) with
 |true=>
  rw [hs] at hL;simp only at hL;generalize c.near r=NL at*;exact za (gg [.a _ _,.n (zj (zw ti NL)) (zj NL),.a _ _] ⟨o_a hN,oM,o_a hL,tI⟩ ge)
 |false=>
  rw [hs] at hL;simp only at hL;generalize c.near r=NL at*;exact za (gg [.a _ _,.n (zj (zw ti NL)) (zj NL),.a _ _] ⟨o_a hN,oM,o_a hL,tI⟩ ge)
end Go.Eva.S8
namespace Go.Eva.S8
theorem Ahk (L M:List Int) (hL:L.length≤16) (hM:M.length=L.length) (now:Int) (hnow:0≤now∧now≤10000): ∀(d i:Nat) (p:EngP),i+d=L.length→p.now=now→MarksOk p (L.drop i) (M.drop i)→
  Is cx (.loop 64 [0,1,0,1,1] 1 [.ptr 0 0 0,.t (.sl 1 (L.map ti)),.all 1 zx,vi L.length,vi i] [p.ob,.arr 1 (M.map ti) zx zq])
   ⟨.exit 6,[.ptr 0 0 0,.t (.sl 1 (L.map ti)),.all 1 zx,vi L.length,vi L.length],[(p.markL (L.drop i) (M.drop i)).ob,.arr 1 (M.map ti) zx zq]⟩:=by
 intro d;induction d with
 |zero=>
  intro i p hi hpn hok;obtain rfl:i=L.length:=by omega
  rw [Aad (qn _),Aad (by omega)];simp only [EngP.markL];exact za (gg [.b (decide ((↑(zj L):Int)<(↑(zj L):Int))) zq] ⟨fP,tI⟩ ge)
 |succ d ih=>
  intro i p hi hpn hok;have hlt:i<L.length:=by omega
  have hltm:i<M.length:=by omega
  rw [Aaf hlt,Aaf hltm] at hok⊢;simp only [MarksOk,EngP.markL] at hok⊢;obtain ⟨⟨hp,his,k,hk,hco⟩,hok2⟩:=hok;have hkl:k<p.subs.length:=by have:=(AdV hk).1;have:=hp.len;omega
  have hgl:L[i]?=zb (gt L i):=Aa7 hlt;have hgm:M[i]?=zb (gt M i):=Aa7 hltm;have hkb:=AaR p.rs;have hget:(p.subs.map jw)[k]?=zb (gt p.subs k).shut:=by rw [qb,Aa7 hkl];rfl
  have hsf:=hp.subs k hkl;have hF:=Aax (gt p.subs k).base.frame;have hset:=fun (x:Sub)=>show (p.subs.map jw).set k x.shut=(p.subs.set k x).map jw from (List.map_set ..).symm;have hk2:=hk;simp only [EngP.ix] at hk2;have hn1:(p.mark1 (gt L i) (gt M i)).now=now:=by
   rw [←hpn];simp only [EngP.mark1,hk,pb]
  have ih1:=ih (i+1) (p.mark1 (gt L i) (gt M i)) (by omega) hn1 hok2;obtain ⟨t,ht⟩: ∃t,(gt p.subs k).told p.now (gt M i)=t:=⟨_,rfl⟩
  have htf:t.Fit:=by rw [←ht];exact ⟨hsf.base,hsf.recs,hsf.sure⟩
  have hte:t.enc= .agg [ti (gt p.subs k).base.frame,.sl 9 ((gt p.subs k).base.ents.map zk),.sl 15 [],.row 1 ((gt p.subs k).recs.map jg),.row 1 ((gt p.subs k).sure.map zi),.bool zg,ti p.now,.sl 15 [],ti (gt M i),ti (gt p.subs k).ready]:=by rw [←ht];rfl
  have htb:t.base=(gt p.subs k).base:=by rw [←ht];rfl
  by_cases hb:(gt p.subs k).base.frame≤p.now
  ·have e1:p.mark1 (gt L i) (gt M i)=p.put k {t with inb:=zb ((p.put k t).come (gt L i) t p.now)}:=by
    simp only [EngP.mark1,hk,ht,htb];rw [if_pos hb]
   have hco2:=hco (by rw [ht,htb];exact hb);rw [ht] at hco2;have hC:=Af0 p k t (gt L i) p.now hp hkl htf (by omega) hco2.out his;have hcl:=Aas ((p.put k t).come (gt L i) t p.now) (by have:=hco2.inb;unfold small;omega);have hs1:=hset {t with inb:=zb ((p.put k t).come (gt L i) t p.now)};rw [e1] at ih1⊢;generalize EngP.markL (p.put k {t with inb:=zb ((p.put k t).come (gt L i) t p.now)}) (L.drop (i+1)) (M.drop (i+1))=Z at*;have ee:dh {t with inb:=zb ((p.put k t).come (gt L i) t p.now)}= .agg [ti (gt p.subs k).base.frame,.sl 9 ((gt p.subs k).base.ents.map zk),.sl 15 [],.row 1 ((gt p.subs k).recs.map jg),.row 1 ((gt p.subs k).sure.map zi),.bool zg,ti p.now,.row 15 (((p.put k t).come (gt L i) t p.now).map zd),ti (gt M i),ti (gt p.subs k).ready]:=by rw [←ht];rfl
   simp only [jw,ee] at hs1;clear ih hok2 hset e1 hk hco hco2 ht htb ee hn1;generalize (p.put k t).come (gt L i) t p.now=B at*;simp only [pb,gi,yb,Eng.ob,uu] at ih1⊢;generalize (p.subs.set k {t with inb:=zb B}).map jw=SS' at*;simp only [focB,yb,hte,xr,jj] at hC;clear hte;generalize gt p.subs k=s at*;generalize p.rs.map ti=KS at*;generalize p.subs.map jw=SS at*;simp only [jw,dh] at hget;exact za (gg [.b (decide ((i:Int)<(↑(zj L):Int))) zg,.w (0≤(i:Int)),.n (zm (i:Int)) i,.w (i<zj (zw ti M)),.g (zw ti M) i (ti (gt M i)),.w (0≤(i:Int)),.n (zm (i:Int)) i,.g (zw ti L) i (ti (gt L i)),.f zy (gt L i) KS (zb k),.g SS k (dw 10 (qe [ti s.base.frame,T.sl 9 (zw zk s.base.ents),T.sl 15 [],yj 1 (zw jg s.recs),yj 1 (zw zi s.sure),zi s.settled,ti s.now,inbT s.inb,ti s.mark,ti s.ready])),.s (T.ip 10 (qe [ti s.base.frame,T.sl 9 (zw zk s.base.ents),T.sl 15 [],T.sl 1 (zw jg s.recs),T.sl 1 (zw zi s.sure),zi zg,ti p.now,T.sl 15 [],ti (gt M i),ti s.ready]) 0),.a _ _,.b (decide (p.now≥s.base.frame)) zg,.w (0≤(i:Int)),.n (zm (i:Int)) i,.g (zw ti L) i (ti (gt L i))] ⟨tP,oW,nK,oS,o_gm rfl hgm (by intro h;cases h),oW,nK,o_gm rfl hgl (by intro h;cases h),oQ hk2,o_g hget (by intro h;cases h),o_a (hF (T.sl 9 (zw zk s.base.ents)) (T.sl 15 []) (T.sl 1 (zw jg s.recs)) (T.sl 1 (zw zi s.sure)) (zi zg) (ti p.now) (T.sl 15 []) (ti (gt M i)) (ti s.ready)),tA,oW,nK,o_gm rfl hgl (by intro h;cases h),tI⟩ (gg [.a _ _,.a _ _,.i zy ((i:Int)+1) (↑(i+1):Int),.t (T.sl 0 (qz SS k (dw 10 (qe [ti s.base.frame,T.sl 9 (zw zk s.base.ents),T.sl 15 [],yj 1 (zw jg s.recs),yj 1 (zw zi s.sure),zi zg,ti p.now,yj 15 (zw zd B),ti (gt M i),ti s.ready])))) (T.sl 0 SS'),.a _ _] ⟨o_a hC,o_a hcl,oI,o_l hs1,o_a ih1,tI⟩ ge))
  ·have e1:p.mark1 (gt L i) (gt M i)=p.put k t:=by
    simp only [EngP.mark1,hk,ht,htb];rw [if_neg hb]
   have hs1:=hset t;rw [e1] at ih1⊢;generalize EngP.markL (p.put k t) (L.drop (i+1)) (M.drop (i+1))=Z at*;simp only [jw,hte] at hs1;clear ih hok2 hset e1 hk hco ht htb hn1 hte;simp only [pb,gi,yb,Eng.ob,uu] at ih1⊢;generalize (p.subs.set k t).map jw=SS' at*;generalize gt p.subs k=s at*;generalize p.rs.map ti=KS at*;generalize p.subs.map jw=SS at*;simp only [jw,dh] at hget;exact za (gg [.b (decide ((i:Int)<(↑(zj L):Int))) zg,.w (0≤(i:Int)),.n (zm (i:Int)) i,.w (i<zj (zw ti M)),.g (zw ti M) i (ti (gt M i)),.w (0≤(i:Int)),.n (zm (i:Int)) i,.g (zw ti L) i (ti (gt L i)),.f zy (gt L i) KS (zb k),.g SS k (dw 10 (qe [ti s.base.frame,T.sl 9 (zw zk s.base.ents),T.sl 15 [],yj 1 (zw jg s.recs),yj 1 (zw zi s.sure),zi s.settled,ti s.now,inbT s.inb,ti s.mark,ti s.ready])),.s (T.ip 10 (qe [ti s.base.frame,T.sl 9 (zw zk s.base.ents),T.sl 15 [],T.sl 1 (zw jg s.recs),T.sl 1 (zw zi s.sure),zi zg,ti p.now,T.sl 15 [],ti (gt M i),ti s.ready]) 0),.a _ _,.b (decide (p.now≥s.base.frame)) zq,.i zy ((i:Int)+1) (↑(i+1):Int),.t (T.sl 0 (qz SS k (dw 10 (qe [ti s.base.frame,T.sl 9 (zw zk s.base.ents),T.sl 15 [],yj 1 (zw jg s.recs),yj 1 (zw zi s.sure),zi zg,ti p.now,T.sl 15 [],ti (gt M i),ti s.ready])))) (T.sl 0 SS'),.a _ _] ⟨tP,oW,nK,oS,o_gm rfl hgm (by intro h;cases h),oW,nK,o_gm rfl hgl (by intro h;cases h),oQ hk2,o_g hget (by intro h;cases h),o_a (hF (T.sl 9 (zw zk s.base.ents)) (T.sl 15 []) (T.sl 1 (zw jg s.recs)) (T.sl 1 (zw zi s.sure)) (zi zg) (ti p.now) (T.sl 15 []) (ti (gt M i)) (ti s.ready)),fA,oI,o_l hs1,o_a ih1,tI⟩ ge)
theorem Ad9 (p:EngP) (hp:p.Fit) (k:Nat) (s:Sub) (hk:k<p.subs.length) (hsf:s.Fit) (hb:s.base=(gt p.subs k).base) (hm:s.mark=(gt p.subs k).mark) (r:Int) (his:p.c.is r=zg) (RL:List T) (n i:Int):
  ∀(d:Nat) (x:Int),(x-s.base.frame).toNat=d→0≤x∧x≤20000→
  Is cx (.loop 64 [0,1,1,1,0,0,1,1,0,0,1,1,1,1] 1 [.ptr 0 0 0,.t (.sl 1 RL),vi r,.ptr 1 0 0,.t (.sl 1 RL),vi n,vi i] (focB p k {s with ready:=x}))
   ⟨.exit 10,[.ptr 0 0 0,.t (.sl 1 RL),vi r,.ptr 1 0 0,.t (.sl 1 RL),vi n,vi i],focB p k {s with ready:=readyN p r s.base.frame d x}⟩:=by
 intro d;induction d with
 |zero=>
  intro x hx hx2;simp only [readyN];have hF:=Aax s.base.frame;have hle: ¬s.base.frame<x:=by omega
  simp only [focB];generalize p.rs.map ti=KS at*;generalize p.subs.map jw=SS at*;exact za (gg [.s (T.ip 10 (qe [ti s.base.frame,T.sl 9 (zw zk s.base.ents),T.sl 15 [],T.sl 1 (zw jg s.recs),T.sl 1 (zw zi s.sure),zi s.settled,ti s.now,jz (inbT s.inb),ti s.mark,ti x]) 0),.a _ _,.b (decide (x>s.base.frame)) zq,.ff,.ff,.ff,.ff,.ff,.ff,.ff,.ff,.ff] ⟨o_a (hF (T.sl 9 (zw zk s.base.ents)) (T.sl 15 []) (T.sl 1 (zw jg s.recs)) (T.sl 1 (zw zi s.sure)) (zi s.settled) (ti s.now) (jz (inbT s.inb)) (ti s.mark) (ti x)),fA,tI⟩ ge)
 |succ d ih=>
  intro x hx hx2;have hF:=Aax s.base.frame;have hlt:s.base.frame<x:=by omega
  have ih1:=ih (x-1) (by omega) (by have:=hsf.base;omega);have hqq: ∀q∈p.c.near r,∃j:Nat,q=j∧(deeps (noneT p.c))[j]?=zb (.mp [] []):=by
   intro q hq;have hi0:=Ak2 his hq;exact ⟨q.toNat,by omega,Add (by omega)⟩
  have hS:=fun x0 x8 x9 x10=>Amp p.c x0 x8 x9 x10 (deeps (noneT p.c)) ((deeps (p.subs.map jw)).set k (.ip 10 (Sub.flat {s with ready:=x}) 0)) p.rs (p.subs.set k {s with ready:=x}) r x Ade hqq (by simp [hp.len]) (fun i hi=>AoJ hi) (by omega);have hsl:sureL (p.subs.set k {s with ready:=x}) p.rs x (p.c.near r)=p.sureE r x:=AjU (s:= {s with ready:=x}) hk hb hm;rw [hsl] at hS;simp only [readyN];clear ih hqq hb hm;cases hq:p.sureE r x with
  |true=>
   rw [hq] at hS;rw [if_neg (by simp)];clear ih1;simp only [focB] at*;generalize p.rs.map ti=KS at*;generalize p.subs.map jw=SS at*;exact za (gg [.s (T.ip 10 (qe [ti s.base.frame,T.sl 9 (zw zk s.base.ents),T.sl 15 [],T.sl 1 (zw jg s.recs),T.sl 1 (zw zi s.sure),zi s.settled,ti s.now,jz (inbT s.inb),ti s.mark,ti x]) 0),.a _ _,.b (decide (x>s.base.frame)) zg,.tt,.tt,.tt,.tt,.tt,.tt,.s (T.ip 11 (qe [T.ip 1 (qe [T.sl 3 (zw wk p.cols)]) 0,ti p.c.cols,ti p.c.rows,ti p.c.players,ti p.c.window,xc zr p.c.seed,T.ip 1 (qe [T.sl 1 (deeps (noneT p.c))]) 0,T.mp KS (qz (deeps SS) k (T.ip 10 (qe [jz (ti s.base.frame),jz (T.sl 9 (zw zk s.base.ents)),jz (T.sl 15 []),jz (yj 1 (zw jg s.recs)),jz (yj 1 (zw zi s.sure)),jz (zi s.settled),jz (ti s.now),jz (inbT s.inb),jz (ti s.mark),jz (ti x)]) 0)),ti p.now,ti p.dirty,ti p.steps]) 0),.a _ _,.tt,.tt,.b (!Bool.true) zq] ⟨o_a (hF (T.sl 9 (zw zk s.base.ents)) (T.sl 15 []) (T.sl 1 (zw jg s.recs)) (T.sl 1 (zw zi s.sure)) (zi s.settled) (ti s.now) (jz (inbT s.inb)) (ti s.mark) (ti x)),tA,o_a (hS (T.ip 1 (qe [T.sl 3 (zw wk p.cols)]) 0) (ti p.now) (ti p.dirty) (ti p.steps)),bK,tI⟩ ge)
  |false=>
   rw [hq] at hS;rw [if_pos ⟨hlt,rfl⟩];generalize readyN p r s.base.frame d (x-1)=Y at*;simp only [focB] at*;generalize p.rs.map ti=KS at*;generalize p.subs.map jw=SS at*;exact za (gg [.s (T.ip 10 (qe [ti s.base.frame,T.sl 9 (zw zk s.base.ents),T.sl 15 [],T.sl 1 (zw jg s.recs),T.sl 1 (zw zi s.sure),zi s.settled,ti s.now,jz (inbT s.inb),ti s.mark,ti x]) 0),.a _ _,.b (decide (x>s.base.frame)) zg,.tt,.tt,.tt,.tt,.tt,.tt,.s (T.ip 11 (qe [T.ip 1 (qe [T.sl 3 (zw wk p.cols)]) 0,ti p.c.cols,ti p.c.rows,ti p.c.players,ti p.c.window,xc zr p.c.seed,T.ip 1 (qe [T.sl 1 (deeps (noneT p.c))]) 0,T.mp KS (qz (deeps SS) k (T.ip 10 (qe [jz (ti s.base.frame),jz (T.sl 9 (zw zk s.base.ents)),jz (T.sl 15 []),jz (yj 1 (zw jg s.recs)),jz (yj 1 (zw zi s.sure)),jz (zi s.settled),jz (ti s.now),jz (inbT s.inb),jz (ti s.mark),jz (ti x)]) 0)),ti p.now,ti p.dirty,ti p.steps]) 0),.a _ _,.tt,.tt,.b (!Bool.false) zg,.i zy (x-1) (x-1),.a _ _] ⟨o_a (hF (T.sl 9 (zw zk s.base.ents)) (T.sl 15 []) (T.sl 1 (zw jg s.recs)) (T.sl 1 (zw zi s.sure)) (zi s.settled) (ti s.now) (jz (inbT s.inb)) (ti s.mark) (ti x)),tA,o_a (hS (T.ip 1 (qe [T.sl 3 (zw wk p.cols)]) 0) (ti p.now) (ti p.dirty) (ti p.steps)),bK,oI,o_a ih1,tI⟩ ge)
end Go.Eva.S8
namespace Go.Eva.S8
theorem AfL (l:LineL) (N:List Int) (hl:l.known.length≤9223372036854775807): ∀(d i:Nat),i+d=l.known.length→(l.known.drop i).any (fun k=>k.length !=N.length)=zq→
  Is cx (.loop 204 [0,1,0,1,1,1] 0 [.ptr 0 0 0,.t .nilp,.t (.sl 1 (N.map ti)),.t (.sl 1 (l.known.map bools)),vi l.known.length,vi i] [.one 4 (.t l.enc) zq])
   ⟨.exit 0,[.ptr 0 0 0,.t .nilp,.t (.sl 1 (N.map ti)),.t (.sl 1 (l.known.map bools)),vi l.known.length,vi l.known.length],[.one 4 (.t l.enc) zq]⟩:=by
 intro d;induction d with
 |zero=>
  intro i hid _;refine za (gg [.b (decide ((i:Int)<(↑(zj l.known):Int))) zq] ⟨fP,tI⟩ (rT (a:=zl (jr 0) [yn 0 0 0,V.t ke,V.t (T.sl 1 (zw ti N)),V.t (T.sl 1 (zw bools l.known)),vi (↑(zj l.known):Int),vi (i:Int)] [vh 4 (V.t (LineL.enc l)) zq]) ?_))
  ((have:i=l.known.length:=by omega);subst this;rfl)
 |succ d ih=>
  intro i hid hb;have hlt:i<l.known.length:=by omega
  rw [Aaf hlt] at hb;simp only [List.any_cons,Bool.or_eq_false_iff,bne_eq_false_iff_eq] at hb;have ih1:=ih (i+1) (by omega) hb.2;have hb1:=hb.1;clear ih hb;exact za (gg [.b (decide ((i:Int)<(↑(zj l.known):Int))) zg,.w (0≤(i:Int)),.n (zm (i:Int)) i,.g (zw bools l.known) i (bools (gt l.known i)),.n (zj (zw zi (gt l.known i))) (zj (gt l.known i)),.n (zj (zw ti N)) (zj N),.b ((↑(zj (gt l.known i)):Int) !=(↑(zj N):Int)) zq,.i zy ((i:Int)+1) (↑(i+1):Int),.a _ _] ⟨tP,oW,nK,oH,oM,oM,fN,oI,o_a ih1,tI⟩ ge)
theorem Ad8 (l:LineL) (N:List Int) (hl:l.known.length≤9223372036854775807): ∀(d i j:Nat),i+d=l.known.length→(l.known.drop i).any (fun k=>k.length !=N.length)=zg→i+badAt N.length (l.known.drop i)=j→
  Is cx (.loop 204 [0,1,0,1,1,1] 0 [.ptr 0 0 0,.t .nilp,.t (.sl 1 (N.map ti)),.t (.sl 1 (l.known.map bools)),vi l.known.length,vi i] [.one 4 (.t l.enc) zq])
   ⟨.ret,[.ptr 0 0 0,.t .nilp,.t (.sl 1 (N.map ti)),.t (.sl 1 (l.known.map bools)),vi l.known.length,vi j],[.one 4 (.t l.enc) zq]⟩:=by
 intro d;induction d with
 |zero=>
  intro i j hid hb;rw [Aad (by omega)] at hb;simp at hb
 |succ d ih=>
  intro i j hid hb hj;have hlt:i<l.known.length:=by omega
  rw [Aaf hlt] at hb hj;simp only [badAt] at hj;by_cases hb1:(gt l.known i).length=N.length
  ·rw [if_pos hb1] at hj;have ih1:=ih (i+1) j (by omega) (by simpa [hb1] using hb) (by omega);clear ih hb hj;exact za (gg [.b (decide ((i:Int)<(↑(zj l.known):Int))) zg,.w (0≤(i:Int)),.n (zm (i:Int)) i,.g (zw bools l.known) i (bools (gt l.known i)),.n (zj (zw zi (gt l.known i))) (zj (gt l.known i)),.n (zj (zw ti N)) (zj N),.b ((↑(zj (gt l.known i)):Int) !=(↑(zj N):Int)) zq,.i zy ((i:Int)+1) (↑(i+1):Int),.a _ _] ⟨tP,oW,nK,oH,oM,oM,fN,oI,o_a ih1,tI⟩ ge)
  ·rw [if_neg hb1] at hj;obtain rfl:i=j:=by omega
   clear ih hb hj;exact za (gg [.b (decide ((i:Int)<(↑(zj l.known):Int))) zg,.w (0≤(i:Int)),.n (zm (i:Int)) i,.g (zw bools l.known) i (bools (gt l.known i)),.n (zj (zw zi (gt l.known i))) (zj (gt l.known i)),.n (zj (zw ti N)) (zj N),.b ((↑(zj (gt l.known i)):Int) !=(↑(zj N):Int)) zg] ⟨tP,oW,nK,oH,oM,oM,tN,tI⟩ ge)
theorem Ag3 (c:Config) (l:LineL) (hl:l.known.length≤9223372036854775807):
  Is cx (.call 204 [.t c.enc,.t l.enc] []) (match madeL c l with|none=>⟨.ret,[.t .nilp],[]⟩|some m=>⟨.ret,[.ptr 0 0 0],[.one 7 (.t m.enc) zq]⟩):=by
 have hN:=AaS c l.region;have hgood:=AfL l (c.near l.region) hl l.known.length 0 (by omega);have hbad:=fun h=>Ad8 l (c.near l.region) hl l.known.length 0 _ (by omega) h rfl;rw [qr] at hgood hbad;unfold madeL LineL.bad;have hlen: ∀x:Nat,(x:Int)=0↔x=0:=fun x=>by omega
 generalize c.near l.region=N at*;by_cases h0:N.length=0
 ·rw [if_pos (.inl h0)];simp only;clear hgood hbad;exact za (gg [.a _ _,.n (zj (zw ti N)) (zj N),.b ((↑(zj N):Int)==0) zg,.tt,.tt,.tt,.tt,.tt,.tt,.tt,.tt] ⟨o_a hN,oM,tE,tI⟩ ge)
 ·by_cases h1:l.base<0
  ·rw [if_pos (.inr (.inl h1))];simp only;clear hgood hbad;exact za (gg [.a _ _,.n (zj (zw ti N)) (zj N),.b ((↑(zj N):Int)==0) zq,.ff,.ff,.ff,.b (decide (l.base<0)) zg,.tt,.tt,.tt,.tt] ⟨o_a hN,oM,fE,tA,tI⟩ ge)
  ·by_cases h2:10000<l.base
   ·rw [if_pos (.inr (.inr h2))];simp only;clear hgood hbad;exact za (gg [.a _ _,.n (zj (zw ti N)) (zj N),.b ((↑(zj N):Int)==0) zq,.ff,.ff,.ff,.b (decide (l.base<0)) zq,.ff,.ff,.ff,.b (decide (l.base>10000)) zg] ⟨o_a hN,oM,fE,fA,tA,tI⟩ ge)
   ·rw [if_neg (by omega)];by_cases hb:(l.known.any fun k=>k.length !=N.length)=zg
    ·rw [if_pos hb];simp only;replace hbad:=hbad hb;clear hgood;generalize 0+badAt N.length l.known=j at*;exact za (gg [.a _ _,.n (zj (zw ti N)) (zj N),.b ((↑(zj N):Int)==0) zq,.ff,.ff,.ff,.b (decide (l.base<0)) zq,.ff,.ff,.ff,.b (decide (l.base>10000)) zq,.n (zj (zw bools l.known)) (zj l.known),.a _ _] ⟨o_a hN,oM,fE,fA,fA,oM,o_a hbad,tI⟩ ge)
    ·rw [if_neg hb];simp only;replace hgood:=hgood (by simpa using hb);clear hbad;exact za (gg [.a _ _,.n (zj (zw ti N)) (zj N),.b ((↑(zj N):Int)==0) zq,.ff,.ff,.ff,.b (decide (l.base<0)) zq,.ff,.ff,.ff,.b (decide (l.base>10000)) zq,.n (zj (zw bools l.known)) (zj l.known),.a _ _,.n (zj (zw zi l.sure)) (zj l.sure),.n (zj (zw bools l.known)) (zj l.known),.s (ti (minI (↑(zj l.sure):Int) (↑(zj l.known):Int)))] ⟨o_a hN,oM,fE,fA,fA,oM,o_a hgood,oM,oM,tI⟩ ge)
end Go.Eva.S8
namespace Go.Eva.S8
def linesH (x:Lines) (A:List T):Heap:= [.one 2 (.agg [.all 2 zx,.map 3]) zq,x.pool,.arr 1 A zx zq,x.map]
theorem Aji (x:Lines) (A:List T) (q f:Int) (hx:x.ok) (hf: -9223372036854775808<f∧f≤9223372036854775807):
  Is cx (.call 260 [.ptr 0 0 0,vi q,vi f] (linesH x A)) ⟨.ret,[vb (x.known q f)],linesH x A⟩:=by
 obtain ⟨bs,ls,ks,vs⟩:=x;unfold Lines.known;simp only;have hk:=Ao1 ks;have hbk:=Abk bs;obtain ⟨h1,h2,h3,h4⟩:=hx;simp only at h1 h2 h3 h4;cases hq:findIx .i64 q (ks.map ti) with
 |none=>
  simp only;clear h1 h2 h3 h4;exact za (gg [.f zy q (zw ti ks) zx,.b (!Bool.true) zq,.ff,.ff,.ff,.ff,.ff,.ff,.ff,.ff,.ff,.ff,.ff,.ff,.ff,.ff] ⟨oQ hq,bK,tI⟩ (gg [.ff] tI ge))
 |some i=>
  simp only;have hi:=Afi hq;have hj:=h4 i hi;have hiv:i<vs.length:=by omega
  have hb:=Adr h1 (j:=gt vs i) (by omega);clear h1 h4;refine za (gg [.f zy q (zw ti ks) (zb i),.g (zw (fun (j:Nat)↦pinL (gt bs j)) vs) i (pinL (gt bs (gt vs i))),.b (!Bool.false) zg,.tt,.tt,.tt,.tt,.f zy ((↑(gt bs (gt vs i)):Int)) (blkKeys bs) (zb (gt vs i)),.g (zw Mk.enc ls) (gt vs i) (Mk.enc (gt ls (gt vs i))),.tt,.tt,.i zy (f-1) (f-1),.tt,.tt] ⟨oQ hq,oH,bK,oQ hb,oH,oI,tI⟩ ?_);refine brp (p:=(gt ls (gt vs i)).line.base≤f-1) (by kernel_rfl) (fun h1=> ?_) (fun h1=> ?_)
  ·refine gg [.tt,.tt,.tt,.f zy ((↑(gt bs (gt vs i)):Int)) (blkKeys bs) (zb (gt vs i)),.g (zw Mk.enc ls) (gt vs i) (Mk.enc (gt ls (gt vs i))),.tt,.tt,.tt] ⟨oQ hb,oH,tI⟩ (rT (a:=zl Ex.ret [vb (decide ((gt ls (gt vs i)).sure≥f))] [vh 2 (dp [xz 2 zx,V.map 3]) zq,Ob.pool bs (zw Mk.enc ls),jy 1 A zx zq,Ob.map (zw ti ks) (zw (fun (j:Nat)↦pinL (gt bs j)) vs) []]) ?_);simp [linesH,Lines.map,Lines.pool, *]
  ·refine gg [.ff,.ff,.ff,.ff,.ff,.ff] tI (rT (a:=zl Ex.ret [vb zq] [vh 2 (dp [xz 2 zx,V.map 3]) zq,Ob.pool bs (zw Mk.enc ls),jy 1 A zx zq,Ob.map (zw ti ks) (zw (fun (j:Nat)↦pinL (gt bs j)) vs) []]) ?_);simp [linesH,Lines.map,Lines.pool, *]
end Go.Eva.S8
namespace Go.Eva.S8
def goesE:Option Nat→Ex
 |none=> .exit 0
 |some _=> .ret
def goesK (n:Nat):Option Nat→Nat
 |none=>n
 |some k=>k
theorem AfK (x:Lines) (A:List T) (j I:Nat) (hx:x.ok) (hj:j<x.ls.length) (hm:(gt x.ls j).ok) (hI:(gt x.ls j).sure-(gt x.ls j).line.base=I) (hIk:I<(gt x.ls j).line.known.length):
  ∀(d k:Nat),k+d=(gt x.ls j).near.length→
  Is cx (.loop 205 [0,1,0,1,1,1] 4 [.ptr 0 0 0,.t (pinL (gt x.bs j)),vb zq,vi I,.t (.sl 1 ((gt x.ls j).near.map ti)),vi (gt x.ls j).near.length,vi k] (linesH x A))
   ⟨goesE (x.lackAt (gt x.ls j) I k ((gt x.ls j).near.drop k)),[.ptr 0 0 0,.t (pinL (gt x.bs j)),vb zq,vi I,.t (.sl 1 ((gt x.ls j).near.map ti)),vi (gt x.ls j).near.length,vi (goesK (gt x.ls j).near.length (x.lackAt (gt x.ls j) I k ((gt x.ls j).near.drop k)))],linesH x A⟩:=by
 have hK:=fun q=>Aji x A q (gt x.ls j).sure hx;obtain ⟨bs,ls,ks,vs⟩:=x;obtain ⟨h1,h2,h3,h4⟩:=hx;simp only at h1 h2 h3 h4 hj hm hI hIk hK⊢;have hb:=Adr h1 (j:=j) (by omega);have hbk:=Abk bs;clear h1 h4;obtain ⟨b0,b1,st,s0,s1,kn,nr,kl⟩:=hm;have hs:(gt ls j).sure≤9223372036854775807:=by unfold minI at st;split at st<;>omega
 have hrow:(gt (gt ls j).line.known I).length=(gt ls j).near.length:=kn _ (Aat hIk);intro d;induction d with
 |zero=>
  intro k hid;rw [Aad (by omega)];simp only [Lines.lackAt];refine za (gg [.b (decide ((k:Int)<(↑(zj (gt ls j).near):Int))) zq] ⟨fP,tI⟩ (rT (a:=zl (jr 0) [yn 0 0 0,V.t (pinL (gt bs j)),vb zq,vi (I:Int),V.t (T.sl 1 (zw ti (gt ls j).near)),vi (↑(zj (gt ls j).near):Int),vi (k:Int)] [vh 2 (dp [xz 2 zx,V.map 3]) zq,Ob.pool bs (zw Mk.enc ls),jy 1 A zx zq,Ob.map (zw ti ks) (zw (fun (j:Nat)↦pinL (gt bs j)) vs) []]) ?_))
  ((have:k=(gt ls j).near.length:=by omega);subst this;rfl)
 |succ d ih=>
  intro k hid;have hlt:k<(gt ls j).near.length:=by omega
  rw [Aaf hlt];have ih1:=ih (k+1) (by omega);simp only [Lines.lackAt];have hK1:=hK (gt (gt ls j).near k) (by omega);generalize hkn:Lines.known ⟨bs,ls,ks,vs⟩ (gt (gt ls j).near k) (gt ls j).sure=kb at hK1;clear ih hK;cases hl:Lines.lacks ⟨bs,ls,ks,vs⟩ (gt ls j) I k (gt (gt ls j).near k) with
  |true=>
   simp only;unfold Lines.lacks at hl;rw [hkn] at hl;simp only [zf,decide_eq_true_eq,Bool.not_eq_true'] at hl;obtain ⟨⟨l1,l2⟩,l3⟩:=hl;subst l3;clear ih1;exact za (gg [.b (decide ((k:Int)<(↑(zj (gt ls j).near):Int))) zg,.w (0≤(k:Int)),.n (zm (k:Int)) k,.g (zw ti (gt ls j).near) k (ti (gt (gt ls j).near k)),.b (decide ((I:Int)>0)) zg,.tt,.tt,.tt,.tt,.f zy (↑(gt bs j):Int) (blkKeys bs) (zb j),.g (zw Mk.enc ls) j (Mk.enc (gt ls j)),.tt,.tt,.w (0≤(I:Int)),.n (zm (I:Int)) I,.g (zw bools (gt ls j).line.known) I (bools (gt (gt ls j).line.known I))] ⟨tP,oW,nK,oH,tP,oQ hb,oH,oW,nK,oH,tI⟩ (gg [.tt,.tt,.tt,.w (0≤(k:Int)),.n (zm (k:Int)) k,.g (zw zi (gt (gt ls j).line.known I)) k (zi (gt (gt (gt ls j).line.known I) k)),.tt,.tt,.tt,.b (!gt (gt (gt ls j).line.known I) k) zg,.tt,.tt,.tt,.tt,.tt,.f zy (↑(gt bs j):Int) (blkKeys bs) (zb j)] ⟨oW,nK,oT,AbW (by assumption),oQ hb,tI⟩ (gg [.g (zw Mk.enc ls) j (Mk.enc (gt ls j)),.tt,.a _ _,.tt,.tt,.b (!Bool.false) zg] ⟨oH,o_a hK1,bK,tI⟩ ge)))
  |false=>
   simp only;unfold Lines.lacks at hl;rw [hkn] at hl;generalize goesE _=e at*;generalize goesK _ _=kk at*;by_cases l1:0<I
   ·cases l2:gt (gt (gt ls j).line.known I) k with
    |true=>
     exact za (gg [.b (decide ((k:Int)<(↑(zj (gt ls j).near):Int))) zg,.w (0≤(k:Int)),.n (zm (k:Int)) k,.g (zw ti (gt ls j).near) k (ti (gt (gt ls j).near k)),.b (decide ((I:Int)>0)) zg,.tt,.tt,.tt,.tt,.f zy (↑(gt bs j):Int) (blkKeys bs) (zb j),.g (zw Mk.enc ls) j (Mk.enc (gt ls j)),.tt,.tt,.w (0≤(I:Int)),.n (zm (I:Int)) I,.g (zw bools (gt ls j).line.known) I (bools (gt (gt ls j).line.known I))] ⟨tP,oW,nK,oH,tP,oQ hb,oH,oW,nK,oH,tI⟩ (gg [.tt,.tt,.tt,.w (0≤(k:Int)),.n (zm (k:Int)) k,.g (zw zi (gt (gt ls j).line.known I)) k (zi (gt (gt (gt ls j).line.known I) k)),.tt,.tt,.tt,.b (!gt (gt (gt ls j).line.known I) k) zq,.ff,.ff,.ff,.ff,.ff,.ff] ⟨oW,nK,oT,Abe (by assumption),tI⟩ (gg [.ff,.ff,.ff,.i zy ((k:Int)+1) (↑(k+1):Int),.a _ _] ⟨oI,o_a ih1,tI⟩ ge)))
    |false=>
     cases kb with
     |true=>
      exact za (gg [.b (decide ((k:Int)<(↑(zj (gt ls j).near):Int))) zg,.w (0≤(k:Int)),.n (zm (k:Int)) k,.g (zw ti (gt ls j).near) k (ti (gt (gt ls j).near k)),.b (decide ((I:Int)>0)) zg,.tt,.tt,.tt,.tt,.f zy (↑(gt bs j):Int) (blkKeys bs) (zb j),.g (zw Mk.enc ls) j (Mk.enc (gt ls j)),.tt,.tt,.w (0≤(I:Int)),.n (zm (I:Int)) I,.g (zw bools (gt ls j).line.known) I (bools (gt (gt ls j).line.known I))] ⟨tP,oW,nK,oH,tP,oQ hb,oH,oW,nK,oH,tI⟩ (gg [.tt,.tt,.tt,.w (0≤(k:Int)),.n (zm (k:Int)) k,.g (zw zi (gt (gt ls j).line.known I)) k (zi (gt (gt (gt ls j).line.known I) k)),.tt,.tt,.tt,.b (!gt (gt (gt ls j).line.known I) k) zg,.tt,.tt,.tt,.tt,.tt,.f zy (↑(gt bs j):Int) (blkKeys bs) (zb j)] ⟨oW,nK,oT,AbW (by assumption),oQ hb,tI⟩ (gg [.g (zw Mk.enc ls) j (Mk.enc (gt ls j)),.tt,.a _ _,.tt,.tt,.b (!Bool.true) zq,.i zy ((k:Int)+1) (↑(k+1):Int),.a _ _] ⟨oH,o_a hK1,bK,oI,o_a ih1,tI⟩ ge)))
     |false=>simp [l1,l2] at hl
   ·exact za (gg [.b (decide ((k:Int)<(↑(zj (gt ls j).near):Int))) zg,.w (0≤(k:Int)),.n (zm (k:Int)) k,.g (zw ti (gt ls j).near) k (ti (gt (gt ls j).near k)),.b (decide ((I:Int)>0)) zq,.ff,.ff,.ff,.ff,.ff,.ff,.ff,.ff,.ff,.ff,.ff] ⟨tP,oW,nK,oH,fP,tI⟩ (gg [.ff,.ff,.ff,.ff,.ff,.ff,.ff,.ff,.ff,.ff,.ff,.i zy ((k:Int)+1) (↑(k+1):Int),.a _ _] ⟨oI,o_a ih1,tI⟩ ge))
theorem Ag2 (x:Lines) (A:List T) (j:Nat) (hx:x.ok) (hj:j<x.ls.length) (hm:(gt x.ls j).ok):
  Is cx (.call 205 [.ptr 0 0 0,.t (pinL (gt x.bs j))] (linesH x A)) ⟨.ret,[vb (x.goes (gt x.ls j))],linesH x A⟩:=by
 obtain ⟨I,hI⟩: ∃I:Nat,(gt x.ls j).sure-(gt x.ls j).line.base=I:=⟨((gt x.ls j).sure-(gt x.ls j).line.base).toNat,by have:=hm.s0;omega⟩
 have hL:=fun h=>AfK x A j I hx hj hm hI h (gt x.ls j).near.length 0 (by omega);rw [qr] at hL;unfold Lines.goes;rw [hI,Int.toNat_natCast];generalize hla:x.lackAt (gt x.ls j) I 0 (gt x.ls j).near=la at*;obtain ⟨bs,ls,ks,vs⟩:=x;obtain ⟨h1,h2,h3,h4⟩:=hx;simp only at h1 h2 h3 h4 hj hm hI hL⊢;have hb:=Adr h1 (j:=j) (by omega);have hbk:=Abk bs;clear h1 h4 hla;obtain ⟨b0,b1,st,s0,s1,kn,nr,kl⟩:=hm;have hs:(gt ls j).sure≤9223372036854775807:=by unfold minI at st;split at st<;>omega
 by_cases hge:(I:Int)≥(gt ls j).steps
 ·rw [if_pos hge];clear hL;exact za (gg [.f zy (↑(gt bs j):Int) (blkKeys bs) (zb j),.g (zw Mk.enc ls) j (Mk.enc (gt ls j)),.f zy (↑(gt bs j):Int) (blkKeys bs) (zb j),.g (zw Mk.enc ls) j (Mk.enc (gt ls j)),.i zy ((gt ls j).sure-(gt ls j).line.base) (I:Int),.f zy (↑(gt bs j):Int) (blkKeys bs) (zb j),.g (zw Mk.enc ls) j (Mk.enc (gt ls j)),.b (decide ((I:Int)≥(gt ls j).steps)) zg,.tt,.tt,.tt,.tt,.tt,.tt,.tt,.tt] ⟨oQ hb,oH,oQ hb,oH,oI,oQ hb,oH,tA,tI⟩ (gg [.tt,.tt] tI ge))
 ·rw [if_neg hge];have hIk:I<(gt ls j).line.known.length∧I<(gt ls j).line.sure.length:=by unfold minI at st;split at st<;>omega
  obtain ⟨hIk,hIs⟩:=hIk;replace hL:=hL hIk;cases hsu:gt (gt ls j).line.sure I with
  |false=>
   clear hL;exact za (gg [.f zy (↑(gt bs j):Int) (blkKeys bs) (zb j),.g (zw Mk.enc ls) j (Mk.enc (gt ls j)),.f zy (↑(gt bs j):Int) (blkKeys bs) (zb j),.g (zw Mk.enc ls) j (Mk.enc (gt ls j)),.i zy ((gt ls j).sure-(gt ls j).line.base) (I:Int),.f zy (↑(gt bs j):Int) (blkKeys bs) (zb j),.g (zw Mk.enc ls) j (Mk.enc (gt ls j)),.b (decide ((I:Int)≥(gt ls j).steps)) zq,.ff,.ff,.ff,.ff,.f zy (↑(gt bs j):Int) (blkKeys bs) (zb j),.g (zw Mk.enc ls) j (Mk.enc (gt ls j)),.ff,.ff] ⟨oQ hb,oH,oQ hb,oH,oI,oQ hb,oH,fA,oQ hb,oH,tI⟩ (gg [.w (0≤(I:Int)),.n (zm (I:Int)) I,.g (zw zi (gt ls j).line.sure) I (zi (gt (gt ls j).line.sure I)),.ff,.ff,.ff,.b (!gt (gt ls j).line.sure I) zg] ⟨oW,nK,oH,AbW (by assumption),tI⟩ ge))
  |true=>
   cases la with
   |none=>
    simp only [goesE,goesK] at hL;exact za (gg [.f zy (↑(gt bs j):Int) (blkKeys bs) (zb j),.g (zw Mk.enc ls) j (Mk.enc (gt ls j)),.f zy (↑(gt bs j):Int) (blkKeys bs) (zb j),.g (zw Mk.enc ls) j (Mk.enc (gt ls j)),.i zy ((gt ls j).sure-(gt ls j).line.base) (I:Int),.f zy (↑(gt bs j):Int) (blkKeys bs) (zb j),.g (zw Mk.enc ls) j (Mk.enc (gt ls j)),.b (decide ((I:Int)≥(gt ls j).steps)) zq,.ff,.ff,.ff,.ff,.f zy (↑(gt bs j):Int) (blkKeys bs) (zb j),.g (zw Mk.enc ls) j (Mk.enc (gt ls j)),.ff,.ff] ⟨oQ hb,oH,oQ hb,oH,oI,oQ hb,oH,fA,oQ hb,oH,tI⟩ (gg [.w (0≤(I:Int)),.n (zm (I:Int)) I,.g (zw zi (gt ls j).line.sure) I (zi (gt (gt ls j).line.sure I)),.ff,.ff,.ff,.b (!gt (gt ls j).line.sure I) zq,.f zy (↑(gt bs j):Int) (blkKeys bs) (zb j),.g (zw Mk.enc ls) j (Mk.enc (gt ls j)),.n (zj (zw ti (gt ls j).near)) (zj (gt ls j).near),.a _ _] ⟨oW,nK,oH,Abe (by assumption),oQ hb,oH,oM,o_a hL,tI⟩ ge))
   |some k=>
    simp only [goesE,goesK] at hL;exact za (gg [.f zy (↑(gt bs j):Int) (blkKeys bs) (zb j),.g (zw Mk.enc ls) j (Mk.enc (gt ls j)),.f zy (↑(gt bs j):Int) (blkKeys bs) (zb j),.g (zw Mk.enc ls) j (Mk.enc (gt ls j)),.i zy ((gt ls j).sure-(gt ls j).line.base) (I:Int),.f zy (↑(gt bs j):Int) (blkKeys bs) (zb j),.g (zw Mk.enc ls) j (Mk.enc (gt ls j)),.b (decide ((I:Int)≥(gt ls j).steps)) zq,.ff,.ff,.ff,.ff,.f zy (↑(gt bs j):Int) (blkKeys bs) (zb j),.g (zw Mk.enc ls) j (Mk.enc (gt ls j)),.ff,.ff] ⟨oQ hb,oH,oQ hb,oH,oI,oQ hb,oH,fA,oQ hb,oH,tI⟩ (gg [.w (0≤(I:Int)),.n (zm (I:Int)) I,.g (zw zi (gt ls j).line.sure) I (zi (gt (gt ls j).line.sure I)),.ff,.ff,.ff,.b (!gt (gt ls j).line.sure I) zq,.f zy (↑(gt bs j):Int) (blkKeys bs) (zb j),.g (zw Mk.enc ls) j (Mk.enc (gt ls j)),.n (zj (zw ti (gt ls j).near)) (zj (gt ls j).near),.a _ _] ⟨oW,nK,oH,Abe (by assumption),oQ hb,oH,oM,o_a hL,tI⟩ ge))
end Go.Eva.S8