/- A reading of the program, proved sound against the model, and what its functions answer by it: part 5. -/
import Derived.Test.YtjkeffbjjepgdaaGreatEva4
import Derived.Shelf.SlIterI.Nil
import Derived.Shelf.SortM.Plain
import Derived.Shelf.SortM.SortNone
import Derived.Shelf.SlMaps.Clone
set_option linter.unusedSimpArgs false
set_option linter.unusedVariables false
open Bool renaming false → zq, true → zg, and_eq_true → zf
open List renaming length → zj, map → zw, getElem?_eq_some_iff → zh, replicate → zn, getElem?_eq_getElem → zt, drop → z6, getElem?_append_left → qq, set → qz, getElem?_set_self → qw, getElem?_set_ne → qy, getElem?_append_right → qg, mem_cons → qf, getElem?_map → qb, drop_zero → qr, range → jq, all_eq_true → jm, mem_of_getElem? → jt, foldl → jl, pairwise_cons → xd, length_eq_zero_iff → xa, map_append → vj, mem_map → vg, findIdx?_eq_none_iff → vu, map_map → yf, length_range → y5, nodup_range → kj, map_set → gq, mem_or_eq_of_mem_set → df, eq_of_mem_replicate → dr, Nodup → cz
open Option renaming none → zx, some → zb, map_eq_some_iff → qa
open Go.Eva.Entity renaming enc → zk, id → xm
open Go.IntKind renaming i64 → zy, u64 → zr, wrap → z8
open Nat renaming eq_of_beq_eq_true → zp, le_refl → qn, zero_add → jk, le_of_ble_eq_true → jf, ble → ph
open Int renaming toNat → zm, tdiv → wt, tmod → yw
open Go.Eva.Wp renaming ev → za
open Go.Eva.T renaming bool → zi, agg → qe, int → xc, nilp → ke, cells → pf, pin → be
open Go.Eva.Res renaming mk → zl
open Go.Eva.Input renaming enc → zo
open Array renaming getElem?_eq_some_iff → zu, getElem?_eq_getElem → qp, getElem?_toList → xg, getElem?_eq_none → yu
open Go.Eva.Sub renaming shut → jw
open Go.Eva.Ob renaming arr → jy, one → vh, pool → gl, map → dn
open Go.Eva.Ex renaming exit → jr
open Go.Eva.Mk renaming enc → js
open Go.Eva.Config renaming right_iff → ju, regions → xw, is_right → v8, is_iff → wn, enc → wi, mul_le → u5
open Option.some renaming injEq → j0
open Go.Eva.LineL renaming enc → j6
open Go.Eva.Acc renaming add → xj, mk → wx
open Go.Eva.Lines renaming sweep → xx, fix → uv, run → uk
open Go.Value renaming pointer → wz
open Go.Eva.Col renaming enc → wk
open Go.Eva.EngP renaming clean → wg, lookF → yg, eng → yb, ob → gi, new → pp, readyL → d7, add → mc
open Go.Eva.V renaming ptr → yn
open Go.Eva.Eng renaming enc → uu, ob → gu
open Go renaming World → kw
open Go.Eva.Region renaming mk → ku, enc → gf
open Go.Addr renaming mk → pv
open Go.WideElems renaming rg → fk
open Go.Eva.Task renaming loop → c8
open Go.DataW renaming insert → nz
namespace Go.Eva.S8
abbrev ofN (c:Config) (bs:List Nat) (ls:List Mk) (ks:List Int) (A V:List T):Heap:= [.one 5 (.t c.enc) zq,.one 2 (.agg [.all 3 zx,.map 4]) zq,.pool bs (ls.map js),.arr 1 A zx zq,.map (ks.map ti) V []]
theorem AdN (c:Config) (L:List LineL) (hL:L.length≤1000) (hk: ∀y∈L,y.known.length≤4611686018427387904): ∀(d i:Nat) (a:Acc) (bs:List Nat) (A V:List T),i+d=L.length→bs.Nodup→bs.length=a.ls.length→A=a.al.map (pinO bs)→V=a.vs.map (fun j=>pinL (gt bs j))→A.length≤i→V.length=a.ks.length→(∀j,zb j∈a.al→j<bs.length)→(∀j∈a.vs,j<bs.length)→
  Ev cx (.loop 122 [0,1,0,1,1] 0 [.ptr 0 0 0,.ptr 1 0 0,.t (.sl 4 (L.map j6)),vi L.length,vi i] (ofN c bs a.ls a.ks A V))
   (fun r=> ∃bs':List Nat,(bs'.Nodup∧bs'.length=((L.drop i).foldl (xj c) a).ls.length)∧r=⟨.exit 0,[.ptr 0 0 0,.ptr 1 0 0,.t (.sl 4 (L.map j6)),vi L.length,vi L.length],ofN c bs' ((L.drop i).foldl (xj c) a).ls ((L.drop i).foldl (xj c) a).ks (((L.drop i).foldl (xj c) a).al.map (pinO bs')) (((L.drop i).foldl (xj c) a).vs.map (fun j=>pinL (gt bs' j)))⟩):=by
 intro d;induction d with
 |zero=>
  intro i a bs A V hid hn hbl hA hV hAl hVl hal hvs;rw [Aad (by omega),List.foldl_nil];obtain rfl:i=L.length:=by omega
  refine za (gg [.b (decide ((↑(zj L):Int)<(↑(zj L):Int))) zq] ⟨fP,tI⟩ (rT (a:=zl (jr 0) [Eva.V.ptr 0 0 0,Eva.V.ptr 1 0 0,Eva.V.t (T.sl 4 (zw j6 L)),vi (↑(zj L):Int),vi (↑(zj L):Int)] [vh 5 (Eva.V.t (wi c)) zq,vh 2 (Eva.V.agg [Eva.V.all 3 zx,Eva.V.map 4]) zq,gl bs (zw js a.ls),jy 1 A zx zq,dn (zw ti a.ks) V []]) ?_));exact ⟨bs,⟨hn,hbl⟩,by rw [hA,hV]⟩
 |succ d ih=>
  intro i a bs A V hid hn hbl hA hV hAl hVl hal hvs;have hlt:i<L.length:=by omega
  rw [Aaf hlt,List.foldl_cons];have hM:=Ag3 c (gt L i) (by have:=hk _ (Aat hlt);omega);have hbk:=Abk bs;have hkk:=Ao1 a.ks;cases hm:madeL c (gt L i) with
  |none=>
   simp only [hm] at hM;have ha:a.add c (gt L i)=⟨a.ls,a.ks,a.vs,a.al++ [zx]⟩:=by simp [xj,hm]
   have ih1:=ih (i+1) (a.add c (gt L i)) bs (A++ [.nilp]) V (by omega) hn (by rw [ha];exact hbl) (by rw [ha,hA];simp [pinO]) (by rw [ha,hV]) (by simp;omega) (by rw [ha];exact hVl) (by rw [ha];simpa using hal) (by rw [ha];exact hvs);rw [ha] at ih1⊢;simp only at ih1;clear ih;refine za (gg [.b (decide ((i:Int)<(↑(zj L):Int))) zg,.w (0≤(i:Int)),.n (zm (i:Int)) i,.g (zw j6 L) i (j6 (gt L i)),.a _ _,.w ((0:Nat)<(8:Nat)),.s (T.sl 0 [ke]),.s (T.sl 0 (A++ [ke])),.w (room (zj (A++ [ke])) (8:Nat)),.b (!Bool.true) zq,.ff,.ff,.ff,.ff,.ff,.ff] ⟨tP,oW,nK,oH,o_a hM,oW,oR,bK,tI⟩ (gg [.ff,.ff,.ff,.ff,.ff,.ff,.i zy ((i:Int)+1) (↑(i+1):Int)] ⟨oI,tI⟩ ?_));refine ar (t:=c8 122 [0,1,0,1,1] 0 [Eva.V.ptr 0 0 0,Eva.V.ptr 1 0 0,Eva.V.t (T.sl 4 (zw j6 L)),vi (↑(zj L):Int),vi (↑(i+1):Int)] [vh 5 (Eva.V.t (wi c)) zq,vh 2 (Eva.V.agg [Eva.V.all 3 zx,Eva.V.map 4]) zq,gl bs (zw js a.ls),jy 1 (A++ [ke]) zx zq,dn (zw ti a.ks) V []]) (R':=fun (r:Res)↦ ∃(bs':List Nat),(cz bs'∧zj bs'=zj (jl (xj c) (wx a.ls a.ks a.vs (a.al++ [zx])) (z6 (i+1) L)).ls)∧r=zl (jr 0) [Eva.V.ptr 0 0 0,Eva.V.ptr 1 0 0,Eva.V.t (T.sl 4 (zw j6 L)),vi (↑(zj L):Int),vi (↑(zj L):Int)] (ofN c bs' (jl (xj c) (wx a.ls a.ks a.vs (a.al++ [zx])) (z6 (i+1) L)).ls (jl (xj c) (wx a.ls a.ks a.vs (a.al++ [zx])) (z6 (i+1) L)).ks (zw (pinO bs') (jl (xj c) (wx a.ls a.ks a.vs (a.al++ [zx])) (z6 (i+1) L)).al) (zw (fun (j:Nat)↦pinL (gt bs' j)) (jl (xj c) (wx a.ls a.ks a.vs (a.al++ [zx])) (z6 (i+1) L)).vs))) (by kernel_rfl) ih1 ?_ (fun r1 hr1=> ?_)
   ·exact ⟨_,jq _,⟨kj,y5⟩,rfl⟩
   obtain ⟨bs',hb1,rfl⟩:=hr1;refine rT (a:=zl (jr 0) [Eva.V.ptr 0 0 0,Eva.V.ptr 1 0 0,Eva.V.t (T.sl 4 (zw j6 L)),vi (↑(zj L):Int),vi (↑(zj L):Int)] [vh 5 (Eva.V.t (wi c)) zq,vh 2 (Eva.V.agg [Eva.V.all 3 zx,Eva.V.map 4]) zq,gl bs' (zw js (jl (xj c) (wx a.ls a.ks a.vs (a.al++ [zx])) (z6 (i+1) L)).ls),jy 1 (zw (pinO bs') (jl (xj c) (wx a.ls a.ks a.vs (a.al++ [zx])) (z6 (i+1) L)).al) zx zq,dn (zw ti (jl (xj c) (wx a.ls a.ks a.vs (a.al++ [zx])) (z6 (i+1) L)).ks) (zw (fun (j:Nat)↦pinL (gt bs' j)) (jl (xj c) (wx a.ls a.ks a.vs (a.al++ [zx])) (z6 (i+1) L)).vs) []]) ?_;exact ⟨bs',hb1,rfl⟩
  |some m=>
   simp only [hm] at hM;have hfn:=fun n hnn=>AmP (bs:=bs) (n:=n) hnn;have hkn:=fun n=>Abk (bs++ [n]);have hget:(a.ls++ [m])[bs.length]?=zb m:=by rw [hbl];simp
   have hA2: ∀n,A++ [pinL n]=(a.al++ [zb a.ls.length]).map (pinO (bs++ [n])):=fun n=>by rw [vj,hA,Apj (n:=n) hal,←hbl];show _=_++ [pinL (gt (bs++ [n]) bs.length)];rw [An1]
   cases hf:findIx .i64 m.line.region (a.ks.map ti) with
   |none=>
    have ha:a.add c (gt L i)=⟨a.ls++ [m],a.ks++ [m.line.region],a.vs++ [a.ls.length],a.al++ [zb a.ls.length]⟩:=by simp [xj,hm,hf]
    have hV2: ∀n,V++ [pinL n]=(a.vs++ [a.ls.length]).map (fun j=>pinL (gt (bs++ [n]) j)):=fun n=>by rw [vj,hV,pin_more' (n:=n) hvs,←hbl];show _=_++ [pinL (gt (bs++ [n]) bs.length)];rw [An1]
    have ih1:=fun (n:Nat) (hnn:n∉bs)=>ih (i+1) (a.add c (gt L i)) (bs++ [n]) (A++ [pinL n]) (V++ [pinL n]) (by omega) (AhF hn hnn) (by rw [ha];simp [hbl]) (by rw [ha];exact hA2 n) (by rw [ha];exact hV2 n) (by simp;omega) (by rw [ha];simp [hVl]) (by rw [ha];exact AnJ hal hbl) (by rw [ha];exact Aqf hvs hbl);rw [ha] at ih1⊢;simp only at ih1;clear ih hA2 hV2;refine za (gg [.b (decide ((i:Int)<(↑(zj L):Int))) zg,.w (0≤(i:Int)),.n (zm (i:Int)) i,.g (zw j6 L) i (j6 (gt L i)),.a _ _] ⟨tP,oW,nK,oH,o_a hM,tI⟩ ?_);refine nw (no:=bs) (by kernel_rfl) (fun c1 hc1=> ?_);refine gg [.t (T.sl 0 (zw js a.ls++ [js m])) (T.sl 0 (zw js (a.ls++ [m]))),.w ((0:Nat)<(8:Nat)),.s (T.sl 0 [be (wz (zb (pv c1 0 zx)))]),.s (T.sl 0 (A++ [be (wz (zb (pv c1 0 zx)))])),.w (room (zj (A++ [be (wz (zb (pv c1 (0:Nat) zx)))])) (8:Nat)),.b (!Bool.false) zg,.tt,.tt,.tt,.tt,.tt,.tt,.tt,.tt,.f zy (c1:Int) (blkKeys (bs++ [c1])) (zb (zj bs)),.g (zw js (a.ls++ [m])) (zj bs) (js m)] ⟨o_l (Aa3 rfl (Aa1 rfl AaC)),oW,oR,bK,o_f (by exact Abk _) (hfn _ (by assumption)),o_gm rfl hget (by intro h;cases h),tI⟩ (gg [.tt,.f zy m.line.region (zw ti a.ks) zx,.tt,.tt,.tt,.f zy (c1:Int) (blkKeys (bs++ [c1])) (zb (zj bs)),.g (zw js (a.ls++ [m])) (zj bs) (js m),.f zy m.line.region (zw ti a.ks) zx,.t (T.sl 0 (zw ti a.ks++ [ti m.line.region])) (T.sl 0 (zw ti (a.ks++ [m.line.region]))),.s (T.sl 0 (V++ [be (wz (zb (pv c1 0 zx)))])),.i zy ((i:Int)+1) (↑(i+1):Int)] ⟨oQ hf,o_f (by exact Abk _) (hfn _ (by assumption)),o_gm rfl hget (by intro h;cases h),oQ hf,o_l (Aa3 rfl (Aa1 (e:=m.line.region) rfl AaC)),oI,tI⟩ ?_);refine ar (t:=c8 122 [0,1,0,1,1] 0 [Eva.V.ptr 0 0 0,Eva.V.ptr 1 0 0,Eva.V.t (T.sl 4 (zw j6 L)),vi (↑(zj L):Int),vi (↑(i+1):Int)] [vh 5 (Eva.V.t (wi c)) zq,vh 2 (Eva.V.agg [Eva.V.all 3 zx,Eva.V.map 4]) zq,gl (bs++ [c1]) (zw js (a.ls++ [m])),jy 1 (A++ [be (wz (zb (pv c1 0 zx)))]) zx zq,dn (zw ti (a.ks++ [m.line.region])) (V++ [be (wz (zb (pv c1 0 zx)))]) []]) (R':=fun (r:Res)↦ ∃(bs':List Nat),(cz bs'∧zj bs'=zj (jl (xj c) (wx (a.ls++ [m]) (a.ks++ [m.line.region]) (a.vs++ [zj a.ls]) (a.al++ [zb (zj a.ls)])) (z6 (i+1) L)).ls)∧r=zl (jr 0) [Eva.V.ptr 0 0 0,Eva.V.ptr 1 0 0,Eva.V.t (T.sl 4 (zw j6 L)),vi (↑(zj L):Int),vi (↑(zj L):Int)] (ofN c bs' (jl (xj c) (wx (a.ls++ [m]) (a.ks++ [m.line.region]) (a.vs++ [zj a.ls]) (a.al++ [zb (zj a.ls)])) (z6 (i+1) L)).ls (jl (xj c) (wx (a.ls++ [m]) (a.ks++ [m.line.region]) (a.vs++ [zj a.ls]) (a.al++ [zb (zj a.ls)])) (z6 (i+1) L)).ks (zw (pinO bs') (jl (xj c) (wx (a.ls++ [m]) (a.ks++ [m.line.region]) (a.vs++ [zj a.ls]) (a.al++ [zb (zj a.ls)])) (z6 (i+1) L)).al) (zw (fun (j:Nat)↦pinL (gt bs' j)) (jl (xj c) (wx (a.ls++ [m]) (a.ks++ [m.line.region]) (a.vs++ [zj a.ls]) (a.al++ [zb (zj a.ls)])) (z6 (i+1) L)).vs))) (by kernel_rfl) (ih1 c1 (by assumption)) ?_ (fun r2 hr2=> ?_)
    ·exact ⟨_,jq _,⟨kj,y5⟩,rfl⟩
    obtain ⟨bs',hb1,rfl⟩:=hr2;refine rT (a:=zl (jr 0) [Eva.V.ptr 0 0 0,Eva.V.ptr 1 0 0,Eva.V.t (T.sl 4 (zw j6 L)),vi (↑(zj L):Int),vi (↑(zj L):Int)] [vh 5 (Eva.V.t (wi c)) zq,vh 2 (Eva.V.agg [Eva.V.all 3 zx,Eva.V.map 4]) zq,gl bs' (zw js (jl (xj c) (wx (a.ls++ [m]) (a.ks++ [m.line.region]) (a.vs++ [zj a.ls]) (a.al++ [zb (zj a.ls)])) (z6 (i+1) L)).ls),jy 1 (zw (pinO bs') (jl (xj c) (wx (a.ls++ [m]) (a.ks++ [m.line.region]) (a.vs++ [zj a.ls]) (a.al++ [zb (zj a.ls)])) (z6 (i+1) L)).al) zx zq,dn (zw ti (jl (xj c) (wx (a.ls++ [m]) (a.ks++ [m.line.region]) (a.vs++ [zj a.ls]) (a.al++ [zb (zj a.ls)])) (z6 (i+1) L)).ks) (zw (fun (j:Nat)↦pinL (gt bs' j)) (jl (xj c) (wx (a.ls++ [m]) (a.ks++ [m.line.region]) (a.vs++ [zj a.ls]) (a.al++ [zb (zj a.ls)])) (z6 (i+1) L)).vs) []]) ?_;exact ⟨bs',hb1,rfl⟩
   |some q=>
    have ha:a.add c (gt L i)=⟨a.ls++ [m],a.ks,a.vs,a.al++ [zb a.ls.length]⟩:=by simp [xj,hm,hf]
    have hV2: ∀n,V=a.vs.map (fun j=>pinL (gt (bs++ [n]) j)):=fun n=>by rw [hV,pin_more' (n:=n) hvs]
    have ih1:=fun (n:Nat) (hnn:n∉bs)=>ih (i+1) (a.add c (gt L i)) (bs++ [n]) (A++ [pinL n]) V (by omega) (AhF hn hnn) (by rw [ha];simp [hbl]) (by rw [ha];exact hA2 n) (by rw [ha];exact hV2 n) (by simp;omega) (by rw [ha];exact hVl) (by rw [ha];exact AnJ hal hbl) (by rw [ha];exact fun j hj=>by simp;exact Nat.lt_succ_of_lt (hvs j hj));rw [ha] at ih1⊢;simp only at ih1;have hqv:V[q]?=zb (pinL (gt bs (gt a.vs q))):=by
     have h1:=Afi hf;have h2:q<a.vs.length:=by rw [hV] at hVl;simp at hVl;omega
     rw [hV,qb,show a.vs[q]?=zb (gt a.vs q) by simp [gt,h2]];rfl
    clear ih hA2 hV2;refine za (gg [.b (decide ((i:Int)<(↑(zj L):Int))) zg,.w (0≤(i:Int)),.n (zm (i:Int)) i,.g (zw j6 L) i (j6 (gt L i)),.a _ _] ⟨tP,oW,nK,oH,o_a hM,tI⟩ ?_);refine nw (no:=bs) (by kernel_rfl) (fun c1 hc1=> ?_);refine gg [.t (T.sl 0 (zw js a.ls++ [js m])) (T.sl 0 (zw js (a.ls++ [m]))),.w ((0:Nat)<(8:Nat)),.s (T.sl 0 [be (wz (zb (pv c1 0 zx)))]),.s (T.sl 0 (A++ [be (wz (zb (pv c1 0 zx)))])),.w (room (zj (A++ [be (wz (zb (pv c1 (0:Nat) zx)))])) (8:Nat)),.b (!Bool.false) zg,.tt,.tt,.tt,.tt,.tt,.tt,.tt,.tt,.f zy (c1:Int) (blkKeys (bs++ [c1])) (zb (zj bs)),.g (zw js (a.ls++ [m])) (zj bs) (js m)] ⟨o_l (Aa3 rfl (Aa1 rfl AaC)),oW,oR,bK,o_f (by exact Abk _) (hfn _ (by assumption)),o_gm rfl hget (by intro h;cases h),tI⟩ (gg [.tt,.f zy m.line.region (zw ti a.ks) (zb q),.g V q (pinL (gt bs (gt a.vs q))),.tt,.tt,.ff,.i zy ((i:Int)+1) (↑(i+1):Int)] ⟨oQ hf,o_g hqv (by intro h;cases h),oI,tI⟩ ?_);refine ar (t:=c8 122 [0,1,0,1,1] 0 [Eva.V.ptr 0 0 0,Eva.V.ptr 1 0 0,Eva.V.t (T.sl 4 (zw j6 L)),vi (↑(zj L):Int),vi (↑(i+1):Int)] [vh 5 (Eva.V.t (wi c)) zq,vh 2 (Eva.V.agg [Eva.V.all 3 zx,Eva.V.map 4]) zq,gl (bs++ [c1]) (zw js (a.ls++ [m])),jy 1 (A++ [be (wz (zb (pv c1 0 zx)))]) zx zq,dn (zw ti a.ks) V []]) (R':=fun (r:Res)↦ ∃(bs':List Nat),(cz bs'∧zj bs'=zj (jl (xj c) (wx (a.ls++ [m]) a.ks a.vs (a.al++ [zb (zj a.ls)])) (z6 (i+1) L)).ls)∧r=zl (jr 0) [Eva.V.ptr 0 0 0,Eva.V.ptr 1 0 0,Eva.V.t (T.sl 4 (zw j6 L)),vi (↑(zj L):Int),vi (↑(zj L):Int)] (ofN c bs' (jl (xj c) (wx (a.ls++ [m]) a.ks a.vs (a.al++ [zb (zj a.ls)])) (z6 (i+1) L)).ls (jl (xj c) (wx (a.ls++ [m]) a.ks a.vs (a.al++ [zb (zj a.ls)])) (z6 (i+1) L)).ks (zw (pinO bs') (jl (xj c) (wx (a.ls++ [m]) a.ks a.vs (a.al++ [zb (zj a.ls)])) (z6 (i+1) L)).al) (zw (fun (j:Nat)↦pinL (gt bs' j)) (jl (xj c) (wx (a.ls++ [m]) a.ks a.vs (a.al++ [zb (zj a.ls)])) (z6 (i+1) L)).vs))) (by kernel_rfl) (ih1 c1 (by assumption)) ?_ (fun r2 hr2=> ?_)
    ·exact ⟨_,jq _,⟨kj,y5⟩,rfl⟩
    obtain ⟨bs',hb1,rfl⟩:=hr2;refine rT (a:=zl (jr 0) [Eva.V.ptr 0 0 0,Eva.V.ptr 1 0 0,Eva.V.t (T.sl 4 (zw j6 L)),vi (↑(zj L):Int),vi (↑(zj L):Int)] [vh 5 (Eva.V.t (wi c)) zq,vh 2 (Eva.V.agg [Eva.V.all 3 zx,Eva.V.map 4]) zq,gl bs' (zw js (jl (xj c) (wx (a.ls++ [m]) a.ks a.vs (a.al++ [zb (zj a.ls)])) (z6 (i+1) L)).ls),jy 1 (zw (pinO bs') (jl (xj c) (wx (a.ls++ [m]) a.ks a.vs (a.al++ [zb (zj a.ls)])) (z6 (i+1) L)).al) zx zq,dn (zw ti (jl (xj c) (wx (a.ls++ [m]) a.ks a.vs (a.al++ [zb (zj a.ls)])) (z6 (i+1) L)).ks) (zw (fun (j:Nat)↦pinL (gt bs' j)) (jl (xj c) (wx (a.ls++ [m]) a.ks a.vs (a.al++ [zb (zj a.ls)])) (z6 (i+1) L)).vs) []]) ?_;exact ⟨bs',hb1,rfl⟩
end Go.Eva.S8
namespace Go.Eva.S8
def linesA (x:Lines) (A:List T):Heap:= [.one 2 (.agg [.all 1 zx,.map 3]) zq,.arr 1 A zx zq,x.pool,x.map]
theorem Ahh (A:List T) (j n k:Nat): ∀(d:Nat) (x:Lines) (ag:Bool),x.ok→j<x.ls.length→(gt x.ls j).ok→(gt x.ls j).line.base+(gt x.ls j).steps-(gt x.ls j).sure≤d→
  Is cx (.loop 122 [0,1,0,0,1,1,0,0,1,1,0,1,0,0,1,0,1,1,1] 0 [.ptr 0 0 0,vb ag,.t (pinL (gt x.bs j)),.all 1 zx,vi n,vi k] (linesA x A))
   ⟨.exit 6,[.ptr 0 0 0,vb (ag||x.goes (gt x.ls j)),.t (pinL (gt x.bs j)),.all 1 zx,vi n,vi k],linesA (uk d x j) A⟩:=by
 intro d;induction d with
 |zero=>
  intro x ag hx hj hm hd;have hG:=Ag2 x A j hx hj hm;have hg:x.goes (gt x.ls j)=zq:=by
   cases h:x.goes (gt x.ls j) with
   |false=>rfl
   |true=>have:=Adb h;simp at hd;omega
  rw [hg] at hG⊢;simp only [uk,Bool.or_false];exact za (gg [.b (!Bool.false) zg,.tt,.tt,.a _ _,.tt,.ff] ⟨bK,o_a hG,tI⟩ ge)
 |succ d ih=>
  intro x ag hx hj hm hd;have hG:=Ag2 x A j hx hj hm;simp only [uk];cases hg:x.goes (gt x.ls j) with
  |false=>
   rw [hg] at hG;simp only [Bool.or_false];clear ih;exact za (gg [.b (!Bool.false) zg,.tt,.tt,.a _ _,.tt,.ff] ⟨bK,o_a hG,tI⟩ ge)
  |true=>
   rw [hg] at hG;have hl:=Adb hg;have ih1:=ih (x.bump j) zg (hx.bump j) (by simpa [Lines.bump] using hj) (by show (gt (x.ls.set j _) j).ok;rw [An3 hj];exact hm.more hl) (by show (gt (x.ls.set j _) j).line.base+(gt (x.ls.set j _) j).steps-(gt (x.ls.set j _) j).sure≤d;rw [An3 hj];simp only [Mk.more];omega);simp only [Bool.or_true,Bool.true_or] at ih1⊢;have hb:=Adr hx.1 (j:=j) (by have:=hx.2.1;omega);have hbk:=Abk x.bs;have hs:(gt x.ls j).sure<9223372036854775807:=by
    have h1:=hm.st;have h2:=hm.b1;have h3:=hm.kl;unfold minI at h1;split at h1<;>omega
   have hs0:0≤(gt x.ls j).sure:=Int.le_trans hm.b0 hm.s0;clear ih;exact za (gg [.b (!Bool.false) zg,.tt,.tt,.a _ _,.tt,.tt,.f zy (↑(gt x.bs j):Int) (blkKeys x.bs) (zb j),.g (zw js x.ls) j (js (gt x.ls j)),.i zy ((gt x.ls j).sure+1) ((gt x.ls j).sure+1),.f zy (↑(gt x.bs j):Int) (blkKeys x.bs) (zb j),.g (zw js x.ls) j (js (gt x.ls j)),.t (T.sl 0 (qz (zw js x.ls) j (qe [ti (gt x.ls j).line.region,ti (gt x.ls j).line.base,T.sl 1 (zw zi (gt x.ls j).line.sure),T.sl 1 (zw bools (gt x.ls j).line.known),T.sl 1 (zw ti (gt x.ls j).near),ti (gt x.ls j).steps,ti ((gt x.ls j).sure+1)]))) (T.sl 0 (zw js (qz x.ls j (Mk.mk (gt x.ls j).line (gt x.ls j).near (gt x.ls j).steps ((gt x.ls j).sure+1))))),.a _ _] ⟨bK,o_a hG,oQ hb,oH,oI,oQ hb,oH,o_l (Aaq (e:=Mk.mk (gt x.ls j).line (gt x.ls j).near (gt x.ls j).steps ((gt x.ls j).sure+1)) rfl rfl),o_a ih1,tI⟩ ge)
theorem Aiv (A:List T) (n k:Nat) (x:Lines) (ag:Bool):
  Is cx (.loop 122 [0,1,0,0,1,1,0,0,1,1,0,1,0,0,1,0,1,1,1] 0 [.ptr 0 0 0,vb ag,.t .nilp,.all 1 zx,vi n,vi k] (linesA x A)) ⟨.exit 6,[.ptr 0 0 0,vb ag,.t .nilp,.all 1 zx,vi n,vi k],linesA x A⟩:=by
 exact za (gg [.b (!Bool.true) zq,.ff,.ff,.ff,.ff] ⟨bK,tI⟩ ge)
end Go.Eva.S8
namespace Go.Eva.S8
theorem AcN (bs:List Nat) (m:Nat) (al:List (Option Nat)) (hal: ∀j,zb j∈al→j<m) (hlen:al.length≤1000): ∀(d k:Nat) (x:Lines) (ag:Bool),k+d=al.length→x.fine bs m→
  Is cx (.loop 122 [0,1,1,0,1,0,0,1,0,1,1,1] 0 [.ptr 0 0 0,vb ag,.all 1 zx,vi al.length,vi k] (linesA x (al.map (pinO bs))))
   ⟨.exit 4,[.ptr 0 0 0,vb (xx ag x (al.drop k)).1,.all 1 zx,vi al.length,vi al.length],linesA (xx ag x (al.drop k)).2 (al.map (pinO bs))⟩:=by
 intro d;induction d with
 |zero=>
  intro k x ag hid hx;rw [Aad (by omega)];obtain rfl:k=al.length:=by omega
  simp only [xx];exact za (gg [.b (decide ((↑(zj al):Int)<(↑(zj al):Int))) zq] ⟨fP,tI⟩ ge)
 |succ d ih=>
  intro k x ag hid hx;have hlt:k<al.length:=by omega
  rw [Aaf hlt];have hmem:=Aat hlt;have hgo:al[k]?=zb (gt al k):=by simp [gt,hlt]
  cases ho:gt al k with
  |none=>
   rw [ho] at hgo;have ih1:=ih (k+1) x ag (by omega) hx;have hC:=Aiv (al.map (pinO bs)) al.length k x ag;simp only [xx];clear ih;exact za (gg [.b (decide ((k:Int)<(↑(zj al):Int))) zg,.w (0≤(k:Int)),.n (zm (k:Int)) k,.w (k<zj (zw (pinO bs) al)),.g (zw (pinO bs) al) k (pinO bs zx),.a _ _,.i zy ((k:Int)+1) (↑(k+1):Int),.a _ _] ⟨tP,oW,nK,oS,o_gm rfl hgo (by intro h;cases h),o_a hC,oI,o_a ih1,tI⟩ ge)
  |some j=>
   rw [ho] at hgo hmem;have hj:=hal j hmem;have hC:=Ahh (al.map (pinO bs)) j al.length k (x.left j) x ag hx.1 (by have:=hx.2.2.1;omega) (hx.2.2.2 j hj) (by unfold Lines.left;omega);rw [hx.2.1] at hC;have ih1:=ih (k+1) (uk (x.left j) x j) (ag||x.goes (gt x.ls j)) (by omega) (Aee hj hx);simp only [xx];generalize (ag||x.goes (gt x.ls j))=b at*;generalize uk (x.left j) x j=y at*;clear ih;exact za (gg [.b (decide ((k:Int)<(↑(zj al):Int))) zg,.w (0≤(k:Int)),.n (zm (k:Int)) k,.w (k<zj (zw (pinO bs) al)),.g (zw (pinO bs) al) k (pinO bs (zb j)),.a _ _,.i zy ((k:Int)+1) (↑(k+1):Int),.a _ _] ⟨tP,oW,nK,oS,o_gm rfl hgo (by intro h;cases h),o_a hC,oI,o_a ih1,tI⟩ ge)
end Go.Eva.S8
namespace Go.Eva.S8
theorem Ae3 (x:Lines) (A:List T):Is cx (.loop 122 [0,1,0,1,1,1] 0 [.ptr 0 0 0,vb zq] (linesH x A)) ⟨.exit 2,[.ptr 0 0 0,vb zq],linesH x A⟩:=by
 exact za (gg [.ff] tI ge)
theorem Aiu (bs:List Nat) (m:Nat) (al:List (Option Nat)) (hal: ∀j,zb j∈al→j<m) (hlen:al.length≤1000): ∀(d:Nat) (x:Lines),x.fine bs m→lefts x.ls≤d→
  Is cx (.loop 122 [0,1,0,1,1,1] 0 [.ptr 0 0 0,vb zg] (linesH x (al.map (pinO bs)))) ⟨.exit 2,[.ptr 0 0 0,vb zq],linesH (uv al d x) (al.map (pinO bs))⟩:=by
 intro d;induction d with
 |zero=>
  intro x hx hd;have hS:=AcN bs m al hal hlen al.length 0 x zq (by omega) hx;rw [qr] at hS;obtain ⟨h1,h2,h3⟩:=AaT (ag:=zq) hx hal;have hE:=Ae3 (xx zq x al).2 (al.map (pinO bs));have hf:(xx zq x al).1=zq:=by
   cases h:(xx zq x al).1 with
   |false=>rfl
   |true=>
    rcases h3 h with h|h
    ·contradiction
    ·omega
  rw [hf] at hS;simp only [uv];generalize (xx zq x al).2=y at*;exact za (gg [.tt,.n (zj (zw (pinO bs) al)) (zj al),.a _ _,.a _ _] ⟨oM,o_a hS,o_a hE,tI⟩ ge)
 |succ d ih=>
  intro x hx hd;have hS:=AcN bs m al hal hlen al.length 0 x zq (by omega) hx;rw [qr] at hS;obtain ⟨h1,h2,h3⟩:=AaT (ag:=zq) hx hal;have hE:=Ae3 (xx zq x al).2 (al.map (pinO bs));simp only [uv];cases hf:(xx zq x al).1 with
  |false=>
   rw [hf] at hS;clear ih;simp only;generalize (xx zq x al).2=y at*;exact za (gg [.tt,.n (zj (zw (pinO bs) al)) (zj al),.a _ _,.a _ _] ⟨oM,o_a hS,o_a hE,tI⟩ ge)
  |true=>
   have hlt:lefts (xx zq x al).2.ls≤d:=by
    rcases h3 hf with h|h
    ·contradiction
    ·omega
   have ih1:=ih (xx zq x al).2 h1 hlt;rw [hf] at hS;clear ih hE;simp only;generalize (xx zq x al).2=y at*;exact za (gg [.tt,.n (zj (zw (pinO bs) al)) (zj al),.a _ _,.a _ _] ⟨oM,o_a hS,o_a ih1,tI⟩ ge)
end Go.Eva.S8
namespace Go.Eva.S8
theorem Aiw (bs:List Nat) (ls:List Mk) (hn:bs.Nodup) (hbl:bs.length=ls.length) (al:List (Option Nat)) (hal: ∀j,zb j∈al→j<ls.length) (hlen:al.length≤1000): ∀(d k:Nat) (O:List Int),k+d=al.length→O.length≤k→
  Is cx (.loop 122 [0,1,0,1,1,1,1,1] 0 [.all 0 zx,.all 1 zx,vi al.length,vi k] [.arr 1 (O.map ti) zx zq,.arr 1 (al.map (pinO bs)) zx zq,.pool bs (ls.map js)])
   ⟨.exit 8,[.all 0 zx,.all 1 zx,vi al.length,vi al.length],[.arr 1 ((O++(al.drop k).map (sureO ls)).map ti) zx zq,.arr 1 (al.map (pinO bs)) zx zq,.pool bs (ls.map js)]⟩:=by
 intro d;induction d with
 |zero=>
  intro k O hid hO;rw [Aad (by omega),List.map_nil,List.append_nil];obtain rfl:k=al.length:=by omega
  exact za (gg [.b (decide ((↑(zj al):Int)<(↑(zj al):Int))) zq] ⟨fP,tI⟩ ge)
 |succ d ih=>
  intro k O hid hO;have hlt:k<al.length:=by omega
  rw [Aaf hlt];have hmem:=Aat hlt;have hgo:al[k]?=zb (gt al k):=by simp [gt,hlt]
  have ih1:=ih (k+1) (O++ [sureO ls (gt al k)]) (by omega) (by simp;omega);rw [List.append_assoc,List.singleton_append] at ih1;rw [List.map_cons];have hbk:=Abk bs;cases ho:gt al k with
  |none=>
   rw [ho] at hgo ih1;generalize sureO ls zx::zw (sureO ls) (z6 (k+1) al)=Z at*;simp only [sureO] at ih1;clear ih;exact za (gg [.b (decide ((k:Int)<(↑(zj al):Int))) zg,.w (0≤(k:Int)),.n (zm (k:Int)) k,.w (k<zj (zw (pinO bs) al)),.g (zw (pinO bs) al) k (pinO bs zx),.tt,.w ((0:Nat)<(8:Nat)),.t (T.sl 0 [ti (-1)]) (T.sl 0 (zw (xc zy) [-1])),.t (T.sl 0 (zw ti O++zw (xc zy) [-1])) (T.sl 0 (zw ti (O++ [-1]))),.w (room (zj (zw ti (O++ [(-1:Int)]))) (8:Nat)),.i zy ((k:Int)+1) (↑(k+1):Int),.a _ _] ⟨tP,oW,nK,oS,o_gm rfl hgo (by intro h;cases h),oW,o_l (Aa1 rfl AaC),o_l (Aa3 rfl rfl),oR,oI,o_a ih1,tI⟩ ge)
  |some j=>
   rw [ho] at hgo hmem ih1;have hj:=hal j hmem;have hb:=Adr hn (j:=j) (by omega);generalize sureO ls (zb j)::zw (sureO ls) (z6 (k+1) al)=Z at*;simp only [sureO] at ih1;clear ih;exact za (gg [.b (decide ((k:Int)<(↑(zj al):Int))) zg,.w (0≤(k:Int)),.n (zm (k:Int)) k,.w (k<zj (zw (pinO bs) al)),.g (zw (pinO bs) al) k (pinO bs (zb j)),.ff,.f zy (↑(gt bs j):Int) (blkKeys bs) (zb j),.g (zw js ls) j (js (gt ls j)),.w ((0:Nat)<(8:Nat)),.t (T.sl 0 [ti (gt ls j).sure]) (T.sl 0 (zw (xc zy) [(gt ls j).sure])),.t (T.sl 0 (zw ti O++zw (xc zy) [(gt ls j).sure])) (T.sl 0 (zw ti (O++ [(gt ls j).sure]))),.w (room (zj (zw ti (O++ [(gt ls j).sure]))) (8:Nat)),.i zy ((k:Int)+1) (↑(k+1):Int),.a _ _] ⟨tP,oW,nK,oS,o_gm rfl hgo (by intro h;cases h),oQ hb,oH,oW,o_l (Aa1 rfl AaC),o_l (Aa3 rfl rfl),oR,oI,o_a ih1,tI⟩ ge)
theorem Ag1 (c:Config) (L:List LineL) (h0:0<L.length) (hL:L.length≤1000) (hk: ∀y∈L,y.known.length≤4611686018427387904):
  Ev cx (.loop 122 [0,1,0,1,1] 0 [.ptr 0 0 0,.ptr 1 0 0,.t (.sl 4 (L.map j6)),vi L.length,vi 0] [.one 5 (.t c.enc) zq,.one 2 (.agg [.fit 1 [],.map 3]) zq,.pool [] [],.map [] [] []])
   (fun r=> ∃bs':List Nat,(bs'.Nodup∧bs'.length=(accOf c L).ls.length)∧r=⟨.exit 0,[.ptr 0 0 0,.ptr 1 0 0,.t (.sl 4 (L.map j6)),vi L.length,vi L.length],ofN c bs' (accOf c L).ls (accOf c L).ks ((accOf c L).al.map (pinO bs')) ((accOf c L).vs.map (fun j=>pinL (gt bs' j)))⟩):=by
 have hM:=Ag3 c (gt L 0) (by have:=hk _ (Aat h0);omega);have hacc:accOf c L=(L.drop 1).foldl (xj c) (xj c ⟨[],[],[],[]⟩ (gt L 0)):=by
  unfold accOf
  conv=>lhs;rw [show L=L.drop 0 from rfl,Aaf h0]
  rfl
 rw [hacc];cases hm:madeL c (gt L 0) with
 |none=>
  simp only [hm] at hM;have ha:xj c ⟨[],[],[],[]⟩ (gt L 0)=⟨[],[],[],[zx]⟩:=by simp [xj,hm]
  have ih1:=AdN c L hL hk (L.length-1) 1 ⟨[],[],[],[zx]⟩ [] [.nilp] [] (by omega) List.nodup_nil rfl rfl rfl (by simp) rfl (by simp) (by simp);rw [ha];generalize jl (xj c) _ (L.drop 1)=a at*;clear hacc;refine za (gg [.b (decide (0<(↑(zj L):Int))) zg,.w (0≤(0:Int)),.l 0,.g (zw j6 L) 0 (j6 (gt L 0)),.a _ _,.w ((0:Nat)<(8:Nat)),.s (T.sl 0 [ke]),.s (T.sl 0 [ke]),.w (room (1:Nat) (8:Nat)),.b (!Bool.true) zq,.ff,.ff,.ff,.ff,.ff,.ff] ⟨tP,oW,oH,o_a hM,oW,o_w (by decide),bK,tI⟩ (gg [.ff,.ff,.ff,.ff,.ff,.ff,.i zy 1 1] ⟨oK,tI⟩ ?_));refine ar (t:=c8 122 [0,1,0,1,1] 0 [yn 0 0 0,yn 1 0 0,V.t (T.sl 4 (zw j6 L)),vi (↑(zj L):Int),vi 1] [vh 5 (V.t (wi c)) zq,vh 2 (V.agg [V.all 3 zx,V.map 4]) zq,gl [] [],jy 1 [ke] zx zq,dn [] [] []]) (R':=fun (r:Res)↦ ∃(bs':List Nat),(cz bs'∧zj bs'=zj (jl (xj c) (wx [] [] [] [zx]) (z6 1 L)).ls)∧r=zl (jr 0) [yn 0 0 0,yn 1 0 0,V.t (T.sl 4 (zw j6 L)),vi (↑(zj L):Int),vi (↑(zj L):Int)] (ofN c bs' (jl (xj c) (wx [] [] [] [zx]) (z6 1 L)).ls (jl (xj c) (wx [] [] [] [zx]) (z6 1 L)).ks (zw (pinO bs') (jl (xj c) (wx [] [] [] [zx]) (z6 1 L)).al) (zw (fun (j:Nat)↦pinL (gt bs' j)) (jl (xj c) (wx [] [] [] [zx]) (z6 1 L)).vs))) (by kernel_rfl) ih1 ?_ (fun r1 hr1=> ?_)
  ·exact ⟨_,jq _,⟨kj,y5⟩,rfl⟩
  obtain ⟨bs',hb1,rfl⟩:=hr1;refine rT (a:=zl (jr 0) [yn 0 0 0,yn 1 0 0,V.t (T.sl 4 (zw j6 L)),vi (↑(zj L):Int),vi (↑(zj L):Int)] [vh 5 (V.t (wi c)) zq,vh 2 (V.agg [V.all 3 zx,V.map 4]) zq,gl bs' (zw js (jl (xj c) (wx [] [] [] [zx]) (z6 1 L)).ls),jy 1 (zw (pinO bs') (jl (xj c) (wx [] [] [] [zx]) (z6 1 L)).al) zx zq,dn (zw ti (jl (xj c) (wx [] [] [] [zx]) (z6 1 L)).ks) (zw (fun (j:Nat)↦pinL (gt bs' j)) (jl (xj c) (wx [] [] [] [zx]) (z6 1 L)).vs) []]) ?_;exact ⟨bs',hb1,rfl⟩
 |some m=>
  simp only [hm] at hM;have ha:xj c ⟨[],[],[],[]⟩ (gt L 0)=⟨[m],[m.line.region],[0],[zb 0]⟩:=by simp [xj,hm,findIx]
  have hfn:=fun (n:Nat) (hnn:n∉([]:List Nat))=>AmP (bs:= []) (n:=n) hnn;have ih1:=fun (n:Nat)=>AdN c L hL hk (L.length-1) 1 ⟨[m],[m.line.region],[0],[zb 0]⟩ [n] [pinL n] [pinL n] (by omega) (by simp) rfl rfl rfl (by simp) rfl (by simp) (by simp);rw [ha];generalize jl (xj c) _ (L.drop 1)=a at*;clear hacc;refine za (gg [.b (decide (0<(↑(zj L):Int))) zg,.w (0≤(0:Int)),.l 0,.g (zw j6 L) 0 (j6 (gt L 0)),.a _ _] ⟨tP,oW,oH,o_a hM,tI⟩ ?_);refine nw (no:= []) (by kernel_rfl) (fun c1 hc1=> ?_);refine gg [.t (T.sl 0 [js m]) (T.sl 0 (zw js [m])),.w ((0:Nat)<(8:Nat)),.s (T.sl 0 [be (wz (zb (pv c1 0 zx)))]),.s (T.sl 0 [be (wz (zb (pv c1 0 zx)))]),.w (room (zj [be (wz (zb (pv c1 (0:Nat) zx)))]) (8:Nat)),.b (!Bool.false) zg,.tt,.tt,.tt,.tt,.tt,.tt,.tt,.tt,.f zy (c1:Int) [ti (c1:Int)] (zb (zj [])),.g [js m] 0 (js m)] ⟨o_l (Aa1 rfl AaC),oW,o_w (by (simp [room,appendMax])),bK,o_f (by kernel_rfl) (hfn _ (by assumption)),oG,tI⟩ (gg [.tt,.f zy m.line.region [] zx,.tt,.tt,.tt,.f zy (c1:Int) [ti (c1:Int)] (zb (zj [])),.g [js m] 0 (js m),.f zy m.line.region [] zx,.t (T.sl 0 [ti m.line.region]) (T.sl 0 (zw (xc zy) [m.line.region])),.s (T.sl 0 [be (wz (zb (pv c1 0 zx)))]),.i zy 1 1] ⟨oF,o_f (by kernel_rfl) (hfn _ (by assumption)),oG,oF,o_l (Aa1 rfl AaC),oK,tI⟩ ?_);refine ar (t:=c8 122 [0,1,0,1,1] 0 [yn 0 0 0,yn 1 0 0,V.t (T.sl 4 (zw j6 L)),vi (↑(zj L):Int),vi 1] [vh 5 (V.t (wi c)) zq,vh 2 (V.agg [V.all 3 zx,V.map 4]) zq,gl ([]++ [c1]) (zw js [m]),jy 1 [be (wz (zb (pv c1 0 zx)))] zx zq,dn [ti m.line.region] [be (wz (zb (pv c1 0 zx)))] []]) (R':=fun (r:Res)↦ ∃(bs':List Nat),(cz bs'∧zj bs'=zj (jl (xj c) (wx [m] [m.line.region] [0] [zb 0]) (z6 1 L)).ls)∧r=zl (jr 0) [yn 0 0 0,yn 1 0 0,V.t (T.sl 4 (zw j6 L)),vi (↑(zj L):Int),vi (↑(zj L):Int)] (ofN c bs' (jl (xj c) (wx [m] [m.line.region] [0] [zb 0]) (z6 1 L)).ls (jl (xj c) (wx [m] [m.line.region] [0] [zb 0]) (z6 1 L)).ks (zw (pinO bs') (jl (xj c) (wx [m] [m.line.region] [0] [zb 0]) (z6 1 L)).al) (zw (fun (j:Nat)↦pinL (gt bs' j)) (jl (xj c) (wx [m] [m.line.region] [0] [zb 0]) (z6 1 L)).vs))) (by kernel_rfl) (ih1 c1) ?_ (fun r2 hr2=> ?_)
  ·exact ⟨_,jq _,⟨kj,y5⟩,rfl⟩
  obtain ⟨bs',hb1,rfl⟩:=hr2;refine rT (a:=zl (jr 0) [yn 0 0 0,yn 1 0 0,V.t (T.sl 4 (zw j6 L)),vi (↑(zj L):Int),vi (↑(zj L):Int)] [vh 5 (V.t (wi c)) zq,vh 2 (V.agg [V.all 3 zx,V.map 4]) zq,gl bs' (zw js (jl (xj c) (wx [m] [m.line.region] [0] [zb 0]) (z6 1 L)).ls),jy 1 (zw (pinO bs') (jl (xj c) (wx [m] [m.line.region] [0] [zb 0]) (z6 1 L)).al) zx zq,dn (zw ti (jl (xj c) (wx [m] [m.line.region] [0] [zb 0]) (z6 1 L)).ks) (zw (fun (j:Nat)↦pinL (gt bs' j)) (jl (xj c) (wx [m] [m.line.region] [0] [zb 0]) (z6 1 L)).vs) []]) ?_;exact ⟨bs',hb1,rfl⟩
theorem Ann (c:Config) (L:List LineL) (h0:0<L.length) (hL:L.length≤1000) (hk: ∀y∈L,y.known.length≤4611686018427387904):
  Is cx (.call 122 [.t c.enc,.t (.sl 4 (L.map j6))] []) ⟨.ret,[.all 0 zx],[.arr 1 ((marksL c L).map ti) zx zq]⟩:=by
 have hF:=Ag1 c L h0 hL hk;obtain ⟨hok,hal⟩:=AmM (c:=c) (L:=L) (a:=⟨[],[],[],[]⟩) ⟨rfl,by simp,by simp,by simp⟩ hk;change (accOf c L).ok at hok;change (accOf c L).al.length=0+L.length at hal;have hlen:(accOf c L).al.length≤1000:=by omega
 have hfix:=fun (bs:List Nat) (hn1:bs.Nodup) (hn2:bs.length=(accOf c L).ls.length)=>Aiu bs (accOf c L).ls.length (accOf c L).al hok.al hlen (lefts (accOf c L).ls) ⟨bs,(accOf c L).ls,(accOf c L).ks,(accOf c L).vs⟩ ⟨⟨hn1,hn2,hok.vk,fun i hi=>hok.vs _ (Aat (by have:=hok.vk;simp only at hi;omega))⟩,rfl,rfl,fun i hi=>hok.ls _ (Aat hi)⟩ (qn _);have hY:(uv (accOf c L).al (lefts (accOf c L).ls) (accOf c L).lines).ls.length=(accOf c L).ls.length:=by
  have h:=Ale (x:=⟨jq (accOf c L).ls.length,(accOf c L).ls,(accOf c L).ks,(accOf c L).vs⟩) (d:=lefts (accOf c L).ls) hok.al ⟨⟨kj,y5,hok.vk,fun i hi=>hok.vs _ (Aat (by have:=hok.vk;simp only at hi;omega))⟩,rfl,rfl,fun i hi=>hok.ls _ (Aat hi)⟩;have h2:=h.2.2.1;rw [show (⟨jq (accOf c L).ls.length,(accOf c L).ls,(accOf c L).ks,(accOf c L).vs⟩:Lines)=(accOf c L).lines.at (jq (accOf c L).ls.length) from rfl,Anu] at h2;exact h2
 have hfix2: ∀bs,uv (accOf c L).al (lefts (accOf c L).ls) ⟨bs,(accOf c L).ls,(accOf c L).ks,(accOf c L).vs⟩=(uv (accOf c L).al (lefts (accOf c L).ls) (accOf c L).lines).at bs:=fun bs=>Anu (x:=(accOf c L).lines) (b:=bs);simp only [hfix2] at hfix;clear hfix2;unfold marksL;generalize uv (accOf c L).al (lefts (accOf c L).ls) (accOf c L).lines=y at*;generalize accOf c L=a at*;have hout:=fun (bs:List Nat) (hn1:bs.Nodup) (hn2:bs.length=a.ls.length)=>Aiw bs y.ls hn1 (by rw [hY];exact hn2) a.al (by rw [hY];exact hok.al) hlen a.al.length 0 [] (by omega) (Nat.zero_le _);simp only [qr,List.nil_append] at hout;refine za (gg [.n (zj (zw j6 L)) (zj L)] ⟨oM,tI⟩ ?_);refine ar (t:=c8 122 [0,1,0,1,1] 0 [yn 0 0 0,yn 1 0 0,V.t (T.sl 4 (zw j6 L)),vi (↑(zj L):Int),vi 0] [vh 5 (V.t (wi c)) zq,vh 2 (V.agg [V.fit 1 [],V.map 3]) zq,gl [] [],dn [] [] []]) (R':=fun (r:Res)↦ ∃(bs':List Nat),(cz bs'∧zj bs'=zj a.ls)∧r=zl (jr 0) [yn 0 0 0,yn 1 0 0,V.t (T.sl 4 (zw j6 L)),vi (↑(zj L):Int),vi (↑(zj L):Int)] (ofN c bs' a.ls a.ks (zw (pinO bs') a.al) (zw (fun (j:Nat)↦pinL (gt bs' j)) a.vs))) (by kernel_rfl) hF ?_ (fun r1 hr1=> ?_)
 ·exact ⟨_,jq _,⟨kj,y5⟩,rfl⟩
 obtain ⟨bs',⟨hb1,hb2⟩,rfl⟩:=hr1;exact gg [.a _ _,.n (zj (zw (pinO bs') a.al)) (zj a.al),.a _ _] ⟨o_a (hfix bs' (by assumption) (by assumption)),oM,o_a (hout bs' (by assumption) (by assumption)),tI⟩ ge
end Go.Eva.S8
namespace Go.Eva.S8
theorem Ahl (L:List Int) (hL:L.length≤16): ∀(d i:Nat) (p:EngP),i+d=L.length→ReadysOk p (L.drop i)→
  Is cx (.loop 64 [0,1,1,1,1] 1 [.ptr 0 0 0,.t (.sl 1 (L.map ti)),.t (.sl 1 (L.map ti)),vi L.length,vi i] [p.ob])
   ⟨.exit 8,[.ptr 0 0 0,.t (.sl 1 (L.map ti)),.t (.sl 1 (L.map ti)),vi L.length,vi L.length],[(p.readyL (L.drop i)).ob]⟩:=by
 intro d;induction d with
 |zero=>
  intro i p hi hok;obtain rfl:i=L.length:=by omega
  rw [Aad (qn _)];simp only [d7];exact za (gg [.b (decide ((↑(zj L):Int)<(↑(zj L):Int))) zq] ⟨fP,tI⟩ ge)
 |succ d ih=>
  intro i p hi hok;have hlt:i<L.length:=by omega
  rw [Aaf hlt] at hok⊢;simp only [ReadysOk,d7] at hok⊢;obtain ⟨⟨hp,his,k,hk,hm0,hm1⟩,hok2⟩:=hok;have hkl:k<p.subs.length:=by have:=(AdV hk).1;have:=hp.len;omega
  have hgl:L[i]?=zb (gt L i):=Aa7 hlt;have hkb:=AaR p.rs;have hget:(p.subs.map jw)[k]?=zb (gt p.subs k).shut:=by rw [qb,Aa7 hkl];rfl
  have hsf:=hp.subs k hkl;have hset:=fun (x:Sub)=>show (p.subs.map jw).set k x.shut=(p.subs.set k x).map jw from (gq ..).symm;have hk2:=hk;simp only [EngP.ix] at hk2;have e1:p.ready1 (gt L i)=p.put k {gt p.subs k with ready:=readyN p (gt L i) (gt p.subs k).base.frame ((gt p.subs k).mark-(gt p.subs k).base.frame).toNat (gt p.subs k).mark}:=by
   simp only [EngP.ready1,hk]
  have ih1:=ih (i+1) (p.ready1 (gt L i)) (by omega) hok2;rw [e1] at ih1⊢;have hI:=Ad9 p hp k (gt p.subs k) hkl hsf rfl rfl (gt L i) his (L.map ti) L.length i ((gt p.subs k).mark-(gt p.subs k).base.frame).toNat (gt p.subs k).mark rfl ⟨hm0,hm1⟩;generalize readyN p (gt L i) (gt p.subs k).base.frame ((gt p.subs k).mark-(gt p.subs k).base.frame).toNat (gt p.subs k).mark=Y at*;have hs1:=hset {gt p.subs k with ready:=Y};have hs2:=hset {gt p.subs k with ready:=(gt p.subs k).mark};clear ih hok2 hset e1 hk;generalize d7 (p.put k {gt p.subs k with ready:=Y}) (L.drop (i+1))=Z at*;simp only [EngP.put,gi,yb,gu,uu] at ih1⊢;generalize (p.subs.set k {gt p.subs k with ready:=Y}).map jw=SS' at*;generalize gt p.subs k=s at*;simp only [focB,yb] at hI;generalize p.rs.map ti=KS at*;generalize p.subs.map jw=SS at*;simp only [jw] at hs1;simp only [jw,Sub.enc] at hget;clear hs2;exact za (gg [.b (decide ((i:Int)<(↑(zj L):Int))) zg,.w (0≤(i:Int)),.n (zm (i:Int)) i,.g (zw ti L) i (ti (gt L i)),.f zy (gt L i) KS (zb k),.g SS k (T.box 10 (qe [ti s.base.frame,T.sl 9 (zw zk s.base.ents),T.sl 15 [],T.row 1 (zw Rec.ip s.recs),T.row 1 (zw zi s.sure),zi s.settled,ti s.now,inbT s.inb,ti s.mark,ti s.ready])),.a _ _,.i zy ((i:Int)+1) (↑(i+1):Int),.t (T.sl 0 (qz SS k (T.box 10 (Sub.enc (Sub.mk s.base s.recs s.sure s.settled s.now s.inb s.mark Y))))) (T.sl 0 SS'),.a _ _] ⟨tP,oW,nK,o_gm rfl hgl (by intro h;cases h),oQ hk2,o_g hget (by intro h;cases h),o_a hI,oI,o_l hs1,o_a ih1,tI⟩ ge)
theorem Anv (M:List Int):flat2s (M.map ti)=zg:=Ah5 fun _=>rfl
theorem Ajg (p:EngP) (hp:p.Fit) (L:List Int) (h0:0<L.length) (hL:L.length≤16) (hnow:0≤p.now∧p.now≤10000) (hin: ∀r∈L,∃k,p.ix r=zb k)
  (hmk:(marksL p.c (p.lines L)).length=L.length) (h1:MarksOk p L (marksL p.c (p.lines L))) (h2:ReadysOk (p.markL L (marksL p.c (p.lines L))) L):
  Is cx (.call 64 [.ptr 0 0 0,.t (.sl 1 (L.map ti))] [p.ob]) ⟨.ret,[],[((p.markL L (marksL p.c (p.lines L))).readyL L).ob]⟩:=by
 have hA:=fun x0 x8 x9 x10 u1 u2=>Ahj p hp x0 x8 x9 x10 u1 u2 L hL hin L.length 0 (by omega);have hO:=Ann p.c (p.lines L) (by simpa [EngP.lines] using h0) (by simp [EngP.lines];omega) (fun y hy=>by
  obtain ⟨r,hr,rfl⟩:=vg.1 hy;obtain ⟨k,hk⟩:=hin r hr;have hkl:k<p.subs.length:=by have:=(AdV hk).1;have:=hp.len;omega
  have:=(hp.subs k hkl).recs;simp only [Sub.line,EngP.subAt,hk,List.length_replicate];omega)
 have hB:=Ahk L (marksL p.c (p.lines L)) hL hmk p.now hnow L.length 0 p (by omega) rfl h1;have hC:=Ahl L hL L.length 0 (p.markL L (marksL p.c (p.lines L))) (by omega) h2;simp only [qr,List.take_zero] at hA hB hC;simp only [EngP.lines,List.map_nil] at hA;change∀x0 x8 x9 x10 u1 u2,Is cx _ ⟨_,_,[.arr 4 ((p.lines L).map j6) zx zq]⟩ at hA;have hfl:=Anv (marksL p.c (p.lines L));rw [←hmk] at hB;clear hin h1 h2;generalize d7 (p.markL L (marksL p.c (p.lines L))) L=Z at*;generalize p.markL L (marksL p.c (p.lines L))=Y at*;generalize marksL p.c (p.lines L)=M at*;generalize p.lines L=LL at*;simp only [gi,yb,gu,uu] at*;generalize p.rs.map ti=KS at*;generalize p.subs.map jw=SS at*;generalize noneT p.c=DD at*;have hfx:flats (M.map ti)=zg:=by
  clear hB hO hmk hfl;induction M with
  |nil=>rfl
  |cons a l ih=>simp [flats,T.flat,ih]
 refine za (gg [.s (T.ip 11 (qe [T.ip 1 (qe [T.sl 3 (zw wk p.cols)]) 0,ti p.c.cols,ti p.c.rows,ti p.c.players,ti p.c.window,xc zr p.c.seed,T.ip 1 (qe [T.sl 1 (deeps DD)]) 0,T.mp KS (deeps SS),ti p.now,ti p.dirty,ti p.steps]) 0)] tI ?_);refine vl (by kernel_rfl) (fun u1=> ?_);refine vl (by kernel_rfl) (fun u2=> ?_);exact gg [.n (zj (zw ti L)) (zj L),.a _ _,.a _ _,.n (zj (zw ti M)) (zj M),.w (u1=u1),.w (u2=u2),.w (flat2s (zw ti M)=zg),.a _ _,.n (zj (zw ti L)) (zj L),.a _ _] ⟨oM,o_a (hA (T.ip 1 (qe [T.sl 3 (zw wk p.cols)]) 0) (ti p.now) (ti p.dirty) (ti p.steps) u1 u2),o_a hO,oM,o_w rfl,o_w rfl,oA,o_a hB,oM,o_a hC,tI⟩ ge
end Go.Eva.S8
namespace Go.Eva.S8
theorem Aet (L:List Int) (hL:L.length≤16) (now:Int) (hnow:0≤now∧now≤10000): ∀(d:Nat) (f:Int) (p:EngP) (n:Int),p.now=now→(d=0∧now≤f∨0≤f∧f+d=now)→0≤n∧n+16*d≤1000000→FramesOk L d f (p,n)→
  Is cx (.loop 17 [0,1,0,1,1,1,1] 1 [.ptr 0 0 0,vi n,.t (.sl 1 (L.map ti)),vi f] [p.ob])
   ⟨.exit 0,[.ptr 0 0 0,vi (yg L d f (p,n)).2,.t (.sl 1 (L.map ti)),vi (f+d)],[(yg L d f (p,n)).1.ob]⟩:=by
 intro d;induction d with
 |zero=>
  intro f p n hpn hf hn hok;have hle: ¬f<p.now:=by omega
  simp only [yg];have e:f+((0:Nat):Int)=f:=by simp
  rw [e];clear hok;simp only [gi,yb,gu,uu];generalize p.rs.map ti=KS at*;generalize p.subs.map jw=SS at*;exact za (gg [.b (decide (f<p.now)) zq] ⟨fA,tI⟩ ge)
 |succ d ih=>
  intro f p n hpn hf hn hok;obtain ⟨hok1,hok2⟩:=hok;have hlt:f<p.now:=by omega
  have hI:=Aes L hL f (by omega) L.length 0 p n (by omega) (by omega) (by rw [qr];exact hok1);rw [qr] at hI;have hle:= @AiA f L (p,n);have hnw:= @AgF f L (p,n);simp only [yg];generalize EngP.lookL f (p,n) L=X at*;obtain ⟨X1,X2⟩:=X;simp only at*;have ih1:=ih (f+1) X1 X2 (by rw [hnw.1];exact hpn) (by omega) (by omega) hok2;have e:f+((d+1:Nat):Int)=f+1+d:=by omega
  rw [e];generalize yg L d (f+1) (X1,X2)=Z at*;obtain ⟨Z1,Z2⟩:=Z;clear ih hok1 hok2;simp only [gi,yb,gu,uu] at*;generalize p.rs.map ti=KS at*;generalize p.subs.map jw=SS at*;exact za (gg [.b (decide (f<p.now)) zg,.n (zj (zw ti L)) (zj L),.a _ _,.i zy (f+1) (f+1),.a _ _] ⟨tA,oM,o_a hI,oI,o_a ih1,tI⟩ ge)
theorem AcK (p:EngP) (h:SettleOk p):Is cx (.call 17 [.ptr 0 0 0] [p.ob]) ⟨.ret,[vi p.settle.2],[p.settle.1.ob]⟩:=by
 obtain ⟨hp,hpos,hnow,hdirty,hsteps,hfr,hp2,hmk,hm1,hm2⟩:=h;have hR:=Air p hp;have hol:p.order.length=p.rs.length:=AjP;have hO:=Aet p.order (by have:=hp.few;omega) p.now hnow (p.now-p.dirty).toNat p.dirty p 0 rfl (by unfold maxD at hdirty;omega) (by omega) hfr;have hnw:= @Aju p.order (p.now-p.dirty).toNat p.dirty (p,0);have hle:= @Alt p.order (p.now-p.dirty).toNat p.dirty (p,0);change p.looked.1.now=_∧p.looked.1.rs=_∧p.looked.1.c=_∧p.looked.1.steps=_ at hnw;change _≤p.looked.2∧p.looked.2≤_ at hle;change Is cx _ ⟨_,[_,vi p.looked.2,_,_],[p.looked.1.ob]⟩ at hO;have hK:=Ajg (wg p.looked) hp2 p.order (by omega) (by have:=hp.few;omega) (by rw [show (wg p.looked).now=p.now from hnw.1];exact hnow) (fun r hr=>by
  have hm:r∈p.rs:=AjQ.1 hr;rw [EngP.ix,show (wg p.looked).rs=p.rs from hnw.2.1];obtain ⟨i,hi,rfl⟩:=List.getElem_of_mem hm;exact ⟨i,by rw [show p.rs[i]=gt p.rs i by simp [gt,hi]];exact AlL hi hp.nd⟩)
 rw [show (wg p.looked).c=p.c from hnw.2.2.1] at hK;have hK:=hK hmk hm1 hm2;unfold EngP.settle;have hb:p.looked.2≤200000:=by
  have h1:(p.order.length:Int)≤16:=by have:=hp.few;omega
  have h2:(((p.now-p.dirty).toNat:Nat):Int)≤10000:=by omega
  have h3:(p.order.length:Int)*(((p.now-p.dirty).toNat:Nat):Int)≤16*10000:=Int.mul_le_mul h1 h2 (by omega) (by omega);simp only at hle;omega
 have h0:0≤p.looked.2:=by simp only at hle;omega
 clear hm1 hm2 hfr hp2 hmk hle hpos;generalize d7 ((wg p.looked).markL p.order (marksL p.c ((wg p.looked).lines p.order))) p.order=Z at*;generalize p.looked=X at*;obtain ⟨X1,X2⟩:=X;simp only at*;simp only [wg,gi,yb,gu,uu,maxD] at*;generalize p.order=OL at*;rw [hnw.2.2.2] at hK hO;generalize X1.rs.map ti=KX at*;generalize X1.subs.map jw=SX at*;generalize p.rs.map ti=KS at*;generalize p.subs.map jw=SS at*;exact za (gg [.ff,.a _ _,.a _ _,.i zy (p.steps+X2) (p.steps+X2),.a _ _] ⟨o_a hR,o_a hO,oI,o_a hK,tI⟩ ge)
end Go.Eva.S8
namespace Go.Eva
def Sub.fitB (s:Sub):Bool:=decide (0≤s.base.frame)&&decide (s.base.frame≤10000)&&ph s.recs.length 10000&&Nat.beq s.sure.length s.recs.length
theorem Sub.fitB_ok {s:Sub} (h:s.fitB=true):s.Fit:=by
 simp only [Sub.fitB,zf,decide_eq_true_eq] at h;exact ⟨⟨h.1.1.1,h.1.1.2⟩,jf h.1.2,zp h.2⟩
def apartB:List Int→Bool
 | []=>true
 |x::r=>r.all (fun y=> !decide (x=y))&&apartB r
theorem AiT: ∀ {l:List Int},apartB l=true→l.Nodup
 | [],_=> .nil
 |x::r,h=>by
  simp only [apartB,zf,jm,Bool.not_eq_true',decide_eq_false_iff_not] at h;exact .cons (fun y hy=>h.1 y hy) (AiT h.2)
def EngP.fitB (p:EngP):Bool:=p.c.right&&Nat.beq p.subs.length p.rs.length&&apartB p.rs&&ph p.rs.length 16&&p.rs.all (fun r=>decide (0≤r)&&decide (r<p.c.regions))&&p.subs.all Sub.fitB
theorem EngP.fitB_ok {p:EngP} (h:p.fitB=true):p.Fit:=by
 simp only [EngP.fitB,zf,jm,decide_eq_true_eq] at h;obtain ⟨⟨⟨⟨⟨h1,h2⟩,h3⟩,h4⟩,h5⟩,h6⟩:=h;exact ⟨h1,zp h2,AiT h3,jf h4,h5,fun i hi=>Sub.fitB_ok (h6 _ (Aat hi))⟩
def outsB (p:EngP) (f:Int):Bool:=p.subs.all fun t=>ph (t.out f).length 10000
theorem Al8 {p:EngP} {f:Int} (hl:p.subs.length=p.rs.length) (h:outsB p f=true) (q:Int):(p.emit q f).length≤10000:=by
 simp only [outsB,jm] at h;unfold EngP.emit;split
 ·rename_i i hi;have:=(AdV hi).1;exact jf (h _ (Aat (by omega)))
 ·simp
def EngP.first (p:EngP) (k:Nat) (x:Input):EngP:= {p with cols:=p.cols.set k ⟨[x],0,false⟩,dirty:=minI p.dirty 0}
def smB {α:Type} (l:List α):Bool:=ph l.length 100000
theorem AgW {α:Type} {l:List α} (h:smB l=true):l.length≤100000:=jf h
def lookB (p:EngP) (k:Nat) (r f:Int):Bool:=
 Nat.blt (gt p.subs k).recs.length 10000&&p.c.is r&&decide ((gt p.subs k).base.frame≤f)&&decide (f≤(gt p.subs k).top)&&outsB p (f-1)&&
 smB (p.come r (gt p.subs k) f)&&smB ((gt p.subs k).at f).ents&&(presentL ((gt p.subs k).at f).ents (p.come r (gt p.subs k) f)).all (fun id=>decide (1≤id)&&decide (id≤p.cols.length))&&
 smB (presentL ((gt p.subs k).at f).ents (p.come r (gt p.subs k) f))&&ph p.cols.length 6&&p.cols.all (fun x=>ph x.l.length 10000)&&decide ((p.cols.length:Int)=p.c.players)&&
 (gt p.subs k).recs.all (fun x=>smB x.st.ents&&smB x.inb&&smB x.ins)
theorem AoX {p:EngP} {k:Nat} {r f:Int} (hp:p.Fit) (hk:k<p.subs.length) (h:lookB p k r f=true):LookOk p k (gt p.subs k) r f:=by
 simp only [lookB,zf,decide_eq_true_eq,jm] at h;obtain ⟨⟨⟨⟨⟨⟨⟨⟨⟨⟨⟨⟨h1,h2⟩,h3⟩,h4⟩,h5⟩,h6⟩,h7⟩,h8⟩,h9⟩,h10⟩,h11⟩,h12⟩,h13⟩:=h;refine ⟨hp,hk,hp.subs k hk,?_,h2,⟨h3,h4⟩,?_,?_,AgW h7,?_,?_,jf h10,fun x hx=>jf (h11 x hx),h12,fun x hx=> ?_⟩
 ·simp [Nat.blt] at h1;omega
 ·rw [Adx hk];exact Al8 hp.len h5
 ·rw [Adx hk];exact AgW h6
 ·rw [Adx hk];exact h8
 ·rw [Adx hk];have:=AgW h9;unfold small;omega
 ·obtain ⟨⟨a,b⟩,c⟩:=h13 x hx;have:=AgW a;have:=AgW b;have:=AgW c;refine ⟨?_,?_,?_⟩<;>unfold small<;>omega
def looksB (f:Int):EngP→List Int→Bool
 |_,[]=>true
 |p,r::l=>p.fitB&&(match p.ix r with
  |some k=> !decide ((gt p.subs k).base.frame≤f)||lookB p k r f
  |none=>false)&&looksB f (p.look1 f r).1 l
theorem Ajv {f:Int}: ∀ {l:List Int} {p:EngP},looksB f p l=true→LooksOk f p l
 | [],_,_=>trivial
 |r::l,p,h=>by
  simp only [looksB,zf] at h;obtain ⟨⟨h1,h2⟩,h3⟩:=h;have hp:=EngP.fitB_ok h1;refine ⟨?_,Ajv h3⟩;cases hk:p.ix r with
  |none=>rw [hk] at h2;simp at h2
  |some k=>
   rw [hk] at h2;have hkl:k<p.subs.length:=by have:=(AdV hk).1;have:=hp.len;omega
   refine ⟨k,rfl,hp.subs k hkl,hkl,fun hf=> ?_⟩;simp only [hf,decide_true,Bool.not_true,Bool.false_or] at h2;exact AoX hp hkl h2
def framesB (L:List Int):Nat→Int→EngP×Int→Bool
 |0,_,_=>true
 |d+1,f,x=>looksB f x.1 L&&framesB L d (f+1) (EngP.lookL f x L)
theorem Ah6 {L:List Int}: ∀ {d:Nat} {f:Int} {x:EngP×Int},framesB L d f x=true→FramesOk L d f x
 |0,_,_,_=>trivial
 |d+1,f,x,h=>by
  simp only [framesB,zf] at h;exact ⟨Ajv h.1,Ah6 h.2⟩
def comeB (p:EngP) (s:Sub) (k:Nat) (r f:Int):Bool:=outsB (p.put k s) (f-1)&&smB ((p.put k s).come r s f)
theorem AoC {p:EngP} {s:Sub} {k:Nat} {r f:Int} (hl:p.subs.length=p.rs.length) (h:comeB p s k r f=true):ComeOk p k s r f:=by
 simp only [comeB,zf] at h;exact ⟨Al8 (by simpa [EngP.put] using hl) h.1,AgW h.2⟩
def marksB:EngP→List Int→List Int→Bool
 |p,r::l,m::ms=>p.fitB&&p.c.is r&&(match p.ix r with
  |some k=>comeB p ((gt p.subs k).told p.now m) k r p.now
  |none=>false)&&marksB (p.mark1 r m) l ms
 |_,_,_=>true
theorem Ajx: ∀ {l ms:List Int} {p:EngP},marksB p l ms=true→MarksOk p l ms
 | [],_,_,_=>by simp [MarksOk]
 |r::l,[],_,_=>by simp [MarksOk]
 |r::l,m::ms,p,h=>by
  simp only [marksB,zf] at h;obtain ⟨⟨⟨h1,h2⟩,h3⟩,h4⟩:=h;have hp:=EngP.fitB_ok h1;refine ⟨⟨hp,h2,?_⟩,Ajx h4⟩;cases hk:p.ix r with
  |none=>rw [hk] at h3;simp at h3
  |some k=>rw [hk] at h3;exact ⟨k,rfl,fun _=>AoC hp.len h3⟩
def readysB:EngP→List Int→Bool
 |_,[]=>true
 |p,r::l=>p.fitB&&p.c.is r&&(match p.ix r with
  |some k=>decide (0≤(gt p.subs k).mark)&&decide ((gt p.subs k).mark≤20000)
  |none=>false)&&readysB (p.ready1 r) l
theorem AhM: ∀ {l:List Int} {p:EngP},readysB p l=true→ReadysOk p l
 | [],_,_=>trivial
 |r::l,p,h=>by
  simp only [readysB,zf] at h;obtain ⟨⟨⟨h1,h2⟩,h3⟩,h4⟩:=h;refine ⟨⟨EngP.fitB_ok h1,h2,?_⟩,AhM h4⟩;cases hk:p.ix r with
  |none=>rw [hk] at h3;simp at h3
  |some k=>rw [hk] at h3;simp only [zf,decide_eq_true_eq] at h3;exact ⟨k,rfl,h3⟩
def settleB (p:EngP):Bool:=p.fitB&&Nat.blt 0 p.rs.length&&decide (0≤p.now)&&decide (p.now≤10000)&&decide (0≤p.dirty)&&decide (p.dirty≤maxD)&&decide (0≤p.steps)&&decide (p.steps≤1000000000)&&
 framesB p.order (p.now-p.dirty).toNat p.dirty (p,0)&&(wg p.looked).fitB&&Nat.beq (marksL p.c ((wg p.looked).lines p.order)).length p.order.length&&
 marksB (wg p.looked) p.order (marksL p.c ((wg p.looked).lines p.order))&&readysB ((wg p.looked).markL p.order (marksL p.c ((wg p.looked).lines p.order))) p.order
theorem Afr {p:EngP} (h:settleB p=true):SettleOk p:=by
 simp only [settleB,zf,decide_eq_true_eq] at h;obtain ⟨⟨⟨⟨⟨⟨⟨⟨⟨⟨⟨⟨h1,h2⟩,h3⟩,h4⟩,h5⟩,h6⟩,h7⟩,h8⟩,h9⟩,h10⟩,h11⟩,h12⟩,h13⟩:=h;exact ⟨EngP.fitB_ok h1,by simp [Nat.blt] at h2;omega,⟨h3,h4⟩,⟨h5,h6⟩,⟨h7,h8⟩,Ah6 h9,EngP.fitB_ok h10,zp h11,Ajx h12,AhM h13⟩
end Go.Eva
namespace Go.Eva.S8
theorem Ajd (cols:List Col) (p:Nat) (hp:p<cols.length) (h6:cols.length≤6):Fn cx 65 [tabT cols,ti (p+1:Nat)] (ti (gt cols p).l.length):=by
 have h:=AdJ cols p hp h6;refine za (gg [.a _ _,.b (!Bool.false) zg,.n (zj (zw zo (gt cols p).l)) (zj (gt cols p).l)] ⟨o_a h,bK,oM,tI⟩ (rT (a:=zl Ex.ret [vi (↑(zj (gt cols p).l):Int)] []) ?_))
 (simp)
abbrev tabO (X:List T):Ob:= .one 1 (.t (.agg [.row 3 X])) zq
abbrev tabP (X:List T):Heap:= [.one 1 (.agg [.all 1 zx]) zq,.arr 3 X zx zq]
theorem Ahb (X:List T) (p:Nat) (hp:p<X.length) (h6:X.length≤6):Is cx (.call 206 [.ptr 0 0 0,vi (p+1:Nat)] [tabO X]) ⟨.ret,[.ptr 1 p 0],tabP X⟩:=by
 exact za (gg [.b (decide ((↑(p+1):Int)<1)) zq,.ff,.ff,.ff,.ff,.ff,.l (zj X),.ff,.ff,.b (decide ((↑(p+1):Int)>(↑(zj X):Int))) zq,.i zy ((↑(p+1):Int)-1) ((↑(p+1):Int)-1),.w (0≤(↑(p+(1:Nat)):Int)-(1:Int)),.n (zm ((↑(p+1):Int)-1)) p,.w (p<zj X)] ⟨bK,fP,oI,oW,oN,oA,tI⟩ ge)
theorem Aeq (X:List T) (p:Nat) (hp:p<X.length) (h6:X.length≤6):Is cx (.call 124 [.ptr 0 0 0,vi (p+1:Nat)] [tabO X]) ⟨.ret,[.ptr 1 p 0],tabP X⟩:=by
 have h:=Ahb X p hp h6;exact za (gg [.ff,.a _ _] ⟨o_a h,tI⟩ ge)
theorem Ae6:Is cx (.call 126 [.t (.sl 3 [])] []) ⟨.ret,[.all 0 zx],[.arr 3 [] zx zq]⟩:=by
 exact za (gg [.l 0,.l 0,.w (0≤(0:Int)),.l 0,.w (0≤(0:Int)),.l 0,.w ((0:Nat)≤(0:Nat)∧(0:Nat)=(0:Nat)∧(0:Nat)≤(0:Nat)),.s (T.sl 3 [])] ⟨oW,oW,o_w ⟨(jf (by kernel_rfl)),⟨rfl,(jf (by kernel_rfl))⟩⟩,tI⟩ ge)
theorem Agm (X:List T) (p:Nat) (x:T):
  Is cx (.loop 66 [0,1,0,1,1,1,1] 1 [.ptr 0 0 0,vi 0,.fit 3 [x],.ptr 1 p 0,vi 1,.fit 3 [x],vi 1,vi 1] (tabP X))
   ⟨.exit 0,[.ptr 0 0 0,vi 0,.fit 3 [x],.ptr 1 p 0,vi 1,.fit 3 [x],vi 1,vi 1],(tabP X)⟩:=by
 exact za (gg [.b (decide (1<1)) zq] ⟨bK,tI⟩ ge)
theorem AfC (X:List T) (p:Nat) (hp:p<X.length) (h6:X.length≤6) (hX:X[p]?=zb Col.new.enc) (x:Input) (hx:x.right=zg):
  Is cx (.loop 66 [0,1,0,1,1,1,1] 1 [.ptr 0 0 0,vi 0,.fit 3 [x.enc],.ptr 1 p 0,vi 0,.fit 3 [x.enc],vi 1,vi 0] (tabP X))
   ⟨.exit 0,[.ptr 0 0 0,vi 0,.fit 3 [x.enc],.ptr 1 p 0,vi 1,.fit 3 [x.enc],vi 1,vi 1],(tabP (X.set p (⟨[x],0,zq⟩:Col).enc))⟩:=by
 have h:=Ab2 x;rw [hx] at h;have hC:=Ae6;have hE:=Agm (X.set p (⟨[x],0,zq⟩:Col).enc) p x.enc;simp only [Col.new,wk] at*;refine za (gg [.b (decide (0<1)) zg,.w (0≤(0:Int)),.l 0,.g [zo x] 0 (zo x),.g X p (qe [T.sl 3 (zw zo []),ti 0,zi zq]),.l 0,.a _ _,.b (!Bool.true) zq,.ff,.ff,.ff,.b (decide (0>0)) zq,.ff,.ff,.ff,.i zy 0 0] ⟨bK,oW,oG,o_g hX (by intro h;cases h),o_a h,bK,bK,oK,tI⟩ (gg [.ff,.ff,.b (decide (0>0)) zq,.i zy 0 0,.b (decide (0<0)) zq,.g X p (qe [T.sl 3 (zw zo []),ti 0,zi zq]),.ff,.ff,.ff,.ff,.ff,.ff,.ff,.ff,.ff,.ff] ⟨bK,oK,bK,o_g hX (by intro h;cases h),tI⟩ (gg [.b (decide (0≥10000)) zq,.g X p (qe [T.sl 3 (zw zo []),ti 0,zi zq])] ⟨bK,o_g hX (by intro h;cases h),tI⟩ (bO ?_ (bO ?_ ?_)))))
 all_goals
  exact gg [.a _ _,.w ((0:Nat)<(24:Nat)),.t (T.sl 0 [zo x]) (T.sl 0 (zw zo [x])),.t (T.sl 0 [zo x]) (T.sl 0 (zw zo [x])),.w (room (zj (zw zo [x])) (24:Nat)),.t (T.sl 3 [zo x]) (T.sl 3 (zw zo [x])),.g X p (qe [T.sl 3 (zw zo []),ti 0,zi zq]),.s (T.sl 0 (qz X p (qe [T.sl 3 (zw zo [x]),ti 0,zi zq]))),.i zy 1 1,.i zy 1 1,.a _ _] ⟨o_a hC,oW,o_l (Aa1 rfl AaC),o_l (Aa1 rfl AaC),o_w (by (simp [room,appendMax])),o_l (Aa1 rfl AaC),o_g hX (by intro h;cases h),oK,oK,o_a hE,tI⟩ ge
theorem Akl (X:List T) (p:Nat) (hp:p<X.length) (h6:X.length≤6) (hX:X[p]?=zb Col.new.enc) (x:Input) (hx:x.right=zg):
  Is cx (.call 66 [.ptr 0 0 0,vi (p+1:Nat),vi 0,.fit 3 [x.enc]] [tabO X])
   ⟨.ret,[vi 1],[tabO (X.set p (⟨[x],0,zq⟩:Col).enc)]⟩:=by
 have h:=Aeq X p hp h6;have hL:=AfC X p hp h6 hX x hx;exact za (gg [.a _ _,.ff,.ff,.ff,.b (decide (0<0)) zq,.l 1,.a _ _] ⟨o_a h,bK,o_a hL,tI⟩ ge)
theorem Anl (p:EngP) (k:Nat) (hk:k<p.cols.length) (h6:p.cols.length≤6) (hX:gt p.cols k=Col.new) (x:Input) (hx:x.right=zg):
  Is cx (.call 18 [.ptr 0 0 0,vi (k+1:Nat),vi 0,.fit 3 [x.enc]] [p.ob]) ⟨.ret,[vi 1],[(p.first k x).ob]⟩:=by
 have h1:=Ajd p.cols k hk h6;have hg:(p.cols.map wk)[k]?=zb Col.new.enc:=by rw [qb,Aa7 hk,hX];rfl
 have h2:=Akl (p.cols.map wk) k (by simpa using hk) (by simpa using h6) hg x hx;have h3:=Acm {p.eng with cols:=p.cols.set k ⟨[x],0,zq⟩} 0;rw [hX] at h1;simp only [EngP.first,gi,yb,gu,uu,gq,tabT,Col.new,List.length_nil] at*;generalize noneT p.c=outs at*;generalize (p.cols.map wk).set k (⟨[x],0,zq⟩:Col).enc=CZ at*;generalize p.cols.map wk=CS at*;generalize p.rs.map ti=KS at*;generalize p.subs.map jw=SS at*;exact za (gg [.ff,.s (T.ip 1 (qe [T.sl 3 CS]) 0),.a _ _,.a _ _,.b (decide (1>0)) zg,.a _ _] ⟨o_a h1,o_a h2,bK,o_a h3,tI⟩ ge)
end Go.Eva.S8
namespace Go.Eva.S8
theorem Ad3 (p:EngP) (r:Int) (hk:r∉p.rs) (hl:p.subs.length=p.rs.length) (hr:regionRight p.c r ⟨0,[]⟩=zg):
  Is cx (.call 15 [.ptr 0 0 0,vi r,.agg [vi 0,.fit 9 [],.fit 15 []]] [p.ob]) ⟨.ret,[vi 0],[(p.add r ⟨0,[]⟩).ob]⟩:=by
 have hn:small (⟨0,[]⟩:Region).ents:=by simp [small]
 have h1:=AkY p.c r;have h2:=AdU p.c r ⟨0,[]⟩ hn;have h3:=AdT ⟨0,[]⟩ hn;have h4:Is cx (.call 60 [.t (.sl 15 [])] []) ⟨.ret,[.t (.sl 15 [])],[.dead]⟩:=Ev.weak_all (n:=0) rfl (Aas [] (by simp [small]));have h5:=Acm {p.eng with ks:=(p.rs++ [r]).map ti,xs:=(p.subs++ [Sub.new ⟨0,[]⟩]).map jw} 0;have hi:(decide (0≤r)&&decide (r<p.c.regions))=zg:=by
  have:p.c.is r=zg:=by simp only [regionRight,zf] at hr;exact hr.1.1.1.1
  have h0:=(wn (v8 this)).1 this;simp;simp [xw,v8 this];omega
 have hf:=AiL hk;have hkb:=AaR p.rs;rw [hr] at h2;simp only [hi] at h1;have e1:p.rs.map ti++ [ti r]=(p.rs++ [r]).map ti:=by simp
 have e2:(p.subs.map jw++ [ke]).set (p.rs.map ti).length (.box 10 (.agg [ti 0,.sl 9 (([]:List Entity).map zk),.sl 15 [],.row 1 [],.row 1 [],.bool zq,ti 0,.sl 15 [],ti 0,ti 0]))=(p.subs++ [Sub.new ⟨0,[]⟩]).map jw:=by
  rw [Ak7 (by simp [hl]),vj];rfl
 have e3:(p.rs.map ti).length=p.rs.length:=by simp
 obtain ⟨c,cols,rs,subs,now,dirty,steps⟩:=p;simp only [mc,gi,yb] at*;generalize noneT c=outs at*;generalize (rs++ [r]).map ti=RS at*;generalize (subs++ [Sub.new ⟨0,[]⟩]).map jw=XS at*;generalize rs.map ti=KS at*;generalize subs.map jw=SS at*;obtain ⟨ZS,e0⟩: ∃ZS,SS++ [ke]=ZS:=⟨_,rfl⟩
 rw [e0] at e2;exact za (gg [.ff,.s (T.ip 11 (qe [T.ip 1 (qe [T.sl 3 (zw wk cols)]) 0,ti c.cols,ti c.rows,ti c.players,ti c.window,xc zr c.seed,T.ip 1 (qe [T.sl 1 (deeps outs)]) 0,T.mp KS (deeps SS),ti now,ti dirty,ti steps]) 0),.a _ _,.b (!Bool.true) zq,.f zy r KS zx,.b (!Bool.true) zq,.a _ _,.b (!Bool.true) zq,.a _ _,.a _ _,.f zy r KS zx,.t (T.sl 0 (KS++ [ti r])) (T.sl 0 RS),.t (T.sl 0 (SS++ [ke])) (T.sl 0 ZS),.l (zj KS),.t (T.sl 0 (qz ZS (zj KS) (T.box 10 (qe [ti 0,T.sl 9 (zw zk []),T.sl 15 [],T.row 1 [],T.row 1 [],zi zq,ti 0,T.sl 15 [],ti 0,ti 0])))) (T.sl 0 XS),.a _ _] ⟨o_a (h1 (T.ip 1 (qe [T.sl 3 (zw wk cols)]) 0) (T.ip 1 (qe [T.sl 1 (deeps outs)]) 0) (T.mp KS (deeps SS)) (ti now) (ti dirty) (ti steps)),bK,oQ hf,bK,o_a h2,bK,o_a h3,o_a h4,oQ hf,o_l e1,o_l e0,o_l e2,o_a h5,tI⟩ ge)
abbrev eP (c:Config) (x0 x6 x8 x9 x10:T) (KS DS:List T):T:= .ip 11 (eA c x0 x6 (.mp KS DS) x8 x9 x10) 0
theorem AfE (c:Config) (x0 x6 x8 x9 x10:T) (KS DS:List T) (k:Nat) (r:Int) (s:Sub) (h1:findIx .i64 r KS=zb k) (h2:keysB .i64 KS=zg) (h3:DS[k]?=zb (.ip 10 s.flat 0)):
  Is cx (.call 127 [.t (eP c x0 x6 x8 x9 x10 KS DS),vi r] []) ⟨.ret,[.t (.ip 10 s.flat 0)],[]⟩:=by
 exact za (gg [.ff,.f zy r KS (zb k),.g DS k (T.ip 10 (Sub.flat s) 0)] ⟨oQ h1,o_g h3 (by intro h;cases h),tI⟩ ge)
theorem AeV (c:Config) (x0 x6 x8 x9 x10:T) (KS DS:List T) (k:Nat) (r:Int) (s:Sub) (h1:findIx .i64 r KS=zb k) (h2:keysB .i64 KS=zg) (h3:DS[k]?=zb (.ip 10 s.flat 0)) (hs:s.settled=zg):
  Is cx (.call 67 [.t (eP c x0 x6 x8 x9 x10 KS DS),vi r] []) ⟨.ret,[.t (.ip 10 s.flat 0)],[]⟩:=by
 have h:=AfE c x0 x6 x8 x9 x10 KS DS k r s h1 h2 h3;obtain ⟨base,recs,sure,settled,now,inb,mark,ready⟩:=s;subst hs;simp only [Sub.flat] at*;clear h1 h2 h3;exact za (gg [.a _ _,.b (!Bool.false) zg,.tt,.tt,.tt,.tt,.tt] ⟨o_a h,bK,tI⟩ ge)
theorem AeS (c:Config) (x0 x6 x8 x9 x10:T) (KS DS:List T) (k:Nat) (r:Int) (s:Sub) (h1:findIx .i64 r KS=zb k) (h2:keysB .i64 KS=zg) (h3:DS[k]?=zb (.ip 10 s.flat 0)) (hs:s.settled=zg):
  Fn cx 21 [eP c x0 x6 x8 x9 x10 KS DS,ti r] (ti s.mark):=by
 have h:=AeV c x0 x6 x8 x9 x10 KS DS k r s h1 h2 h3 hs;obtain ⟨base,recs,sure,settled,now,inb,mark,ready⟩:=s;subst hs;simp only [Sub.flat] at*;clear h1 h2 h3;exact za (gg [.a _ _,.b (!Bool.false) zg] ⟨o_a h,bK,tI⟩ ge)
end Go.Eva.S8
namespace Go.Eva.S8
def cW:Config:=⟨1,1,1,1,0⟩
def pW0:EngP:=(pp cW).add 0 ⟨0,[]⟩
def pW:EngP:= {pW0 with now:=3,dirty:=minI pW0.dirty pW0.now}
def pWB (q:EngP×Int):Bool:=decide (q.2=3)&&decide (q.1.rs= [0])&&decide (q.1.now=3)&&decide (q.1.subs.length=1)&&(gt q.1.subs 0).settled&&decide ((gt q.1.subs 0).mark=3)
theorem pW_ok:SettleOk pW:=Afr (by kernel_rfl)
theorem pW_q:pWB pW.settle=zg:=by kernel_rfl
theorem pW_s:regionRight cW 0 ⟨0,[]⟩=zg:=by kernel_rfl
theorem cW_r:cW.right=zg:=by kernel_rfl
theorem Ae1:Is cx (.call 12 [] []) ⟨.ret,[vb zg],[]⟩:=by
 have h1:=AdS cW cW_r;have h2:=Ad3 (pp cW) 0 (by simp [pp]) rfl pW_s;have h3:=Aer pW0.eng 3;have h4:=AcK pW pW_ok;have hq:=pW_q;generalize pW.settle=Z at*;obtain ⟨⟨c,cols,rs,subs,now,dirty,steps⟩,n⟩:=Z;simp only [pWB,zf,decide_eq_true_eq] at hq;obtain ⟨⟨⟨⟨⟨rfl,rfl⟩,rfl⟩,hl⟩,hs⟩,hm⟩:=hq;have h5:=Anm c 3;have hk1:findIx .i64 0 [ti 0]=zb 0:=rfl;have hk2:keysB .i64 [ti 0]=zg:=rfl;have hk3:(deeps (subs.map jw))[0]?=zb (.ip 10 (gt subs 0).flat 0):=by
  rw [AaE,yf,qb,Aa7 (show 0<subs.length by omega)];rfl
 have h6:=fun x0 x6 x8 x9 x10=>AeS c x0 x6 x8 x9 x10 [ti 0] (deeps (subs.map jw)) 0 0 (gt subs 0) hk1 hk2 hk3 hs;rw [hm] at h6;have e0:(Eng.new cW).ob=(pp cW).ob:=rfl;rw [e0] at h1;have e1:pW0.eng.now=0:=rfl;rw [e1,if_neg (by decide),if_neg (by decide)] at h3;change Is cx _ ⟨.ret,[vi 0],[pW.ob]⟩ at h3;change Is cx _ ⟨.ret,[vi 0],[pW0.ob]⟩ at h2;change Is cx (.call _ _ [pW0.ob]) _ at h3;simp only [gi,yb,gu,uu] at*;clear hk1 hk2 hk3 hs hm hl;generalize subs.map jw=SS at*;exact za (gg [.a _ _,.b (0 !=0) zq,.ff,.ff,.ff,.a _ _,.b (0==0) zg,.tt,.a _ _,.tt,.tt,.b (0==0) zg,.tt,.a _ _,.tt,.tt] ⟨o_a h1,bK,o_a h2,bK,o_a h3,bK,o_a h4,tI⟩ (gg [.b (3==3) zg,.tt,.s (T.ip 11 (qe [T.ip 1 (qe [T.sl 3 (zw wk cols)]) 0,ti c.cols,ti c.rows,ti c.players,ti c.window,xc zr c.seed,T.ip 1 (qe [T.sl 1 (deeps (noneT c))]) 0,T.mp [ti 0] (deeps SS),ti 3,ti dirty,ti steps]) 0),.a _ _,.tt,.tt,.b (3==3) zg,.tt,.s (T.ip 11 (qe [T.ip 1 (qe [T.sl 3 (zw wk cols)]) 0,ti c.cols,ti c.rows,ti c.players,ti c.window,xc zr c.seed,T.ip 1 (qe [T.sl 1 (deeps (noneT c))]) 0,T.mp [ti 0] (deeps SS),ti 3,ti dirty,ti steps]) 0),.a _ _,.tt,.tt] ⟨bK,o_a (h5 (T.ip 1 (qe [T.sl 3 (zw wk cols)]) 0) (T.ip 1 (qe [T.sl 1 (deeps (noneT c))]) 0) (T.mp [ti 0] (deeps SS)) (ti dirty) (ti steps)),bK,o_a (h6 (T.ip 1 (qe [T.sl 3 (zw wk cols)]) 0) (T.ip 1 (qe [T.sl 1 (deeps (noneT c))]) 0) (ti 3) (ti dirty) (ti steps)),tI⟩ ge))
end Go.Eva.S8
namespace Go.Eva.S8
theorem AdX (c:Config) (r:Int):Is cx (.call 56 [.t c.enc,vi r] []) ⟨.ret,[vi (c.cornerX r),vi (c.cornerY r)],[]⟩:=by
 have h:=Agv c r;unfold Config.cornerX Config.cornerY;cases hi:c.is r with
 |false=>
  rw [hi] at h;exact za (gg [.a _ _,.b (!Bool.false) zg] ⟨o_a h,bK,tI⟩ ge)
 |true=>
  rw [hi] at h;have hr:=v8 hi;have hi2:=(wn hr).1 hi;obtain ⟨hc,hrr,_⟩:=ju.1 hr;have k1:=Ac5 (v:=r) (k:=c.cols) (m:=c.rows) (by omega) (by omega) (by omega);have k2:=AbX (v:=r) (k:=c.cols) (by omega) (by omega);exact za (gg [.a _ _,.b (!Bool.true) zq,.w (c.cols≠(0:Int)),.s (ti (yw r c.cols)),.i zy (yw r c.cols*1024) (yw r c.cols*1024),.w (c.cols≠(0:Int)),.i zy (wt r c.cols) (wt r c.cols),.i zy (wt r c.cols*1024) (wt r c.cols*1024)] ⟨o_a h,bK,oW,oI,oW,oI,oI,tI⟩ ge)
end Go.Eva.S8
namespace Go.Eva
open Go.RowKit
noncomputable def peek (live:List Nat) (q:Q (Env×Heap)):Q Res:=q.bind fun x=>(looks x.1 live).bind fun vs=> .ret ⟨.normal,vs,x.2⟩
section
variable {P:Program} {cx:Cx} {n:Nat} {ι:Io} {F:Nat→Prop} {w:kw} {H:Heap} {e:Env} {a:Act} {Q:Exit→Act→kw→Prop}
theorem Aod {live:List Nat} {vs:List V} {H':Heap} {q:Eva.Q (Env×Heap)} (hc:CxTy P cx) (hfn:FnsOK P cx) (h:Wp cx (peek live q) (· =⟨.normal,vs,H'⟩)):
  wpQ (TaskS P cx) q (fun x=>wpQ (TaskS P cx) ((looks x.1 live).bind fun vs=> .ret ⟨.normal,vs,x.2⟩) (· =(⟨.normal,vs,H'⟩:Res))):=
 Aaa _ _ _ (AiO (fun _ _ h=>h P hc hfn) _ _ h.h)
theorem Aoc {live:List Nat} {vs:List V} {H':Heap} (hi:In n ι F w H e a) (h:wpQ (TaskS P cx) ((looks e live).bind fun vs=> .ret ⟨.normal,vs,H⟩) (· =(⟨.normal,vs,H'⟩:Res))):
  H=H'∧In n ι F w H (zipE live vs) a:=by
 obtain ⟨vs',h1,h2⟩:=Ab5 hi (Aaa _ _ _ h);have h1:(⟨.normal,vs',H⟩:Res)=⟨.normal,vs,H'⟩:=h1;injection h1 with _ e1 e2;subst e1 e2;exact ⟨rfl,hi.good,AaM h2,hi.size,hi.defers⟩
theorem Acz {ops:Array Oper} (hc:CxTy P cx) (hfn:FnsOK P cx) (hfit: ∀o∈ops.toList,fitO cx n o=true) {id:Nat} {live:List Nat} {vs:List V} {H':Heap} (hi:In n ι F w H e a) (h:Wp cx (peek live (runOps cx ops.toList ops.toList e H)) (· =⟨.normal,vs,H'⟩))
  (hQ: ∀a' w' ι' F',In n ι' F' w' H' (zipE live vs) a'→Step ι F H w ι' F' H' w'→Q .normal a' w'):(Code.region id ops false).wp P Q a w:=
 AgP hc hfn.callable (fun _ _ _ _ h=>h) hfit hi (Aod hc hfn h) (by
  rintro a' w' ⟨e',H1,ι',F',k1,k2,k3⟩;obtain ⟨rfl,hi'⟩:=Aoc k2 k1;exact hQ a' w' ι' F' hi' k3)
theorem AjY (hi:In n ι F w H e a) (live:List Nat):VRs ι F w H (live.map (look e)) (slots a live):=by
 refine ⟨by simp [slots],fun i v u hv hu=> ?_⟩;simp only [qb,slots] at hv hu;obtain ⟨t,ht,rfl⟩:=qa.1 hv;rw [ht] at hu;simp at hu;subst hu;simpa using hi.sim t
theorem AlS {vs:List V} {us:List Value} {v:V} {u:Value} (h:VRs ι F w H vs us) (hv:VR ι F w H v u):VRs ι F w H (vs++ [v]) (us++ [u]):=by
 refine ⟨by simp [h.1],fun i x y hx hy=> ?_⟩;by_cases hi:i<vs.length
 ·rw [qq hi] at hx;rw [qq (by rw [←h.1];exact hi)] at hy;exact h.2 i x y hx hy
 ·rw [qg (by omega)] at hx;rw [qg (by rw [←h.1];omega),←h.1] at hy;cases hk:i-vs.length with
  |zero=>rw [hk] at hx hy;simp at hx hy;subst hx hy;exact hv
  |succ k=>rw [hk] at hx;simp at hx
theorem AkF {ι':Io} {F':Nat→Prop} {w':kw} {H':Heap} {vs:List V} {us:List Value} (h:VRs ι F w H vs us) (hm: ∀v u,VR ι F w H v u→VR ι' F' w' H' v u):VRs ι' F' w' H' vs us:=
 ⟨h.1,fun i v u hv hu=>hm v u (h.2 i v u hv hu)⟩
noncomputable def peekG (live:List Nat) (q:Eva.Q (Env×Heap)):Eva.Q Res:=q.bind fun x=>(looks x.1 live).bind fun vs=>(gc 0 vs x.2).bind fun g=> .ret ⟨.normal,g.vs,g.H⟩
theorem AjE {ops:Array Oper} (hc:CxTy P cx) (hfn:FnsOK P cx) (hfit: ∀o∈ops.toList,fitO cx n o=true) {id:Nat} {live:List Nat} {vs:List V} {H':Heap} (hi:In n ι F w H e a) (h:Wp cx (peekG live (runOps cx ops.toList ops.toList e H)) (· =⟨.normal,vs,H'⟩))
  (hQ: ∀a' w' ι' F',In n ι' F' w' H' (zipE live vs) a'→(∃ι1 F1 H1,Good ι1 F1 w' H1∧Step ι F H w ι1 F1 H1 w'∧Ext 0 ι1 F1 H1 w' ι' F' H' w')→Q .normal a' w'):(Code.region id ops false).wp P Q a w:=
 AgP hc hfn.callable (fun _ _ _ _ h=>h) hfit hi (Aaa _ _ _ (AiO (fun _ _ h=>h P hc hfn) _ _ h.h)) (by
  rintro a' w' ⟨e',H1,ι1,F1,k1,k2,k3⟩;obtain ⟨vs',h1,h2⟩:=Ab5 k2 (Aaa _ _ _ k1);obtain ⟨g,ιg,h3,_,_,_,hgg,hgv,hge⟩:=gc_ok k2.good (Aaa _ _ _ h1) h2;have h3:(⟨.normal,g.vs,g.H⟩:Res)=⟨.normal,vs,H'⟩:=h3;injection h3 with _ e1 e2;rw [e1] at hgv;rw [e2] at hgg hgv hge;exact hQ a' w' ιg F1 ⟨hgg,AaM hgv,k2.size,k2.defers⟩ ⟨ι1,F1,H1,k2.good,k3,hge⟩)
theorem Aft {ops:Array Oper} (hc:CxTy P cx) (hfn:FnsOK P cx) (hfit: ∀o∈ops.toList,fitO cx n o=true) (hsel:Region.noSelect ops=true) (hQ: ∀c a w,¬Q (.panic c) a w) {d:Ord} {f:Nat} {listed:Array Bool} {fin:Nat→Array Bool→Bool} {live:List Nat} {vs:List V} {H':Heap}
  (hok:okTo cx ops fin d f listed [] []=true) (hi:In n ι F w H e a) (h:Wp cx (peek live (ordQ cx ops.toList d e H)) (· =⟨.normal,vs,H'⟩))
  (hq: ∀f' listed',fin f' listed'=true→ ∀a' w' ι' F',In n ι' F' w' H' (zipE live vs) a'→Step ι F H w ι' F' H' w'→wpAnyR P cx ops Q f' listed' a' w'):wpAnyR P cx ops Q f listed a w:=
 (Ap9 hc hfn.callable (fun _ _ _ _ h=>h) hfit hsel hQ d f listed [] [] (us:= []) hok hi (ApA _ _ _) (by simp) (Aod hc hfn h) (by
  rintro f' listed' hf a' w' ⟨e',H1,ι',F',k1,k2,k3⟩;obtain ⟨rfl,hi'⟩:=Aoc k2 k1;exact hq f' listed' hf a' w' ι' F' hi' k3)).1 rfl
theorem ApN {ops:Array Oper} {f:Nat} {listed:Array Bool} (h:okEnd ops f listed=true) (hq:Q .normal a w):wpAnyR P cx ops Q f listed a w:=by
 have hr:Region.ready .any ops listed= []:=by simpa [okEnd] using h
 cases f with
 |zero=>exact ⟨hr,hq⟩
 |succ f=>exact ⟨fun _=>hq,by rw [hr];simp⟩
theorem retree (hg:Good ι F w H) {id s:Nat} {xs ys:List T} {sp:Option Nat} {ro:Bool} (ho:H[id]?=some (.arr s xs sp ro)) (hl:ys.length=xs.length) (hc: ∀b,CellsR F w b s xs→CellsR F w b s ys):
  Good ι F w (H.set id (.arr s ys sp ro))∧Step ι F H w ι F (H.set id (.arr s ys sp ro)) w:=
 Adn hg ho rfl rfl rfl rfl (fun _ _=>rfl) (.inr ⟨rfl,fun _ _=>rfl,ys,sp,ro,rfl,hl⟩) (fun _=>rfl) (fun _=>by
  obtain ⟨h0,hh,h⟩:=hg.obj id _ ho;refine ⟨h0,hh,?_⟩;rcases h with ⟨h1,h2,h3⟩|⟨b,cs,e,h1,h2,h3,h4,h5,h6,h7⟩
  ·refine .inl ⟨h1,?_,h3⟩;subst h2;exact xa.1 hl
  ·exact .inr ⟨b,cs,e,h1,h2,by rw [hl];exact h3,by rw [hl];exact h4,h5,h6,hc b h7⟩)
theorem retree' (hg:Good ι F w H) {id s:Nat} {xs ys:List T} {sp:Option Nat} {ro:Bool} (ho:H[id]?=some (.arr s xs sp ro)) (hl:ys.length=xs.length) (hc: ∀b,ι id=some b→CellsR F w b s ys):
  Good ι F w (H.set id (.arr s ys sp ro))∧Step ι F H w ι F (H.set id (.arr s ys sp ro)) w:=
 Adn hg ho rfl rfl rfl rfl (fun _ _=>rfl) (.inr ⟨rfl,fun _ _=>rfl,ys,sp,ro,rfl,hl⟩) (fun _=>rfl) (fun _=>by
  obtain ⟨h0,hh,h⟩:=hg.obj id _ ho;refine ⟨h0,hh,?_⟩;rcases h with ⟨h1,h2,h3⟩|⟨b,cs,e,h1,h2,h3,h4,h5,h6,h7⟩
  ·refine .inl ⟨h1,?_,h3⟩;subst h2;exact xa.1 hl
  ·exact .inr ⟨b,cs,e,h1,h2,by rw [hl];exact h3,by rw [hl];exact h4,h5,h6,hc b h1⟩)
theorem widen (hg:Good ι F w H) {R:Nat→Prop} (hR: ∀b,R b→b<w.heap.size∧ ¬Live ι H b):Good ι (fun b=>F b∨R b) w H:=by
 refine ⟨fun b hb=>hb.elim (hg.fin b) fun h=>(hR b h).1,fun id o ho=>(hg.obj id o ho).mono (fun _ h=> .inl h) (fun _ _=>rfl) (fun i o h=>⟨o,h,.refl ι w i o⟩) (fun _=>⟨rfl,rfl⟩) (fun _ _ _=>rfl),hg.inj,?_,fun id o b h1 h2 h3 h4=> .inl (hg.rof id o b h1 h2 h3 h4),hg.nd⟩;rintro b ⟨id,o,h1,h2,h3⟩ (h|h)
 ·exact hg.sep b ⟨id,o,h1,h2,h3⟩ h
 ·exact (hR b h).2 ⟨id,o,h1,by cases o<;>simp_all [Ob.ro,Ob.isDead],h3⟩
theorem Own.live {b:Nat} (h:Own ι H b):Live ι H b:=by
 obtain ⟨id,o,h1,h2,h3⟩:=h;exact ⟨id,o,h1,by cases o<;>simp_all [Ob.ro,Ob.isDead],h3⟩
def RowD (K:Nat→Prop) (ι:Io) (F:Nat→Prop) (w:kw) (H:Heap) (s:Nat) (h:Value) (r:List T):Option Nat→Prop
 |none=>r= []∧ ∃a,h= .slice a 0 0
 |some b=> ∃cap cs e,h= .slice (some ⟨b,0,none⟩) r.length cap∧r.length≤cap∧w.heap[b]?=some (.cells cs e (0,0))∧cs.size=cap*s∧(∀(i:Nat) (c:Value),cs[i]?=some c→c.oneCell'=true)∧CellsR F w b s r∧ ¬F b∧ ¬Live ι H b∧K b
theorem RowD.ext {K:Nat→Prop} {s:Nat} {h:Value} {r:List T} {β:Option Nat} {keep:Nat} {ι':Io} {F':Nat→Prop} {w':kw} {H':Heap} (hg:Good ι F w H) (hx:Ext keep ι F H w ι' F' H' w') (hr:RowD K ι F w H s h r β):RowD K ι' F' w' H' s h r β:=by
 cases β with
 |none=>exact hr
 |some b=>
  obtain ⟨cap,cs,e,k1,k2,k3,k4,k5,k6,k7,k8,k9⟩:=hr;have hlt:b<w.heap.size:=(zu.1 k3).1;have hsame:=hx.same b hlt fun ho=>k8 ho.live;refine ⟨cap,cs,e,k1,k2,by rw [hsame];exact k3,k4,k5,k6.mono hx.fsub (fun b hb=>hx.same b (hg.fin b hb) fun ho=>hg.sep b ho hb) hsame,fun hf=> ?_,fun hl=>k8 (hx.live b hlt hl),k9⟩;rcases hx.ffr b hlt hf with hf|hf
  ·exact k7 hf
  ·exact k8 hf.live
theorem RowD.other {K:Nat→Prop} {s:Nat} {h:Value} {r:List T} {β:Option Nat} {ι':Io} {H':Heap} (hr:RowD K ι F w H s h r β) (hl: ∀b,β=some b→ ¬Live ι' H' b):RowD K ι' F w H' s h r β:=by
 cases β with
 |none=>exact hr
 |some b=>
  obtain ⟨cap,cs,e,k1,k2,k3,k4,k5,k6,k7,k8,k9⟩:=hr;exact ⟨cap,cs,e,k1,k2,k3,k4,k5,k6,k7,hl b rfl,k9⟩
theorem RowD.dark {K:Nat→Prop} {s b:Nat} {h:Value} {r:List T} {β:Option Nat} (hr:RowD K ι F w H s h r β) (hb:β=some b):b<w.heap.size∧ ¬Live ι H b∧K b:=by
 subst hb;obtain ⟨cap,cs,e,k1,k2,k3,k4,k5,k6,k7,k8,k9⟩:=hr;exact ⟨(zu.1 k3).1,k8,k9⟩
def sameB:List Bool→List Bool→Bool
 | [],[]=>true
 |true::l,true::m=>sameB l m
 |false::l,false::m=>sameB l m
 |_,_=>false
theorem AiH: ∀ {l m:List Bool},sameB l m=true→l=m
 | [],[],_=>rfl
 |true::l,true::m,h=>by rw [AiH (l:=l) (m:=m) h]
 |false::l,false::m,h=>by rw [AiH (l:=l) (m:=m) h]
 |true::_,false::_,h=>by simp [sameB] at h
 |false::_,true::_,h=>by simp [sameB] at h
 | [],_::_,h=>by simp [sameB] at h
 |_::_,[],h=>by simp [sameB] at h
def finAt (k:Nat) (m:List Bool) (f:Nat) (l:Array Bool):Bool:=Nat.beq f k&&sameB l.toList m
theorem Alb {k f:Nat} {m:List Bool} {l:Array Bool} (h:finAt k m f l=true):f=k∧l=m.toArray:=by
 simp only [finAt,zf] at h;refine ⟨zp h.1,?_⟩;rw [←AiH h.2]
theorem adopt {K:Nat→Prop} {s:Nat} {h:Value} {r:List T} {β:Option Nat} (h0:0<s) (hg:Good ι F w H) (hr:RowD K ι F w H s h r β):
  Good (upd ι H.length β) F w (H++ [.arr s r none false])∧VR (upd ι H.length β) F w (H++ [.arr s r none false]) (.all H.length none) h∧
  (∀id o,H[id]?=some o→ ∃o',(H++ [.arr s r none false])[id]?=some o'∧Like ι (upd ι H.length β) w w id o o')∧
  (∀b,Own (upd ι H.length β) (H++ [.arr s r none false]) b→Own ι H b∨β=some b)∧(∀b,Live (upd ι H.length β) (H++ [.arr s r none false]) b→Live ι H b∨β=some b):=by
 have old: ∀id,id<H.length→upd ι H.length β id=ι id∧(upd ι H.length β).hid id=ι.hid id:=fun id h=>AlR (by omega);have oldB: ∀id b,id<H.length→Blk (upd ι H.length β) id b→Blk ι id b:=fun id b h hb=>(Aby (old id h)).1 hb;have newB: ∀b,Blk (upd ι H.length β) H.length b→β=some b:=fun b hb=>by
  unfold Blk at hb;rw [Aak.1,Aak.2] at hb;simpa using hb
 have hno:(H++ [jy s r none false])[H.length]?=some (.arr s r none false):=by simp
 have hl: ∀id o,H[id]?=some o→ ∃o',(H++ [.arr s r none false])[id]?=some o'∧Like ι (upd ι H.length β) w w id o o':=by
  intro id o ho;have hid:=(zh.1 ho).1;exact ⟨o,by rw [qq hid];exact ho,Like.of (old id hid).1 fun _ _ _=>rfl⟩
 have hown: ∀b,Own (upd ι H.length β) (H++ [.arr s r none false]) b→Own ι H b∨β=some b:=by
  rintro b ⟨id,o,h1,h2,h3⟩;rcases Aan h1 with h1|⟨rfl,rfl⟩
  ·exact .inl ⟨id,o,h1,h2,oldB id b (zh.1 h1).1 h3⟩
  ·exact .inr (newB b h3)
 have hlive: ∀b,Live (upd ι H.length β) (H++ [.arr s r none false]) b→Live ι H b∨β=some b:=by
  rintro b ⟨id,o,h1,h2,h3⟩;rcases Aan h1 with h1|⟨rfl,rfl⟩
  ·exact .inl ⟨id,o,h1,h2,oldB id b (zh.1 h1).1 h3⟩
  ·exact .inr (newB b h3)
 have hd: ∀b,β=some b→ ¬F b∧ ¬Live ι H b:=by
  intro b hb;subst hb;obtain ⟨cap,cs,e,k1,k2,k3,k4,k5,k6,k7,k8,k9⟩:=hr;exact ⟨k7,k8⟩
 refine ⟨⟨hg.fin,?_,?_,?_,?_,?_⟩,.all _ _ _ ?_,hl,hown,hlive⟩
 ·intro id o ho;rcases Aan ho with h1|⟨rfl,rfl⟩
  ·exact (hg.obj id o h1).mono (fun _ h=>h) (fun _ _=>rfl) hl (fun _=>old id (zh.1 h1).1) (fun _ _ _=>rfl)
  ·refine ⟨h0,Aak.2,?_⟩;cases β with
   |none=>exact .inl ⟨Aak.1,hr.1,by simp⟩
   |some b=>
    obtain ⟨cap,cs,e,k1,k2,k3,k4,k5,k6,k7,k8,k9⟩:=hr;exact .inr ⟨b,cs,e,Aak.1,k3,by rw [k4];exact Nat.mul_le_mul_right _ k2,by simp,⟨cap,k4⟩,k5,k6⟩
 ·intro i j oi oj b hi hj di dj bi bj;rcases Aan hi with h1|⟨rfl,rfl⟩<;>rcases Aan hj with h2|⟨rfl,rfl⟩
  ·exact hg.inj i j oi oj b h1 h2 di dj (oldB i b (zh.1 h1).1 bi) (oldB j b (zh.1 h2).1 bj)
  ·exact absurd ⟨i,oi,h1,di,oldB i b (zh.1 h1).1 bi⟩ (hd b (newB b bj)).2
  ·exact absurd ⟨j,oj,h2,dj,oldB j b (zh.1 h2).1 bj⟩ (hd b (newB b bi)).2
  ·rfl
 ·intro b ho;rcases hown b ho with ho|ho
  ·exact hg.sep b ho
  ·exact (hd b ho).1
 ·intro id o b ho hdd hro hb;rcases Aan ho with h1|⟨rfl,rfl⟩
  ·exact hg.rof id o b h1 hdd hro (oldB id b (zh.1 h1).1 hb)
  ·simp [Ob.ro] at hro
 ·intro id o ho hdd;rcases Aan ho with h1|⟨rfl,rfl⟩
  ·have e:=old id (zh.1 h1).1;rw [e.1,e.2];exact hg.nd id o h1 hdd
  ·rw [Aak.2];simp
 ·unfold OwnSl;rw [hno];unfold SlAt;rw [Aak.1];cases β with
  |none=>
   obtain ⟨rfl,a,rfl⟩:=hr;exact ⟨a,0,rfl,qn _,qn _,rfl⟩
  |some b=>
   obtain ⟨cap,cs,e,k1,k2,k3,k4,k5,k6,k7,k8,k9⟩:=hr;refine ⟨_,cap,k1,k2,by simp,.inr (by simp),?_⟩;simp only;unfold blk;rw [k3];simp only;rw [k4,jk]
theorem release {K:Nat→Prop} {s id:Nat} {h:Value} {r:List T} {sp:Option Nat} (hg:Good ι F w H) (ho:H[id]?=some (.arr s r sp false)) (hv:VR ι F w H (.all id none) h) (hK: ∀b,Own ι H b→K b):
  ∃β,RowD K ι F w (H.set id .dead) s h r β∧ ∀b,β=some b→Live ι H b:=by
 cases hv with
 |all _ _ _ hv=>
 unfold OwnSl at hv;rw [ho] at hv;unfold SlAt at hv;obtain ⟨ad,cap,rfl,h2,_,h4⟩:=hv;simp only [Option.getD_none] at*;by_cases hcap:cap=0
 ·subst hcap;have:r= []:=xa.1 (by omega);subst this;exact ⟨none,⟨rfl,ad,rfl⟩,by simp⟩
 ·obtain ⟨h0,_,hb|⟨b,cs,e,h5,h6,h7,h8,h9,h10,h11⟩⟩:=hg.obj id _ ho
  ·rw [hb.1] at h4;exact absurd h4 hcap
  ·rw [h5] at h4;obtain ⟨h12,h13⟩:=h4;have had:ad=some ⟨b,0,none⟩:=by
    rcases h12 with h12|h12
    ·exact absurd h12 hcap
    ·simpa using h12
   subst had;have hown:Own ι H b:=⟨id,_,ho,rfl,.inl h5⟩
   refine ⟨some b,⟨cap,cs,e,rfl,h2,h6,?_,h10,h11,hg.sep b hown,?_,hK b hown⟩,fun b' hb'=>by cases hb';exact hown.live⟩
   ·simp only [blk,h6,jk] at h13;exact h13.symm
   ·rintro ⟨i,oi,k1,k2,k3⟩;by_cases hne:i=id
    ·subst hne;rw [qw (zh.1 ho).1] at k1;cases k1;simp [Ob.isDead] at k2
    ·rw [qy (Ne.symm hne)] at k1;exact hne (hg.inj i id oi _ b k1 ho k2 rfl k3 (.inl h5))
theorem RowD.tr {K:Nat→Prop} {s:Nat} {h:Value} {r:List T} {β:Option Nat} (hr:RowD K ι F w H s h r β):TR (fun b=>F b∨β=some b) w (.sl s r) h:=by
 cases β with
 |none=>
  obtain ⟨rfl,a,rfl⟩:=hr;exact .slN _ _ _
 |some b=>
  obtain ⟨cap,cs,e,rfl,k2,k3,k4,k5,⟨c,c1,c2,c3⟩,k7,k8,k9⟩:=hr;by_cases hn:r= []
  ·subst hn;exact .slN _ _ _
  ·exact .slC s r b 0 cap c hn k2 (.inr rfl) (fun i j hi hj=>by rw [jk];exact c1 i j hi hj) c2 fun i j x t h1 h2 h3=>(c3 i j x t h1 h2 h3).mono (fun _ h=> .inl h) (fun _ _=>rfl)
abbrev pinE (x:T) (h:Value):T:= .agg [x,.pin h]
theorem Aqo {b m:Nat} {x:T} (h:CellsR F w b 2 (zn m (.agg [x,.nul]))): ∃hs:List Value,hs.length=m∧CellsR F w b 2 (hs.map (pinE x))∧ ∀h∈hs,∃a,h= .slice a 0 0:=by
 obtain ⟨c,c1,c2,c3⟩:=h;have key: ∀i,i<m→TR F w .nul (c i 1):=fun i hi=>c3 i 1 (.agg [x,.nul]) .nul (by simp [hi]) (by simp) rfl;refine ⟨(jq m).map fun i=>c i 1,by simp,⟨c,fun i j hi hj=>c1 i j (by simpa using hi) hj,?_,?_⟩,?_⟩
 ·intro i y hy hn;simp only [qb] at hy;obtain ⟨h,_,rfl⟩:=qa.1 hy;rfl
 ·intro i j y t hy hn ht;simp only [qb] at hy;obtain ⟨h,hh,rfl⟩:=qa.1 hy;obtain ⟨i',hi',rfl⟩:=qa.1 hh;have him:i<m:=by have:=(zh.1 hi').1;simpa using this
  have e:i'=i:=by have:=(zh.1 hi').2;simpa using this.symm
  subst e
  match j,ht with
  |0,ht=>
   simp [pf] at ht;subst ht;exact c3 i' 0 (.agg [x,.nul]) x (by simp [him]) (by simp) rfl
  |1,ht=>
   simp [pf] at ht;subst ht;exact .pin _ (c1 i' 1 (by simpa using him) (by omega)).2
  |j+2,ht=>simp [pf] at ht
 ·intro h hh;obtain ⟨i,hi,rfl⟩:=vg.1 hh;have:=key i (by simpa using hi);generalize c i 1=v at this;cases this with
  |nul a=>exact ⟨a,rfl⟩
theorem Aqs {b s:Nat} {x:T} {hs:List Value} {rows:List (List T)} {F':Nat→Prop} (h:CellsR F w b 2 (hs.map (pinE x))) (hl:hs.length=rows.length) (hF: ∀b,F b→F' b)
  (hr: ∀(k:Nat) h r,hs[k]?=some h→rows[k]?=some r→TR F' w (.sl s r) h):CellsR F' w b 2 (rows.map fun r=> .agg [x,.sl s r]):=by
 obtain ⟨c,c1,c2,c3⟩:=h;refine ⟨c,fun i j hi hj=>c1 i j (by simp at hi⊢;omega) hj,?_,?_⟩
 ·intro i y hy hn;simp only [qb] at hy;obtain ⟨r,_,rfl⟩:=qa.1 hy;rfl
 ·intro i j y t hy hn ht;simp only [qb] at hy;obtain ⟨r,hrr,rfl⟩:=qa.1 hy;have hi:i<hs.length:=by have:=(zh.1 hrr).1;omega
  have hh:hs[i]?=some hs[i]:=zt hi
  match j,ht with
  |0,ht=>
   simp [pf] at ht;subst ht;exact (c3 i 0 (pinE x hs[i]) x (by simp [hh]) (by simp) rfl).mono hF (fun _ _=>rfl)
  |1,ht=>
   simp [pf] at ht;subst ht;have hp:=c3 i 1 (pinE x hs[i]) (.pin hs[i]) (by simp [hh]) (by simp) rfl;have:=hr i _ _ hh hrr;generalize hs[i]=v at hp this;generalize c i 1=u at hp;cases hp with
   |pin _ _=>exact this
  |j+2,ht=>simp [pf] at ht
end
end Go.Eva
namespace Go.Eva.S8
open Go.Proofs
noncomputable def c42 (p:List Nat):Code:=match subAt (codeOf Tryz.f14) (p++ [0,1,0,1,1,1,1]) with|some c=>c|none=> .skip
noncomputable def o42 (p:List Nat):Array Oper:=match c42 p with| .region _ ops _=>ops|_=> #[]
theorem w6 (c:Config) (g i:Int) (hs:List Value) (os:List T):Wp cx (peek [1,2,4,5,6,24] (runOps cx (o42 [0,0,0]).toList (o42 [0,0,0]).toList (zipE [1,2,4,5,6] [.ptr 0 0 0,.ptr 1 0 0,vi g,.ptr 2 0 0,vi i]) [.one 5 (.t c.enc) zq,.one 2 (.agg [.fit 2 [],.fit 1 []]) zq,.one 2 (.agg [.all 3 zx,.all 4 zx]) zq,.arr 2 (hs.map (pinE (ti 0))) (zb 0) zq,.arr 1 os (zb 0) zq]))
  (· =⟨.normal,[.ptr 0 0 0,.ptr 1 0 0,vi g,.ptr 2 0 0,vi i,vb (decide (i≤c.players))],[.one 5 (.t c.enc) zq,.one 2 (.agg [.fit 2 [],.fit 1 []]) zq,.one 2 (.agg [.all 3 zx,.all 4 zx]) zq,.arr 2 (hs.map (pinE (ti 0))) (zb 0) zq,.arr 1 os (zb 0) zq]⟩):=by
 exact ge
theorem w8 (c:Config) (g i:Int) (hs:List Value) (os:List T) (hg:0<g) (hi:1≤i∧i≤1000000):Wp cx (peek [1,2,4,5,6,7] (runOps cx (o42 [0,0,0,1,0]).toList (o42 [0,0,0,1,0]).toList (zipE [1,2,4,5,6] [.ptr 0 0 0,.ptr 1 0 0,vi g,.ptr 2 0 0,vi i]) [.one 5 (.t c.enc) zq,.one 2 (.agg [.fit 2 [],.fit 1 []]) zq,.one 2 (.agg [.all 3 zx,.all 4 zx]) zq,.arr 2 (hs.map (pinE (ti 0))) (zb 0) zq,.arr 1 os (zb 0) zq]))
  (· =⟨.normal,[.ptr 0 0 0,.ptr 1 0 0,vi g,.ptr 2 0 0,vi i,vi ((i-1).tmod g)],[.one 5 (.t c.enc) zq,.one 2 (.agg [.fit 2 [],.fit 1 []]) zq,.one 2 (.agg [.all 3 zx,.all 4 zx]) zq,.arr 2 (hs.map (pinE (ti 0))) (zb 0) zq,.arr 1 os (zb 0) zq]⟩):=by
 exact gg [.i zy (i-1) (i-1),.w (g≠(0:Int)),.s (ti (yw (i-1) g))] ⟨oI,oW,tI⟩ ge
theorem w9 (c:Config) (g i r:Int) (hs:List Value) (os:List T):Wp cx (peek [1,2,4,5,6,7,8,9] (runOps cx (o42 [0,1,0,0,1,0]).toList (o42 [0,1,0,0,1,0]).toList (zipE [1,2,4,5,6,7] [.ptr 0 0 0,.ptr 1 0 0,vi g,.ptr 2 0 0,vi i,vi r]) [.one 5 (.t c.enc) zq,.one 2 (.agg [.fit 2 [],.fit 1 []]) zq,.one 2 (.agg [.all 3 zx,.all 4 zx]) zq,.arr 2 (hs.map (pinE (ti 0))) (zb 0) zq,.arr 1 os (zb 0) zq]))
  (· =⟨.normal,[.ptr 0 0 0,.ptr 1 0 0,vi g,.ptr 2 0 0,vi i,vi r,vi (c.cornerX r),vi (c.cornerY r)],[.one 5 (.t c.enc) zq,.one 2 (.agg [.fit 2 [],.fit 1 []]) zq,.one 2 (.agg [.all 3 zx,.all 4 zx]) zq,.arr 2 (hs.map (pinE (ti 0))) (zb 0) zq,.arr 1 os (zb 0) zq]⟩):=by
 have h:=AdX c r;exact gg [.a _ _] ⟨o_a h,tI⟩ ge
noncomputable def d42a:Ord:= .one 0 (.one 2 (.one 3 (.one 5 (.one 9 (.one 10 (.one 11 (.one 12 (.one 13 (.one 14 (.one 4 (.one 6 (.one 7 (.one 8 .done)))))))))))))
noncomputable def d42b:Ord:= .two 1 (.one 15 (.one 16 (.one 17 (.one 18 .done)))) 15 (.two 1 (.one 16 (.one 17 (.one 18 .done))) 16 (.one 1 (.one 17 (.one 18 .done))))
noncomputable def d42c:Ord:= .one 19 .done
theorem w10a (c:Config) (g i:Int) (r:Nat) (x y:Int) (hs:List Value) (os:List T) (hr:r<hs.length) (hx:0≤x∧x≤1000000) (hy:0≤y∧y≤1000000) (hi:1≤i∧i≤1000000):
  Wp cx (peek [1,2,4,5,6,37,39,51,45] (ordQ cx (o42 [1,1,0,0,1,0]).toList d42a (zipE [1,2,4,5,6,7,8,9] [.ptr 0 0 0,.ptr 1 0 0,vi g,.ptr 2 0 0,vi i,vi r,vi x,vi y]) [.one 5 (.t c.enc) zq,.one 2 (.agg [.fit 2 [],.fit 1 []]) zq,.one 2 (.agg [.all 3 zx,.all 4 zx]) zq,.arr 2 (hs.map (pinE (ti 0))) (zb 0) zq,.arr 1 os (zb 0) zq]))
  (· =⟨.normal,[.ptr 0 0 0,.ptr 1 0 0,vi g,.ptr 2 0 0,vi i,.ptr 2 0 0,vi r,.t (zk ⟨i,1,x+512,y+512,0,0,100,0,0⟩),.t (.pin (gt hs r))],[.one 5 (.t c.enc) zq,.one 2 (.agg [.fit 2 [],.fit 1 []]) zq,.one 2 (.agg [.all 3 zx,.all 4 zx]) zq,.arr 2 (hs.map (pinE (ti 0))) (zb 0) zq,.arr 1 os (zb 0) zq]⟩):=by
 exact gg [.i zy (x+512) (x+512),.i zy (y+512) (y+512),.w (0≤(r:Int)),.n (zm (r:Int)) r,.w (r<zj (zw (pinE (ti (0:Int))) hs)),.g (zw (pinE (ti 0)) hs) r (pinE (ti 0) (gt hs r))] ⟨oI,oI,oW,nK,oS,oH,tI⟩ ge
theorem w10b (c:Config) (g i:Int) (r:Nat) (p:Entity) (row:List Entity) (hs:List Value) (os:List T) (hr:r<hs.length) (hn:row.length≤100000):
  Wp cx (peek [1,2,4,5,6,55,53] (ordQ cx (o42 [1,1,0,0,1,0]).toList d42b (zipE [1,2,4,5,6,37,39,51,45] [.ptr 0 0 0,.ptr 1 0 0,vi g,.ptr 2 0 0,vi i,.ptr 2 0 0,vi r,.t p.enc,.all 5 zx]) [.one 5 (.t c.enc) zq,.one 2 (.agg [.fit 2 [],.fit 1 []]) zq,.one 2 (.agg [.all 3 zx,.all 4 zx]) zq,.arr 2 (hs.map (pinE (ti 0))) (zb 0) zq,.arr 1 os (zb 0) zq,.arr 9 (row.map zk) zx zq]))
  (· =⟨.normal,[.ptr 0 0 0,.ptr 1 0 0,vi g,.ptr 2 0 0,vi i,.ptr 3 r 1,.all 6 zx],[.one 5 (.t c.enc) zq,.one 2 (.agg [.fit 2 [],.fit 1 []]) zq,.one 2 (.agg [.all 3 zx,.all 4 zx]) zq,.arr 2 (hs.map (pinE (ti 0))) (zb 0) zq,.arr 1 os (zb 0) zq,.dead,.arr 9 ((row++ [p]).map zk) zx zq]⟩):=by
 refine bO ?_ (bO ?_ ?_)
 all_goals
  exact gg [.w ((0:Nat)<(72:Nat)),.t (T.sl 0 [zk p]) (T.sl 0 (zw zk [p])),.t (T.sl 0 (zw zk row++zw zk [p])) (T.sl 0 (zw zk (row++ [p]))),.w (room (zj (zw zk (row++ [p]))) (72:Nat)),.w (0≤(r:Int)),.n (zm (r:Int)) r,.w (r<zj (zw (pinE (ti (0:Int))) hs))] ⟨oW,o_l (Aa1 rfl AaC),o_l (Aa3 rfl rfl),oR,oW,nK,oR,tI⟩ ge
theorem w10c (c:Config) (g i:Int) (r:Nat) (h:Value) (hs:List Value) (os:List T) (hr:r<hs.length):
  Wp cx (peek [1,2,4,5,6] (ordQ cx (o42 [1,1,0,0,1,0]).toList d42c (zipE [1,2,4,5,6,55,53] [.ptr 0 0 0,.ptr 1 0 0,vi g,.ptr 2 0 0,vi i,.ptr 3 r 1,.t (.pin h)]) [.one 5 (.t c.enc) zq,.one 2 (.agg [.fit 2 [],.fit 1 []]) zq,.one 2 (.agg [.all 3 zx,.all 4 zx]) zq,.arr 2 (hs.map (pinE (ti 0))) (zb 0) zq,.arr 1 os (zb 0) zq,.dead,.dead]))
  (· =⟨.normal,[.ptr 0 0 0,.ptr 1 0 0,vi g,.ptr 2 0 0,vi i],[.one 5 (.t c.enc) zq,.one 2 (.agg [.fit 2 [],.fit 1 []]) zq,.one 2 (.agg [.all 3 zx,.all 4 zx]) zq,.arr 2 ((hs.set r h).map (pinE (ti 0))) (zb 0) zq,.arr 1 os (zb 0) zq,.dead,.dead]⟩):=by
 exact gg [.g (zw (pinE (ti 0)) hs) r (pinE (ti 0) (gt hs r)),.t (T.sl 0 (qz (zw (pinE (ti 0)) hs) r (qe [ti 0,be h]))) (T.sl 0 (zw (pinE (ti 0)) (qz hs r h)))] ⟨oH,o_l (Aaq (e:=h) rfl rfl),tI⟩ ge
theorem w7 (c:Config) (g i:Int) (hs:List Value) (os:List T) (hi:1≤i∧i≤1000000):Wp cx (peekG [1,2,4,5,6] (runOps cx (o42 [1,1,0]).toList (o42 [1,1,0]).toList (zipE [1,2,4,5,6] [.ptr 0 0 0,.ptr 1 0 0,vi g,.ptr 2 0 0,vi i]) [.one 5 (.t c.enc) zq,.one 2 (.agg [.fit 2 [],.fit 1 []]) zq,.one 2 (.agg [.all 3 zx,.all 4 zx]) zq,.arr 2 (hs.map (pinE (ti 0))) (zb 0) zq,.arr 1 os (zb 0) zq,.dead,.dead]))
  (· =⟨.normal,[.ptr 0 0 0,.ptr 1 0 0,vi g,.ptr 2 0 0,vi (i+1)],[.one 5 (.t c.enc) zq,.one 2 (.agg [.fit 2 [],.fit 1 []]) zq,.one 2 (.agg [.all 3 zx,.all 4 zx]) zq,.arr 2 (hs.map (pinE (ti 0))) (zb 0) zq,.arr 1 os (zb 0) zq]⟩):=by
 exact gg [.i zy (i+1) (i+1)] ⟨oI,tI⟩ ge
end Go.Eva.S8
namespace Go.Eva
end Go.Eva
namespace Go.Eva
def cat {α:Type}:Nat→(Nat→List α)→List α
 |0,_=> []
 |n+1,g=>cat n g++g n
section
variable {α β:Type}
end
end Go.Eva
namespace Go.Eva
structure Once (c:Config) (w:World) (f:Int):Prop where
 nodup:(cat w.regions.length fun r=>(gt w.regions r).ents.map xm++(handed (gt w.outs r)).map xm).Nodup
 pl:(cat w.regions.length fun r=>plI (gt w.regions r).ents++plI (handed (gt w.outs r))).Perm ((jq c.players.toNat).map fun k:Nat=>(k:Int)+1)
 low: ∀r,r<w.regions.length→ ∀i∈(gt w.regions r).ents.map xm++(handed (gt w.outs r)).map xm,i<1000+f*c.regions*8
end Go.Eva
namespace Go.Eva
end Go.Eva
namespace Go.Eva
section
variable (c:Config) (r f:Int) (ins:List Input)
end
end Go.Eva
namespace Go.Eva
def plB (c:Config) (g i:Int):Entity:=⟨i,1,c.cornerX ((i-1).tmod g)+512,c.cornerY ((i-1).tmod g)+512,0,0,100,0,0⟩
def rowsB (c:Config) (g:Int):Nat→Int→List (List Entity)→List (List Entity)
 |0,_,L=>L
 |d+1,i,L=>rowsB c g d (i+1) (L.set ((i-1).tmod g).toNat (gt L ((i-1).tmod g).toNat++ [plB c g i]))
theorem Apk {l:List Entity} {e:Entity} (h: ∀x∈l,x.id<e.id):put1 l e=l++ [e]:=by
 have h1:(l.findIdx? fun x=>x.id==e.id)=none:=by
  rw [vu];intro x hx;have:=h x hx;simp;omega
 have h2:(l.findIdx? fun x=>decide (x.id≥e.id))=none:=by
  rw [vu];intro x hx;have:=h x hx;simp;omega
 unfold put1 ins;rw [h1,h2]
theorem Am6 {c:Config} (hr:c.right=true) {i:Int} (hi:1≤i):plB c c.regions i=playerP c.cols c.regions i:=by
 have h1:=ju.1 hr;have hml:=u5 hr;have hre:c.regions=c.cols*c.rows:=by simp [xw,hr]
 have hk:=AbX (v:=i-1) (k:=c.regions) (by omega) (by omega);have his:c.is ((i-1).tmod c.regions)=true:=by rw [wn hr];omega
 simp only [plB,playerP,Config.cornerX,Config.cornerY,his,if_true]
theorem AmB {c:Config} (hr:c.right=true): ∀ {d:Nat} {i:Int} {L:List (List Entity)},1≤i→(L.length:Int)=c.regions→(∀l∈L,∀x∈l,x.id<i)→
  beginP c.cols c.regions d i (L.map (ku 0))=(rowsB c c.regions d i L).map (ku 0):=by
 intro d;induction d with
 |zero=>intro i L _ _ _;rfl
 |succ d ih=>
  intro i L hi hL hx;have h1:=ju.1 hr;have hml:=u5 hr;have hre:c.regions=c.cols*c.rows:=by simp [xw,hr]
  have hk:=AbX (v:=i-1) (k:=c.regions) (by omega) (by omega);have hlt:((i-1).tmod c.regions).toNat<L.length:=by omega
  rw [beginP,rowsB];generalize hkk:((i-1).tmod c.regions).toNat=k at*;have hg:gt (L.map (ku 0)) k=⟨0,gt L k⟩:=by simp [gt,hlt]
  have e:begin1 c.cols c.regions (L.map (ku 0)) i=(L.set k (gt L k++ [plB c c.regions i])).map (ku 0):=by
   unfold begin1;rw [hkk,hg];simp only;rw [←Am6 hr hi,Apk (hx _ (Aat hlt)),gq]
  rw [e];refine ih (by omega) (by simpa using hL) ?_;intro l hl x hxl;rcases df hl with hl|rfl
  ·have:=hx l hl x hxl;omega
  ·rcases List.mem_append.1 hxl with hxl|hxl
   ·have:=hx _ (Aat hlt) x hxl;omega
   ·simp at hxl;subst hxl;show i<i+1;omega
theorem Ama {c:Config} (hr:c.right=true):beginW c.cols c.regions c.players.toNat=⟨(rowsB c c.regions c.players.toNat 1 (zn c.regions.toNat [])).map (ku 0),zn c.regions.toNat []⟩:=by
 have hgl:= @Config.regions_le c;have h:=AmB hr (d:=c.players.toNat) (i:=1) (L:=zn c.regions.toNat []) (by omega) (by simp;omega) (fun l hl=>by rw [dr hl];simp);rw [List.map_replicate] at h;unfold beginW;rw [h]
end Go.Eva
namespace Go.Eva.S8
open Go.Proofs Go.RowKit
abbrev hB (c:Config) (xs os:List T):Heap:= [.one 5 (.t c.enc) zq,.one 2 (.agg [.fit 2 [],.fit 1 []]) zq,.one 2 (.agg [.all 3 zx,.all 4 zx]) zq,.arr 2 (xs) (zb 0) zq,.arr 1 os (zb 0) zq]
abbrev hB2 (c:Config) (xs os:List T):Heap:= [.one 5 (.t c.enc) zq,.one 2 (.agg [.fit 2 [],.fit 1 []]) zq,.one 2 (.agg [.all 3 zx,.all 4 zx]) zq,.arr 2 (xs) (zb 0) zq,.arr 1 os (zb 0) zq,.dead,.dead]
abbrev vB (g i:Int):List V:= [.ptr 0 0 0,.ptr 1 0 0,vi g,.ptr 2 0 0,vi i]
section
variable {P:Program} {n:Nat} {w0:kw} {ι0:Io} {F0:Nat→Prop} {H0:Heap}
structure BInv (n:Nat) (w0:kw) (ι0:Io) (F0:Nat→Prop) (H0:Heap) (c:Config) (g:Int) (os:List T) (i:Int) (L:List (List Entity)) (w:kw) (a:Act) (ι:Io) (F:Nat→Prop) (hs:List Value) (β:Nat→Option Nat):Prop where
 inn:In n ι F w (hB c (hs.map (pinE (ti 0))) os) (zipE [1,2,4,5,6] (vB g i)) a
 ext:Ext 0 ι0 F0 H0 w0 ι F (hB c (hs.map (pinE (ti 0))) os) w
 len:hs.length=L.length
 row: ∀(k:Nat) h r,hs[k]?=zb h→L[k]?=zb r→RowD (fun b=>b<w0.heap.size→Own ι0 H0 b) ι F w (hB c (hs.map (pinE (ti 0))) os) 9 h (r.map zk) (β k)
 inj: ∀(i j:Nat) b,i<hs.length→j<hs.length→β i=zb b→β j=zb b→i=j
theorem AkL:c42 [0]= .seq (.seq (c42 [0,0,0]) (.cond (.tmp 24) .skip (.exit 0))) (.seq (.block 1 (.seq (c42 [0,0,0,1,0]) (.seq (c42 [0,1,0,0,1,0]) (c42 [1,1,0,0,1,0])))) (c42 [1,1,0])):=by kernel_rfl
theorem c42_6:c42 [0,0,0]= .region 6 (o42 [0,0,0]) zq:=by kernel_rfl
theorem c42_8:c42 [0,0,0,1,0]= .region 8 (o42 [0,0,0,1,0]) zq:=by kernel_rfl
theorem c42_9:c42 [0,1,0,0,1,0]= .region 9 (o42 [0,1,0,0,1,0]) zq:=by kernel_rfl
theorem Apx:c42 [1,1,0,0,1,0]= .region 10 (o42 [1,1,0,0,1,0]) zg:=by kernel_rfl
theorem c42_7:c42 [1,1,0]= .region 7 (o42 [1,1,0]) zq:=by kernel_rfl
theorem fit42 {n:Nat} (h:fitC cx fi14 n fi14.code=zg) {p:List Nat} {id:Nat} {b:Bool} (hp:c42 p= .region id (o42 p) b) (hs:subAt fi14.code (p++ [0,1,0,1,1,1,1])=zb (c42 p)): ∀o∈(o42 p).toList,fitO cx n o=zg:=by
 have:=Ant h hs;rw [hp] at this;simp only [fitC,zf] at this;exact fun o ho=>jm.1 this.1 o ho
theorem AqD (hc:CxTy P cx) (hfn:FnsOK P cx) (hfit:fitC cx fi14 n fi14.code=zg) {Q:Exit→Act→kw→Prop} (hQ: ∀c a w,¬Q (.panic c) a w) {c:Config} {g i:Int} {os:List T} {L:List (List Entity)} {w:kw} {a:Act} {ι:Io} {F:Nat→Prop} {hs:List Value} {β:Nat→Option Nat} {r:Nat} {x y:Int} {row:List Entity}
  (hi:In n ι F w (hB c (hs.map (pinE (ti 0))) os) (zipE [1,2,4,5,6,7,8,9] (vB g i++ [vi r,vi x,vi y])) a) (hx:Ext 0 ι0 F0 H0 w0 ι F (hB c (hs.map (pinE (ti 0))) os) w) (hlen:hs.length=L.length)
  (hrow: ∀(k:Nat) h r,hs[k]?=zb h→L[k]?=zb r→RowD (fun b=>b<w0.heap.size→Own ι0 H0 b) ι F w (hB c (hs.map (pinE (ti 0))) os) 9 h (r.map zk) (β k)) (hinj: ∀(i j:Nat) b,i<hs.length→j<hs.length→β i=zb b→β j=zb b→i=j)
  (hr:r<hs.length) (hL:L[r]?=zb row) (hn:row.length≤100000) (h1:0≤x∧x≤1000000) (h2:0≤y∧y≤1000000) (h3:1≤i∧i≤1000000)
  (hq: ∀a' w' ι' F' (h':Value) (β':Nat→Option Nat),In n ι' F' w' (hB2 c ((hs.set r h').map (pinE (ti 0))) os) (zipE [1,2,4,5,6] (vB g i)) a'→Ext 0 ι0 F0 H0 w0 ι' F' (hB2 c ((hs.set r h').map (pinE (ti 0))) os) w'→
   (∀(k:Nat) h rr,(hs.set r h')[k]?=zb h→(L.set r (row++ [⟨i,1,x+512,y+512,0,0,100,0,0⟩]))[k]?=zb rr→RowD (fun b=>b<w0.heap.size→Own ι0 H0 b) ι' F' w' (hB2 c ((hs.set r h').map (pinE (ti 0))) os) 9 h (rr.map zk) (β' k))→
   (∀(i j:Nat) b,i<hs.length→j<hs.length→β' i=zb b→β' j=zb b→i=j)→Q .normal a' w'):(c42 [1,1,0,0,1,0]).wp P Q a w:=by
 rw [Apx];have hall:=fit42 hfit Apx (by kernel_rfl);have hsel:Region.noSelect (o42 [1,1,0,0,1,0])=zg:=by kernel_rfl
 refine wp_region_any hc.orders (Aie (cx:=cx) _ _ _ _ ?_);obtain ⟨d1,d2⟩:=Acl hi.good;have hrow:=fun k h rr e1 e2=>(hrow k h rr e1 e2).ext hi.good (d2.ext 0);change wpAnyR P cx (o42 [1,1,0,0,1,0]) Q _ _ a w.drew;have hi:In n ι F w.drew (hB c (hs.map (pinE (ti 0))) os) (zipE [1,2,4,5,6,7,8,9] (vB g i++ [vi r,vi x,vi y])) a:=⟨d1,fun t=>d2.vr hi.good (hi.sim t),hi.size,hi.defers⟩
 have hx:=hx.trans (d2.ext 0);generalize w.drew=w at*;clear d1 d2;refine Aft hc hfn hall hsel hQ (fin:=finAt 6 [zg,zq,zg,zg,zg,zg,zg,zg,zg,zg,zg,zg,zg,zg,zg,zq,zq,zq,zq,zq]) (d:=d42a) (by kernel_rfl) hi (w10a c g i r x y hs os hr h1 h2 h3) ?_;intro f1 l1 hf1 a1 w1 ι1 F1 hi1 hst1;obtain ⟨rfl,rfl⟩:=Alb hf1;have hx1:=hx.trans (hst1.ext 0);have hrow1:=fun k h r e1 e2=>(hrow k h r e1 e2).ext hi.good (hst1.ext 0);clear hrow hst1 hi hx hf1;have hR:=hrow1 r (gt hs r) row (Aa7 hr) hL;obtain ⟨ga,va,hl,ho,hlv⟩:=adopt (by decide) hi1.good hR;generalize hp:(⟨i,1,x+512,y+512,0,0,100,0,0⟩:Entity)=p at*;have hva:VRs ι1 F1 w1 (hB c (hs.map (pinE (ti 0))) os) (vB g i++ [.ptr 2 0 0,vi r,.t p.enc]) (slots a1 [1,2,4,5,6,37,39,51]):=AjY hi1 [1,2,4,5,6,37,39,51];have h45:a1.tmps.getD 45 undef=gt hs r:=by
  have h:VR ι1 F1 w1 (hB c (hs.map (pinE (ti 0))) os) (.t (.pin (gt hs r))) (a1.tmps.getD 45 undef):=hi1.sim 45;generalize a1.tmps.getD 45 undef=u at h;have h:=h.t_inv;generalize gt hs r=v at h;cases h;rfl
 have hva2:=AlS (AkF hva fun v u h=>h.mono (fun _ h=>h) (fun _ _=>rfl) hl) (v:= .all 5 zx) (u:=a1.tmps.getD 45 undef) (by rw [h45];exact va);have hi1':In n (upd ι1 5 (β r)) F1 w1 (hB c (hs.map (pinE (ti 0))) os++ [.arr 9 (row.map zk) zx zq]) (zipE [1,2,4,5,6,37,39,51,45] (vB g i++ [.ptr 2 0 0,vi r,.t p.enc,.all 5 zx])) a1:=⟨ga,AaM hva2,hi1.size,hi1.defers⟩
 have hxa:Ext 0 ι0 F0 H0 w0 (upd ι1 5 (β r)) F1 (hB c (hs.map (pinE (ti 0))) os++ [.arr 9 (row.map zk) zx zq]) w1:=
  ⟨hx1.os,hx1.tape,hx1.output,hx1.size,hx1.same,fun b hb h=>(ho b h).elim (hx1.own b hb) fun e=>(hR.dark e).2.2 hb,hx1.fsub,hx1.ffr,fun id o hid=>absurd hid (by simp),fun b hb h=>(hlv b h).elim (hx1.live b hb) fun e=>((hR.dark e).2.2 hb).live⟩
 have get: ∀k,k<hs.length→ ∃h rr,hs[k]?=zb h∧L[k]?=zb rr:=fun k hk=>⟨hs[k],L[k]'(by omega),zt hk,zt (by omega)⟩
 have hrowa: ∀(k:Nat) h rr,k≠r→hs[k]?=zb h→L[k]?=zb rr→RowD (fun b=>b<w0.heap.size→Own ι0 H0 b) (upd ι1 5 (β r)) F1 w1 (hB c (hs.map (pinE (ti 0))) os++ [.arr 9 (row.map zk) zx zq]) 9 h (rr.map zk) (β k):=by
  intro k h rr hk e1 e2;refine (hrow1 k h rr e1 e2).other fun b hb hl=> ?_;rcases hlv b hl with hl|hl
  ·exact ((hrow1 k h rr e1 e2).dark hb).2.1 hl
  ·exact hk (hinj k r b (zh.1 e1).1 hr hb hl)
 clear hva hva2 h45 va hl ho hlv hrow1 hi1 hx1;refine Aft hc hfn hall hsel hQ (fin:=finAt 1 [zg,zg,zg,zg,zg,zg,zg,zg,zg,zg,zg,zg,zg,zg,zg,zg,zg,zg,zg,zq]) (d:=d42b) (by kernel_rfl) hi1' (w10b c g i r p row hs os hr hn) ?_;intro f2 l2 hf2 a2 w2 ι2 F2 hi2 hst2;obtain ⟨rfl,rfl⟩:=Alb hf2;have hx2:=hxa.trans (hst2.ext 0);have hrow2:=fun k h r hk e1 e2=>(hrowa k h r hk e1 e2).ext ga (hst2.ext 0);clear hrowa hst2 hi1' hxa hf2;have hva:VRs ι2 F2 w2 ([.one 5 (.t c.enc) zq,.one 2 (.agg [.fit 2 [],.fit 1 []]) zq,.one 2 (.agg [.all 3 zx,.all 4 zx]) zq,.arr 2 (hs.map (pinE (ti 0))) (zb 0) zq,.arr 1 os (zb 0) zq,.dead,.arr 9 ((row++ [p]).map zk) zx zq]) (vB g i++ [.ptr 3 r 1]) (slots a2 [1,2,4,5,6,55]):=AjY hi2 [1,2,4,5,6,55];have h53:VR ι2 F2 w2 ([.one 5 (.t c.enc) zq,.one 2 (.agg [.fit 2 [],.fit 1 []]) zq,.one 2 (.agg [.all 3 zx,.all 4 zx]) zq,.arr 2 (hs.map (pinE (ti 0))) (zb 0) zq,.arr 1 os (zb 0) zq,.dead,.arr 9 ((row++ [p]).map zk) zx zq]) (.all 6 zx) (a2.tmps.getD 53 undef):=hi2.sim 53;have hone:(a2.tmps.getD 53 undef).oneCell'=zg:=(h53.shape (by simp) rfl).2 0 _ (by
  have:=(h53.shape (by simp) rfl).1;generalize a2.tmps.getD 53 undef=u at h53 this;cases h53 with
  |all _ _ _ h=>
   obtain ⟨ad,cap,rfl,_⟩:=h;rfl)
 obtain ⟨β6,hR6,hlive6⟩:=release (K:=fun b=>b<w0.heap.size→Own ι0 H0 b) (id:=6) hi2.good rfl h53 fun b ho hb=>hx2.own b hb ho;obtain ⟨gk,sk⟩:=AbH (id:=6) hi2.good rfl;have hva2:=AlS (AkF hva fun v u h=>sk.vr hi2.good h) (v:= .t (.pin (a2.tmps.getD 53 undef))) (u:=a2.tmps.getD 53 undef) (.t _ _ (.pin _ hone));have hi2':In n ι2 F2 w2 (hB2 c (hs.map (pinE (ti 0))) os) (zipE [1,2,4,5,6,55,53] (vB g i++ [.ptr 3 r 1,.t (.pin (a2.tmps.getD 53 undef))])) a2:=⟨gk,AaM hva2,hi2.size,hi2.defers⟩
 have hx3:=hx2.trans (sk.ext 0);have hrow3:=fun k h r hk e1 e2=>(hrow2 k h r hk e1 e2).ext hi2.good (sk.ext 0);generalize a2.tmps.getD 53 undef=h' at*;refine Aft hc hfn hall hsel hQ (fin:=okEnd (o42 [1,1,0,0,1,0])) (d:=d42c) (by kernel_rfl) hi2' (w10c c g i r h' hs os hr) ?_;intro f3 l3 hf3 a3 w3 ι3 F3 hi3 hst3;refine ApN hf3 (hq a3 w3 ι3 F3 h' (fun k=>if k=r then β6 else β k) hi3 (hx3.trans (hst3.ext 0)) ?_ ?_)
 ·intro k h rr e1 e2;by_cases hk:k=r
  ·subst hk;rw [qw hr] at e1;rw [qw (by omega)] at e2;cases e1;cases e2;simp only [if_pos];exact hR6.ext gk (hst3.ext 0)
  ·rw [qy (Ne.symm hk)] at e1 e2;rw [if_neg hk];exact (hrow3 k h rr hk e1 e2).ext gk (hst3.ext 0)
 ·have new: ∀j b,j<hs.length→j≠r→β j=zb b→β6=zb b→False:=by
   intro j b hj hne e1 e2;obtain ⟨h,rr,k1,k2⟩:=get j hj;exact ((hrow2 j h rr hne k1 k2).dark e1).2.1 (hlive6 b e2)
  intro i' j b hi hj e1 e2;by_cases c1:i'=r
  ·by_cases c2:j=r
   ·rw [c1,c2]
   ·simp only [c1,c2,if_true,if_false] at e1 e2;exact (new j b hj c2 e2 e1).elim
  ·by_cases c2:j=r
   ·simp only [c1,c2,if_true,if_false] at e1 e2;exact (new i' b hi c1 e1 e2).elim
   ·simp only [c1,c2,if_false] at e1 e2;exact hinj i' j b hi hj e1 e2
end
end Go.Eva.S8
namespace Go.Eva.S8
open Go.Proofs Go.RowKit
abbrev rowT (l:List Entity):T:= .agg [ti 0,.sl 9 (l.map zk)]
theorem Apm {L:List (List Entity)}:((L.map fun l=>l.map zk).map fun r=>qe [ti 0,.sl 9 r])=L.map rowT:=by rw [yf];rfl
section
variable {P:Program} {n:Nat} {w0:kw} {ι0:Io} {F0:Nat→Prop} {H0:Heap}
def QB (n:Nat) (w0:kw) (ι0:Io) (F0:Nat→Prop) (H0:Heap) (c:Config) (g:Int) (os:List T) (i:Int) (L:List (List Entity)) (ex:Exit) (a':Act) (w':kw):Prop:=
 ∃ι' F',exEq ex (.exit 0)∧In n ι' F' w' (hB c (L.map rowT) os) (zipE [1,2,4,5,6] (vB g i)) a'∧Ext 0 ι0 F0 H0 w0 ι' F' (hB c (L.map rowT) os) w'
theorem Am0 {c:Config} {g i:Int} {os:List T} {L:List (List Entity)} {w:kw} {a:Act} {ι:Io} {F:Nat→Prop} {hs:List Value} {β:Nat→Option Nat} (hv:BInv n w0 ι0 F0 H0 c g os i L w a ι F hs β):QB n w0 ι0 F0 H0 c g os i L (.exit 0) a w:=by
 obtain ⟨hi,hx,hl,hrow,hinj⟩:=hv;have get: ∀k,k<hs.length→ ∃h rr,hs[k]?=zb h∧L[k]?=zb rr:=fun k hk=>⟨hs[k],L[k]'(by omega),zt hk,zt (by omega)⟩
 have hd: ∀b,(∃k,k<hs.length∧β k=zb b)→b<w.heap.size∧ ¬Live ι (hB c (hs.map (pinE (ti 0))) os) b∧(b<w0.heap.size→Own ι0 H0 b):=by
  rintro b ⟨k,hk,hb⟩;obtain ⟨h,rr,e1,e2⟩:=get k hk;exact (hrow k h rr e1 e2).dark hb
 have gw:=widen (R:=fun b=> ∃k,k<hs.length∧β k=zb b) hi.good fun b hb=>⟨(hd b hb).1,(hd b hb).2.1⟩
 obtain ⟨gr,sr⟩:=retree (id:=3) (ys:=L.map rowT) gw rfl (by simp [hl]) (fun b hcb=>by
  have:=Aqs (s:=9) (rows:=L.map fun l=>l.map zk) (F':=fun b=>F b∨ ∃k,k<hs.length∧β k=zb b) hcb (by simp [hl]) (fun _ h=>h) (fun k h r e1 e2=>by
   simp only [qb] at e2;obtain ⟨l,e3,rfl⟩:=qa.1 e2;exact (hrow k h l e1 e3).tr.mono (fun b hb=>hb.elim .inl fun hb=> .inr ⟨k,(zh.1 e1).1,hb⟩) (fun _ _=>rfl))
  rw [Apm] at this;exact this)
 have hvr: ∀v u,VR ι F w (hB c (hs.map (pinE (ti 0))) os) v u→VR ι (fun b=>F b∨ ∃k,k<hs.length∧β k=zb b) w (hB c (L.map rowT) os) v u:=fun v u h=>
  sr.vr gw (h.mono (fun _ h=> .inl h) (fun _ _=>rfl) fun i o h=>⟨o,h,.refl ι w i o⟩)
 refine ⟨ι,_,rfl,⟨gr,AaM (AkF (AjY hi [1,2,4,5,6]) hvr),hi.size,hi.defers⟩,⟨hx.os,hx.tape,hx.output,hx.size,hx.same,fun b hb h=>hx.own b hb (sr.own b (Nat.lt_of_lt_of_le hb hx.size) h),fun b hb=> .inl (hx.fsub b hb),?_,fun id o hid=>absurd hid (by simp),fun b hb h=>hx.live b hb (sr.live b (Nat.lt_of_lt_of_le hb hx.size) h)⟩⟩;rintro b hb (h|h)
 ·exact hx.ffr b hb h
 ·exact .inr ((hd b h).2.2 hb)
theorem AnG (hc:CxTy P cx) (hfn:FnsOK P cx) (hfit:fitC cx fi14 n fi14.code=zg) {c:Config} {g:Int} {os:List T} (hg:0<g) (hp:c.players≤1000): ∀(d:Nat) (i:Int) (L:List (List Entity)) (w:kw) (a:Act) {ι:Io} {F:Nat→Prop} {hs:List Value} {β:Nat→Option Nat},
  i+d=c.players+1→1≤i→(L.length:Int)=g→(∀l∈L,l.length+d≤10000)→BInv n w0 ι0 F0 H0 c g os i L w a ι F hs β→LoopWp P (c42 [0]) (QB n w0 ι0 F0 H0 c g os (c.players+1) (rowsB c g d i L)) a w:=by
 intro d;induction d with
 |zero=>
  intro i L w a ι F hs β hd h1 hL hb hv;obtain rfl:i=c.players+1:=by omega
  refine LoopWp.round ?_;rw [AkL];refine wp_seq (wp_seq ?_);rw [c42_6];refine Acz hc hfn (fit42 hfit c42_6 (by kernel_rfl)) hv.inn (w6 c g (c.players+1) hs os) ?_;intro a1 w1 ι1 F1 hi1 hst1;have hev:a1.eval (.tmp 24)= .bool (decide (c.players+1≤c.players)):=by
   have h:=Aaj hi1.sim (.tmp 24);exact (show VR ι1 F1 w1 _ (vb (decide (c.players+1≤c.players))) _ from h).t_inv.bool_inv
  rw [show decide (c.players+1≤c.players)=zq by simp;omega] at hev;refine wp_cond_false hev (wp_exit ?_);refine Am0 (hs:=hs) (β:=β) ⟨⟨hi1.good,AaM (AjY hi1 [1,2,4,5,6]),hi1.size,hi1.defers⟩,hv.ext.trans (hst1.ext 0),hv.len,fun k h r e1 e2=>(hv.row k h r e1 e2).ext hv.inn.good (hst1.ext 0),hv.inj⟩
 |succ d ih=>
  intro i L w a ι F hs β hd h1 hL hb hv;refine LoopWp.round ?_;rw [AkL];refine wp_seq (wp_seq ?_);rw [c42_6];refine Acz hc hfn (fit42 hfit c42_6 (by kernel_rfl)) hv.inn (w6 c g i hs os) ?_;intro a1 w1 ι1 F1 hi1 hst1;have hev:a1.eval (.tmp 24)= .bool (decide (i≤c.players)):=by
   have h:=Aaj hi1.sim (.tmp 24);exact (show VR ι1 F1 w1 _ (vb (decide (i≤c.players))) _ from h).t_inv.bool_inv
  rw [show decide (i≤c.players)=zg by simp;omega] at hev;refine wp_cond_true hev (wp_skip ?_);have hi1:In n ι1 F1 w1 (hB c (hs.map (pinE (ti 0))) os) (zipE [1,2,4,5,6] (vB g i)) a1:=⟨hi1.good,AaM (AjY hi1 [1,2,4,5,6]),hi1.size,hi1.defers⟩
  have hx1:=hv.ext.trans (hst1.ext 0);have hr1:=fun k h r e1 e2=>(hv.row k h r e1 e2).ext hv.inn.good (hst1.ext 0);have hlen:=hv.len;have hinj:=hv.inj;clear hv hst1 hev;refine wp_seq (wp_block (wp_seq ?_));rw [c42_8];refine Acz hc hfn (fit42 hfit c42_8 (by kernel_rfl)) hi1 (w8 c g i hs os hg (by omega)) ?_;intro a2 w2 ι2 F2 hi2 hst2;have hx2:=hx1.trans (hst2.ext 0);have hr2:=fun k h r e1 e2=>(hr1 k h r e1 e2).ext hi1.good (hst2.ext 0);clear hr1 hx1 hst2 hi1;have htm:=AbX (v:=i-1) (k:=g) (by omega) (by omega);obtain ⟨r,hr⟩: ∃r:Nat,(i-1).tmod g=r:=⟨((i-1).tmod g).toNat,by omega⟩
  have hrL:r<L.length:=by omega
  have hcor:= @Agj c ((i-1).tmod g);have hbk:=hb _ (Aat hrL);rw [hr] at hi2 hcor;refine wp_seq ?_;rw [c42_9];refine Acz hc hfn (fit42 hfit c42_9 (by kernel_rfl)) hi2 (w9 c g i r hs os) ?_;intro a3 w3 ι3 F3 hi3 hst3;have hx3:=hx2.trans (hst3.ext 0);have hr3:=fun k h r e1 e2=>(hr2 k h r e1 e2).ext hi2.good (hst3.ext 0);clear hr2 hx2 hst3 hi2;refine AqD hc hfn hfit (β:=β) ?_ hi3 hx3 hlen hr3 hinj (r:=r) (row:=gt L r) (by omega) (Aa7 hrL) (by omega) (by omega) (by omega) (by omega) ?_
  ·rintro cc aa ww ⟨_,_,h,_⟩;exact h
  intro a4 w4 ι4 F4 h' β4 hi4 hx4 hr4 hinj4;show (c42 [1,1,0]).wp P _ a4 w4;rw [c42_7];refine AjE hc hfn (fit42 hfit c42_7 (by kernel_rfl)) hi4 (w7 c g i (hs.set r h') os (by omega)) ?_;rintro a5 w5 ι5 F5 hi5 ⟨ι6,F6,H6,g6,hst6,hx6⟩;show LoopWp P (c42 [0]) _ a5 w5;have e:rowsB c g (d+1) i L=rowsB c g d (i+1) (L.set r (gt L r++ [⟨i,1,c.cornerX r+512,c.cornerY r+512,0,0,100,0,0⟩])):=by
   rw [rowsB];unfold plB;rw [hr,Int.toNat_natCast]
  rw [e];refine ih (i+1) _ w5 a5 (hs:=hs.set r h') (β:=β4) (by omega) (by omega) (by simpa using hL) ?_ ⟨hi5,(hx4.trans (hst6.ext 0)).trans hx6,by simp [hlen],fun k h rr e1 e2=>((hr4 k h rr e1 e2).ext hi4.good (hst6.ext 0)).ext g6 hx6,by simpa using hinj4⟩;intro l hl;rcases df hl with hl|rfl
  ·have:=hb l hl;omega
  ·simp;omega
end
end Go.Eva.S8
namespace Go.Eva.S8
open Go.Proofs Go.RowKit
theorem Acr (c:Config) (g:Int) (m:Nat) (os:List T) (hg:0<g) (hm:(m:Int)=g) (hp:0≤c.players∧c.players≤1000):
  Is cx (.loop 14 [0,1,0,1,1,1,1] 0 (vB g 1) (hB c (zn m (.agg [ti 0,.nul])) os)) ⟨.exit 0,vB g (c.players+1),hB c ((rowsB c g c.players.toNat 1 (zn m [])).map rowT) os⟩:=by
 intro P hc hfn fi cc live n hf hsub hlive hfit w ι F a hi;have e1:cx.fn.get 14=zb (zb fi14):=by kernel_rfl
 rw [e1] at hf;simp only [j0] at hf;subst hf;have e2:subAt fi14.code [0,1,0,1,1,1,1]=zb (.loop (c42 [0])):=by kernel_rfl
 rw [e2] at hsub;simp only [j0,Code.loop.injEq] at hsub;subst hsub;have e3:liveAt fi14.live [0,1,0,1,1,1,1]=zb [1,2,4,5,6]:=by kernel_rfl
 rw [e3] at hlive;simp only [j0] at hlive;subst hlive;have hob:=hi.good.obj 3 _ rfl;have key: ∃hs:List Value,hs.length=m∧(∀h∈hs,∃ad,h= .slice ad 0 0)∧Good ι F w (hB c (hs.map (pinE (ti 0))) os)∧Step ι F (hB c (zn m (.agg [ti 0,.nul])) os) w ι F (hB c (hs.map (pinE (ti 0))) os) w:=by
  obtain ⟨h0,_,h⟩:=hob;rcases h with ⟨_,h2,_⟩|⟨b,cs,e,h1,h2,h3,h4,h5,h6,h7⟩
  ·have:=congrArg zj h2;simp at this;omega
  ·obtain ⟨hs,k1,k2,k3⟩:=Aqo h7;obtain ⟨g1,g2⟩:=retree' (id:=3) (ys:=hs.map (pinE (ti 0))) hi.good rfl (by simp [k1]) (fun b' hb'=>by
    rw [h1] at hb';cases hb';exact k2)
   exact ⟨hs,k1,k3,g1,g2⟩
 obtain ⟨hs,k1,k2,k3,k4⟩:=key;have hi':In n ι F w (hB c (hs.map (pinE (ti 0))) os) (zipE [1,2,4,5,6] (vB g 1)) a:=⟨k3,fun t=>k4.vr hi.good (hi.sim t),hi.size,hi.defers⟩
 have hx:Ext 0 ι F (hB c (zn m (.agg [ti 0,.nul])) os) w ι F (hB c (hs.map (pinE (ti 0))) os) w:=k4.ext 0;have hmain:=AnG hc hfn hfit hg hp.2 c.players.toNat 1 (zn m []) w a (os:=os) (hs:=hs) (β:=fun _=>zx) (by omega) (by omega) (by simpa using hm) (fun l hl=>by rw [dr hl];simp;omega) ⟨hi',hx,by simp [k1],fun k h r e1 e2=>by
  have hr:r= []:=dr (jt e2);subst hr;exact ⟨rfl,k2 h (jt e1)⟩,fun i j b _ _ h=>by simp at h⟩
 refine hmain.mono ?_;rintro ex a' w' ⟨ι',F',q1,q2,q3⟩;exact ⟨_,ι',F',rfl,q1,q2,q3⟩
end Go.Eva.S8
namespace Go.Eva.S8
theorem AcF (c:Config) (h:c.right=zg):Is cx (.call 14 [.t c.enc] []) ⟨.ret,[.t (.agg [.sl 2 ((rowsB c c.regions c.players.toNat 1 (zn c.regions.toNat [])).map rowT),.sl 1 (zn c.regions.toNat (T.sl 15 []))]),vi 0],[]⟩:=by
 have hgr:=ju.1 h;have hgl:= @Config.regions_le c;have hml:=u5 h;have hre:c.regions=c.cols*c.rows:=by simp [xw,h]
 have hR:=AaY c;rw [h] at hR;have hG:=Abw c;have hL:=Acr c c.regions c.regions.toNat (zn c.regions.toNat (T.sl 15 [])) (by omega) (by omega) (by omega)
 simp only [hB,vB] at hL;generalize (rowsB c c.regions c.players.toNat 1 (zn c.regions.toNat [])).map rowT=X at*;generalize c.regions=g at*;refine za (gg [.a _ _,.b (!Bool.true) zq,.a _ _] ⟨o_a hR,bK,o_a hG,tI⟩ (bO ?_ ?_))
 ·refine gg [.w (0≤g∧g≤g∧room (zm g) (32:Nat)),.l (zm g)] ⟨o_w ⟨(by omega),⟨(by omega),(by (simp [room,appendMax];omega))⟩⟩,tI⟩ (bO ?_ ?_)
  all_goals
   exact gg [.w (0≤g∧g≤g∧room (zm g) (24:Nat)),.l (zm g),.a _ _] ⟨o_w ⟨(by omega),⟨(by omega),(by (simp [room,appendMax];omega))⟩⟩,o_a hL,tI⟩ ge
 ·refine bO ?_ ?_
  ·refine gg [.w (0≤g∧g≤g∧room (zm g) (24:Nat)),.l (zm g)] ⟨o_w ⟨(by omega),⟨(by omega),(by (simp [room,appendMax];omega))⟩⟩,tI⟩ (bO ?_ ?_)
   all_goals
    exact gg [.w (0≤g∧g≤g∧room (zm g) (32:Nat)),.l (zm g),.a _ _] ⟨o_w ⟨(by omega),⟨(by omega),(by (simp [room,appendMax];omega))⟩⟩,o_a hL,tI⟩ ge
  ·refine bO ?_ ?_
   ·exact gg [.w (0≤g∧g≤g∧room (zm g) (32:Nat)),.l (zm g),.w (0≤g∧g≤g∧room (zm g) (24:Nat)),.l (zm g),.a _ _] ⟨o_w ⟨(by omega),⟨(by omega),(by (simp [room,appendMax];omega))⟩⟩,o_w ⟨(by omega),⟨(by omega),(by (simp [room,appendMax];omega))⟩⟩,o_a hL,tI⟩ ge
   ·exact gg [.w (0≤g∧g≤g∧room (zm g) (24:Nat)),.l (zm g),.w (0≤g∧g≤g∧room (zm g) (32:Nat)),.l (zm g),.a _ _] ⟨o_w ⟨(by omega),⟨(by omega),(by (simp [room,appendMax];omega))⟩⟩,o_w ⟨(by omega),⟨(by omega),(by (simp [room,appendMax];omega))⟩⟩,o_a hL,tI⟩ ge
theorem AcG (c:Config) (h:c.right=zg):Is cx (.call 14 [.t c.enc] []) ⟨.ret,[.t (beginW c.cols c.regions c.players.toNat).enc,vi 0],[]⟩:=by
 have hB:=AcF c h;rw [Ama h];have e:(World.enc ⟨(rowsB c c.regions c.players.toNat 1 (zn c.regions.toNat [])).map (ku 0),zn c.regions.toNat []⟩)= .agg [.sl 2 ((rowsB c c.regions c.players.toNat 1 (zn c.regions.toNat [])).map rowT),.sl 1 (zn c.regions.toNat (T.sl 15 []))]:=by
  simp only [World.enc,yf,List.map_replicate];rfl
 rw [e];exact hB
end Go.Eva.S8
namespace Go.Eva.S8
theorem Afb (i:Input):Fn cx 13 [i.enc] (playInput i).enc:=by
 have h:=Ae2 i;unfold playInput;cases hr:i.right with
 |true=>
  rw [hr] at h;exact za (gg [.a _ _,.tt] ⟨o_a h,tI⟩ ge)
 |false=>
  rw [hr] at h;have h1:= @um_le i.dx 5 (by decide);have h2:= @um_le i.dy 5 (by decide);unfold um at h1 h2;exact za (gg [.a _ _,.ff,.i zr i.dx (z8 zr i.dx),.w ((5:Int)≠(0:Int)),.s (xc zr (yw (z8 zr i.dx) 5)),.i zy (yw (z8 zr i.dx) 5) (yw (z8 zr i.dx) 5),.i zy (yw (z8 zr i.dx) 5-2) (yw (z8 zr i.dx) 5-2),.i zr i.dy (z8 zr i.dy),.w ((5:Int)≠(0:Int)),.s (xc zr (yw (z8 zr i.dy) 5)),.i zy (yw (z8 zr i.dy) 5) (yw (z8 zr i.dy) 5),.i zy (yw (z8 zr i.dy) 5-2) (yw (z8 zr i.dy) 5-2)] ⟨o_a h,o_i rfl,o_w (by intro h;cases h),oI,oI,o_i rfl,o_w (by intro h;cases h),oI,oI,tI⟩ ge)
def cA:Config:=⟨4,1,1,8,5⟩
def wA:World:=beginW 4 4 1
abbrev apH (x:Input) (p:EngP):Heap:= [.one 3 (.t x.enc) zq,p.ob,.one 2 (.t wA.enc) zq]
abbrev apV (far r:Int):List V:= [vi far,.ptr 0 0 0,.ptr 1 0 0,.ptr 2 0 0,vi r]
theorem Abq (x:Input) (far:Int) (p:EngP):Is cx (.loop 3 [0,1,0,1,1,1,1,1,1,1] 0 (apV far 4) (apH x p)) ⟨.exit 0,apV far 4,apH x p⟩:=by
 exact za (gg [.b (decide (4<4)) zq] ⟨bK,tI⟩ ge)
theorem Aam (x:Input) (far:Int) (p:EngP) (r:Nat) (hr:r<4) (L O:List T) (s:Region) (hw:wA.enc= .agg [.sl 2 L,.sl 1 O]) (hs:L[r]?=zb s.enc) (hn:small s.ents) (hk:(r:Int)∉p.rs) (hl:p.subs.length=p.rs.length) (hR:regionRight p.c r s=zg)
  (q:EngP) (hq:q=p.add r s) (p4:EngP) (h4:Is cx (.loop 3 [0,1,0,1,1,1,1,1,1,1] 0 (apV far (r+1:Int)) (apH x q)) ⟨.exit 0,apV far 4,apH x p4⟩):
  Is cx (.loop 3 [0,1,0,1,1,1,1,1,1,1] 0 (apV far r) (apH x p)) ⟨.exit 0,apV far 4,apH x p4⟩:=by
 have hS:=Agn p r s hn hk hl hR;rw [←hq] at hS;unfold apH at*;rw [hw] at h4⊢;clear hq hw hR hk hl;simp only [gi,yb,gu,uu] at*;generalize noneT p.c=n1 at*;generalize p.rs.map ti=n2 at*;generalize p.subs.map jw=n3 at*;generalize noneT q.c=m1 at*;generalize q.rs.map ti=m2 at*;generalize q.subs.map jw=m3 at*;exact za (gg [.b (decide ((r:Int)<4)) zg,.w (0≤(r:Int)),.n (zm (r:Int)) r,.g L r (gf s),.a _ _,.i zy ((r:Int)+1) (↑(r+1):Int),.a _ _] ⟨tP,oW,nK,o_g hs (by intro h;cases h),o_a hS,oI,o_a h4,tI⟩ ge)
end Go.Eva.S8
namespace Go.Eva.S8
def pA1:EngP:=(pp cA).add 0 (gt wA.regions 0)
def pA2:EngP:=pA1.add 1 (gt wA.regions 1)
def pA3:EngP:=pA2.add 2 (gt wA.regions 2)
def pA4:EngP:=pA3.add 3 (gt wA.regions 3)
def pA (far:Nat):EngP:= {pA4 with now:=far,dirty:=minI pA4.dirty pA4.now}
def newB:List Col→Bool
 | [⟨[],fin,zq⟩]=>decide (fin=0)
 |_=>zq
theorem Aqh {l:List Col} (h:newB l=zg):l= [Col.new]:=by
 unfold newB at h;split at h
 ·rw [decide_eq_true_eq] at h;subst h;rfl
 ·simp at h
def farB (far:Nat):Bool:=settleB (pA far)&&decide ((pA far).settle.2=4*far)&&newB (pA far).settle.1.cols
def againB (far:Nat) (x:Input):Bool:=settleB ((pA far).settle.1.first 0 x)&&decide (((pA far).settle.1.first 0 x).settle.2=if x=⟨0,0,zq⟩ then 0 else far)
def someI:List Input:= [-2,-1,0,1,2].flatMap fun a=> [-2,-1,0,1,2].map fun b=>⟨a,b,zq⟩
theorem ApQ: [1,2,3,4,5,6].all farB=zg:=by kernel_rfl
theorem again1:someI.all (againB 1)=zg:=by kernel_rfl
theorem again2:someI.all (againB 2)=zg:=by kernel_rfl
theorem again3:someI.all (againB 3)=zg:=by kernel_rfl
theorem again4:someI.all (againB 4)=zg:=by kernel_rfl
theorem again5:someI.all (againB 5)=zg:=by kernel_rfl
theorem again6:someI.all (againB 6)=zg:=by kernel_rfl
theorem Aot {x:Input} (h:x.right=zg) (hf:x.fire=zq):x∈someI:=by
 obtain ⟨a,b,f⟩:=x;simp only [Input.right,within,zf,decide_eq_true_eq] at h hf;subst hf;simp only [someI,List.mem_flatMap,vg];exact ⟨a,by simp;omega,b,by simp;omega,rfl⟩
theorem Aq7 {far:Nat} (h:1≤far∧far≤6):farB far=zg:=by
 refine jm.1 ApQ _ ?_;simp;omega
theorem Ao9 {far:Nat} (h:1≤far∧far≤6) {x:Input} (hx:x.right=zg) (hf:x.fire=zq):againB far x=zg:=by
 have hm:=Aot hx hf;have:far=1∨far=2∨far=3∨far=4∨far=5∨far=6:=by omega
 rcases this with rfl|rfl|rfl|rfl|rfl|rfl
 ·exact jm.1 again1 _ hm
 ·exact jm.1 again2 _ hm
 ·exact jm.1 again3 _ hm
 ·exact jm.1 again4 _ hm
 ·exact jm.1 again5 _ hm
 ·exact jm.1 again6 _ hm
end Go.Eva.S8
namespace Go.Eva.S8
theorem cA_r:cA.right=zg:=by kernel_rfl
theorem Aqn:pA4.eng.now=0:=by kernel_rfl
theorem wA_r:(regionRight cA 0 (gt wA.regions 0)&&regionRight cA 1 (gt wA.regions 1)&&regionRight cA 2 (gt wA.regions 2)&&regionRight cA 3 (gt wA.regions 3))=zg:=by kernel_rfl
theorem wA_n:(decide (wA.regions.length=4)&&wA.regions.all (fun s=>ph s.ents.length 100))=zg:=by kernel_rfl
theorem AlX (x:Input) (far:Int):Is cx (.loop 3 [0,1,0,1,1,1,1,1,1,1] 0 (apV far 0) (apH x (pp cA))) ⟨.exit 0,apV far 4,apH x pA4⟩:=by
 have hw:wA.enc= .agg [.sl 2 (wA.regions.map gf),.sl 1 (wA.outs.map encL)]:=rfl;have hr:=wA_r;have hn:=wA_n;simp only [zf,decide_eq_true_eq,jm] at hr hn;obtain ⟨⟨⟨r0,r1⟩,r2⟩,r3⟩:=hr;obtain ⟨hl,hn⟩:=hn;have hs: ∀i,i<4→(wA.regions.map gf)[i]?=zb (gt wA.regions i).enc:=fun i hi=>by rw [qb,Aa7 (by omega)];rfl
 have hm: ∀i,i<4→small (gt wA.regions i).ents:=fun i hi=>by
  have:=jf (hn _ (Aat (show i<wA.regions.length by omega)));unfold small;omega
 refine Aam x far _ 0 (by decide) _ _ _ hw (hs 0 (by decide)) (hm 0 (by decide)) (by simp [pp]) rfl r0 pA1 rfl _ ?_;refine Aam x far _ 1 (by decide) _ _ _ hw (hs 1 (by decide)) (hm 1 (by decide)) (by simp [pp,pA1,mc]) rfl r1 pA2 rfl _ ?_;refine Aam x far _ 2 (by decide) _ _ _ hw (hs 2 (by decide)) (hm 2 (by decide)) (by simp [pp,pA1,pA2,mc]) rfl r2 pA3 rfl _ ?_;refine Aam x far _ 3 (by decide) _ _ _ hw (hs 3 (by decide)) (hm 3 (by decide)) (by simp [pp,pA1,pA2,pA3,mc]) rfl r3 pA4 rfl _ ?_;exact Abq x far pA4
theorem AbE (x:Input) (far:Int):Fn cx 3 [x.enc,ti far] (.bool zg):=by
 have hI:=Afb x;have hr:=AgL x;generalize playInput x=y at*;have hN:=AdS cA cA_r;have hA:=Ae1;have hB:=AcG cA cA_r;have k:= @AlQ far 6 (by decide);obtain ⟨z,hz⟩: ∃z,(IntKind.u64.wrap far).tmod 6=z:=⟨_,rfl⟩
 rw [hz] at k;obtain ⟨n,rfl⟩: ∃n:Nat,z=(n:Int):=⟨z.toNat,by omega⟩
 obtain ⟨f,hfn⟩: ∃f,f=n+1:=⟨_,rfl⟩
 obtain ⟨v,hv⟩: ∃v:Input,v= {y with fire:=zq}:=⟨_,rfl⟩
 have hf:=Aq7 (far:=f) (by omega);have ha:=Ao9 (far:=f) (by omega) (x:=v) (by rw [hv];exact hr) (by rw [hv]);have hvr:v.right=zg:=by rw [hv];exact hr
 simp only [farB,againB,zf,decide_eq_true_eq] at hf ha;obtain ⟨⟨f1,f2⟩,f3⟩:=hf;obtain ⟨a1,a2⟩:=ha;have f3:=Aqh f3;have hS1:=AcK (pA f) (Afr f1);have hS2:=AcK ((pA f).settle.1.first 0 v) (Afr a1);have hAdd:=Anl (pA f).settle.1 0 (by rw [f3];decide) (by rw [f3];decide) (by rw [f3];rfl) v hvr;have hAdv:=Aer pA4.eng f;have e0:pA4.eng.now=0:=Aqn;rw [e0,if_neg (by omega),if_neg (by omega)] at hAdv;have e1:gu {pA4.eng with now:=(f:Int),dirty:=minI pA4.eng.dirty 0}=(pA f).ob:=by
  rw [←e0];rfl
 rw [e1] at hAdv;rw [f2] at hS1;rw [a2] at hS2;have hL:=AlX v far;have hw:wA.enc= .agg [.sl 2 (wA.regions.map gf),.sl 1 (wA.outs.map encL)]:=rfl;obtain ⟨a,b,fl⟩:=y;simp only at hv;have e2:(pp cA).ob=(Eng.new cA).ob:=rfl;have e3:beginW cA.cols cA.regions cA.players.toNat=wA:=by kernel_rfl
 rw [e3] at hB;rw [←e2] at hN;have hfe:(f:Int)=1+n:=by omega
 rw [hfe] at hS1 hAdv;clear f1 a1 f2 f3 a2 e0 e1 e2 e3 hr hvr;unfold apH apV at hL;rw [hw] at hL hB;clear hw;generalize (pA f).settle.1.first 0 v=U at*
 generalize U.settle.1=W at*;generalize (pA f).settle.1=Q at*;generalize pA f=P at*;generalize pA4=P4 at*;generalize pp cA=E at*;generalize wA.regions.map gf=WR at*;generalize wA.outs.map encL=WO at*;simp only [gi,yb,gu,uu] at*;subst hv;by_cases h0:a=0∧b=0
 ·obtain ⟨rfl,rfl⟩:=h0;rw [if_pos rfl] at hS2;refine za (gg [.a _ _,.a _ _,.b (!Bool.true) zq,.ff,.ff,.b (0 !=0) zq,.ff,.ff,.ff,.a _ _,.a _ _,.a _ _,.i zr far (z8 zr far),.w ((6:Int)≠(0:Int)),.t (xc zr (yw (z8 zr far) 6)) (xc zr (n:Int)),.i zy (n:Int) (n:Int)] ⟨o_a hN,o_a hA,bK,bK,o_a hI,o_a hB,o_a hL,o_i rfl,o_w (by intro h;cases h),o_t (by rw [hz]),oI,tI⟩ (gg [.i zy (1+(n:Int)) (↑(1+n):Int),.a _ _,.a _ _,.a _ _,.a _ _,.w (conform cx (40:Nat) (23:Nat) (qe [ti (0:Int),ti (0:Int),zi zq])=zg∧conform cx (40:Nat) (23:Nat) (qe [ti (0:Int),ti (0:Int),zi zq])=zg),.b (teq (qe [ti 0,ti 0,zi zq]) (qe [ti 0,ti 0,zi zq])) zg] ⟨oI,o_a hAdv,o_a hS1,o_a hAdd,o_a hS2,o_w ⟨(by kernel_rfl),(by kernel_rfl)⟩,bK,tI⟩ (gg [.i zy (4*(↑(1+n):Int)) ((↑(4*(1+n)):Int)),.b (4*(1+(n:Int))==(↑(4*(1+n)):Int)) zg,.tt,.tt,.tt] ⟨oI,t_bre (by kernel_rfl),tI⟩ (rT (a:=zl Ex.ret [vb zg] []) ?_))))
  (simp)
 ·rw [if_neg (by simpa using h0)] at hS2;rw [hfe] at hS2;refine za (gg [.a _ _,.a _ _,.b (!Bool.true) zq,.ff,.ff,.b (0 !=0) zq,.ff,.ff,.ff,.a _ _,.a _ _,.a _ _,.i zr far (z8 zr far),.w ((6:Int)≠(0:Int)),.t (xc zr (yw (z8 zr far) 6)) (xc zr (n:Int)),.i zy (n:Int) (n:Int)] ⟨o_a hN,o_a hA,bK,bK,o_a hI,o_a hB,o_a hL,o_i rfl,o_w (by intro h;cases h),o_t (by rw [hz]),oI,tI⟩ (gg [.i zy (1+(n:Int)) (↑(1+n):Int),.a _ _,.a _ _,.a _ _,.a _ _,.w (conform cx (40:Nat) (23:Nat) (qe [ti a,ti b,zi zq])=zg∧conform cx (40:Nat) (23:Nat) (qe [ti (0:Int),ti (0:Int),zi zq])=zg)] ⟨oI,o_a hAdv,o_a hS1,o_a hAdd,o_a hS2,o_w ⟨(by kernel_rfl),(by kernel_rfl)⟩,tI⟩ ?_));refine br (b:=teq (qe [ti a,ti b,zi zq]) (qe [ti 0,ti 0,zi zq])) (by kernel_rfl) (fun h1=> ?_) (fun h1=> ?_)
  ·refine gg [.i zy (4*(↑(1+n):Int)) ((↑(4*(1+n)):Int)),.b (4*(1+(n:Int))==(↑(4*(1+n)):Int)) zg,.tt,.tt,.tt] ⟨oI,t_bre (by kernel_rfl),tI⟩ (rT (a:=zl Ex.ret [vb (1+(n:Int)==0)] []) ?_)
   first|(simp;done)|exact absurd (by have h2:=teqIff.1 h1;simpa using h2) h0
  ·refine gg [.i zy (4*(↑(1+n):Int)) ((↑(4*(1+n)):Int)),.b (4*(1+(n:Int))==(↑(4*(1+n)):Int)) zg,.tt,.tt,.tt] ⟨oI,t_bre (by kernel_rfl),tI⟩ (rT (a:=zl Ex.ret [vb (1+(n:Int)==(↑(1+n):Int))] []) ?_)
   first|(simp;done)|exact absurd (by have h2:=teqIff.1 h1;simpa using h2) h0
end Go.Eva.S8
namespace Go.Eva
open Go.RowKit Go.Maps Go.Sort Go.Shelf Go.Proofs
theorem AgB (n:Int): ∀l:List Int,(insI n l).Perm (n::l)
 | []=> .refl _
 |m::r=>by
  unfold insI;split
  ·exact .refl _
  ·exact ((AgB n r).cons m).trans (.swap _ _ _)
theorem Afs: ∀l:List Int,(sortI l).Perm l
 | []=> .refl _
 |n::r=>(AgB n _).trans ((Afs r).cons n)
theorem AgC (n:Int): ∀ {l:List Int},l.Pairwise (· ≤ ·)→(insI n l).Pairwise (· ≤ ·)
 | [],_=>by simp [insI]
 |m::r,h=>by
  unfold insI;have h':=xd.1 h;split
  ·rename_i hd;have hd:=of_decide_eq_true hd;exact xd.2 ⟨fun x hx=>by
    rcases qf.1 hx with rfl|hx
    ·exact hd
    ·have:=h'.1 x hx;omega,h⟩
  ·rename_i hd;have hd:=of_decide_eq_false hd;refine xd.2 ⟨fun x hx=> ?_,AgC n h'.2⟩;rcases qf.1 ((AgB n r).mem_iff.1 hx) with rfl|hx
   ·omega
   ·exact h'.1 x hx
theorem AfA: ∀l:List Int,(sortI l).Pairwise (· ≤ ·)
 | []=> .nil
 |n::r=>AgC n (AfA r)
theorem Apo {l m:List Int} (h:l.Perm m) (hs:m.Pairwise (· ≤ ·)):sortI l=m:=
 List.Perm.eq_of_pairwise (le:=fun a b:Int=>a≤b) (fun a b _ _ h1 h2=>by omega) (AfA l) hs ((Afs l).trans h)
theorem Ak1 {l m:List Int} (h:l.Perm m):l.mergeSort (fun x y=>decide (x≤y))=sortI m:=by
 refine (Apo ((List.mergeSort_perm l _).trans h).symm ?_).symm;have tr: ∀a b c:Int,decide (a≤b)=true→decide (b≤c)=true→decide (a≤c)=true:=fun a b c h1 h2=>by simp only [decide_eq_true_eq] at*;omega
 have to: ∀a b:Int,(decide (a≤b)||decide (b≤a))=true:=fun a b=>by simp only [Bool.or_eq_true,decide_eq_true_eq];omega
 exact (List.pairwise_mergeSort tr to l).imp fun h=>by simpa using h
theorem Alw {n:Int}: ∀ {l:List Int},newI n l=true→n∉l
 | [],_=>by simp
 |m::r,h=>by
  unfold newI at h;split at h
  ·contradiction
  ·rename_i hn;simp only [qf,not_or];exact ⟨by simpa using hn,Alw h⟩
theorem Ag8: ∀ {l:List Int},goodI l=true→l.Nodup∧ ∀n∈l,-9223372036854775808≤n∧n≤9223372036854775807
 | [],_=>⟨.nil,by simp⟩
 |n::r,h=>by
  simp only [goodI,zf,decide_eq_true_eq] at h;obtain ⟨⟨⟨h1,h2⟩,h3⟩,h4⟩:=h;obtain ⟨h5,h6⟩:=Ag8 h4;refine ⟨List.nodup_cons.2 ⟨Alw h3,h5⟩,fun x hx=> ?_⟩;rcases qf.1 hx with rfl|hx
  ·exact ⟨h1,h2⟩
  ·exact h6 x hx
theorem AnB {P:Program} {cx:Cx} {ρ ρ' ρ'':Ren} (K:SlLaysZI.n10 P ρ) (L:SlLaysZI.n6 P ρ') (Y:SlLaysM.n5 P ρ'') (h5:ρ''.f 5=ρ'.f 9) {f g:Nat} (hf:ρ'.f 6=f) (hg:ρ.f 10=g):ExOK P cx f (.keys [g]):=by
 subst hf hg;refine ⟨L.f6.enters rfl,fun g' hg' w Bm b es clock zs hcell hb he hsz hkey hgood hmax=> ?_⟩;obtain rfl:=List.mem_singleton.1 hg';obtain ⟨hnd,hrg⟩:=Ag8 hgood
 let R:Value→Option (DataW Unit×List MemPlace):=fun _=>some (.nil,[])
 have hrd: ∀x∈es.toList,∃z∈zs,x.key= .int .i64 z∧WideElems.rd P (ρ.t 26) R x=some (.int .i64 z,.nil):=by
  intro x hx;obtain ⟨i,hi,rfl⟩:=List.mem_iff_getElem.1 hx;have hi':i<es.size:=by simpa using hi
  have hx:es[i]?=some es.toList[i]:=by rw [qp hi'];simp
  have hz:zs[i]?=some (zs[i]'(by omega)):=zt _;have hk:=hkey i _ _ hz hx;have hm:zs[i]'(by omega)∈zs:=List.getElem_mem _;refine ⟨_,hm,hk,?_⟩;have:=hrg _ hm;have hw:(Lit.int .i64 (zs[i]'(by omega))).wf=true:=by simp [Lit.wf,IntKind.min,IntKind.max,IntKind.bits,IntKind.signed];omega
  unfold WideElems.rd keyOf mapKey;rw [K.t26,hk];simp [hw,R]
 have hkeys:es.toList.map (fun x=>x.key)=zs.map (.int .i64):=by
  refine List.ext_getElem? fun i=> ?_;simp only [qb,xg];by_cases hi:i<es.size
  ·have hz:zs[i]?=some (zs[i]'(by omega)):=zt _;have hx:es[i]?=some es[i]:=qp hi;rw [hz,hx];simp [hkey i _ _ hz hx]
  ·rw [yu (by omega),List.getElem?_eq_none (by omega)];rfl
 have hfit:WideElems.Fit P (ρ.t 26) R es clock:=by
  refine ⟨by unfold maxLen;omega,⟨fun x hx=> ?_,?_,?_⟩,fun x hx=> ?_⟩
  ·obtain ⟨i,hi,rfl⟩:=List.mem_iff_getElem.1 hx;exact he.1 i _ (by rw [←xg];exact zt hi)
  ·refine List.pairwise_iff_getElem.2 fun i j hi hj hij e=> ?_;simp only [List.getElem_map] at e;simp only [List.length_map] at hi hj;have:=he.2 i j _ _ (by rw [←xg];exact zt hi) (by rw [←xg];exact zt hj) e;omega
  ·rw [hkeys];exact List.pairwise_map.2 (hnd.imp fun h e=>h (by simpa using e))
  ·obtain ⟨z,_,_,h⟩:=hrd x hx;exact ⟨_,h⟩
 have hown:w.ownsMap P (ρ.t 26) R b es.size (.map ((es.toList.map (fk P (ρ.t 26) R)).foldr nz [])):=⟨es,clock,hb,hfit,qn _,rfl⟩
 have hint:(intKeys (.map ((es.toList.map (fk P (ρ.t 26) R)).foldr nz []))).Perm zs:=by
  refine ((WideShapes.sorted_perm _).map _).trans ?_;rw [yf];have:es.toList.map ((fun p:Lit×DataW Unit=>intOf p.1)∘fk P (ρ.t 26) R)=zs:=by
   have h2:es.toList.map ((fun p:Lit×DataW Unit=>intOf p.1)∘fk P (ρ.t 26) R)=(es.toList.map (fun x=>x.key)).map fun v=>match v with| .int _ n=>n|_=>0:=by
    rw [yf];refine List.map_congr_left fun x hx=> ?_;obtain ⟨z,_,h1,h2⟩:=hrd x hx;simp [fk,h2,h1,intOf]
   rw [h2,hkeys,yf];simp [Function.comp_def]
  rw [this]
 have hsize:Maps.size (.map ((es.toList.map (fk P (ρ.t 26) R)).foldr nz []))=es.size:=by
  simp only [Maps.size];rw [length_sorted];simp
 refine (callsIn_wide (n:=6)).1 ?_;have hBm:Bm<w.heap.size:=by
  refine Nat.lt_of_not_le fun h=> ?_;simp [World.cell?,yu h] at hcell
 have hseq:=AnyZI.keys_gives K Fence.wide 3 trivial rfl (by omega) Bm b es.size _ w hBm hcell hown;have hsort:AnyZI.SortsIn P ρ' Fence.wide 5:=⟨fun blk off cap ss W hH hblk hs=>callsIn_wide.2 (by rw [←h5];exact AnyM.slices_Sort_int Y blk off cap ss W hH hblk hs),fun p cap W=>callsIn_wide.2 (by rw [←h5];exact AnyM.slices_Sort_int_none Y p cap W)⟩
 have e9:Enters P (ρ'.f 9):=by rw [←h5];exact Y.f5.enters rfl
 have cS:=AnyZI.sorted_in L Fence.wide 6 trivial trivial trivial trivial rfl (by omega) hsort e9 (ρ.f 10) #[.pointer (some ⟨Bm,0,none⟩)] trivial (K.f10.enters rfl) _ _ (by rw [hsize];unfold maxLen;omega) (by rw [hsize];omega) w hseq;refine cS.mono ?_;rintro e w' ⟨v,ss,rfl,hS,hrow,_,hbl⟩;refine ⟨v,rfl,?_,hbl⟩;rw [Ak1 (hS.trans hint)] at hrow;have hlen:(sortI zs).length=ss.length:=(Afs zs).length_eq.trans (hS.trans hint).length_eq.symm;obtain ⟨hl,hrow⟩:=hrow;rcases hrow with ⟨rfl,h0⟩|⟨gb,cap,cur,rfl,h1,h2,h3,h4,h6,h7⟩
 ·rw [List.eq_nil_of_length_eq_zero (show (sortI zs).length=0 by omega)];exact .slN _ _ _
 ·by_cases hn:sortI zs= []
  ·rw [hn] at hlen⊢;rw [←hlen];exact .slN _ _ _
  rw [←hlen,show (sortI zs).length=((sortI zs).map (xc .i64)).length by simp];refine .slC 1 _ gb 0 cap (fun i _=> .int .i64 ((sortI zs).getD i 0)) (by simpa using hn) (by simp;omega) ⟨h1,(zu.1 h2).1⟩ ?_ ?_ ?_
  ·intro i j hi hj;simp only [List.length_map] at hi;refine ⟨?_,rfl⟩;obtain rfl:j=0:=by omega
   have hc:cur[i]?=some (.int .i64 ((sortI zs).getD i 0)):=by
    have:=congrArg (·[i]?) h7;simp only [qb] at this;rw [List.getElem?_take_of_lt (by omega),xg] at this;rw [this,zt hi];simp [List.getD,zt hi]
   simp [World.cell?,h2,hc]
  ·intro i x hx _;simp only [qb] at hx;obtain ⟨z,_,rfl⟩:=qa.1 hx;rfl
  ·intro i j x t hx _ ht;simp only [qb] at hx;obtain ⟨z,hz,rfl⟩:=qa.1 hx
   match j,ht with
   |0,ht=>
    simp [pf] at ht;subst ht;simp only [List.getD,hz];exact .int _ _
   |j+1,ht=>simp [pf] at ht
end Go.Eva
namespace Go.Eva.S8
open Go.Proofs Go.Shelf
def keysRen:Ren:=⟨fun|7=>78|10=>157|n=>n,fun|23=>103|26=>3|3=>112|28=>138|0=>0|27=>137|33=>111|4=>4|n=>n,fun n=>n⟩
theorem keysLay:SlLaysZI.n10 Tryz.prog keysRen where
 mixed:=by kernel_rfl
 f10:=⟨Tryz.f157.name,of_decide_eq_true (by kernel_rfl),Tryz.func157.trans (congrArg some (by kernel_rfl))⟩
 t0:=Tryz.underlying0
 a0:=Tryz.isAgg0
 z0:=Tryz.sizeOf0
 v0:=Tryz.zeroValue0
 t4:=Tryz.underlying4
 a4:=Tryz.isAgg4
 z4:=Tryz.sizeOf4
 v4:=Tryz.zeroValue4
 t23:=Tryz.underlying103
 a23:=Tryz.isAgg103
 z23:=Tryz.sizeOf103
 v23:=Tryz.zeroValue103
 t26:=Tryz.underlying3
 a26:=Tryz.isAgg3
 z26:=Tryz.sizeOf3
 v26:=Tryz.zeroValue3
 t33:=Tryz.underlying111
 a33:=Tryz.isAgg111
 z33:=Tryz.sizeOf111
 v33:=Tryz.zeroValue111
def sortedRen:Ren:=⟨fun|6=>77|8=>155|9=>156|11=>220|13=>222|12=>221|23=>274|24=>275|14=>265|15=>266|16=>267|17=>268|18=>269|19=>270|20=>271|21=>272|22=>273|25=>290|26=>291|27=>292|28=>293|29=>294|30=>276|31=>301|n=>n,fun|26=>3|28=>138|24=>66|0=>0|3=>3|37=>46|48=>308|50=>24|4=>4|40=>301|39=>300|45=>305|5=>5|9=>9|51=>315|55=>319|57=>324|58=>109|33=>111|n=>n,fun n=>n⟩
theorem sortedLay:SlLaysZI.n6 Tryz.prog sortedRen where
 mixed:=by kernel_rfl
 f6:=⟨Tryz.f77.name,of_decide_eq_true (by kernel_rfl),Tryz.func77.trans (congrArg some (by kernel_rfl))⟩
 f8:=⟨Tryz.f155.name,of_decide_eq_true (by kernel_rfl),Tryz.func155.trans (congrArg some (by kernel_rfl))⟩
 f11:=⟨Tryz.f220.name,of_decide_eq_true (by kernel_rfl),Tryz.func220.trans (congrArg some (by kernel_rfl))⟩
 t0:=Tryz.underlying0
 a0:=Tryz.isAgg0
 z0:=Tryz.sizeOf0
 v0:=Tryz.zeroValue0
 t24:=Tryz.underlying66
 a24:=Tryz.isAgg66
 z24:=Tryz.sizeOf66
 v24:=Tryz.zeroValue66
 t26:=Tryz.underlying3
 a26:=Tryz.isAgg3
 z26:=Tryz.sizeOf3
 v26:=Tryz.zeroValue3
 t28:=Tryz.underlying138
 a28:=Tryz.isAgg138
 z28:=Tryz.sizeOf138
 v28:=Tryz.zeroValue138
 i26:=by kernel_rfl
def sortRen:Ren:=⟨fun|5=>156|8=>222|7=>221|19=>274|20=>275|10=>265|11=>266|12=>267|13=>268|14=>269|15=>270|16=>271|17=>272|18=>273|30=>290|31=>291|32=>292|33=>293|34=>294|35=>276|40=>301|n=>n,fun|23=>66|25=>3|3=>3|32=>46|22=>66|0=>0|44=>308|46=>24|4=>4|36=>301|35=>300|41=>305|5=>5|9=>9|53=>315|57=>319|63=>324|64=>109|n=>n,fun n=>n⟩
theorem sortLay:SlLaysM.n5 Tryz.prog sortRen where
 mixed:=by kernel_rfl
 f5:=⟨Tryz.f156.name,of_decide_eq_true (by kernel_rfl),Tryz.func156.trans (congrArg some (by kernel_rfl))⟩
 f7:=⟨Tryz.f221.name,of_decide_eq_true (by kernel_rfl),Tryz.func221.trans (congrArg some (by kernel_rfl))⟩
 f8:=Tryz.func222.trans (congrArg some (by kernel_rfl))
 f10:=⟨Tryz.f265.name,of_decide_eq_true (by kernel_rfl),Tryz.func265.trans (congrArg some (by kernel_rfl))⟩
 f11:=⟨Tryz.f266.name,of_decide_eq_true (by kernel_rfl),Tryz.func266.trans (congrArg some (by kernel_rfl))⟩
 f12:=⟨Tryz.f267.name,of_decide_eq_true (by kernel_rfl),Tryz.func267.trans (congrArg some (by kernel_rfl))⟩
 f13:=⟨Tryz.f268.name,of_decide_eq_true (by kernel_rfl),Tryz.func268.trans (congrArg some (by kernel_rfl))⟩
 f14:=⟨Tryz.f269.name,of_decide_eq_true (by kernel_rfl),Tryz.func269.trans (congrArg some (by kernel_rfl))⟩
 f15:=⟨Tryz.f270.name,of_decide_eq_true (by kernel_rfl),Tryz.func270.trans (congrArg some (by kernel_rfl))⟩
 f16:=⟨Tryz.f271.name,of_decide_eq_true (by kernel_rfl),Tryz.func271.trans (congrArg some (by kernel_rfl))⟩
 f17:=⟨Tryz.f272.name,of_decide_eq_true (by kernel_rfl),Tryz.func272.trans (congrArg some (by kernel_rfl))⟩
 f18:=⟨Tryz.f273.name,of_decide_eq_true (by kernel_rfl),Tryz.func273.trans (congrArg some (by kernel_rfl))⟩
 f19:=Tryz.func274.trans (congrArg some (by kernel_rfl))
 f20:=Tryz.func275.trans (congrArg some (by kernel_rfl))
 f30:=⟨Tryz.f290.name,of_decide_eq_true (by kernel_rfl),Tryz.func290.trans (congrArg some (by kernel_rfl))⟩
 f31:=Tryz.func291.trans (congrArg some (by kernel_rfl))
 f32:=Tryz.func292.trans (congrArg some (by kernel_rfl))
 f33:=⟨Tryz.f293.name,of_decide_eq_true (by kernel_rfl),Tryz.func293.trans (congrArg some (by kernel_rfl))⟩
 f34:=⟨Tryz.f294.name,of_decide_eq_true (by kernel_rfl),Tryz.func294.trans (congrArg some (by kernel_rfl))⟩
 f35:=⟨Tryz.f276.name,of_decide_eq_true (by kernel_rfl),Tryz.func276.trans (congrArg some (by kernel_rfl))⟩
 f40:=⟨Tryz.f301.name,of_decide_eq_true (by kernel_rfl),Tryz.func301.trans (congrArg some (by kernel_rfl))⟩
 t0:=Tryz.underlying0
 a0:=Tryz.isAgg0
 z0:=Tryz.sizeOf0
 v0:=Tryz.zeroValue0
 t3:=Tryz.underlying3
 a3:=Tryz.isAgg3
 z3:=Tryz.sizeOf3
 v3:=Tryz.zeroValue3
 t4:=Tryz.underlying4
 a4:=Tryz.isAgg4
 z4:=Tryz.sizeOf4
 v4:=Tryz.zeroValue4
 t5:=Tryz.underlying5
 a5:=Tryz.isAgg5
 z5:=Tryz.sizeOf5
 v5:=Tryz.zeroValue5
 t9:=Tryz.underlying9
 a9:=Tryz.isAgg9
 z9:=Tryz.sizeOf9
 v9:=Tryz.zeroValue9
 t22:=Tryz.underlying66
 a22:=Tryz.isAgg66
 z22:=Tryz.sizeOf66
 v22:=Tryz.zeroValue66
 t23:=Tryz.underlying66
 a23:=Tryz.isAgg66
 z23:=Tryz.sizeOf66
 v23:=Tryz.zeroValue66
 t25:=Tryz.underlying3
 a25:=Tryz.isAgg3
 z25:=Tryz.sizeOf3
 v25:=Tryz.zeroValue3
 t32:=Tryz.underlying46
 a32:=Tryz.isAgg46
 z32:=Tryz.sizeOf46
 v32:=Tryz.zeroValue46
 t35:=Tryz.underlying300
 a35:=Tryz.isAgg300
 z35:=Tryz.sizeOf300
 v35:=Tryz.zeroValue300
 t36:=Tryz.underlying301
 a36:=Tryz.isAgg301
 z36:=Tryz.sizeOf301
 v36:=Tryz.zeroValue301
 t41:=Tryz.underlying305
 a41:=Tryz.isAgg305
 z41:=Tryz.sizeOf305
 v41:=Tryz.zeroValue305
 t44:=Tryz.underlying308
 a44:=Tryz.isAgg308
 z44:=Tryz.sizeOf308
 v44:=Tryz.zeroValue308
 t46:=Tryz.underlying24
 a46:=Tryz.isAgg24
 z46:=Tryz.sizeOf24
 v46:=Tryz.zeroValue24
 t53:=Tryz.underlying315
 a53:=Tryz.isAgg315
 z53:=Tryz.sizeOf315
 v53:=Tryz.zeroValue315
 t57:=Tryz.underlying319
 a57:=Tryz.isAgg319
 z57:=Tryz.sizeOf319
 v57:=Tryz.zeroValue319
 t63:=Tryz.underlying324
 a63:=Tryz.isAgg324
 z63:=Tryz.sizeOf324
 v63:=Tryz.zeroValue324
 t64:=Tryz.underlying109
 a64:=Tryz.isAgg109
 z64:=Tryz.sizeOf109
 v64:=Tryz.zeroValue109
theorem keysOK:ExOK Tryz.prog cx 77 (.keys [157]):=AnB (cx:=cx) keysLay sortedLay sortLay rfl rfl rfl
end Go.Eva.S8
namespace Go.Eva.S8
open Go.Proofs
theorem cxTy:CxTy Tryz.prog cx:=ApJ (by decide+kernel) (by decide+kernel) (⟨⟨Tryz.f295,by kernel_rfl,by decide+kernel,by kernel_rfl,by kernel_rfl,by kernel_rfl,by kernel_rfl,79,by kernel_rfl⟩,keysOK,trivial⟩)
theorem ok3:FnOK Tryz.prog cx 3 fi3 Tryz.f3:=mkOk
theorem ok11:FnOK Tryz.prog cx 11 fi11 Tryz.f11:=mkOk
theorem ok12:FnOK Tryz.prog cx 12 fi12 Tryz.f12:=mkOk
theorem ok13:FnOK Tryz.prog cx 13 fi13 Tryz.f13:=mkOk
theorem ok14:FnOK Tryz.prog cx 14 fi14 Tryz.f14:=mkOk
theorem ok15:FnOK Tryz.prog cx 15 fi15 Tryz.f15:=mkOk
theorem ok16:FnOK Tryz.prog cx 16 fi16 Tryz.f16:=mkOk
theorem ok17:FnOK Tryz.prog cx 17 fi17 Tryz.f17:=mkOk
theorem ok18:FnOK Tryz.prog cx 18 fi18 Tryz.f18:=mkOk
theorem ok21:FnOK Tryz.prog cx 21 fi21 Tryz.f21:=mkOk
theorem ok30:FnOK Tryz.prog cx 30 fi30 Tryz.f30:=mkOk
theorem ok31:FnOK Tryz.prog cx 31 fi31 Tryz.f31:=mkOk
theorem ok49:FnOK Tryz.prog cx 49 fi49 Tryz.f49:=mkOk
theorem ok50:FnOK Tryz.prog cx 50 fi50 Tryz.f50:=mkOk
theorem ok51:FnOK Tryz.prog cx 51 fi51 Tryz.f51:=mkOk
theorem ok52:FnOK Tryz.prog cx 52 fi52 Tryz.f52:=mkOk
theorem ok53:FnOK Tryz.prog cx 53 fi53 Tryz.f53:=mkOk
theorem ok54:FnOK Tryz.prog cx 54 fi54 Tryz.f54:=mkOk
theorem ok55:FnOK Tryz.prog cx 55 fi55 Tryz.f55:=mkOk
theorem ok56:FnOK Tryz.prog cx 56 fi56 Tryz.f56:=mkOk
theorem ok57:FnOK Tryz.prog cx 57 fi57 Tryz.f57:=mkOk
theorem ok58:FnOK Tryz.prog cx 58 fi58 Tryz.f58:=mkOk
theorem ok59:FnOK Tryz.prog cx 59 fi59 Tryz.f59:=mkOk
theorem ok60:FnOK Tryz.prog cx 60 fi60 Tryz.f60:=mkOk
theorem ok61:FnOK Tryz.prog cx 61 fi61 Tryz.f61:=mkOk
theorem ok62:FnOK Tryz.prog cx 62 fi62 Tryz.f62:=mkOk
theorem ok63:FnOK Tryz.prog cx 63 fi63 Tryz.f63:=mkOk
theorem ok64:FnOK Tryz.prog cx 64 fi64 Tryz.f64:=mkOk
theorem ok65:FnOK Tryz.prog cx 65 fi65 Tryz.f65:=mkOk
theorem ok66:FnOK Tryz.prog cx 66 fi66 Tryz.f66:=mkOk
theorem ok67:FnOK Tryz.prog cx 67 fi67 Tryz.f67:=mkOk
theorem ok69:FnOK Tryz.prog cx 69 fi69 Tryz.f69:=mkOk
theorem ok71:FnOK Tryz.prog cx 71 fi71 Tryz.f71:=mkOk
theorem ok73:FnOK Tryz.prog cx 73 fi73 Tryz.f73:=mkOk
theorem ok78:FnOK Tryz.prog cx 78 fi78 Tryz.f78:=mkOk
theorem ok80:FnOK Tryz.prog cx 80 fi80 Tryz.f80:=mkOk
theorem ok90:FnOK Tryz.prog cx 90 fi90 Tryz.f90:=mkOk
theorem ok111:FnOK Tryz.prog cx 111 fi111 Tryz.f111:=mkOk
theorem ok112:FnOK Tryz.prog cx 112 fi112 Tryz.f112:=mkOk
theorem ok113:FnOK Tryz.prog cx 113 fi113 Tryz.f113:=mkOk
theorem ok114:FnOK Tryz.prog cx 114 fi114 Tryz.f114:=mkOk
theorem ok115:FnOK Tryz.prog cx 115 fi115 Tryz.f115:=mkOk
theorem ok116:FnOK Tryz.prog cx 116 fi116 Tryz.f116:=mkOk
theorem ok117:FnOK Tryz.prog cx 117 fi117 Tryz.f117:=mkOk
theorem ok118:FnOK Tryz.prog cx 118 fi118 Tryz.f118:=mkOk
theorem ok119:FnOK Tryz.prog cx 119 fi119 Tryz.f119:=mkOk
theorem ok120:FnOK Tryz.prog cx 120 fi120 Tryz.f120:=mkOk
theorem ok121:FnOK Tryz.prog cx 121 fi121 Tryz.f121:=mkOk
theorem ok122:FnOK Tryz.prog cx 122 fi122 Tryz.f122:=mkOk
theorem ok123:FnOK Tryz.prog cx 123 fi123 Tryz.f123:=mkOk
theorem ok124:FnOK Tryz.prog cx 124 fi124 Tryz.f124:=mkOk
theorem ok125:FnOK Tryz.prog cx 125 fi125 Tryz.f125:=mkOk
theorem ok126:FnOK Tryz.prog cx 126 fi126 Tryz.f126:=mkOk
theorem ok127:FnOK Tryz.prog cx 127 fi127 Tryz.f127:=mkOk
theorem ok148:FnOK Tryz.prog cx 148 fi148 Tryz.f148:=mkOk
theorem ok149:FnOK Tryz.prog cx 149 fi149 Tryz.f149:=mkOk
theorem ok150:FnOK Tryz.prog cx 150 fi150 Tryz.f150:=mkOk
theorem ok151:FnOK Tryz.prog cx 151 fi151 Tryz.f151:=mkOk
theorem ok152:FnOK Tryz.prog cx 152 fi152 Tryz.f152:=mkOk
theorem ok153:FnOK Tryz.prog cx 153 fi153 Tryz.f153:=mkOk
theorem ok157:FnOK Tryz.prog cx 157 fi157 Tryz.f157:=mkOk
theorem ok160:FnOK Tryz.prog cx 160 fi160 Tryz.f160:=mkOk
theorem ok179:FnOK Tryz.prog cx 179 fi179 Tryz.f179:=mkOk
theorem ok180:FnOK Tryz.prog cx 180 fi180 Tryz.f180:=mkOk
theorem ok181:FnOK Tryz.prog cx 181 fi181 Tryz.f181:=mkOk
theorem ok182:FnOK Tryz.prog cx 182 fi182 Tryz.f182:=mkOk
theorem ok183:FnOK Tryz.prog cx 183 fi183 Tryz.f183:=mkOk
theorem ok184:FnOK Tryz.prog cx 184 fi184 Tryz.f184:=mkOk
theorem ok185:FnOK Tryz.prog cx 185 fi185 Tryz.f185:=mkOk
theorem ok186:FnOK Tryz.prog cx 186 fi186 Tryz.f186:=mkOk
theorem ok187:FnOK Tryz.prog cx 187 fi187 Tryz.f187:=mkOk
theorem ok188:FnOK Tryz.prog cx 188 fi188 Tryz.f188:=mkOk
theorem ok189:FnOK Tryz.prog cx 189 fi189 Tryz.f189:=mkOk
theorem ok190:FnOK Tryz.prog cx 190 fi190 Tryz.f190:=mkOk
theorem ok191:FnOK Tryz.prog cx 191 fi191 Tryz.f191:=mkOk
theorem ok192:FnOK Tryz.prog cx 192 fi192 Tryz.f192:=mkOk
theorem ok193:FnOK Tryz.prog cx 193 fi193 Tryz.f193:=mkOk
theorem ok194:FnOK Tryz.prog cx 194 fi194 Tryz.f194:=mkOk
theorem ok195:FnOK Tryz.prog cx 195 fi195 Tryz.f195:=mkOk
theorem ok196:FnOK Tryz.prog cx 196 fi196 Tryz.f196:=mkOk
theorem ok197:FnOK Tryz.prog cx 197 fi197 Tryz.f197:=mkOk
theorem ok198:FnOK Tryz.prog cx 198 fi198 Tryz.f198:=mkOk
theorem ok199:FnOK Tryz.prog cx 199 fi199 Tryz.f199:=mkOk
theorem ok200:FnOK Tryz.prog cx 200 fi200 Tryz.f200:=mkOk
theorem ok201:FnOK Tryz.prog cx 201 fi201 Tryz.f201:=mkOk
theorem ok202:FnOK Tryz.prog cx 202 fi202 Tryz.f202:=mkOk
theorem ok203:FnOK Tryz.prog cx 203 fi203 Tryz.f203:=mkOk
theorem ok204:FnOK Tryz.prog cx 204 fi204 Tryz.f204:=mkOk
theorem ok205:FnOK Tryz.prog cx 205 fi205 Tryz.f205:=mkOk
theorem ok206:FnOK Tryz.prog cx 206 fi206 Tryz.f206:=mkOk
theorem ok214:FnOK Tryz.prog cx 214 fi214 Tryz.f214:=mkOk
theorem ok215:FnOK Tryz.prog cx 215 fi215 Tryz.f215:=mkOk
theorem ok216:FnOK Tryz.prog cx 216 fi216 Tryz.f216:=mkOk
theorem ok217:FnOK Tryz.prog cx 217 fi217 Tryz.f217:=mkOk
theorem ok218:FnOK Tryz.prog cx 218 fi218 Tryz.f218:=mkOk
theorem ok219:FnOK Tryz.prog cx 219 fi219 Tryz.f219:=mkOk
theorem ok229:FnOK Tryz.prog cx 229 fi229 Tryz.f229:=mkOk
theorem ok230:FnOK Tryz.prog cx 230 fi230 Tryz.f230:=mkOk
theorem ok231:FnOK Tryz.prog cx 231 fi231 Tryz.f231:=mkOk
theorem ok232:FnOK Tryz.prog cx 232 fi232 Tryz.f232:=mkOk
theorem ok233:FnOK Tryz.prog cx 233 fi233 Tryz.f233:=mkOk
theorem ok234:FnOK Tryz.prog cx 234 fi234 Tryz.f234:=mkOk
theorem ok235:FnOK Tryz.prog cx 235 fi235 Tryz.f235:=mkOk
theorem ok236:FnOK Tryz.prog cx 236 fi236 Tryz.f236:=mkOk
theorem ok237:FnOK Tryz.prog cx 237 fi237 Tryz.f237:=mkOk
theorem ok238:FnOK Tryz.prog cx 238 fi238 Tryz.f238:=mkOk
theorem ok239:FnOK Tryz.prog cx 239 fi239 Tryz.f239:=mkOk
theorem ok240:FnOK Tryz.prog cx 240 fi240 Tryz.f240:=mkOk
theorem ok241:FnOK Tryz.prog cx 241 fi241 Tryz.f241:=mkOk
theorem ok242:FnOK Tryz.prog cx 242 fi242 Tryz.f242:=mkOk
theorem ok243:FnOK Tryz.prog cx 243 fi243 Tryz.f243:=mkOk
theorem ok244:FnOK Tryz.prog cx 244 fi244 Tryz.f244:=mkOk
theorem ok245:FnOK Tryz.prog cx 245 fi245 Tryz.f245:=mkOk
theorem ok246:FnOK Tryz.prog cx 246 fi246 Tryz.f246:=mkOk
theorem ok247:FnOK Tryz.prog cx 247 fi247 Tryz.f247:=mkOk
theorem ok248:FnOK Tryz.prog cx 248 fi248 Tryz.f248:=mkOk
theorem ok249:FnOK Tryz.prog cx 249 fi249 Tryz.f249:=mkOk
theorem ok250:FnOK Tryz.prog cx 250 fi250 Tryz.f250:=mkOk
theorem ok251:FnOK Tryz.prog cx 251 fi251 Tryz.f251:=mkOk
theorem ok252:FnOK Tryz.prog cx 252 fi252 Tryz.f252:=mkOk
theorem ok253:FnOK Tryz.prog cx 253 fi253 Tryz.f253:=mkOk
theorem ok254:FnOK Tryz.prog cx 254 fi254 Tryz.f254:=mkOk
theorem ok255:FnOK Tryz.prog cx 255 fi255 Tryz.f255:=mkOk
theorem ok256:FnOK Tryz.prog cx 256 fi256 Tryz.f256:=mkOk
theorem ok257:FnOK Tryz.prog cx 257 fi257 Tryz.f257:=mkOk
theorem ok258:FnOK Tryz.prog cx 258 fi258 Tryz.f258:=mkOk
theorem ok259:FnOK Tryz.prog cx 259 fi259 Tryz.f259:=mkOk
theorem ok260:FnOK Tryz.prog cx 260 fi260 Tryz.f260:=mkOk
theorem ok276:FnOK Tryz.prog cx 276 fi276 Tryz.f276:=mkOk
theorem ok277:FnOK Tryz.prog cx 277 fi277 Tryz.f277:=mkOk
theorem ok278:FnOK Tryz.prog cx 278 fi278 Tryz.f278:=mkOk
theorem ok279:FnOK Tryz.prog cx 279 fi279 Tryz.f279:=mkOk
theorem ok280:FnOK Tryz.prog cx 280 fi280 Tryz.f280:=mkOk
theorem ok281:FnOK Tryz.prog cx 281 fi281 Tryz.f281:=mkOk
theorem ok282:FnOK Tryz.prog cx 282 fi282 Tryz.f282:=mkOk
theorem ok283:FnOK Tryz.prog cx 283 fi283 Tryz.f283:=mkOk
theorem ok284:FnOK Tryz.prog cx 284 fi284 Tryz.f284:=mkOk
theorem ok285:FnOK Tryz.prog cx 285 fi285 Tryz.f285:=mkOk
theorem ok286:FnOK Tryz.prog cx 286 fi286 Tryz.f286:=mkOk
theorem ok287:FnOK Tryz.prog cx 287 fi287 Tryz.f287:=mkOk
theorem ok288:FnOK Tryz.prog cx 288 fi288 Tryz.f288:=mkOk
theorem ok289:FnOK Tryz.prog cx 289 fi289 Tryz.f289:=mkOk
theorem ok296:FnOK Tryz.prog cx 296 fi296 Tryz.f296:=mkOk
theorem ok297:FnOK Tryz.prog cx 297 fi297 Tryz.f297:=mkOk
theorem ok298:FnOK Tryz.prog cx 298 fi298 Tryz.f298:=mkOk
theorem ok299:FnOK Tryz.prog cx 299 fi299 Tryz.f299:=mkOk
theorem ok300:FnOK Tryz.prog cx 300 fi300 Tryz.f300:=mkOk
theorem ok302:FnOK Tryz.prog cx 302 fi302 Tryz.f302:=mkOk
theorem ok303:FnOK Tryz.prog cx 303 fi303 Tryz.f303:=mkOk
theorem ok304:FnOK Tryz.prog cx 304 fi304 Tryz.f304:=mkOk
theorem ok305:FnOK Tryz.prog cx 305 fi305 Tryz.f305:=mkOk
theorem fnsOK:FnsOK Tryz.prog cx:=AoK (⟨Aab _,⟨Aab _,⟨Aac ok3,⟨Aab _,⟨Aac ok15,⟨Aac ok31,⟨Aac ok63,⟨Aac ok127,⟨Aac ok255,trivial,trivial⟩,trivial⟩,⟨Aac ok191,⟨Aab _,trivial,trivial⟩,trivial⟩⟩,⟨Aab _,⟨Aab _,⟨Aac ok287,trivial,trivial⟩,trivial⟩,⟨Aab _,trivial,trivial⟩⟩⟩,⟨Aab _,⟨Aab _,⟨Aab _,⟨Aab _,trivial,trivial⟩,trivial⟩,⟨Aab _,trivial,trivial⟩⟩,⟨Aac ok111,⟨Aab _,⟨Aac ok303,trivial,trivial⟩,trivial⟩,⟨Aac ok239,trivial,trivial⟩⟩⟩⟩,⟨Aab _,⟨Aab _,⟨Aac ok71,⟨Aab _,⟨Aab _,trivial,trivial⟩,trivial⟩,⟨Aac ok199,trivial,trivial⟩⟩,⟨Aab _,⟨Aab _,⟨Aab _,trivial,trivial⟩,trivial⟩,⟨Aac ok231,trivial,trivial⟩⟩⟩,⟨Aac ok55,⟨Aab _,⟨Aac ok151,⟨Aac ok279,trivial,trivial⟩,trivial⟩,⟨Aac ok215,trivial,trivial⟩⟩,⟨Aac ok119,⟨Aac ok183,⟨Aab _,trivial,trivial⟩,trivial⟩,⟨Aac ok247,trivial,trivial⟩⟩⟩⟩⟩,⟨Aac ok11,⟨Aab _,⟨Aab _,⟨Aac ok67,⟨Aab _,⟨Aac ok259,trivial,trivial⟩,trivial⟩,⟨Aac ok195,trivial,trivial⟩⟩,⟨Aab _,⟨Aab _,⟨Aab _,trivial,trivial⟩,trivial⟩,⟨Aab _,trivial,trivial⟩⟩⟩,⟨Aac ok51,⟨Aab _,⟨Aab _,⟨Aab _,trivial,trivial⟩,trivial⟩,⟨Aab _,trivial,trivial⟩⟩,⟨Aac ok115,⟨Aac ok179,⟨Aab _,trivial,trivial⟩,trivial⟩,⟨Aac ok243,trivial,trivial⟩⟩⟩⟩,⟨Aab _,⟨Aab _,⟨Aab _,⟨Aab _,⟨Aab _,trivial,trivial⟩,trivial⟩,⟨Aac ok203,trivial,trivial⟩⟩,⟨Aab _,⟨Aab _,⟨Aac ok299,trivial,trivial⟩,trivial⟩,⟨Aac ok235,trivial,trivial⟩⟩⟩,⟨Aac ok59,⟨Aab _,⟨Aab _,⟨Aac ok283,trivial,trivial⟩,trivial⟩,⟨Aac ok219,trivial,trivial⟩⟩,⟨Aac ok123,⟨Aac ok187,⟨Aab _,trivial,trivial⟩,trivial⟩,⟨Aac ok251,trivial,trivial⟩⟩⟩⟩⟩⟩,⟨Aab _,⟨Aab _,⟨Aac ok17,⟨Aab _,⟨Aac ok65,⟨Aab _,⟨Aac ok257,trivial,trivial⟩,trivial⟩,⟨Aac ok193,⟨Aab _,trivial,trivial⟩,trivial⟩⟩,⟨Aab _,⟨Aab _,⟨Aac ok289,trivial,trivial⟩,trivial⟩,⟨Aab _,trivial,trivial⟩⟩⟩,⟨Aac ok49,⟨Aab _,⟨Aab _,⟨Aab _,trivial,trivial⟩,trivial⟩,⟨Aab _,trivial,trivial⟩⟩,⟨Aac ok113,⟨Aab _,⟨Aac ok305,trivial,trivial⟩,trivial⟩,⟨Aac ok241,trivial,trivial⟩⟩⟩⟩,⟨Aab _,⟨Aab _,⟨Aac ok73,⟨Aab _,⟨Aab _,trivial,trivial⟩,trivial⟩,⟨Aac ok201,trivial,trivial⟩⟩,⟨Aab _,⟨Aab _,⟨Aac ok297,trivial,trivial⟩,trivial⟩,⟨Aac ok233,trivial,trivial⟩⟩⟩,⟨Aac ok57,⟨Aab _,⟨Aac ok153,⟨Aac ok281,trivial,trivial⟩,trivial⟩,⟨Aac ok217,trivial,trivial⟩⟩,⟨Aac ok121,⟨Aac ok185,⟨Aab _,trivial,trivial⟩,trivial⟩,⟨Aac ok249,trivial,trivial⟩⟩⟩⟩⟩,⟨Aac ok13,⟨Aac ok21,⟨Aab _,⟨Aac ok69,⟨Aab _,⟨Aab _,trivial,trivial⟩,trivial⟩,⟨Aac ok197,trivial,trivial⟩⟩,⟨Aab _,⟨Aab _,⟨Aab _,trivial,trivial⟩,trivial⟩,⟨Aac ok229,trivial,trivial⟩⟩⟩,⟨Aac ok53,⟨Aab _,⟨Aac ok149,⟨Aac ok277,trivial,trivial⟩,trivial⟩,⟨Aab _,trivial,trivial⟩⟩,⟨Aac ok117,⟨Aac ok181,⟨Aab _,trivial,trivial⟩,trivial⟩,⟨Aac ok245,trivial,trivial⟩⟩⟩⟩,⟨Aab _,⟨Aab _,⟨Aab _,⟨Aab _,⟨Aab _,trivial,trivial⟩,trivial⟩,⟨Aac ok205,trivial,trivial⟩⟩,⟨Aab _,⟨Aab _,⟨Aab _,trivial,trivial⟩,trivial⟩,⟨Aac ok237,trivial,trivial⟩⟩⟩,⟨Aac ok61,⟨Aab _,⟨Aac ok157,⟨Aac ok285,trivial,trivial⟩,trivial⟩,⟨Aab _,trivial,trivial⟩⟩,⟨Aac ok125,⟨Aac ok189,⟨Aab _,trivial,trivial⟩,trivial⟩,⟨Aac ok253,trivial,trivial⟩⟩⟩⟩⟩⟩⟩,⟨Aab _,⟨Aab _,⟨Aab _,⟨Aac ok16,⟨Aab _,⟨Aac ok64,⟨Aab _,⟨Aac ok256,trivial,trivial⟩,trivial⟩,⟨Aac ok192,⟨Aab _,trivial,trivial⟩,trivial⟩⟩,⟨Aab _,⟨Aac ok160,⟨Aac ok288,trivial,trivial⟩,trivial⟩,⟨Aab _,trivial,trivial⟩⟩⟩,⟨Aab _,⟨Aac ok80,⟨Aab _,⟨Aab _,trivial,trivial⟩,trivial⟩,⟨Aab _,trivial,trivial⟩⟩,⟨Aac ok112,⟨Aab _,⟨Aac ok304,trivial,trivial⟩,trivial⟩,⟨Aac ok240,trivial,trivial⟩⟩⟩⟩,⟨Aab _,⟨Aab _,⟨Aab _,⟨Aab _,⟨Aab _,trivial,trivial⟩,trivial⟩,⟨Aac ok200,trivial,trivial⟩⟩,⟨Aab _,⟨Aab _,⟨Aac ok296,trivial,trivial⟩,trivial⟩,⟨Aac ok232,trivial,trivial⟩⟩⟩,⟨Aac ok56,⟨Aab _,⟨Aac ok152,⟨Aac ok280,trivial,trivial⟩,trivial⟩,⟨Aac ok216,trivial,trivial⟩⟩,⟨Aac ok120,⟨Aac ok184,⟨Aab _,trivial,trivial⟩,trivial⟩,⟨Aac ok248,trivial,trivial⟩⟩⟩⟩⟩,⟨Aac ok12,⟨Aab _,⟨Aab _,⟨Aab _,⟨Aab _,⟨Aac ok260,trivial,trivial⟩,trivial⟩,⟨Aac ok196,trivial,trivial⟩⟩,⟨Aab _,⟨Aab _,⟨Aab _,trivial,trivial⟩,trivial⟩,⟨Aab _,trivial,trivial⟩⟩⟩,⟨Aac ok52,⟨Aab _,⟨Aac ok148,⟨Aac ok276,trivial,trivial⟩,trivial⟩,⟨Aab _,trivial,trivial⟩⟩,⟨Aac ok116,⟨Aac ok180,⟨Aab _,trivial,trivial⟩,trivial⟩,⟨Aac ok244,trivial,trivial⟩⟩⟩⟩,⟨Aab _,⟨Aab _,⟨Aab _,⟨Aab _,⟨Aab _,trivial,trivial⟩,trivial⟩,⟨Aac ok204,trivial,trivial⟩⟩,⟨Aab _,⟨Aab _,⟨Aac ok300,trivial,trivial⟩,trivial⟩,⟨Aac ok236,trivial,trivial⟩⟩⟩,⟨Aac ok60,⟨Aab _,⟨Aab _,⟨Aac ok284,trivial,trivial⟩,trivial⟩,⟨Aab _,trivial,trivial⟩⟩,⟨Aac ok124,⟨Aac ok188,⟨Aab _,trivial,trivial⟩,trivial⟩,⟨Aac ok252,trivial,trivial⟩⟩⟩⟩⟩⟩,⟨Aab _,⟨Aab _,⟨Aac ok18,⟨Aab _,⟨Aac ok66,⟨Aab _,⟨Aac ok258,trivial,trivial⟩,trivial⟩,⟨Aac ok194,⟨Aab _,trivial,trivial⟩,trivial⟩⟩,⟨Aab _,⟨Aab _,⟨Aab _,trivial,trivial⟩,trivial⟩,⟨Aab _,trivial,trivial⟩⟩⟩,⟨Aac ok50,⟨Aab _,⟨Aab _,⟨Aab _,trivial,trivial⟩,trivial⟩,⟨Aab _,trivial,trivial⟩⟩,⟨Aac ok114,⟨Aab _,⟨Aab _,trivial,trivial⟩,trivial⟩,⟨Aac ok242,trivial,trivial⟩⟩⟩⟩,⟨Aab _,⟨Aab _,⟨Aab _,⟨Aab _,⟨Aab _,trivial,trivial⟩,trivial⟩,⟨Aac ok202,trivial,trivial⟩⟩,⟨Aab _,⟨Aab _,⟨Aac ok298,trivial,trivial⟩,trivial⟩,⟨Aac ok234,trivial,trivial⟩⟩⟩,⟨Aac ok58,⟨Aac ok90,⟨Aab _,⟨Aac ok282,trivial,trivial⟩,trivial⟩,⟨Aac ok218,trivial,trivial⟩⟩,⟨Aac ok122,⟨Aac ok186,⟨Aab _,trivial,trivial⟩,trivial⟩,⟨Aac ok250,trivial,trivial⟩⟩⟩⟩⟩,⟨Aac ok14,⟨Aab _,⟨Aab _,⟨Aab _,⟨Aab _,⟨Aab _,trivial,trivial⟩,trivial⟩,⟨Aac ok198,trivial,trivial⟩⟩,⟨Aab _,⟨Aab _,⟨Aab _,trivial,trivial⟩,trivial⟩,⟨Aac ok230,trivial,trivial⟩⟩⟩,⟨Aac ok54,⟨Aab _,⟨Aac ok150,⟨Aac ok278,trivial,trivial⟩,trivial⟩,⟨Aac ok214,trivial,trivial⟩⟩,⟨Aac ok118,⟨Aac ok182,⟨Aab _,trivial,trivial⟩,trivial⟩,⟨Aac ok246,trivial,trivial⟩⟩⟩⟩,⟨Aac ok30,⟨Aab _,⟨Aac ok78,⟨Aab _,⟨Aab _,trivial,trivial⟩,trivial⟩,⟨Aac ok206,trivial,trivial⟩⟩,⟨Aab _,⟨Aab _,⟨Aac ok302,trivial,trivial⟩,trivial⟩,⟨Aac ok238,trivial,trivial⟩⟩⟩,⟨Aac ok62,⟨Aab _,⟨Aab _,⟨Aac ok286,trivial,trivial⟩,trivial⟩,⟨Aab _,trivial,trivial⟩⟩,⟨Aac ok126,⟨Aac ok190,⟨Aab _,trivial,trivial⟩,trivial⟩,⟨Aac ok254,trivial,trivial⟩⟩⟩⟩⟩⟩⟩⟩)
end Go.Eva.S8
namespace Go.Eva
section
variable {cx:Cx} {t m:Nat} {ts:List T} {i:TI}
theorem AkN (hti:cx.ti.get t=some i) (hk:i.ty= .int .i64) (h:Conf cx m t ts): ∃n,ts= [ti n]∧i64 n:=by
 cases m with
 |zero=>exact h.elim
 |succ m=>
  simp only [Conf,hti,hk] at h;obtain ⟨n,rfl,hw⟩:=h;refine ⟨n,rfl,?_⟩;simp [Lit.wf,IntKind.min,IntKind.max,IntKind.signed,IntKind.bits] at hw;exact ⟨by omega,by omega⟩
theorem AmY (hti:cx.ti.get t=some i) (hk:i.ty= .bool) (h:Conf cx m t ts): ∃b,ts= [.bool b]:=by
 cases m with
 |zero=>exact h.elim
 |succ m=>simpa only [Conf,hti,hk] using h
theorem Akj {fs:List (Nat×Nat)} (hti:cx.ti.get t=some i) (hk:i.ty= .struct fs) (h:Conf cx (m+1) t ts):ts.length=i.size∧ ∀p∈fs,Conf cx m p.2 ((ts.drop p.1).take (sizeOf cx p.2)):=by
 simpa only [Conf,hti,hk] using h
theorem AmX {j k:Nat} {fs:List (Nat×Nat)} (hi:cx.ti.get k=some i) (hk:i.ty= .int .i64) (hs:sizeOf cx k=1) (h: ∀p∈fs,Conf cx m p.2 ((ts.drop p.1).take (sizeOf cx p.2))) (hp:(j,k)∈fs): ∃n,ts[j]?=some (ti n)∧i64 n:=by
 have:=h _ hp;simp only [hs] at this;obtain ⟨n,h1,h2⟩:=AkN hi hk this;refine ⟨n,?_,h2⟩;have h3:=congrArg (fun l=>l[0]?) h1;simpa [List.getElem?_take,List.getElem?_drop] using h3
def Entity.ok (e:Entity):Prop:=i64 e.id∧i64 e.kind∧i64 e.x∧i64 e.y∧i64 e.vx∧i64 e.vy∧i64 e.health∧i64 e.age∧i64 e.owner
def Input.ok (e:Input):Prop:=i64 e.dx∧i64 e.dy
def Cross.ok (c:Cross):Prop:=i64 c.kind∧i64 c.frm∧i64 c.to∧i64 c.frame∧c.ent.ok∧i64 c.x∧i64 c.y
theorem Amh {k u:Nat} {j v:TI} (hk:cx.ti.get k=some j) (hkt:j.ty= .int .i64) (hs:sizeOf cx k=1) (hu:cx.ti.get u=some v) (hut:v.ty= .bool) (hus:sizeOf cx u=1) (hti:cx.ti.get t=some i)
  (hty:i.ty= .struct [(0,k),(1,k),(2,u)]) (hsz:i.size=3) (h:Conf cx (m+1) t ts): ∃c:Input,ts=c.enc.cells∧c.ok:=by
 obtain ⟨h1,h2⟩:=Akj hti hty h;rw [hsz] at h1;obtain ⟨n0,a0,b0⟩:=AmX (j:=0) hk hkt hs h2 (by simp);obtain ⟨n1,a1,b1⟩:=AmX (j:=1) hk hkt hs h2 (by simp);have h4:=h2 (2,u) (by simp);simp only [hus] at h4;obtain ⟨n2,a2⟩:=AmY hu hut h4;refine ⟨⟨n0,n1,n2⟩,?_,b0,b1⟩
 match ts,h1 with
 | [_,_,_],_=>simp_all [zo,pf]
theorem Am5 (hti:cx.ti.get t=some i) (h: ∀fs,i.ty≠ .struct fs):isStruct cx t=false:=by
 unfold isStruct;rw [hti];cases i with
 |mk ty s b q=>cases ty<;>simp_all
theorem AnA {fs:List (Nat×Nat)} (hti:cx.ti.get t=some i) (h:i.ty= .struct fs):isStruct cx t=true:=by
 unfold isStruct;rw [hti];cases i with
 |mk ty s b q=>simp only at h;subst h;rfl
theorem ApG (hti:cx.ti.get t=some i) (hk:i.ty= .int .i64) {x:T} (h:Arg cx m t x): ∃n,x=ti n∧i64 n:=by
 obtain ⟨h1,h2,h3,h4⟩:=h;obtain ⟨n,h5,h6⟩:=AkN hti hk h4;rw [h3 (Am5 hti (by rw [hk];simp))] at h5;exact ⟨n,by simpa using h5,h6⟩
theorem Aq1 {α:Type} {f:α→T} {P:α→Prop} {fs:List (Nat×Nat)} (hti:cx.ti.get t=some i) (hk:i.ty= .struct fs) (hf: ∀e,∃l,f e= .agg l) (hc: ∀ {ts},Conf cx m t ts→ ∃e,ts=(f e).cells∧P e) {x:T} (h:Arg cx m t x): ∃e,x=f e∧P e:=by
 obtain ⟨h1,h2,h3,h4⟩:=h;obtain ⟨l,rfl⟩:=h2 (AnA hti hk);obtain ⟨e,h5,h6⟩:=hc h4;obtain ⟨l',hl⟩:=hf e;rw [hl] at h5;simp only [pf] at h5;exact ⟨e,by rw [hl,h5],h6⟩
end
end Go.Eva