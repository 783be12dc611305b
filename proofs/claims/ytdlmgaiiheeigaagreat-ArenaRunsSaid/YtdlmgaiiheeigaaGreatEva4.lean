/- A reading of the program, proved sound against the model, and what its functions answer by it: part 4. -/
import Derived.Test.YtdlmgaiiheeigaaGreatEva3
set_option linter.unusedSimpArgs false
set_option linter.unusedVariables false
open List renaming length → zq, map → zz, replicate → zj, set → zx, take → zw, drop → zk
open Int renaming toNat → zy, tmod → zg, fdiv → zh
open Go.IntKind renaming i64 → zd, u64 → zf, wrap → zp
open BitVec renaming ofInt → zb
open Go.Eva.Entity renaming enc → zm, less → z8, right → z9, mk → qw
open Go.Eva.Cross renaming enc → zn, less → z7
open Go.Eva.Input renaming enc → zr
open Go.Eva.Region renaming enc → zt
open Go.Eva.Config renaming regions → z0, near → z6
open Go.Eva.Wp renaming ev → qq
open Go.Eva.Res renaming mk → qz
open Go.Eva.Ex renaming ret → qj, exit → qx
open Go.Eva.Ob renaming arr → qv, one → qg
open Go.Eva.T renaming sl → qk
open Go.Eva.V renaming all → qy
namespace Go.Eva.S4
theorem Aep (A0 A1 A2 A3:List Cross) (a m b mid s:Nat) (hmid:(a+b)/2=mid) (hc:m≤mid)
  (h1:a+1<m) (h2:m+1<b) (hb:b≤A0.length) (hn:small A0) (hs:a≤s∧s≤m)
  (hbs:Is cx (.loop 187 [0,0,1,1,1,1,1,1,1] 1 [.all 0 none,vi a,vi m,vi b,.t (.clo 129 []),vi mid,vi (mid+m:Nat),vi a,vi m,vi (mid+m-1:Nat)] [.arr 15 (A0.map zn) none false])
   ⟨.exit 8,[.all 0 none,vi a,vi m,vi b,.t (.clo 129 []),vi mid,vi (mid+m:Nat),vi s,vi s,vi (mid+m-1:Nat)],[.arr 15 (A0.map zn) none false]⟩)
  (k1:s<m→s<mid→Is cx (.call 194 [.all 0 none,vi s,vi m,vi (mid+m-s:Nat),.t (.clo 129 [])] [.arr 15 (A0.map zn) none false]) ⟨.ret,[],[.arr 15 (A1.map zn) none false]⟩)
  (k1': ¬(s<m∧s<mid)→A0=A1)
  (k2:a<s→s<mid→Is cx (.call 187 [.all 0 none,vi a,vi s,vi mid,.t (.clo 129 [])] [.arr 15 (A1.map zn) none false]) ⟨.ret,[],[.arr 15 (A2.map zn) none false]⟩)
  (k2': ¬(a<s∧s<mid)→A1=A2)
  (k3:s<m→mid+m<b+s→Is cx (.call 187 [.all 0 none,vi mid,vi (mid+m-s:Nat),vi b,.t (.clo 129 [])] [.arr 15 (A2.map zn) none false]) ⟨.ret,[],[.arr 15 (A3.map zn) none false]⟩)
  (k3': ¬(s<m∧mid+m<b+s)→A2=A3):
  Is cx (.call 187 [.all 0 none,vi a,vi m,vi b,.t (.clo 129 [])] [.arr 15 (A0.map zn) none false])
  ⟨.ret,[],[.arr 15 (A3.map zn) none false]⟩:=by
 have hf:zh ((a+b:Nat):Int) 2=(mid:Nat):=by rw [Int.fdiv_eq_ediv_of_nonneg _ (by omega)];omega
 have hmm:a<mid∧mid<b:=by omega
 unfold small at hn
 have e1:((mid+m:Nat):Int)-1=(mid+m-1:Nat):=by omega
 have e2:((mid+m:Nat):Int)-s=(mid+m-s:Nat):=by omega
 by_cases c1:s<m∧s<mid
 ·have j1:=k1 c1.1 c1.2
  by_cases c2:a<s
  ·have j2:=k2 c2 c1.2
   by_cases c3:mid+m<b+s
   ·have j3:=k3 c1.1 c3
    clear k1' k2' k3' k1 k2 k3
    refine qq ?_
    refine gg [.i zd ((m:Int)-(a:Int)) ((m:Int)-(a:Int)),.b ((m:Int)-(a:Int)==1) false,.i zd ((b:Int)-(m:Int)) ((b:Int)-(m:Int)),.b ((b:Int)-(m:Int)==1) false,.i zd ((a:Int)+(b:Int)) ((↑(a+b):Int)),.i zf ((↑(a+b):Int)) ((↑(a+b):Int)),.w (0≤(1:Int)),.t (T.int zf (zh (↑(a+b):Int) 2)) (T.int zf (mid:Int)),.i zd (mid:Int) (mid:Int),.i zd ((mid:Int)+(m:Int)) ((↑(mid+m):Int)),.b (decide ((m:Int)>(mid:Int))) false,.i zd ((↑(mid+m):Int)-1) ((↑(mid+m-1):Int)),.a _ _,.i zd ((↑(mid+m):Int)-(s:Int)) ((↑(mid+m-s):Int)),.b (decide ((s:Int)<(m:Int))) true,.tt] ⟨oI,fE,oI,fE,oI,oU,oW,o_t (by rw [hf]),oI,oI,fP,oI,o_a hbs,oI,tP,trivial⟩ ?_
    refine gg [.tt,.tt,.b (decide ((m:Int)<(↑(mid+m-s):Int))) true,.a _ _,.b (decide ((a:Int)<(s:Int))) true,.tt,.tt,.tt,.b (decide ((s:Int)<(mid:Int))) true,.a _ _,.b (decide ((mid:Int)<(↑(mid+m-s):Int))) true,.tt,.tt,.tt,.b (decide ((↑(mid+m-s):Int)<(b:Int))) true,.a _ _] ⟨tP,o_a j1,tP,tP,o_a j2,tP,tP,o_a j3,trivial⟩ ?_
    exact ge
   ·obtain rfl:=k3' (fun h=>c3 h.2)
    clear k1' k2' k3' k1 k2 k3
    omega
  ·obtain rfl:=k2' (fun h=>c2 h.1)
   by_cases c3:mid+m<b+s
   ·have j3:=k3 c1.1 c3
    clear k1' k2' k3' k1 k2 k3
    refine qq ?_
    refine gg [.i zd ((m:Int)-(a:Int)) ((m:Int)-(a:Int)),.b ((m:Int)-(a:Int)==1) false,.i zd ((b:Int)-(m:Int)) ((b:Int)-(m:Int)),.b ((b:Int)-(m:Int)==1) false,.i zd ((a:Int)+(b:Int)) ((↑(a+b):Int)),.i zf ((↑(a+b):Int)) ((↑(a+b):Int)),.w (0≤(1:Int)),.t (T.int zf (zh (↑(a+b):Int) 2)) (T.int zf (mid:Int)),.i zd (mid:Int) (mid:Int),.i zd ((mid:Int)+(m:Int)) ((↑(mid+m):Int)),.b (decide ((m:Int)>(mid:Int))) false,.i zd ((↑(mid+m):Int)-1) ((↑(mid+m-1):Int)),.a _ _,.i zd ((↑(mid+m):Int)-(s:Int)) ((↑(mid+m-s):Int)),.b (decide ((s:Int)<(m:Int))) true,.tt] ⟨oI,fE,oI,fE,oI,oU,oW,o_t (by rw [hf]),oI,oI,fP,oI,o_a hbs,oI,tP,trivial⟩ ?_
    refine gg [.tt,.tt,.b (decide ((m:Int)<(↑(mid+m-s):Int))) true,.a _ _,.b (decide ((a:Int)<(s:Int))) false,.ff,.ff,.ff,.ff,.b (decide ((mid:Int)<(↑(mid+m-s):Int))) true,.tt,.tt,.tt,.b (decide ((↑(mid+m-s):Int)<(b:Int))) true,.a _ _] ⟨tP,o_a j1,fP,tP,tP,o_a j3,trivial⟩ ?_
    exact ge
   ·obtain rfl:=k3' (fun h=>c3 h.2)
    clear k1' k2' k3' k1 k2 k3
    refine qq ?_
    refine gg [.i zd ((m:Int)-(a:Int)) ((m:Int)-(a:Int)),.b ((m:Int)-(a:Int)==1) false,.i zd ((b:Int)-(m:Int)) ((b:Int)-(m:Int)),.b ((b:Int)-(m:Int)==1) false,.i zd ((a:Int)+(b:Int)) ((↑(a+b):Int)),.i zf ((↑(a+b):Int)) ((↑(a+b):Int)),.w (0≤(1:Int)),.t (T.int zf (zh (↑(a+b):Int) 2)) (T.int zf (mid:Int)),.i zd (mid:Int) (mid:Int),.i zd ((mid:Int)+(m:Int)) ((↑(mid+m):Int)),.b (decide ((m:Int)>(mid:Int))) false,.i zd ((↑(mid+m):Int)-1) ((↑(mid+m-1):Int)),.a _ _,.i zd ((↑(mid+m):Int)-(s:Int)) ((↑(mid+m-s):Int)),.b (decide ((s:Int)<(m:Int))) true,.tt] ⟨oI,fE,oI,fE,oI,oU,oW,o_t (by rw [hf]),oI,oI,fP,oI,o_a hbs,oI,tP,trivial⟩ ?_
    refine gg [.tt,.tt,.b (decide ((m:Int)<(↑(mid+m-s):Int))) true,.a _ _,.b (decide ((a:Int)<(s:Int))) false,.ff,.ff,.ff,.ff,.b (decide ((mid:Int)<(↑(mid+m-s):Int))) true,.tt,.tt,.tt,.b (decide ((↑(mid+m-s):Int)<(b:Int))) false] ⟨tP,o_a j1,fP,tP,fP,trivial⟩ ?_
    exact ge
 ·obtain rfl:=k1' c1
  by_cases c0:s<m
  ·have c4: ¬s<mid:=fun h=>c1 ⟨c0,h⟩
   obtain rfl:=k2' (fun h=>c4 h.2)
   by_cases c3:mid+m<b+s
   ·have j3:=k3 c0 c3
    clear k1' k2' k3' k1 k2 k3
    by_cases c2:a<s
    ·omega
    ·omega
   ·obtain rfl:=k3' (fun h=>c3 h.2)
    clear k1' k2' k3' k1 k2 k3
    by_cases c2:a<s
    ·omega
    ·omega
  ·obtain rfl:=k3' (fun h=>c0 h.1)
   by_cases c4:s<mid
   ·have j2:=k2 (by omega) c4
    clear k1' k2' k3' k1 k2 k3
    refine qq ?_
    refine gg [.i zd ((m:Int)-(a:Int)) ((m:Int)-(a:Int)),.b ((m:Int)-(a:Int)==1) false,.i zd ((b:Int)-(m:Int)) ((b:Int)-(m:Int)),.b ((b:Int)-(m:Int)==1) false,.i zd ((a:Int)+(b:Int)) ((↑(a+b):Int)),.i zf ((↑(a+b):Int)) ((↑(a+b):Int)),.w (0≤(1:Int)),.t (T.int zf (zh (↑(a+b):Int) 2)) (T.int zf (mid:Int)),.i zd (mid:Int) (mid:Int),.i zd ((mid:Int)+(m:Int)) ((↑(mid+m):Int)),.b (decide ((m:Int)>(mid:Int))) false,.i zd ((↑(mid+m):Int)-1) ((↑(mid+m-1):Int)),.a _ _,.i zd ((↑(mid+m):Int)-(s:Int)) ((↑(mid+m-s):Int)),.b (decide ((s:Int)<(m:Int))) false,.ff] ⟨oI,fE,oI,fE,oI,oU,oW,o_t (by rw [hf]),oI,oI,fP,oI,o_a hbs,oI,fP,trivial⟩ ?_
    refine gg [.ff,.ff,.ff,.b (decide ((a:Int)<(s:Int))) true,.tt,.tt,.tt,.b (decide ((s:Int)<(mid:Int))) true,.a _ _,.b (decide ((mid:Int)<(↑(mid+m-s):Int))) false,.ff,.ff,.ff,.ff] ⟨tP,tP,o_a j2,fP,trivial⟩ ?_
    exact ge
   ·obtain rfl:=k2' (fun h=>c4 h.2)
    clear k1' k2' k3' k1 k2 k3
    by_cases c2:a<s
    ·refine qq ?_
     refine gg [.i zd ((m:Int)-(a:Int)) ((m:Int)-(a:Int)),.b ((m:Int)-(a:Int)==1) false,.i zd ((b:Int)-(m:Int)) ((b:Int)-(m:Int)),.b ((b:Int)-(m:Int)==1) false,.i zd ((a:Int)+(b:Int)) ((↑(a+b):Int)),.i zf ((↑(a+b):Int)) ((↑(a+b):Int)),.w (0≤(1:Int)),.t (T.int zf (zh (↑(a+b):Int) 2)) (T.int zf (mid:Int)),.i zd (mid:Int) (mid:Int),.i zd ((mid:Int)+(m:Int)) ((↑(mid+m):Int)),.b (decide ((m:Int)>(mid:Int))) false,.i zd ((↑(mid+m):Int)-1) ((↑(mid+m-1):Int)),.a _ _,.i zd ((↑(mid+m):Int)-(s:Int)) ((↑(mid+m-s):Int)),.b (decide ((s:Int)<(m:Int))) false,.ff] ⟨oI,fE,oI,fE,oI,oU,oW,o_t (by rw [hf]),oI,oI,fP,oI,o_a hbs,oI,fP,trivial⟩ ?_
     refine gg [.ff,.ff,.ff,.b (decide ((a:Int)<(s:Int))) true,.tt,.tt,.tt,.b (decide ((s:Int)<(mid:Int))) false,.b (decide ((mid:Int)<(↑(mid+m-s):Int))) false,.ff,.ff,.ff,.ff] ⟨tP,fP,fP,trivial⟩ ?_
     exact ge
    ·omega
theorem AeG (A0 A1 A2 A3:List Cross) (a m b mid s:Nat) (hmid:(a+b)/2=mid) (hc:mid<m)
  (h1:a+1<m) (h2:m+1<b) (hb:b≤A0.length) (hn:small A0) (hs:mid+m-b≤s∧s≤mid)
  (hbs:Is cx (.loop 187 [0,0,1,1,1,1,1,1,1] 1 [.all 0 none,vi a,vi m,vi b,.t (.clo 129 []),vi mid,vi (mid+m:Nat),vi (mid+m-b:Nat),vi mid,vi (mid+m-1:Nat)] [.arr 15 (A0.map zn) none false])
   ⟨.exit 8,[.all 0 none,vi a,vi m,vi b,.t (.clo 129 []),vi mid,vi (mid+m:Nat),vi s,vi s,vi (mid+m-1:Nat)],[.arr 15 (A0.map zn) none false]⟩)
  (k1:s<m→s<mid→Is cx (.call 194 [.all 0 none,vi s,vi m,vi (mid+m-s:Nat),.t (.clo 129 [])] [.arr 15 (A0.map zn) none false]) ⟨.ret,[],[.arr 15 (A1.map zn) none false]⟩)
  (k1': ¬(s<m∧s<mid)→A0=A1)
  (k2:a<s→s<mid→Is cx (.call 187 [.all 0 none,vi a,vi s,vi mid,.t (.clo 129 [])] [.arr 15 (A1.map zn) none false]) ⟨.ret,[],[.arr 15 (A2.map zn) none false]⟩)
  (k2': ¬(a<s∧s<mid)→A1=A2)
  (k3:s<m→mid+m<b+s→Is cx (.call 187 [.all 0 none,vi mid,vi (mid+m-s:Nat),vi b,.t (.clo 129 [])] [.arr 15 (A2.map zn) none false]) ⟨.ret,[],[.arr 15 (A3.map zn) none false]⟩)
  (k3': ¬(s<m∧mid+m<b+s)→A2=A3):
  Is cx (.call 187 [.all 0 none,vi a,vi m,vi b,.t (.clo 129 [])] [.arr 15 (A0.map zn) none false])
  ⟨.ret,[],[.arr 15 (A3.map zn) none false]⟩:=by
 have hf:zh ((a+b:Nat):Int) 2=(mid:Nat):=by rw [Int.fdiv_eq_ediv_of_nonneg _ (by omega)];omega
 have hmm:a<mid∧mid<b:=by omega
 unfold small at hn
 have e1:((mid+m:Nat):Int)-1=(mid+m-1:Nat):=by omega
 have e2:((mid+m:Nat):Int)-s=(mid+m-s:Nat):=by omega
 have e3:((mid+m:Nat):Int)-b=(mid+m-b:Nat):=by omega
 by_cases c1:s<m∧s<mid
 ·have j1:=k1 c1.1 c1.2
  by_cases c2:a<s
  ·have j2:=k2 c2 c1.2
   by_cases c3:mid+m<b+s
   ·have j3:=k3 c1.1 c3
    clear k1' k2' k3' k1 k2 k3
    refine qq ?_
    refine gg [.i zd ((m:Int)-(a:Int)) ((m:Int)-(a:Int)),.b ((m:Int)-(a:Int)==1) false,.i zd ((b:Int)-(m:Int)) ((b:Int)-(m:Int)),.b ((b:Int)-(m:Int)==1) false,.i zd ((a:Int)+(b:Int)) ((↑(a+b):Int)),.i zf ((↑(a+b):Int)) ((↑(a+b):Int)),.w (0≤(1:Int)),.t (T.int zf (zh (↑(a+b):Int) 2)) (T.int zf (mid:Int)),.i zd (mid:Int) (mid:Int),.i zd ((mid:Int)+(m:Int)) ((↑(mid+m):Int)),.b (decide ((m:Int)>(mid:Int))) true,.i zd ((↑(mid+m):Int)-(b:Int)) ((↑(mid+m-b):Int)),.i zd ((↑(mid+m):Int)-1) ((↑(mid+m-1):Int)),.a _ _,.i zd ((↑(mid+m):Int)-(s:Int)) ((↑(mid+m-s):Int)),.b (decide ((s:Int)<(m:Int))) true] ⟨oI,fE,oI,fE,oI,oU,oW,o_t (by rw [hf]),oI,oI,tP,oI,oI,o_a hbs,oI,tP,trivial⟩ ?_
    refine gg [.tt,.tt,.tt,.b (decide ((m:Int)<(↑(mid+m-s):Int))) true,.a _ _,.b (decide ((a:Int)<(s:Int))) true,.tt,.tt,.tt,.b (decide ((s:Int)<(mid:Int))) true,.a _ _,.b (decide ((mid:Int)<(↑(mid+m-s):Int))) true,.tt,.tt,.tt,.b (decide ((↑(mid+m-s):Int)<(b:Int))) true] ⟨tP,o_a j1,tP,tP,o_a j2,tP,tP,trivial⟩ ?_
    refine gg [.a _ _] ⟨o_a j3,trivial⟩ ?_
    exact ge
   ·obtain rfl:=k3' (fun h=>c3 h.2)
    clear k1' k2' k3' k1 k2 k3
    refine qq ?_
    refine gg [.i zd ((m:Int)-(a:Int)) ((m:Int)-(a:Int)),.b ((m:Int)-(a:Int)==1) false,.i zd ((b:Int)-(m:Int)) ((b:Int)-(m:Int)),.b ((b:Int)-(m:Int)==1) false,.i zd ((a:Int)+(b:Int)) ((↑(a+b):Int)),.i zf ((↑(a+b):Int)) ((↑(a+b):Int)),.w (0≤(1:Int)),.t (T.int zf (zh (↑(a+b):Int) 2)) (T.int zf (mid:Int)),.i zd (mid:Int) (mid:Int),.i zd ((mid:Int)+(m:Int)) ((↑(mid+m):Int)),.b (decide ((m:Int)>(mid:Int))) true,.i zd ((↑(mid+m):Int)-(b:Int)) ((↑(mid+m-b):Int)),.i zd ((↑(mid+m):Int)-1) ((↑(mid+m-1):Int)),.a _ _,.i zd ((↑(mid+m):Int)-(s:Int)) ((↑(mid+m-s):Int)),.b (decide ((s:Int)<(m:Int))) true] ⟨oI,fE,oI,fE,oI,oU,oW,o_t (by rw [hf]),oI,oI,tP,oI,oI,o_a hbs,oI,tP,trivial⟩ ?_
    refine gg [.tt,.tt,.tt,.b (decide ((m:Int)<(↑(mid+m-s):Int))) true,.a _ _,.b (decide ((a:Int)<(s:Int))) true,.tt,.tt,.tt,.b (decide ((s:Int)<(mid:Int))) true,.a _ _,.b (decide ((mid:Int)<(↑(mid+m-s):Int))) true,.tt,.tt,.tt,.b (decide ((↑(mid+m-s):Int)<(b:Int))) false] ⟨tP,o_a j1,tP,tP,o_a j2,tP,fP,trivial⟩ ?_
    exact ge
  ·obtain rfl:=k2' (fun h=>c2 h.1)
   by_cases c3:mid+m<b+s
   ·have j3:=k3 c1.1 c3
    clear k1' k2' k3' k1 k2 k3
    omega
   ·obtain rfl:=k3' (fun h=>c3 h.2)
    clear k1' k2' k3' k1 k2 k3
    refine qq ?_
    refine gg [.i zd ((m:Int)-(a:Int)) ((m:Int)-(a:Int)),.b ((m:Int)-(a:Int)==1) false,.i zd ((b:Int)-(m:Int)) ((b:Int)-(m:Int)),.b ((b:Int)-(m:Int)==1) false,.i zd ((a:Int)+(b:Int)) ((↑(a+b):Int)),.i zf ((↑(a+b):Int)) ((↑(a+b):Int)),.w (0≤(1:Int)),.t (T.int zf (zh (↑(a+b):Int) 2)) (T.int zf (mid:Int)),.i zd (mid:Int) (mid:Int),.i zd ((mid:Int)+(m:Int)) ((↑(mid+m):Int)),.b (decide ((m:Int)>(mid:Int))) true,.i zd ((↑(mid+m):Int)-(b:Int)) ((↑(mid+m-b):Int)),.i zd ((↑(mid+m):Int)-1) ((↑(mid+m-1):Int)),.a _ _,.i zd ((↑(mid+m):Int)-(s:Int)) ((↑(mid+m-s):Int)),.b (decide ((s:Int)<(m:Int))) true] ⟨oI,fE,oI,fE,oI,oU,oW,o_t (by rw [hf]),oI,oI,tP,oI,oI,o_a hbs,oI,tP,trivial⟩ ?_
    refine gg [.tt,.tt,.tt,.b (decide ((m:Int)<(↑(mid+m-s):Int))) true,.a _ _,.b (decide ((a:Int)<(s:Int))) false,.ff,.ff,.ff,.ff,.b (decide ((mid:Int)<(↑(mid+m-s):Int))) true,.tt,.tt,.tt,.b (decide ((↑(mid+m-s):Int)<(b:Int))) false] ⟨tP,o_a j1,fP,tP,fP,trivial⟩ ?_
    exact ge
 ·obtain rfl:=k1' c1
  by_cases c0:s<m
  ·have c4: ¬s<mid:=fun h=>c1 ⟨c0,h⟩
   obtain rfl:=k2' (fun h=>c4 h.2)
   by_cases c3:mid+m<b+s
   ·have j3:=k3 c0 c3
    clear k1' k2' k3' k1 k2 k3
    by_cases c2:a<s
    ·refine qq ?_
     refine gg [.i zd ((m:Int)-(a:Int)) ((m:Int)-(a:Int)),.b ((m:Int)-(a:Int)==1) false,.i zd ((b:Int)-(m:Int)) ((b:Int)-(m:Int)),.b ((b:Int)-(m:Int)==1) false,.i zd ((a:Int)+(b:Int)) ((↑(a+b):Int)),.i zf ((↑(a+b):Int)) ((↑(a+b):Int)),.w (0≤(1:Int)),.t (T.int zf (zh (↑(a+b):Int) 2)) (T.int zf (mid:Int)),.i zd (mid:Int) (mid:Int),.i zd ((mid:Int)+(m:Int)) ((↑(mid+m):Int)),.b (decide ((m:Int)>(mid:Int))) true,.i zd ((↑(mid+m):Int)-(b:Int)) ((↑(mid+m-b):Int)),.i zd ((↑(mid+m):Int)-1) ((↑(mid+m-1):Int)),.a _ _,.i zd ((↑(mid+m):Int)-(s:Int)) ((↑(mid+m-s):Int)),.b (decide ((s:Int)<(m:Int))) true] ⟨oI,fE,oI,fE,oI,oU,oW,o_t (by rw [hf]),oI,oI,tP,oI,oI,o_a hbs,oI,tP,trivial⟩ ?_
     refine gg [.tt,.tt,.tt,.b (decide ((m:Int)<(↑(mid+m-s):Int))) false,.b (decide ((a:Int)<(s:Int))) true,.tt,.tt,.tt,.b (decide ((s:Int)<(mid:Int))) false,.b (decide ((mid:Int)<(↑(mid+m-s):Int))) true,.tt,.tt,.tt,.b (decide ((↑(mid+m-s):Int)<(b:Int))) true,.a _ _] ⟨fP,tP,fP,tP,tP,o_a j3,trivial⟩ ?_
     exact ge
    ·omega
   ·obtain rfl:=k3' (fun h=>c3 h.2)
    clear k1' k2' k3' k1 k2 k3
    by_cases c2:a<s
    ·omega
    ·omega
  ·obtain rfl:=k3' (fun h=>c0 h.1)
   by_cases c4:s<mid
   ·have j2:=k2 (by omega) c4
    clear k1' k2' k3' k1 k2 k3
    omega
   ·obtain rfl:=k2' (fun h=>c4 h.2)
    clear k1' k2' k3' k1 k2 k3
    by_cases c2:a<s
    ·omega
    ·omega
theorem AdB: ∀(n:Nat) (P U V Q:List Cross) (a m b:Nat),U.length+V.length≤n→a=P.length→m=a+U.length→b=m+V.length→0<U.length→0<V.length→Sd z7 U→Sd z7 V→small (P++U++V++Q)→
  Is cx (.call 187 [.all 0 none,vi a,vi m,vi b,.t (.clo 129 [])] [.arr 15 ((P++U++V++Q).map zn) none false])
  ⟨.ret,[],[.arr 15 ((P++sortS z7 (U++V)++Q).map zn) none false]⟩:=by
 intro n
 induction n with
 |zero=>intros;omega
 |succ n ih=>
  intro P U V Q a m b hl ha hm hb hu hv hU hV hn
  by_cases hu1:U.length=1
  ·obtain ⟨x,rfl⟩:=List.length_eq_one_iff.1 hu1
   exact Aeh P V Q x a m b ha (by simpa using hm) hb hv hV hn
  ·by_cases hv1:V.length=1
   ·obtain ⟨y,rfl⟩:=List.length_eq_one_iff.1 hv1
    exact Ae6 P U Q y a m b ha hm (by simpa using hb) (by omega) hU hn
   ·obtain ⟨mid,hmid⟩: ∃mid,(a+b)/2=mid:=⟨_,rfl⟩
    obtain ⟨s0,r0,hs0⟩: ∃s0 r0,m≤mid∧s0=a∧r0=m∨mid<m∧s0=mid+m-b∧r0=mid:=by
     by_cases h:m≤mid
     ·exact ⟨a,m,.inl ⟨h,rfl,rfl⟩⟩
     ·exact ⟨mid+m-b,mid,.inr ⟨by omega,rfl,rfl⟩⟩
    have hlen:(P++U++V++Q).length=b+Q.length:=by simp;omega
    have hbs:=AeQ (P++U++V++Q) a m b mid (mid+m) (mid+m-1) hn (r0-s0) s0 r0 (by omega) (by omega) (by omega) (by omega) (by omega)
    have hp:(fun c=> !z7 (gt (P++U++V++Q) (mid+m-1-c)) (gt (P++U++V++Q) c))=fun c=> !z7 (gt (P++U++V++Q) (mid+m-1-c)) (gt (P++U++V++Q) c):=rfl
    obtain ⟨k1,k2,U1,U2,V1,V2,e1,e2,l1,l2,e3,u1,u2,v1,v2⟩:=Akf Aaq (Q:=Q) ha hm hb hU hV hu hv hmid hs0 (d:=r0-s0) (by omega) rfl
    generalize bs _ (r0-s0) s0 r0=s at*
    subst e1 e2
    simp only [List.length_append] at hl hm hb hu hv hlen hu1 hv1
    have hsm: ∀ {X Y:List Cross},X.length=Y.length→small Y→small X:=fun h k=>by unfold small at*;rw [h];exact k
    have g1:s<m→s<mid→Is cx (.call 194 [.all 0 none,vi s,vi m,vi (mid+m-s:Nat),.t (.clo 129 [])] [.arr 15 ((P++(U1++U2)++(V1++V2)++Q).map zn) none false]) ⟨.ret,[],[.arr 15 ((P++U1++V1++(U2++V2++Q)).map zn) none false]⟩:=by
     intro c1 c2
     have:=Ai6 (P++(U1++U2)++(V1++V2)++Q) s m (mid+m-s) c1 (by omega) (by simp;omega) hn
     have e:(P++(U1++U2)++(V1++V2)++Q).take s++seg (P++(U1++U2)++(V1++V2)++Q) m (mid+m-s)++seg (P++(U1++U2)++(V1++V2)++Q) s m++(P++(U1++U2)++(V1++V2)++Q).drop (mid+m-s)=P++U1++V1++(U2++V2++Q):=by
      have f1:P++(U1++U2)++(V1++V2)++Q=(P++U1)++(U2++(V1++(V2++Q))):=by simp
      have f2:P++(U1++U2)++(V1++V2)++Q=(P++U1++U2)++(V1++(V2++Q)):=by simp
      have f3:P++(U1++U2)++(V1++V2)++Q=(P++U1++U2++V1)++(V2++Q):=by simp
      have g1:(P++(U1++U2)++(V1++V2)++Q).take s=P++U1:=by rw [f1,List.take_left' (by simp;omega)]
      have g2:seg (P++(U1++U2)++(V1++V2)++Q) m (mid+m-s)=V1:=by unfold seg;rw [f2,List.drop_left' (by simp;omega),List.take_left' (by omega)]
      have g3:seg (P++(U1++U2)++(V1++V2)++Q) s m=U2:=by unfold seg;rw [f1,List.drop_left' (by simp;omega),List.take_left' (by omega)]
      have g4:(P++(U1++U2)++(V1++V2)++Q).drop (mid+m-s)=V2++Q:=by rw [f3,List.drop_left' (by simp;omega)]
      rw [g1,g2,g3,g4];simp
     rw [e] at this
     exact this
    have g1': ¬(s<m∧s<mid)→(P++(U1++U2)++(V1++V2)++Q)=(P++U1++V1++(U2++V2++Q)):=by
     intro c
     have:U2= []∨V1= []:=by
      by_cases h:s<m
      ·right;exact List.eq_nil_of_length_eq_zero (by omega)
      ·left;exact List.eq_nil_of_length_eq_zero (by omega)
     rcases this with rfl|rfl<;>simp
    have g2:a<s→s<mid→Is cx (.call 187 [.all 0 none,vi a,vi s,vi mid,.t (.clo 129 [])] [.arr 15 ((P++U1++V1++(U2++V2++Q)).map zn) none false]) ⟨.ret,[],[.arr 15 ((P++sortS z7 (U1++V1)++(U2++V2++Q)).map zn) none false]⟩:=by
     intro c1 c2
     exact ih P U1 V1 (U2++V2++Q) a s mid (by omega) ha (by omega) (by omega) (by omega) (by omega) u1 v1 (hsm (by simp;omega) hn)
    have g2': ¬(a<s∧s<mid)→(P++U1++V1++(U2++V2++Q))=(P++sortS z7 (U1++V1)++(U2++V2++Q)):=by
     intro c
     have:U1= []∨V1= []:=by
      by_cases h:a<s
      ·right;exact List.eq_nil_of_length_eq_zero (by omega)
      ·left;exact List.eq_nil_of_length_eq_zero (by omega)
     rcases this with rfl|rfl
     ·simp [Aa5 Aaq v1]
     ·simp [Aa5 Aaq u1]
    have g3:s<m→mid+m<b+s→Is cx (.call 187 [.all 0 none,vi mid,vi (mid+m-s:Nat),vi b,.t (.clo 129 [])] [.arr 15 ((P++sortS z7 (U1++V1)++(U2++V2++Q)).map zn) none false]) ⟨.ret,[],[.arr 15 ((P++sortS z7 ((U1++U2)++(V1++V2))++Q).map zn) none false]⟩:=by
     intro c1 c2
     have hL:(sortS z7 (U1++V1)).length=U1.length+V1.length:=by rw [AaM Aaq];simp
     have:=ih (P++sortS z7 (U1++V1)) U2 V2 Q mid (mid+m-s) b (by omega) (by simp;omega) (by omega) (by omega) (by omega) (by omega) u2 v2 (hsm (by simp;omega) hn)
     rw [←e3]
     simpa using this
    have g3': ¬(s<m∧mid+m<b+s)→(P++sortS z7 (U1++V1)++(U2++V2++Q))=(P++sortS z7 ((U1++U2)++(V1++V2))++Q):=by
     intro c
     have:U2= []∨V2= []:=by
      by_cases h:s<m
      ·right;exact List.eq_nil_of_length_eq_zero (by omega)
      ·left;exact List.eq_nil_of_length_eq_zero (by omega)
     rw [←e3]
     rcases this with rfl|rfl
     ·simp [Aa5 Aaq v2]
     ·simp [Aa5 Aaq u2]
    rcases hs0 with ⟨hc,rfl,rfl⟩|⟨hc,rfl,rfl⟩
    ·exact Aep _ _ _ _ s0 r0 b mid s hmid hc (by omega) (by omega) (by simp;omega) hn ⟨k1,k2⟩ hbs g1 g1' g2 g2' g3 g3'
    ·exact AeG _ _ _ _ a m b r0 s hmid hc (by omega) (by omega) (by simp;omega) hn ⟨k1,k2⟩ hbs g1 g1' g2 g2' g3 g3'
theorem AdU (A0 A1 A2 A3:List Entity) (a m b mid s:Nat) (hmid:(a+b)/2=mid) (hc:m≤mid)
  (h1:a+1<m) (h2:m+1<b) (hb:b≤A0.length) (hn:small A0) (hs:a≤s∧s≤m)
  (hbs:Is cx (.loop 182 [0,0,1,1,1,1,1,1,1] 1 [.all 0 none,vi a,vi m,vi b,.t (.clo 88 []),vi mid,vi (mid+m:Nat),vi a,vi m,vi (mid+m-1:Nat)] [.arr 9 (A0.map zm) none false])
   ⟨.exit 8,[.all 0 none,vi a,vi m,vi b,.t (.clo 88 []),vi mid,vi (mid+m:Nat),vi s,vi s,vi (mid+m-1:Nat)],[.arr 9 (A0.map zm) none false]⟩)
  (k1:s<m→s<mid→Is cx (.call 193 [.all 0 none,vi s,vi m,vi (mid+m-s:Nat),.t (.clo 88 [])] [.arr 9 (A0.map zm) none false]) ⟨.ret,[],[.arr 9 (A1.map zm) none false]⟩)
  (k1': ¬(s<m∧s<mid)→A0=A1)
  (k2:a<s→s<mid→Is cx (.call 182 [.all 0 none,vi a,vi s,vi mid,.t (.clo 88 [])] [.arr 9 (A1.map zm) none false]) ⟨.ret,[],[.arr 9 (A2.map zm) none false]⟩)
  (k2': ¬(a<s∧s<mid)→A1=A2)
  (k3:s<m→mid+m<b+s→Is cx (.call 182 [.all 0 none,vi mid,vi (mid+m-s:Nat),vi b,.t (.clo 88 [])] [.arr 9 (A2.map zm) none false]) ⟨.ret,[],[.arr 9 (A3.map zm) none false]⟩)
  (k3': ¬(s<m∧mid+m<b+s)→A2=A3):
  Is cx (.call 182 [.all 0 none,vi a,vi m,vi b,.t (.clo 88 [])] [.arr 9 (A0.map zm) none false])
  ⟨.ret,[],[.arr 9 (A3.map zm) none false]⟩:=by
 have hf:zh ((a+b:Nat):Int) 2=(mid:Nat):=by rw [Int.fdiv_eq_ediv_of_nonneg _ (by omega)];omega
 have hmm:a<mid∧mid<b:=by omega
 unfold small at hn
 have e1:((mid+m:Nat):Int)-1=(mid+m-1:Nat):=by omega
 have e2:((mid+m:Nat):Int)-s=(mid+m-s:Nat):=by omega
 by_cases c1:s<m∧s<mid
 ·have j1:=k1 c1.1 c1.2
  by_cases c2:a<s
  ·have j2:=k2 c2 c1.2
   by_cases c3:mid+m<b+s
   ·have j3:=k3 c1.1 c3
    clear k1' k2' k3' k1 k2 k3
    refine qq ?_
    refine gg [.i zd ((m:Int)-(a:Int)) ((m:Int)-(a:Int)),.b ((m:Int)-(a:Int)==1) false,.i zd ((b:Int)-(m:Int)) ((b:Int)-(m:Int)),.b ((b:Int)-(m:Int)==1) false,.i zd ((a:Int)+(b:Int)) ((↑(a+b):Int)),.i zf ((↑(a+b):Int)) ((↑(a+b):Int)),.w (0≤(1:Int)),.t (T.int zf (zh (↑(a+b):Int) 2)) (T.int zf (mid:Int)),.i zd (mid:Int) (mid:Int),.i zd ((mid:Int)+(m:Int)) ((↑(mid+m):Int)),.b (decide ((m:Int)>(mid:Int))) false,.i zd ((↑(mid+m):Int)-1) ((↑(mid+m-1):Int)),.a _ _,.i zd ((↑(mid+m):Int)-(s:Int)) ((↑(mid+m-s):Int)),.b (decide ((s:Int)<(m:Int))) true,.tt] ⟨oI,fE,oI,fE,oI,oU,oW,o_t (by rw [hf]),oI,oI,fP,oI,o_a hbs,oI,tP,trivial⟩ ?_
    refine gg [.tt,.tt,.b (decide ((m:Int)<(↑(mid+m-s):Int))) true,.a _ _,.b (decide ((a:Int)<(s:Int))) true,.tt,.tt,.tt,.b (decide ((s:Int)<(mid:Int))) true,.a _ _,.b (decide ((mid:Int)<(↑(mid+m-s):Int))) true,.tt,.tt,.tt,.b (decide ((↑(mid+m-s):Int)<(b:Int))) true,.a _ _] ⟨tP,o_a j1,tP,tP,o_a j2,tP,tP,o_a j3,trivial⟩ ?_
    exact ge
   ·obtain rfl:=k3' (fun h=>c3 h.2)
    clear k1' k2' k3' k1 k2 k3
    omega
  ·obtain rfl:=k2' (fun h=>c2 h.1)
   by_cases c3:mid+m<b+s
   ·have j3:=k3 c1.1 c3
    clear k1' k2' k3' k1 k2 k3
    refine qq ?_
    refine gg [.i zd ((m:Int)-(a:Int)) ((m:Int)-(a:Int)),.b ((m:Int)-(a:Int)==1) false,.i zd ((b:Int)-(m:Int)) ((b:Int)-(m:Int)),.b ((b:Int)-(m:Int)==1) false,.i zd ((a:Int)+(b:Int)) ((↑(a+b):Int)),.i zf ((↑(a+b):Int)) ((↑(a+b):Int)),.w (0≤(1:Int)),.t (T.int zf (zh (↑(a+b):Int) 2)) (T.int zf (mid:Int)),.i zd (mid:Int) (mid:Int),.i zd ((mid:Int)+(m:Int)) ((↑(mid+m):Int)),.b (decide ((m:Int)>(mid:Int))) false,.i zd ((↑(mid+m):Int)-1) ((↑(mid+m-1):Int)),.a _ _,.i zd ((↑(mid+m):Int)-(s:Int)) ((↑(mid+m-s):Int)),.b (decide ((s:Int)<(m:Int))) true,.tt] ⟨oI,fE,oI,fE,oI,oU,oW,o_t (by rw [hf]),oI,oI,fP,oI,o_a hbs,oI,tP,trivial⟩ ?_
    refine gg [.tt,.tt,.b (decide ((m:Int)<(↑(mid+m-s):Int))) true,.a _ _,.b (decide ((a:Int)<(s:Int))) false,.ff,.ff,.ff,.ff,.b (decide ((mid:Int)<(↑(mid+m-s):Int))) true,.tt,.tt,.tt,.b (decide ((↑(mid+m-s):Int)<(b:Int))) true,.a _ _] ⟨tP,o_a j1,fP,tP,tP,o_a j3,trivial⟩ ?_
    exact ge
   ·obtain rfl:=k3' (fun h=>c3 h.2)
    clear k1' k2' k3' k1 k2 k3
    refine qq ?_
    refine gg [.i zd ((m:Int)-(a:Int)) ((m:Int)-(a:Int)),.b ((m:Int)-(a:Int)==1) false,.i zd ((b:Int)-(m:Int)) ((b:Int)-(m:Int)),.b ((b:Int)-(m:Int)==1) false,.i zd ((a:Int)+(b:Int)) ((↑(a+b):Int)),.i zf ((↑(a+b):Int)) ((↑(a+b):Int)),.w (0≤(1:Int)),.t (T.int zf (zh (↑(a+b):Int) 2)) (T.int zf (mid:Int)),.i zd (mid:Int) (mid:Int),.i zd ((mid:Int)+(m:Int)) ((↑(mid+m):Int)),.b (decide ((m:Int)>(mid:Int))) false,.i zd ((↑(mid+m):Int)-1) ((↑(mid+m-1):Int)),.a _ _,.i zd ((↑(mid+m):Int)-(s:Int)) ((↑(mid+m-s):Int)),.b (decide ((s:Int)<(m:Int))) true,.tt] ⟨oI,fE,oI,fE,oI,oU,oW,o_t (by rw [hf]),oI,oI,fP,oI,o_a hbs,oI,tP,trivial⟩ ?_
    refine gg [.tt,.tt,.b (decide ((m:Int)<(↑(mid+m-s):Int))) true,.a _ _,.b (decide ((a:Int)<(s:Int))) false,.ff,.ff,.ff,.ff,.b (decide ((mid:Int)<(↑(mid+m-s):Int))) true,.tt,.tt,.tt,.b (decide ((↑(mid+m-s):Int)<(b:Int))) false] ⟨tP,o_a j1,fP,tP,fP,trivial⟩ ?_
    exact ge
 ·obtain rfl:=k1' c1
  by_cases c0:s<m
  ·have c4: ¬s<mid:=fun h=>c1 ⟨c0,h⟩
   obtain rfl:=k2' (fun h=>c4 h.2)
   by_cases c3:mid+m<b+s
   ·have j3:=k3 c0 c3
    clear k1' k2' k3' k1 k2 k3
    by_cases c2:a<s
    ·omega
    ·omega
   ·obtain rfl:=k3' (fun h=>c3 h.2)
    clear k1' k2' k3' k1 k2 k3
    by_cases c2:a<s
    ·omega
    ·omega
  ·obtain rfl:=k3' (fun h=>c0 h.1)
   by_cases c4:s<mid
   ·have j2:=k2 (by omega) c4
    clear k1' k2' k3' k1 k2 k3
    refine qq ?_
    refine gg [.i zd ((m:Int)-(a:Int)) ((m:Int)-(a:Int)),.b ((m:Int)-(a:Int)==1) false,.i zd ((b:Int)-(m:Int)) ((b:Int)-(m:Int)),.b ((b:Int)-(m:Int)==1) false,.i zd ((a:Int)+(b:Int)) ((↑(a+b):Int)),.i zf ((↑(a+b):Int)) ((↑(a+b):Int)),.w (0≤(1:Int)),.t (T.int zf (zh (↑(a+b):Int) 2)) (T.int zf (mid:Int)),.i zd (mid:Int) (mid:Int),.i zd ((mid:Int)+(m:Int)) ((↑(mid+m):Int)),.b (decide ((m:Int)>(mid:Int))) false,.i zd ((↑(mid+m):Int)-1) ((↑(mid+m-1):Int)),.a _ _,.i zd ((↑(mid+m):Int)-(s:Int)) ((↑(mid+m-s):Int)),.b (decide ((s:Int)<(m:Int))) false,.ff] ⟨oI,fE,oI,fE,oI,oU,oW,o_t (by rw [hf]),oI,oI,fP,oI,o_a hbs,oI,fP,trivial⟩ ?_
    refine gg [.ff,.ff,.ff,.b (decide ((a:Int)<(s:Int))) true,.tt,.tt,.tt,.b (decide ((s:Int)<(mid:Int))) true,.a _ _,.b (decide ((mid:Int)<(↑(mid+m-s):Int))) false,.ff,.ff,.ff,.ff] ⟨tP,tP,o_a j2,fP,trivial⟩ ?_
    exact ge
   ·obtain rfl:=k2' (fun h=>c4 h.2)
    clear k1' k2' k3' k1 k2 k3
    by_cases c2:a<s
    ·refine qq ?_
     refine gg [.i zd ((m:Int)-(a:Int)) ((m:Int)-(a:Int)),.b ((m:Int)-(a:Int)==1) false,.i zd ((b:Int)-(m:Int)) ((b:Int)-(m:Int)),.b ((b:Int)-(m:Int)==1) false,.i zd ((a:Int)+(b:Int)) ((↑(a+b):Int)),.i zf ((↑(a+b):Int)) ((↑(a+b):Int)),.w (0≤(1:Int)),.t (T.int zf (zh (↑(a+b):Int) 2)) (T.int zf (mid:Int)),.i zd (mid:Int) (mid:Int),.i zd ((mid:Int)+(m:Int)) ((↑(mid+m):Int)),.b (decide ((m:Int)>(mid:Int))) false,.i zd ((↑(mid+m):Int)-1) ((↑(mid+m-1):Int)),.a _ _,.i zd ((↑(mid+m):Int)-(s:Int)) ((↑(mid+m-s):Int)),.b (decide ((s:Int)<(m:Int))) false,.ff] ⟨oI,fE,oI,fE,oI,oU,oW,o_t (by rw [hf]),oI,oI,fP,oI,o_a hbs,oI,fP,trivial⟩ ?_
     refine gg [.ff,.ff,.ff,.b (decide ((a:Int)<(s:Int))) true,.tt,.tt,.tt,.b (decide ((s:Int)<(mid:Int))) false,.b (decide ((mid:Int)<(↑(mid+m-s):Int))) false,.ff,.ff,.ff,.ff] ⟨tP,fP,fP,trivial⟩ ?_
     exact ge
    ·omega
theorem Aef (A0 A1 A2 A3:List Entity) (a m b mid s:Nat) (hmid:(a+b)/2=mid) (hc:mid<m)
  (h1:a+1<m) (h2:m+1<b) (hb:b≤A0.length) (hn:small A0) (hs:mid+m-b≤s∧s≤mid)
  (hbs:Is cx (.loop 182 [0,0,1,1,1,1,1,1,1] 1 [.all 0 none,vi a,vi m,vi b,.t (.clo 88 []),vi mid,vi (mid+m:Nat),vi (mid+m-b:Nat),vi mid,vi (mid+m-1:Nat)] [.arr 9 (A0.map zm) none false])
   ⟨.exit 8,[.all 0 none,vi a,vi m,vi b,.t (.clo 88 []),vi mid,vi (mid+m:Nat),vi s,vi s,vi (mid+m-1:Nat)],[.arr 9 (A0.map zm) none false]⟩)
  (k1:s<m→s<mid→Is cx (.call 193 [.all 0 none,vi s,vi m,vi (mid+m-s:Nat),.t (.clo 88 [])] [.arr 9 (A0.map zm) none false]) ⟨.ret,[],[.arr 9 (A1.map zm) none false]⟩)
  (k1': ¬(s<m∧s<mid)→A0=A1)
  (k2:a<s→s<mid→Is cx (.call 182 [.all 0 none,vi a,vi s,vi mid,.t (.clo 88 [])] [.arr 9 (A1.map zm) none false]) ⟨.ret,[],[.arr 9 (A2.map zm) none false]⟩)
  (k2': ¬(a<s∧s<mid)→A1=A2)
  (k3:s<m→mid+m<b+s→Is cx (.call 182 [.all 0 none,vi mid,vi (mid+m-s:Nat),vi b,.t (.clo 88 [])] [.arr 9 (A2.map zm) none false]) ⟨.ret,[],[.arr 9 (A3.map zm) none false]⟩)
  (k3': ¬(s<m∧mid+m<b+s)→A2=A3):
  Is cx (.call 182 [.all 0 none,vi a,vi m,vi b,.t (.clo 88 [])] [.arr 9 (A0.map zm) none false])
  ⟨.ret,[],[.arr 9 (A3.map zm) none false]⟩:=by
 have hf:zh ((a+b:Nat):Int) 2=(mid:Nat):=by rw [Int.fdiv_eq_ediv_of_nonneg _ (by omega)];omega
 have hmm:a<mid∧mid<b:=by omega
 unfold small at hn
 have e1:((mid+m:Nat):Int)-1=(mid+m-1:Nat):=by omega
 have e2:((mid+m:Nat):Int)-s=(mid+m-s:Nat):=by omega
 have e3:((mid+m:Nat):Int)-b=(mid+m-b:Nat):=by omega
 by_cases c1:s<m∧s<mid
 ·have j1:=k1 c1.1 c1.2
  by_cases c2:a<s
  ·have j2:=k2 c2 c1.2
   by_cases c3:mid+m<b+s
   ·have j3:=k3 c1.1 c3
    clear k1' k2' k3' k1 k2 k3
    refine qq ?_
    refine gg [.i zd ((m:Int)-(a:Int)) ((m:Int)-(a:Int)),.b ((m:Int)-(a:Int)==1) false,.i zd ((b:Int)-(m:Int)) ((b:Int)-(m:Int)),.b ((b:Int)-(m:Int)==1) false,.i zd ((a:Int)+(b:Int)) ((↑(a+b):Int)),.i zf ((↑(a+b):Int)) ((↑(a+b):Int)),.w (0≤(1:Int)),.t (T.int zf (zh (↑(a+b):Int) 2)) (T.int zf (mid:Int)),.i zd (mid:Int) (mid:Int),.i zd ((mid:Int)+(m:Int)) ((↑(mid+m):Int)),.b (decide ((m:Int)>(mid:Int))) true,.i zd ((↑(mid+m):Int)-(b:Int)) ((↑(mid+m-b):Int)),.i zd ((↑(mid+m):Int)-1) ((↑(mid+m-1):Int)),.a _ _,.i zd ((↑(mid+m):Int)-(s:Int)) ((↑(mid+m-s):Int)),.b (decide ((s:Int)<(m:Int))) true] ⟨oI,fE,oI,fE,oI,oU,oW,o_t (by rw [hf]),oI,oI,tP,oI,oI,o_a hbs,oI,tP,trivial⟩ ?_
    refine gg [.tt,.tt,.tt,.b (decide ((m:Int)<(↑(mid+m-s):Int))) true,.a _ _,.b (decide ((a:Int)<(s:Int))) true,.tt,.tt,.tt,.b (decide ((s:Int)<(mid:Int))) true,.a _ _,.b (decide ((mid:Int)<(↑(mid+m-s):Int))) true,.tt,.tt,.tt,.b (decide ((↑(mid+m-s):Int)<(b:Int))) true] ⟨tP,o_a j1,tP,tP,o_a j2,tP,tP,trivial⟩ ?_
    refine gg [.a _ _] ⟨o_a j3,trivial⟩ ?_
    exact ge
   ·obtain rfl:=k3' (fun h=>c3 h.2)
    clear k1' k2' k3' k1 k2 k3
    refine qq ?_
    refine gg [.i zd ((m:Int)-(a:Int)) ((m:Int)-(a:Int)),.b ((m:Int)-(a:Int)==1) false,.i zd ((b:Int)-(m:Int)) ((b:Int)-(m:Int)),.b ((b:Int)-(m:Int)==1) false,.i zd ((a:Int)+(b:Int)) ((↑(a+b):Int)),.i zf ((↑(a+b):Int)) ((↑(a+b):Int)),.w (0≤(1:Int)),.t (T.int zf (zh (↑(a+b):Int) 2)) (T.int zf (mid:Int)),.i zd (mid:Int) (mid:Int),.i zd ((mid:Int)+(m:Int)) ((↑(mid+m):Int)),.b (decide ((m:Int)>(mid:Int))) true,.i zd ((↑(mid+m):Int)-(b:Int)) ((↑(mid+m-b):Int)),.i zd ((↑(mid+m):Int)-1) ((↑(mid+m-1):Int)),.a _ _,.i zd ((↑(mid+m):Int)-(s:Int)) ((↑(mid+m-s):Int)),.b (decide ((s:Int)<(m:Int))) true] ⟨oI,fE,oI,fE,oI,oU,oW,o_t (by rw [hf]),oI,oI,tP,oI,oI,o_a hbs,oI,tP,trivial⟩ ?_
    refine gg [.tt,.tt,.tt,.b (decide ((m:Int)<(↑(mid+m-s):Int))) true,.a _ _,.b (decide ((a:Int)<(s:Int))) true,.tt,.tt,.tt,.b (decide ((s:Int)<(mid:Int))) true,.a _ _,.b (decide ((mid:Int)<(↑(mid+m-s):Int))) true,.tt,.tt,.tt,.b (decide ((↑(mid+m-s):Int)<(b:Int))) false] ⟨tP,o_a j1,tP,tP,o_a j2,tP,fP,trivial⟩ ?_
    exact ge
  ·obtain rfl:=k2' (fun h=>c2 h.1)
   by_cases c3:mid+m<b+s
   ·have j3:=k3 c1.1 c3
    clear k1' k2' k3' k1 k2 k3
    omega
   ·obtain rfl:=k3' (fun h=>c3 h.2)
    clear k1' k2' k3' k1 k2 k3
    refine qq ?_
    refine gg [.i zd ((m:Int)-(a:Int)) ((m:Int)-(a:Int)),.b ((m:Int)-(a:Int)==1) false,.i zd ((b:Int)-(m:Int)) ((b:Int)-(m:Int)),.b ((b:Int)-(m:Int)==1) false,.i zd ((a:Int)+(b:Int)) ((↑(a+b):Int)),.i zf ((↑(a+b):Int)) ((↑(a+b):Int)),.w (0≤(1:Int)),.t (T.int zf (zh (↑(a+b):Int) 2)) (T.int zf (mid:Int)),.i zd (mid:Int) (mid:Int),.i zd ((mid:Int)+(m:Int)) ((↑(mid+m):Int)),.b (decide ((m:Int)>(mid:Int))) true,.i zd ((↑(mid+m):Int)-(b:Int)) ((↑(mid+m-b):Int)),.i zd ((↑(mid+m):Int)-1) ((↑(mid+m-1):Int)),.a _ _,.i zd ((↑(mid+m):Int)-(s:Int)) ((↑(mid+m-s):Int)),.b (decide ((s:Int)<(m:Int))) true] ⟨oI,fE,oI,fE,oI,oU,oW,o_t (by rw [hf]),oI,oI,tP,oI,oI,o_a hbs,oI,tP,trivial⟩ ?_
    refine gg [.tt,.tt,.tt,.b (decide ((m:Int)<(↑(mid+m-s):Int))) true,.a _ _,.b (decide ((a:Int)<(s:Int))) false,.ff,.ff,.ff,.ff,.b (decide ((mid:Int)<(↑(mid+m-s):Int))) true,.tt,.tt,.tt,.b (decide ((↑(mid+m-s):Int)<(b:Int))) false] ⟨tP,o_a j1,fP,tP,fP,trivial⟩ ?_
    exact ge
 ·obtain rfl:=k1' c1
  by_cases c0:s<m
  ·have c4: ¬s<mid:=fun h=>c1 ⟨c0,h⟩
   obtain rfl:=k2' (fun h=>c4 h.2)
   by_cases c3:mid+m<b+s
   ·have j3:=k3 c0 c3
    clear k1' k2' k3' k1 k2 k3
    by_cases c2:a<s
    ·refine qq ?_
     refine gg [.i zd ((m:Int)-(a:Int)) ((m:Int)-(a:Int)),.b ((m:Int)-(a:Int)==1) false,.i zd ((b:Int)-(m:Int)) ((b:Int)-(m:Int)),.b ((b:Int)-(m:Int)==1) false,.i zd ((a:Int)+(b:Int)) ((↑(a+b):Int)),.i zf ((↑(a+b):Int)) ((↑(a+b):Int)),.w (0≤(1:Int)),.t (T.int zf (zh (↑(a+b):Int) 2)) (T.int zf (mid:Int)),.i zd (mid:Int) (mid:Int),.i zd ((mid:Int)+(m:Int)) ((↑(mid+m):Int)),.b (decide ((m:Int)>(mid:Int))) true,.i zd ((↑(mid+m):Int)-(b:Int)) ((↑(mid+m-b):Int)),.i zd ((↑(mid+m):Int)-1) ((↑(mid+m-1):Int)),.a _ _,.i zd ((↑(mid+m):Int)-(s:Int)) ((↑(mid+m-s):Int)),.b (decide ((s:Int)<(m:Int))) true] ⟨oI,fE,oI,fE,oI,oU,oW,o_t (by rw [hf]),oI,oI,tP,oI,oI,o_a hbs,oI,tP,trivial⟩ ?_
     refine gg [.tt,.tt,.tt,.b (decide ((m:Int)<(↑(mid+m-s):Int))) false,.b (decide ((a:Int)<(s:Int))) true,.tt,.tt,.tt,.b (decide ((s:Int)<(mid:Int))) false,.b (decide ((mid:Int)<(↑(mid+m-s):Int))) true,.tt,.tt,.tt,.b (decide ((↑(mid+m-s):Int)<(b:Int))) true,.a _ _] ⟨fP,tP,fP,tP,tP,o_a j3,trivial⟩ ?_
     exact ge
    ·omega
   ·obtain rfl:=k3' (fun h=>c3 h.2)
    clear k1' k2' k3' k1 k2 k3
    by_cases c2:a<s
    ·omega
    ·omega
  ·obtain rfl:=k3' (fun h=>c0 h.1)
   by_cases c4:s<mid
   ·have j2:=k2 (by omega) c4
    clear k1' k2' k3' k1 k2 k3
    omega
   ·obtain rfl:=k2' (fun h=>c4 h.2)
    clear k1' k2' k3' k1 k2 k3
    by_cases c2:a<s
    ·omega
    ·omega
theorem AcS: ∀(n:Nat) (P U V Q:List Entity) (a m b:Nat),U.length+V.length≤n→a=P.length→m=a+U.length→b=m+V.length→0<U.length→0<V.length→Sd z8 U→Sd z8 V→small (P++U++V++Q)→
  Is cx (.call 182 [.all 0 none,vi a,vi m,vi b,.t (.clo 88 [])] [.arr 9 ((P++U++V++Q).map zm) none false])
  ⟨.ret,[],[.arr 9 ((P++sortS z8 (U++V)++Q).map zm) none false]⟩:=by
 intro n
 induction n with
 |zero=>intros;omega
 |succ n ih=>
  intro P U V Q a m b hl ha hm hb hu hv hU hV hn
  by_cases hu1:U.length=1
  ·obtain ⟨x,rfl⟩:=List.length_eq_one_iff.1 hu1
   exact Ads P V Q x a m b ha (by simpa using hm) hb hv hV hn
  ·by_cases hv1:V.length=1
   ·obtain ⟨y,rfl⟩:=List.length_eq_one_iff.1 hv1
    exact AdR P U Q y a m b ha hm (by simpa using hb) (by omega) hU hn
   ·obtain ⟨mid,hmid⟩: ∃mid,(a+b)/2=mid:=⟨_,rfl⟩
    obtain ⟨s0,r0,hs0⟩: ∃s0 r0,m≤mid∧s0=a∧r0=m∨mid<m∧s0=mid+m-b∧r0=mid:=by
     by_cases h:m≤mid
     ·exact ⟨a,m,.inl ⟨h,rfl,rfl⟩⟩
     ·exact ⟨mid+m-b,mid,.inr ⟨by omega,rfl,rfl⟩⟩
    have hlen:(P++U++V++Q).length=b+Q.length:=by simp;omega
    have hbs:=Aez (P++U++V++Q) a m b mid (mid+m) (mid+m-1) hn (r0-s0) s0 r0 (by omega) (by omega) (by omega) (by omega) (by omega)
    have hp:(fun c=> !z8 (gt (P++U++V++Q) (mid+m-1-c)) (gt (P++U++V++Q) c))=fun c=> !z8 (gt (P++U++V++Q) (mid+m-1-c)) (gt (P++U++V++Q) c):=rfl
    obtain ⟨k1,k2,U1,U2,V1,V2,e1,e2,l1,l2,e3,u1,u2,v1,v2⟩:=Akf Aak (Q:=Q) ha hm hb hU hV hu hv hmid hs0 (d:=r0-s0) (by omega) rfl
    generalize bs _ (r0-s0) s0 r0=s at*
    subst e1 e2
    simp only [List.length_append] at hl hm hb hu hv hlen hu1 hv1
    have hsm: ∀ {X Y:List Entity},X.length=Y.length→small Y→small X:=fun h k=>by unfold small at*;rw [h];exact k
    have g1:s<m→s<mid→Is cx (.call 193 [.all 0 none,vi s,vi m,vi (mid+m-s:Nat),.t (.clo 88 [])] [.arr 9 ((P++(U1++U2)++(V1++V2)++Q).map zm) none false]) ⟨.ret,[],[.arr 9 ((P++U1++V1++(U2++V2++Q)).map zm) none false]⟩:=by
     intro c1 c2
     have:=Aio (P++(U1++U2)++(V1++V2)++Q) s m (mid+m-s) c1 (by omega) (by simp;omega) hn
     have e:(P++(U1++U2)++(V1++V2)++Q).take s++seg (P++(U1++U2)++(V1++V2)++Q) m (mid+m-s)++seg (P++(U1++U2)++(V1++V2)++Q) s m++(P++(U1++U2)++(V1++V2)++Q).drop (mid+m-s)=P++U1++V1++(U2++V2++Q):=by
      have f1:P++(U1++U2)++(V1++V2)++Q=(P++U1)++(U2++(V1++(V2++Q))):=by simp
      have f2:P++(U1++U2)++(V1++V2)++Q=(P++U1++U2)++(V1++(V2++Q)):=by simp
      have f3:P++(U1++U2)++(V1++V2)++Q=(P++U1++U2++V1)++(V2++Q):=by simp
      have g1:(P++(U1++U2)++(V1++V2)++Q).take s=P++U1:=by rw [f1,List.take_left' (by simp;omega)]
      have g2:seg (P++(U1++U2)++(V1++V2)++Q) m (mid+m-s)=V1:=by unfold seg;rw [f2,List.drop_left' (by simp;omega),List.take_left' (by omega)]
      have g3:seg (P++(U1++U2)++(V1++V2)++Q) s m=U2:=by unfold seg;rw [f1,List.drop_left' (by simp;omega),List.take_left' (by omega)]
      have g4:(P++(U1++U2)++(V1++V2)++Q).drop (mid+m-s)=V2++Q:=by rw [f3,List.drop_left' (by simp;omega)]
      rw [g1,g2,g3,g4];simp
     rw [e] at this
     exact this
    have g1': ¬(s<m∧s<mid)→(P++(U1++U2)++(V1++V2)++Q)=(P++U1++V1++(U2++V2++Q)):=by
     intro c
     have:U2= []∨V1= []:=by
      by_cases h:s<m
      ·right;exact List.eq_nil_of_length_eq_zero (by omega)
      ·left;exact List.eq_nil_of_length_eq_zero (by omega)
     rcases this with rfl|rfl<;>simp
    have g2:a<s→s<mid→Is cx (.call 182 [.all 0 none,vi a,vi s,vi mid,.t (.clo 88 [])] [.arr 9 ((P++U1++V1++(U2++V2++Q)).map zm) none false]) ⟨.ret,[],[.arr 9 ((P++sortS z8 (U1++V1)++(U2++V2++Q)).map zm) none false]⟩:=by
     intro c1 c2
     exact ih P U1 V1 (U2++V2++Q) a s mid (by omega) ha (by omega) (by omega) (by omega) (by omega) u1 v1 (hsm (by simp;omega) hn)
    have g2': ¬(a<s∧s<mid)→(P++U1++V1++(U2++V2++Q))=(P++sortS z8 (U1++V1)++(U2++V2++Q)):=by
     intro c
     have:U1= []∨V1= []:=by
      by_cases h:a<s
      ·right;exact List.eq_nil_of_length_eq_zero (by omega)
      ·left;exact List.eq_nil_of_length_eq_zero (by omega)
     rcases this with rfl|rfl
     ·simp [Aa5 Aak v1]
     ·simp [Aa5 Aak u1]
    have g3:s<m→mid+m<b+s→Is cx (.call 182 [.all 0 none,vi mid,vi (mid+m-s:Nat),vi b,.t (.clo 88 [])] [.arr 9 ((P++sortS z8 (U1++V1)++(U2++V2++Q)).map zm) none false]) ⟨.ret,[],[.arr 9 ((P++sortS z8 ((U1++U2)++(V1++V2))++Q).map zm) none false]⟩:=by
     intro c1 c2
     have hL:(sortS z8 (U1++V1)).length=U1.length+V1.length:=by rw [AaM Aak];simp
     have:=ih (P++sortS z8 (U1++V1)) U2 V2 Q mid (mid+m-s) b (by omega) (by simp;omega) (by omega) (by omega) (by omega) (by omega) u2 v2 (hsm (by simp;omega) hn)
     rw [←e3]
     simpa using this
    have g3': ¬(s<m∧mid+m<b+s)→(P++sortS z8 (U1++V1)++(U2++V2++Q))=(P++sortS z8 ((U1++U2)++(V1++V2))++Q):=by
     intro c
     have:U2= []∨V2= []:=by
      by_cases h:s<m
      ·right;exact List.eq_nil_of_length_eq_zero (by omega)
      ·left;exact List.eq_nil_of_length_eq_zero (by omega)
     rw [←e3]
     rcases this with rfl|rfl
     ·simp [Aa5 Aak v2]
     ·simp [Aa5 Aak u2]
    rcases hs0 with ⟨hc,rfl,rfl⟩|⟨hc,rfl,rfl⟩
    ·exact AdU _ _ _ _ s0 r0 b mid s hmid hc (by omega) (by omega) (by simp;omega) hn ⟨k1,k2⟩ hbs g1 g1' g2 g2' g3 g3'
    ·exact Aef _ _ _ _ a m b r0 s hmid hc (by omega) (by omega) (by simp;omega) hn ⟨k1,k2⟩ hbs g1 g1' g2 g2' g3 g3'
end Go.Eva.S4
namespace Go.Eva.S4
theorem Afa (n:Nat) (hn:n≤1000000): ∀(d:Nat) (P R:List Cross) (a:Nat),a=P.length→R.length≤d→(P++R).length=n→Full z7 20 P→
  ∃(P' R':List Cross),Is cx (.loop 172 [0,0,1,1] 1 [.all 0 none,vi n,.t (.clo 129 []),vi 20,vi a,vi (a+20:Nat)] [.arr 15 ((P++R).map zn) none false])
   ⟨.exit 0,[.all 0 none,vi n,.t (.clo 129 []),vi 20,vi P'.length,vi (P'.length+20:Nat)],[.arr 15 ((P'++R').map zn) none false]⟩∧
   Full z7 20 P'∧R'.length<20∧StEq z7 (P'++R') (P++R)∧(P'++R').length=n:=by
 intro d
 induction d with
 |zero=>
  intro P R a ha hR hl hP
  refine ⟨P,R,?_,hP,by omega,.refl _,hl⟩
  rw [List.length_append] at hl
  subst ha
  refine qq ?_
  refine gg [.b (decide ((↑(zq P+20):Int)≤(n:Int))) false] ⟨fP,trivial⟩ ?_
  exact ge
 |succ d ih=>
  intro P R a ha hR hl hP
  by_cases h:20≤R.length
  ·obtain ⟨S,R,rfl,hS⟩:=Al6 R h
   rw [List.length_append] at hR
   have hs:(sortS z7 S).length=20:=by rw [AaM Aaq,hS]
   have hl':((P++sortS z7 S)++R).length=n:=by rw [←hl];simp;omega
   obtain ⟨P',R',h1,h2,h3,h4,h5⟩:=ih (P++sortS z7 S) R (a+20) (by simp;omega) (by omega) hl' (.snoc hP hs (AaO Aaq S))
   refine ⟨P',R',?_,h2,h3,?_,h5⟩
   ·clear ih
    have hA:(P++(S++R)).length=n:=hl
    have hi:=Ab8 (P++(S++R)) a (a+20) (by omega) (by simp;omega) (by unfold small;omega)
    rw [show srt z7 (P++(S++R)) a (a+20)=P++sortS z7 S++R by rw [←List.append_assoc];exact Ajy P S R ha (by omega)] at hi
    simp only [List.length_append] at hA
    generalize P++(S++R)=A at*
    generalize P++sortS z7 S++R=B at*
    refine qq ?_
    refine gg [.b (decide ((↑(a+20):Int)≤(n:Int))) true,.a _ _,.i zd ((↑(a+20):Int)+20) ((↑(a+20+20):Int)),.a _ _] ⟨tP,o_a hi,oI,o_a h1,trivial⟩ ?_
    exact ge
   ·refine h4.trans ?_
    have:=StEq.mid (P:=P) (Q:=R) (AaL Aaq S)
    simpa using this
  ·refine ⟨P,R,?_,hP,by omega,.refl _,hl⟩
   rw [List.length_append] at hl
   subst ha
   clear ih
   refine qq ?_
   refine gg [.b (decide ((↑(zq P+20):Int)≤(n:Int))) false] ⟨fP,trivial⟩ ?_
   exact ge
theorem Afe (n bs:Nat) (hn:n≤1000000) (hb:20≤bs) (hbs:bs≤n): ∀(d:Nat) (P R:List Cross) (a:Nat),a=P.length→R.length≤d→(P++R).length=n→Full z7 (2*bs) P→Blks z7 bs R→
  ∃(P' R':List Cross),Is cx (.loop 172 [0,0,1,0,1,0,0,1,1,1,1] 1 [.all 0 none,vi n,.t (.clo 129 []),vi bs,vi a,vi (a+2*bs:Nat)] [.arr 15 ((P++R).map zn) none false])
   ⟨.exit 4,[.all 0 none,vi n,.t (.clo 129 []),vi bs,vi P'.length,vi (P'.length+2*bs:Nat)],[.arr 15 ((P'++R').map zn) none false]⟩∧
   Full z7 (2*bs) P'∧Blks z7 bs R'∧R'.length<2*bs∧StEq z7 (P'++R') (P++R)∧(P'++R').length=n:=by
 intro d
 induction d with
 |zero=>
  intro P R a ha hR hl hP hB
  refine ⟨P,R,?_,hP,hB,by omega,.refl _,hl⟩
  rw [List.length_append] at hl
  subst ha
  refine qq ?_
  refine gg [.b (decide ((↑(zq P+2*bs):Int)≤(n:Int))) false] ⟨fP,trivial⟩ ?_
  exact ge
 |succ d ih=>
  intro P R a ha hR hl hP hB
  by_cases h:2*bs≤R.length
  ·obtain ⟨S1,S2,R,rfl,l1,l2,s1,s2,hB⟩:=hB.two (by omega) h
   simp only [List.length_append] at hR h
   have hs:(sortS z7 (S1++S2)).length=2*bs:=by rw [AaM Aaq];simp;omega
   have hl':((P++sortS z7 (S1++S2))++R).length=n:=by rw [←hl];simp;omega
   obtain ⟨P',R',h1,h2,h3,h4,h5,h6⟩:=ih (P++sortS z7 (S1++S2)) R (a+2*bs) (by simp;omega) (by omega) hl' (.snoc hP hs (AaO Aaq _)) hB
   refine ⟨P',R',?_,h2,h3,h4,?_,h6⟩
   ·clear ih
    have hA:(P++(S1++S2++R)).length=n:=hl
    have hi:=AdB (S1.length+S2.length) P S1 S2 R a (a+bs) (a+2*bs) (Nat.le_refl _) ha (by omega) (by omega) (by omega) (by omega) s1 s2 (by unfold small;simp at hA⊢;omega)
    rw [show P++S1++S2++R=P++(S1++S2++R) by simp] at hi
    simp only [List.length_append] at hA
    generalize P++(S1++S2++R)=A at*
    generalize P++sortS z7 (S1++S2)++R=B at*
    refine qq ?_
    refine gg [.b (decide ((↑(a+2*bs):Int)≤(n:Int))) true,.i zd ((a:Int)+(bs:Int)) ((↑(a+bs):Int)),.a _ _,.i zd (2*(bs:Int)) ((↑(2*bs):Int)),.i zd ((↑(a+2*bs):Int)+(↑(2*bs):Int)) ((↑(a+2*bs+2*bs):Int)),.a _ _] ⟨tP,oI,o_a hi,oI,oI,o_a h1,trivial⟩ ?_
    exact ge
   ·refine h5.trans ?_
    have:=StEq.mid (P:=P) (Q:=R) (AaL Aaq (S1++S2))
    simpa using this
  ·refine ⟨P,R,?_,hP,hB,by omega,.refl _,hl⟩
   rw [List.length_append] at hl
   subst ha
   clear ih
   refine qq ?_
   refine gg [.b (decide ((↑(zq P+2*bs):Int)≤(n:Int))) false] ⟨fP,trivial⟩ ?_
   exact ge
theorem AeS (n:Nat) (hn:n≤1000000): ∀(d bs:Nat) (A:List Cross),n≤bs+d→20≤bs→bs≤2000000→A.length=n→Blks z7 bs A→
  ∃(bs':Nat) (B:List Cross),Is cx (.loop 172 [0,1,1,1,1] 1 [.all 0 none,vi n,.t (.clo 129 []),vi bs] [.arr 15 (A.map zn) none false])
   ⟨.exit 2,[.all 0 none,vi n,.t (.clo 129 []),vi bs'],[.arr 15 (B.map zn) none false]⟩∧Sd z7 B∧StEq z7 B A:=by
 intro d
 induction d with
 |zero=>
  intro bs A h1 h2 h3 hl hB
  refine ⟨bs,A,?_,hB.sd (by omega),.refl _⟩
  refine qq ?_
  refine gg [.b (decide ((bs:Int)<(n:Int))) false] ⟨fP,trivial⟩ ?_
  exact ge
 |succ d ih=>
  intro bs A h1 h2 h3 hl hB
  by_cases h:bs<n
  ·obtain ⟨P,R,k1,k2,k3,k4,k5,k6⟩:=Afe n bs hn h2 (by omega) A.length [] A 0 rfl (Nat.le_refl _) (by simpa using hl) .nil hB
   rw [List.nil_append,Nat.zero_add] at k1
   rw [List.nil_append] at k5
   by_cases hr:bs<R.length
   ·obtain ⟨S1,S2,rfl,l1,s1,s2,l2⟩:=k3.one hr k4
    have hm:=AdB (S1.length+S2.length) P S1 S2 [] P.length (P.length+bs) n (Nat.le_refl _) rfl (by omega) (by simp at k6;omega) (by omega) l2 s1 s2 (by unfold small;simp at k6⊢;omega)
    simp only [List.append_nil] at hm
    rw [List.append_assoc] at hm
    simp only [List.length_append] at k4 k6 hr
    have hs:(sortS z7 (S1++S2)).length=S1.length+S2.length:=by rw [AaM Aaq];simp
    obtain ⟨bs',B,j1,j2,j3⟩:=ih (bs*2) (P++sortS z7 (S1++S2)) (by omega) (by omega) (by omega) (by simp;omega) (by rw [Nat.mul_comm];exact k2.blks (.last (by omega) (AaO Aaq _)))
    refine ⟨bs',B,?_,j2,j3.trans (StEq.trans ?_ k5)⟩
    ·clear ih j2 j3 k2 k3 k5
     have e1:(P++(S1++S2)).length=n:=by simp;omega
     have e2:(P++sortS z7 (S1++S2)).length=n:=by simp;omega
     generalize P++(S1++S2)=X at*
     generalize P++sortS z7 (S1++S2)=Y at*
     refine qq ?_
     refine gg [.b (decide ((bs:Int)<(n:Int))) true,.i zd (2*(bs:Int)) ((↑(2*bs):Int)),.a _ _,.i zd ((↑(zq P):Int)+(bs:Int)) ((↑(zq P+bs):Int)),.b (decide ((↑(zq P+bs):Int)<(n:Int))) true,.a _ _,.i zd ((bs:Int)*2) ((↑(bs*2):Int)),.a _ _] ⟨tP,oI,o_a k1,oI,tP,o_a hm,oI,o_a j1,trivial⟩ ?_
     exact ge
    ·exact (StEq.refl _).append (AaL Aaq _)
   ·obtain ⟨bs',B,j1,j2,j3⟩:=ih (bs*2) (P++R) (by omega) (by omega) (by omega) k6 (by rw [Nat.mul_comm];exact k2.blks (.last (by omega) (k3.sd (by omega))))
    refine ⟨bs',B,?_,j2,j3.trans k5⟩
    clear ih j2 j3 k2 k3 k5
    rw [List.length_append] at k6
    generalize P++R=X at*
    refine qq ?_
    refine gg [.b (decide ((bs:Int)<(n:Int))) true,.i zd (2*(bs:Int)) ((↑(2*bs):Int)),.a _ _,.i zd ((↑(zq P):Int)+(bs:Int)) ((↑(zq P+bs):Int)),.b (decide ((↑(zq P+bs):Int)<(n:Int))) false,.i zd ((bs:Int)*2) ((↑(bs*2):Int)),.a _ _] ⟨tP,oI,o_a k1,oI,fP,oI,o_a j1,trivial⟩ ?_
    exact ge
  ·refine ⟨bs,A,?_,hB.sd (by omega),.refl _⟩
   clear ih
   refine qq ?_
   refine gg [.b (decide ((bs:Int)<(n:Int))) false] ⟨fP,trivial⟩ ?_
   exact ge
theorem Ae1 (A:List Cross) (hn:small A):Is cx (.call 172 [.all 0 none,vi A.length,.t (.clo 129 [])] [.arr 15 (A.map zn) none false])
  ⟨.ret,[],[.arr 15 ((sortS z7 A).map zn) none false]⟩:=by
 unfold small at hn
 obtain ⟨P,R,k1,k2,k3,k4,k5⟩:=Afa A.length hn A.length [] A 0 rfl (Nat.le_refl _) (by simp) .nil
 rw [List.nil_append,Nat.zero_add] at k1
 rw [List.nil_append] at k4
 rw [List.length_append] at k5
 have hi:=Ab8 (P++R) P.length A.length (by omega) (by simp;omega) (by unfold small;simp;omega)
 rw [show srt z7 (P++R) P.length A.length=P++sortS z7 R by have:=Ajy (lt:=z7) P R [] rfl k5.symm;simpa using this] at hi
 have hs:(sortS z7 R).length=R.length:=AaM Aaq R
 obtain ⟨bs,B,j1,j2,j3⟩:=AeS A.length hn A.length 20 (P++sortS z7 R) (by omega) (by omega) (by omega) (by simp;omega) (k2.blks (.last (by omega) (AaO Aaq _)))
 rw [AfR Aaq j2 (j3.trans (((StEq.refl _).append (AaL Aaq _)).trans k4))] at j1
 clear j2 j3 k2 k4
 have e1:(P++R).length=A.length:=by simp;omega
 have e2:(P++sortS z7 R).length=A.length:=by simp;omega
 generalize P++R=X at*
 generalize P++sortS z7 R=Y at*
 refine qq ?_
 refine gg [.a _ _,.a _ _,.a _ _] ⟨o_a k1,o_a hi,o_a j1,trivial⟩ ?_
 exact ge
theorem AdO (A:List Cross) (hn:small A):Is cx (.call 128 [.all 0 none,.t (.clo 129 [])] [.arr 15 (A.map zn) none false])
  ⟨.ret,[],[.arr 15 ((sortS z7 A).map zn) none false]⟩:=by
 have h:=Ae1 A hn
 unfold small at hn
 refine qq ?_
 refine gg [.n (zq (zz zn A)) (zq A),.a _ _] ⟨o_n (by simp),o_a h,trivial⟩ ?_
 exact ge
theorem Ae3 (n:Nat) (hn:n≤1000000): ∀(d:Nat) (P R:List Entity) (a:Nat),a=P.length→R.length≤d→(P++R).length=n→Full z8 20 P→
  ∃(P' R':List Entity),Is cx (.loop 153 [0,0,1,1] 1 [.all 0 none,vi n,.t (.clo 88 []),vi 20,vi a,vi (a+20:Nat)] [.arr 9 ((P++R).map zm) none false])
   ⟨.exit 0,[.all 0 none,vi n,.t (.clo 88 []),vi 20,vi P'.length,vi (P'.length+20:Nat)],[.arr 9 ((P'++R').map zm) none false]⟩∧
   Full z8 20 P'∧R'.length<20∧StEq z8 (P'++R') (P++R)∧(P'++R').length=n:=by
 intro d
 induction d with
 |zero=>
  intro P R a ha hR hl hP
  refine ⟨P,R,?_,hP,by omega,.refl _,hl⟩
  rw [List.length_append] at hl
  subst ha
  refine qq ?_
  refine gg [.b (decide ((↑(zq P+20):Int)≤(n:Int))) false] ⟨fP,trivial⟩ ?_
  exact ge
 |succ d ih=>
  intro P R a ha hR hl hP
  by_cases h:20≤R.length
  ·obtain ⟨S,R,rfl,hS⟩:=Al6 R h
   rw [List.length_append] at hR
   have hs:(sortS z8 S).length=20:=by rw [AaM Aak,hS]
   have hl':((P++sortS z8 S)++R).length=n:=by rw [←hl];simp;omega
   obtain ⟨P',R',h1,h2,h3,h4,h5⟩:=ih (P++sortS z8 S) R (a+20) (by simp;omega) (by omega) hl' (.snoc hP hs (AaO Aak S))
   refine ⟨P',R',?_,h2,h3,?_,h5⟩
   ·clear ih
    have hA:(P++(S++R)).length=n:=hl
    have hi:=Abq (P++(S++R)) a (a+20) (by omega) (by simp;omega) (by unfold small;omega)
    rw [show srt z8 (P++(S++R)) a (a+20)=P++sortS z8 S++R by rw [←List.append_assoc];exact Ajy P S R ha (by omega)] at hi
    simp only [List.length_append] at hA
    generalize P++(S++R)=A at*
    generalize P++sortS z8 S++R=B at*
    refine qq ?_
    refine gg [.b (decide ((↑(a+20):Int)≤(n:Int))) true,.a _ _,.i zd ((↑(a+20):Int)+20) ((↑(a+20+20):Int)),.a _ _] ⟨tP,o_a hi,oI,o_a h1,trivial⟩ ?_
    exact ge
   ·refine h4.trans ?_
    have:=StEq.mid (P:=P) (Q:=R) (AaL Aak S)
    simpa using this
  ·refine ⟨P,R,?_,hP,by omega,.refl _,hl⟩
   rw [List.length_append] at hl
   subst ha
   clear ih
   refine qq ?_
   refine gg [.b (decide ((↑(zq P+20):Int)≤(n:Int))) false] ⟨fP,trivial⟩ ?_
   exact ge
theorem Aeu (n bs:Nat) (hn:n≤1000000) (hb:20≤bs) (hbs:bs≤n): ∀(d:Nat) (P R:List Entity) (a:Nat),a=P.length→R.length≤d→(P++R).length=n→Full z8 (2*bs) P→Blks z8 bs R→
  ∃(P' R':List Entity),Is cx (.loop 153 [0,0,1,0,1,0,0,1,1,1,1] 1 [.all 0 none,vi n,.t (.clo 88 []),vi bs,vi a,vi (a+2*bs:Nat)] [.arr 9 ((P++R).map zm) none false])
   ⟨.exit 4,[.all 0 none,vi n,.t (.clo 88 []),vi bs,vi P'.length,vi (P'.length+2*bs:Nat)],[.arr 9 ((P'++R').map zm) none false]⟩∧
   Full z8 (2*bs) P'∧Blks z8 bs R'∧R'.length<2*bs∧StEq z8 (P'++R') (P++R)∧(P'++R').length=n:=by
 intro d
 induction d with
 |zero=>
  intro P R a ha hR hl hP hB
  refine ⟨P,R,?_,hP,hB,by omega,.refl _,hl⟩
  rw [List.length_append] at hl
  subst ha
  refine qq ?_
  refine gg [.b (decide ((↑(zq P+2*bs):Int)≤(n:Int))) false] ⟨fP,trivial⟩ ?_
  exact ge
 |succ d ih=>
  intro P R a ha hR hl hP hB
  by_cases h:2*bs≤R.length
  ·obtain ⟨S1,S2,R,rfl,l1,l2,s1,s2,hB⟩:=hB.two (by omega) h
   simp only [List.length_append] at hR h
   have hs:(sortS z8 (S1++S2)).length=2*bs:=by rw [AaM Aak];simp;omega
   have hl':((P++sortS z8 (S1++S2))++R).length=n:=by rw [←hl];simp;omega
   obtain ⟨P',R',h1,h2,h3,h4,h5,h6⟩:=ih (P++sortS z8 (S1++S2)) R (a+2*bs) (by simp;omega) (by omega) hl' (.snoc hP hs (AaO Aak _)) hB
   refine ⟨P',R',?_,h2,h3,h4,?_,h6⟩
   ·clear ih
    have hA:(P++(S1++S2++R)).length=n:=hl
    have hi:=AcS (S1.length+S2.length) P S1 S2 R a (a+bs) (a+2*bs) (Nat.le_refl _) ha (by omega) (by omega) (by omega) (by omega) s1 s2 (by unfold small;simp at hA⊢;omega)
    rw [show P++S1++S2++R=P++(S1++S2++R) by simp] at hi
    simp only [List.length_append] at hA
    generalize P++(S1++S2++R)=A at*
    generalize P++sortS z8 (S1++S2)++R=B at*
    refine qq ?_
    refine gg [.b (decide ((↑(a+2*bs):Int)≤(n:Int))) true,.i zd ((a:Int)+(bs:Int)) ((↑(a+bs):Int)),.a _ _,.i zd (2*(bs:Int)) ((↑(2*bs):Int)),.i zd ((↑(a+2*bs):Int)+(↑(2*bs):Int)) ((↑(a+2*bs+2*bs):Int)),.a _ _] ⟨tP,oI,o_a hi,oI,oI,o_a h1,trivial⟩ ?_
    exact ge
   ·refine h5.trans ?_
    have:=StEq.mid (P:=P) (Q:=R) (AaL Aak (S1++S2))
    simpa using this
  ·refine ⟨P,R,?_,hP,hB,by omega,.refl _,hl⟩
   rw [List.length_append] at hl
   subst ha
   clear ih
   refine qq ?_
   refine gg [.b (decide ((↑(zq P+2*bs):Int)≤(n:Int))) false] ⟨fP,trivial⟩ ?_
   exact ge
theorem Aex (n:Nat) (hn:n≤1000000): ∀(d bs:Nat) (A:List Entity),n≤bs+d→20≤bs→bs≤2000000→A.length=n→Blks z8 bs A→
  ∃(bs':Nat) (B:List Entity),Is cx (.loop 153 [0,1,1,1,1] 1 [.all 0 none,vi n,.t (.clo 88 []),vi bs] [.arr 9 (A.map zm) none false])
   ⟨.exit 2,[.all 0 none,vi n,.t (.clo 88 []),vi bs'],[.arr 9 (B.map zm) none false]⟩∧Sd z8 B∧StEq z8 B A:=by
 intro d
 induction d with
 |zero=>
  intro bs A h1 h2 h3 hl hB
  refine ⟨bs,A,?_,hB.sd (by omega),.refl _⟩
  refine qq ?_
  refine gg [.b (decide ((bs:Int)<(n:Int))) false] ⟨fP,trivial⟩ ?_
  exact ge
 |succ d ih=>
  intro bs A h1 h2 h3 hl hB
  by_cases h:bs<n
  ·obtain ⟨P,R,k1,k2,k3,k4,k5,k6⟩:=Aeu n bs hn h2 (by omega) A.length [] A 0 rfl (Nat.le_refl _) (by simpa using hl) .nil hB
   rw [List.nil_append,Nat.zero_add] at k1
   rw [List.nil_append] at k5
   by_cases hr:bs<R.length
   ·obtain ⟨S1,S2,rfl,l1,s1,s2,l2⟩:=k3.one hr k4
    have hm:=AcS (S1.length+S2.length) P S1 S2 [] P.length (P.length+bs) n (Nat.le_refl _) rfl (by omega) (by simp at k6;omega) (by omega) l2 s1 s2 (by unfold small;simp at k6⊢;omega)
    simp only [List.append_nil] at hm
    rw [List.append_assoc] at hm
    simp only [List.length_append] at k4 k6 hr
    have hs:(sortS z8 (S1++S2)).length=S1.length+S2.length:=by rw [AaM Aak];simp
    obtain ⟨bs',B,j1,j2,j3⟩:=ih (bs*2) (P++sortS z8 (S1++S2)) (by omega) (by omega) (by omega) (by simp;omega) (by rw [Nat.mul_comm];exact k2.blks (.last (by omega) (AaO Aak _)))
    refine ⟨bs',B,?_,j2,j3.trans (StEq.trans ?_ k5)⟩
    ·clear ih j2 j3 k2 k3 k5
     have e1:(P++(S1++S2)).length=n:=by simp;omega
     have e2:(P++sortS z8 (S1++S2)).length=n:=by simp;omega
     generalize P++(S1++S2)=X at*
     generalize P++sortS z8 (S1++S2)=Y at*
     refine qq ?_
     refine gg [.b (decide ((bs:Int)<(n:Int))) true,.i zd (2*(bs:Int)) ((↑(2*bs):Int)),.a _ _,.i zd ((↑(zq P):Int)+(bs:Int)) ((↑(zq P+bs):Int)),.b (decide ((↑(zq P+bs):Int)<(n:Int))) true,.a _ _,.i zd ((bs:Int)*2) ((↑(bs*2):Int)),.a _ _] ⟨tP,oI,o_a k1,oI,tP,o_a hm,oI,o_a j1,trivial⟩ ?_
     exact ge
    ·exact (StEq.refl _).append (AaL Aak _)
   ·obtain ⟨bs',B,j1,j2,j3⟩:=ih (bs*2) (P++R) (by omega) (by omega) (by omega) k6 (by rw [Nat.mul_comm];exact k2.blks (.last (by omega) (k3.sd (by omega))))
    refine ⟨bs',B,?_,j2,j3.trans k5⟩
    clear ih j2 j3 k2 k3 k5
    rw [List.length_append] at k6
    generalize P++R=X at*
    refine qq ?_
    refine gg [.b (decide ((bs:Int)<(n:Int))) true,.i zd (2*(bs:Int)) ((↑(2*bs):Int)),.a _ _,.i zd ((↑(zq P):Int)+(bs:Int)) ((↑(zq P+bs):Int)),.b (decide ((↑(zq P+bs):Int)<(n:Int))) false,.i zd ((bs:Int)*2) ((↑(bs*2):Int)),.a _ _] ⟨tP,oI,o_a k1,oI,fP,oI,o_a j1,trivial⟩ ?_
    exact ge
  ·refine ⟨bs,A,?_,hB.sd (by omega),.refl _⟩
   clear ih
   refine qq ?_
   refine gg [.b (decide ((bs:Int)<(n:Int))) false] ⟨fP,trivial⟩ ?_
   exact ge
theorem AdI (A:List Entity) (hn:small A):Is cx (.call 153 [.all 0 none,vi A.length,.t (.clo 88 [])] [.arr 9 (A.map zm) none false])
  ⟨.ret,[],[.arr 9 ((sortS z8 A).map zm) none false]⟩:=by
 unfold small at hn
 obtain ⟨P,R,k1,k2,k3,k4,k5⟩:=Ae3 A.length hn A.length [] A 0 rfl (Nat.le_refl _) (by simp) .nil
 rw [List.nil_append,Nat.zero_add] at k1
 rw [List.nil_append] at k4
 rw [List.length_append] at k5
 have hi:=Abq (P++R) P.length A.length (by omega) (by simp;omega) (by unfold small;simp;omega)
 rw [show srt z8 (P++R) P.length A.length=P++sortS z8 R by have:=Ajy (lt:=z8) P R [] rfl k5.symm;simpa using this] at hi
 have hs:(sortS z8 R).length=R.length:=AaM Aak R
 obtain ⟨bs,B,j1,j2,j3⟩:=Aex A.length hn A.length 20 (P++sortS z8 R) (by omega) (by omega) (by omega) (by simp;omega) (k2.blks (.last (by omega) (AaO Aak _)))
 rw [AfR Aak j2 (j3.trans (((StEq.refl _).append (AaL Aak _)).trans k4))] at j1
 clear j2 j3 k2 k4
 have e1:(P++R).length=A.length:=by simp;omega
 have e2:(P++sortS z8 R).length=A.length:=by simp;omega
 generalize P++R=X at*
 generalize P++sortS z8 R=Y at*
 refine qq ?_
 refine gg [.a _ _,.a _ _,.a _ _] ⟨o_a k1,o_a hi,o_a j1,trivial⟩ ?_
 exact ge
theorem Adr (A:List Entity) (hn:small A):Is cx (.call 87 [.all 0 none,.t (.clo 88 [])] [.arr 9 (A.map zm) none false])
  ⟨.ret,[],[.arr 9 ((sortS z8 A).map zm) none false]⟩:=by
 have h:=AdI A hn
 unfold small at hn
 refine qq ?_
 refine gg [.n (zq (zz zm A)) (zq A),.a _ _] ⟨o_n (by simp),o_a h,trivial⟩ ?_
 exact ge
end Go.Eva.S4
namespace Go.Eva.S4
theorem Ajm (n:Nat) (hn:n≤1000000):Is cx (.call 171 [.fit 15 [],vi n] []) ⟨.ret,[.all 0 none],[.arr 15 [] none false]⟩:=by
 refine qq ?_
 refine gg [.b (decide ((n:Int)<0)) false,.l 0,.l 0,.i zd 0 0,.i zd ((n:Int)-0) ((n:Int)-0)] ⟨bK,oK,o_i (w64 (by (simp [room,appendMax];omega))),trivial⟩ ?_
 refine brp (p:=(n:Int)-0>0) (by kernel_rfl) (fun h1=> ?_) (fun h1=> ?_)
 ·refine gg [.l 0,.w (0≤(0:Int)),.l 0,.w ((0:Nat)≤(0:Nat)∧(0:Nat)≤(0:Nat)),.b (decide (0=0)) true,.s (qk 15 []),.w (0≤(n:Int)-(0:Int)∧room (zy ((n:Int)-(0:Int))) (120:Nat)),.n (zy ((n:Int)-0)) n,.s (qk 0 (zj n (T.agg [ti 0,ti 0,ti 0,ti 0,ti 0,ti 0,ti 0,ti 0,ti 0,ti 0,ti 0,ti 0,ti 0,ti 0,ti 0]))),.w (room (zq (zj n (T.agg [ti (0:Int),ti (0:Int),ti (0:Int),ti (0:Int),ti (0:Int),ti (0:Int),ti (0:Int),ti (0:Int),ti (0:Int),ti (0:Int),ti (0:Int),ti (0:Int),ti (0:Int),ti (0:Int),ti (0:Int)]))) (120:Nat)),.l 0,.w (0≤(0:Int)),.l 0,.w ((0:Nat)≤(0:Nat)∧(0:Nat)≤zq (zj n (T.agg [ti (0:Int),ti (0:Int),ti (0:Int),ti (0:Int),ti (0:Int),ti (0:Int),ti (0:Int),ti (0:Int),ti (0:Int),ti (0:Int),ti (0:Int),ti (0:Int),ti (0:Int),ti (0:Int),ti (0:Int)]))),.l 0,.l 0] ⟨oW,o_w ⟨(Nat.le_of_ble_eq_true (by kernel_rfl)),(Nat.le_of_ble_eq_true (by kernel_rfl))⟩,bK,o_w ⟨(by omega),(by (simp [room,appendMax];omega))⟩,nK,o_w (by (simp [room,appendMax];omega)),oW,o_w ⟨(Nat.le_of_ble_eq_true (by kernel_rfl)),(by omega)⟩,trivial⟩ ?_
  refine gg [.s (qk 0 [])] trivial ?_
  refine rT (a:=qz qj [qy 0 none] [qv 15 [] none false]) ?_
  simp
 ·refine rT (a:=qz qj [qy 0 none] [qv 15 [] none false]) ?_
  simp
theorem Aew (ls:List (List Cross)) (hl:ls.length≤1000) (ht:total ls≤1000000): ∀(d i s:Nat),i+d=ls.length→s+total (ls.drop i)=total ls→
  Is cx (.loop 127 [0,1,0,1,1] 0 [.t (.sl 1 (ls.map encL)),vi s,.t (.sl 1 (ls.map encL)),vi ls.length,vi i] [])
   ⟨.exit 0,[.t (.sl 1 (ls.map encL)),vi (total ls),.t (.sl 1 (ls.map encL)),vi ls.length,vi ls.length],[]⟩:=by
 intro d
 induction d with
 |zero=>
  intro i s hi hs
  rw [AnF (by omega)] at hs
  refine qq ?_
  refine gg [.b (decide ((i:Int)<(↑(zq ls):Int))) false] ⟨fP,trivial⟩ ?_
  refine rT (a:=qz (qx 0) [V.t (qk 1 (zz encL ls)),vi (s:Int),V.t (qk 1 (zz encL ls)),vi (↑(zq ls):Int),vi (i:Int)] []) ?_
  ((have hq:i=ls.length:=by omega);subst hq;(have hq2:s=total ls:=by omega);subst hq2;rfl)
 |succ d ih=>
  intro i s hi hs
  have hlt:i<ls.length:=by omega
  rw [AlN hlt] at hs
  have ih1:=ih (i+1) (s+(gt ls i).length) (by omega) (by omega)
  clear ih
  refine qq ?_
  refine gg [.b (decide ((i:Int)<(↑(zq ls):Int))) true,.w (0≤(i:Int)),.n (zy (i:Int)) i,.g (zz encL ls) i (encL (gt ls i)),.n (zq (zz zn (gt ls i))) (zq (gt ls i)),.i zd ((s:Int)+(↑(zq (gt ls i)):Int)) ((↑(s+zq (gt ls i)):Int)),.b (decide ((↑(s+zq (gt ls i)):Int)<0)) false,.i zd ((i:Int)+1) ((↑(i+1):Int)),.a _ _] ⟨tP,oW,nK,o_gt rfl (by assumption) (by intro h;cases h),o_n (by simp),oI,bK,oI,o_a ih1,trivial⟩ ?_
  exact ge
theorem Af5 (ls:List (List Cross)) (hl:ls.length≤1000) (ht:total ls≤1000000): ∀(d i:Nat) (A:List Cross),i+d=ls.length→A.length+total (ls.drop i)=total ls→
  Is cx (.loop 127 [0,1,0,1,1,1,1] 0 [.all 0 none,.t (.sl 1 (ls.map encL)),vi ls.length,vi i] [.arr 15 (A.map zn) none false])
   ⟨.exit 2,[.all 0 none,.t (.sl 1 (ls.map encL)),vi ls.length,vi ls.length],[.arr 15 ((A++(ls.drop i).flatten).map zn) none false]⟩:=by
 intro d
 induction d with
 |zero=>
  intro i A hi hs
  rw [Aac (by omega)]
  refine qq ?_
  refine gg [.b (decide ((i:Int)<(↑(zq ls):Int))) false] ⟨fP,trivial⟩ ?_
  refine rT (a:=qz (qx 2) [qy 0 none,V.t (qk 1 (zz encL ls)),vi (↑(zq ls):Int),vi (i:Int)] [qv 15 (zz zn A) none false]) ?_
  ((have hq:i=ls.length:=by omega);subst hq;simp)
 |succ d ih=>
  intro i A hi hs
  have hlt:i<ls.length:=by omega
  rw [AlN hlt] at hs
  have ih1:=ih (i+1) (A++gt ls i) (by omega) (by simp;omega)
  clear ih
  rw [AoH hlt]
  refine qq ?_
  refine gg [.b (decide ((i:Int)<(↑(zq ls):Int))) true,.w (0≤(i:Int)),.n (zy (i:Int)) i,.g (zz encL ls) i (encL (gt ls i)),.w ((0:Nat)<(120:Nat)),.s (qk 0 (zz zn (gt ls i))),.t (qk 0 (zz zn A++zz zn (gt ls i))) (qk 0 (zz zn (A++gt ls i))),.w (room (zq (zz zn (A++gt ls i))) (120:Nat)),.i zd ((i:Int)+1) ((↑(i+1):Int)),.a _ _] ⟨tP,oW,nK,o_gt rfl (by assumption) (by intro h;cases h),oW,o_l (Aam rfl rfl),o_w (by (simp [room,appendMax];omega)),o_i (w64 (by (simp [room,appendMax];omega))),o_a ih1,trivial⟩ ?_
  refine rT (a:=qz (qx 2) [qy 0 none,V.t (qk 1 (zz encL ls)),vi (↑(zq ls):Int),vi (↑(zq ls):Int)] [qv 15 (zz zn (A++gt ls i++List.flatten (zk (i+1) ls))) none false]) ?_
  simp
theorem AhE (ls:List (List Cross)) (hl:ls.length≤1000) (ht:total ls≤1000000):
  Is cx (.call 127 [.t (.sl 1 (ls.map encL))] []) ⟨.ret,[.all 0 none],[.arr 15 (ls.flatten.map zn) none false]⟩:=by
 have h1:=Aew ls hl ht ls.length 0 0 (by omega) (by simp)
 have h2:=Af5 ls hl ht ls.length 0 [] (by omega) (by simp)
 rw [List.drop_zero,List.nil_append] at h2
 have h3:=Ajm (total ls) ht
 refine qq ?_
 refine gg [.n (zq (zz encL ls)) (zq ls),.a _ _,.a _ _,.n (zq (zz encL ls)) (zq ls),.a _ _] ⟨o_n (by simp),o_a h1,o_a h3,o_n (by simp),o_a h2,trivial⟩ ?_
 exact ge
theorem AjV (ls:List (List Cross)) (hl:ls.length≤1000) (ht:total ls≤1000000):
  Is cx (.call 70 [.t (.sl 1 (ls.map encL))] []) ⟨.ret,[.all 0 none],[.arr 15 ((sortS z7 ls.flatten).map zn) none false]⟩:=by
 have h1:=AhE ls hl ht
 have h2:=AdO ls.flatten (by unfold small;rw [Aou];exact ht)
 refine qq ?_
 refine gg [.a _ _,.a _ _] ⟨o_a h1,o_a h2,trivial⟩ ?_
 exact ge
theorem AaH (l:List Cross) (h:small l):Is cx (.call 70 [.t (.sl 1 [.sl 15 (l.map zn)])] []) ⟨.ret,[.all 0 none],[.arr 15 ((sortS z7 l).map zn) none false]⟩:=by
 have:=AjV [l] (by simp) (by unfold small at h;simpa [total] using h)
 rw [show [l].flatten=l by simp] at this
 exact this
theorem Adi (l A:List Cross) (i:Nat) (hi:i<l.length) (hn:small l) (hA:small A): ∀(k:Nat),k≤A.length→
  Is cx (.loop 145 [0,0,1,0,0,1,0,0,1,0,1,1] 0 [.t (.sl 15 (l.map zn)),.all 0 none,vi i,vi k] [.arr 15 (A.map zn) none false])
   ⟨.exit 2,[.t (.sl 15 (l.map zn)),.all 0 none,vi i,vi (bk z7 (gt l i) A k:Nat)],[.arr 15 (A.map zn) none false]⟩:=by
 unfold small at hn hA
 intro k
 induction k with
 |zero=>
  intro hk
  refine qq ?_
  refine gg [.b (decide (0>0)) false,.ff,.ff,.ff,.ff,.ff,.ff,.ff,.ff,.ff,.ff,.ff] ⟨bK,trivial⟩ ?_
  exact ge
 |succ k ih=>
  intro hk
  have ih1:=ih (by omega)
  clear ih
  have ek:((k+1:Nat):Int)-1=(k:Nat):=by omega
  cases hl:z7 (gt l i) (gt A k) with
  |true=>
   have e:bk z7 (gt l i) A (k+1)=bk z7 (gt l i) A k:=by rw [bk,hl]
   rw [e]
   refine qq ?_
   refine gg [.b (decide ((↑(k+1):Int)>0)) true,.tt,.tt,.w (0≤(i:Int)),.n (zy (i:Int)) i,.g (zz zn l) i (zn (gt l i)),.tt,.tt,.tt,.i zd ((↑(k+1):Int)-1) (k:Int),.tt,.w (0≤(k:Int)),.n (zy (k:Int)) k,.w (k<zq (zz zn A)),.tt,.tt] ⟨tP,oW,nK,o_gt rfl (by assumption) (by intro h;cases h),oI,oW,nK,o_w (by (simp;omega)),trivial⟩ ?_
   refine gg [.g (zz zn A) k (zn (gt A k)),.tt,.a _ _,.tt,.b (z7 (gt l i) (gt A k)) true,.i zd ((↑(k+1):Int)-1) (k:Int),.a _ _] ⟨o_gt rfl (by assumption) (by intro h;cases h),o_a (AcR (gt l i) (gt A k)),tB,oI,o_a ih1,trivial⟩ ?_
   exact ge
  |false=>
   have e:bk z7 (gt l i) A (k+1)=k+1:=by rw [bk,hl]
   rw [e]
   refine qq ?_
   refine gg [.b (decide ((↑(k+1):Int)>0)) true,.tt,.tt,.w (0≤(i:Int)),.n (zy (i:Int)) i,.g (zz zn l) i (zn (gt l i)),.tt,.tt,.tt,.i zd ((↑(k+1):Int)-1) (k:Int),.tt,.w (0≤(k:Int)),.n (zy (k:Int)) k,.w (k<zq (zz zn A)),.tt,.tt] ⟨tP,oW,nK,o_gt rfl (by assumption) (by intro h;cases h),oI,oW,nK,o_w (by (simp;omega)),trivial⟩ ?_
   refine gg [.g (zz zn A) k (zn (gt A k)),.tt,.a _ _,.tt,.b (z7 (gt l i) (gt A k)) false] ⟨o_gt rfl (by assumption) (by intro h;cases h),o_a (AcR (gt l i) (gt A k)),fB,trivial⟩ ?_
   exact ge
theorem AdY (l:List Cross) (hn:small l): ∀(d i:Nat) (A:List Cross),i+d=l.length→A.length=i→Sd z7 A→
  Is cx (.loop 145 [0,1,0,1,1] 0 [.t (.sl 15 (l.map zn)),.all 0 none,vi i] [.arr 15 (A.map zn) none false])
   ⟨.exit 0,[.t (.sl 15 (l.map zn)),.all 0 none,vi l.length],[.arr 15 (((l.drop i).foldl (insS z7) A).map zn) none false]⟩:=by
 unfold small at hn
 intro d
 induction d with
 |zero=>
  intro i A hi hA hs
  rw [Aac (by omega)]
  refine qq ?_
  refine gg [.n (zq (zz zn l)) (zq l),.b (decide ((i:Int)<(↑(zq l):Int))) false] ⟨o_n (by simp),fP,trivial⟩ ?_
  refine rT (a:=qz (qx 0) [V.t (qk 15 (zz zn l)),qy 0 none,vi (i:Int)] [qv 15 (zz zn A) none false]) ?_
  ((have hq:i=l.length:=by omega);subst hq;rfl)
 |succ d ih=>
  intro i A hi hA hs
  have hlt:i<l.length:=by omega
  have hlen:(insS z7 A (gt l i)).length=i+1:=by rw [(AkA Ad6 hs).len Ad6 (Aik Ad6 hs)];simp;omega
  have ih1:=ih (i+1) (insS z7 A (gt l i)) (by omega) hlen (Aik Ad6 hs)
  clear ih
  rw [Aae hlt,List.foldl_cons]
  have hI:=Adi l A i hlt hn (by unfold small;omega) A.length (Nat.le_refl _)
  have hk:= @bk_le _ _ z7 (gt l i) A A.length
  rw [bk_eq Ad6 hs] at ih1⊢
  rw [bk_eq Ad6 hs] at hlen
  generalize bk z7 (gt l i) A A.length=k at*
  rw [List.append_cons] at ih1⊢
  rw [List.append_cons] at hlen
  have ht:zw (A.length-k) (A.drop k)=A.drop k:=List.take_of_length_le (by simp)
  refine qq ?_
  refine gg [.n (zq (zz zn l)) (zq l),.b (decide ((i:Int)<(↑(zq l):Int))) true,.n (zq (zz zn A)) (zq A),.a _ _,.w (0≤(k:Int)),.n (zy (k:Int)) k,.w ((0:Nat)≤k∧k≤zq (zz zn A)),.l 0,.n (k-0) k,.w (0≤(i:Int)),.n (zy (i:Int)) i,.g (zz zn l) i (zn (gt l i)),.w (0≤(k:Int)),.n (zy (k:Int)) k,.w (k≤zq (zz zn A)∧zq (zz zn A)≤zq (zz zn A)),.n (0+k) k] ⟨o_n (by simp),tP,o_n (by simp),o_a hI,oW,nK,o_w ⟨(by omega),(by (simp [room,appendMax];omega))⟩,nK,oW,nK,o_gt rfl (by assumption) (by intro h;cases h),oW,nK,o_w ⟨(by (simp [room,appendMax];omega)),(by omega)⟩,oN,trivial⟩ ?_
  refine gg [.n (zq (zz zn A)-k) (zq A-k)] ⟨o_n (by simp),trivial⟩ ?_
  refine bO ?_ ?_
  all_goals
   refine gg [.w ((0:Nat)<(120:Nat)),.t (qk 0 (zw k (zk 0 (zz zn A)))) (qk 0 (zz zn (zw k A))),.s (qk 0 (zz zn (zw k A))),.w (room (zq (zz zn (zw k A))) (120:Nat)),.w ((0:Nat)<(120:Nat)),.t (qk 0 [zn (gt l i)]) (qk 0 (zz zn [gt l i])),.t (qk 0 (zz zn (zw k A)++zz zn [gt l i])) (qk 0 (zz zn (zw k A++ [gt l i]))),.w (room (zq (zz zn (zw k A++ [gt l i]))) (120:Nat)),.w ((0:Nat)<(120:Nat)),.t (qk 0 (zw (zq A-k) (zk k (zz zn A)))) (qk 0 (zz zn (zk k A))),.t (qk 0 (zz zn (zw k A++ [gt l i])++zz zn (zk k A))) (qk 0 (zz zn (zw k A++ [gt l i]++zk k A))),.w (room (zq (zz zn (zw k A++ [gt l i]++zk k A))) (120:Nat)),.i zd ((i:Int)+1) ((↑(i+1):Int)),.a _ _] ⟨oW,o_l (nm_eq (AaQ (AbB rfl)) (by kernel_rfl)),o_w (by (simp [room,appendMax];omega)),oW,o_l (Aaf rfl Aap),o_l (Aam rfl rfl),o_w (by (simp [room,appendMax];omega)),oW,o_l (nm_eq (AaQ (AbB rfl)) (by assumption)),o_l (Aam rfl rfl),o_w (by (simp [room,appendMax];omega)),o_i (w64 (by (simp [room,appendMax];omega))),o_a ih1,trivial⟩ ?_
   exact ge
theorem AcZ (l:List Cross) (hn:small l):Fn cx 145 [.sl 15 (l.map zn)] (.sl 15 ((sortS z7 l).map zn)):=by
 have h:=AdY l hn l.length 0 [] (by omega) rfl (by simp [Sd])
 rw [List.drop_zero] at h
 change Is cx _ ⟨_,_,[.arr 15 ((sortS z7 l).map zn) none false]⟩ at h
 refine qq ?_
 refine gg [.a _ _] ⟨o_a h,trivial⟩ ?_
 exact ge
end Go.Eva.S4
namespace Go.Eva.S4
theorem Anm (c:Config) (r f made:Int) (l L A M M1 M2 H FL Z:List Entity) (P ids near:List Int) (ins:List Input) (inbox:List Cross) (o oo so:List Cross) (n:Nat) (b z:Int)
  (hf:0≤f∧f<10000) (hll:L.length≤1000) (hlA:A.length≤1000) (hlH:H.length≤1000) (hlF:FL.length≤1000) (hno:n≤1000)
  (ha:Fn cx 131 [c.enc,ti r,zt ⟨f,l⟩,.sl 3 (ins.map zr),(.sl 15 (inbox.map zn))] (ti 0))
  (hA:Is cx (.call 132 [.t (zt ⟨f,l⟩),.t (.sl 15 (inbox.map zn))] []) ⟨.ret,[.all 0 none],[.arr 9 (L.map zm) none false]⟩)
  (hPr:Fn cx 133 [zt ⟨f,l⟩,(.sl 15 (inbox.map zn))] (.sl 1 (P.map ti)))
  (hst:Is cx (.loop 80 [0,1,0,1,1,1,1,1] 0 [vi r,.t (.sl 3 (ins.map zr)),.t (.sl 15 (inbox.map zn)),.ptr 0 0 0,.ptr 1 0 0,.ptr 2 0 0,.t (.sl 1 (P.map ti)),vi ((0:Nat))] [.one 5 (.t c.enc) false,.one 2 (.agg [vi 0,.fit 9 []]) false,.one 9 (mkV c r f (0) (.all 3 none)) false,.arr 9 ((L).map zm) none false])
   ⟨.exit 0,[vi r,.t (.sl 3 (ins.map zr)),.t (.sl 15 (inbox.map zn)),.ptr 0 0 0,.ptr 1 0 0,.ptr 2 0 0,.t (.sl 1 (P.map ti)),vi P.length],[.one 5 (.t c.enc) false,.one 2 (.agg [vi 0,.fit 9 []]) false,.one 9 (mkV c r f (made) (.all 3 none)) false,.arr 9 ((A).map zm) none false]⟩)
  (hmv:Is cx (.loop 80 [0,1,0,1,1,1,1,1,1,1] 0 [vi r,.t (.sl 15 (inbox.map zn)),.ptr 0 0 0,.ptr 1 0 0,.ptr 2 0 0,.all 3 none,vi (0:Nat)] [.one 5 (.t c.enc) false,.one 2 (.agg [vi 0,.fit 9 []]) false,.one 9 (mkV c r f made (.all 4 none)) false,.arr 9 (([]:List Entity).map zm) none false,.arr 9 ((A).map zm) none false])
   ⟨.exit 2,[vi r,.t (.sl 15 (inbox.map zn)),.ptr 0 0 0,.ptr 1 0 0,.ptr 2 0 0,.all 3 none,vi A.length],[.one 5 (.t c.enc) false,.one 2 (.agg [vi 0,.fit 9 []]) false,.one 9 (mkV c r f made (.all 4 none)) false,.arr 9 ((M).map zm) none false,.arr 9 ((A).map zm) none false]⟩)
  (hsh:Is cx (.call 141 [.t (.sl 9 (M.map zm))] []) ⟨.ret,[.all 0 none],[.arr 9 ((M1).map zm) none false]⟩)
  (hge:Is cx (.call 140 [.t (.sl 9 (M1.map zm))] []) ⟨.ret,[.all 0 none],[.arr 9 ((M2).map zm) none false]⟩)
  (hbl:Is cx (.call 139 [.t (.sl 9 (M2.map zm)),.t (.sl 15 (inbox.map zn))] []) ⟨.ret,[.all 0 none],[.arr 9 ((H).map zm) none false]⟩)
  (hfa:Is cx (.call 142 [.all 0 none] [.arr 9 (H.map zm) none false]) ⟨.ret,[.all 1 none],[.arr 9 (H.map zm) none false,.arr 1 (ids.map ti) none false]⟩)
  (hnr:Fn cx 27 [c.enc,ti r] (.sl 1 (near.map ti)))
  (hfl:Is cx (.loop 80 [0,1,0,1,1,1,1,1,1,1,1,1,1,1,1] 0 [vi r,.ptr 0 0 0,.ptr 1 0 0,.ptr 2 0 0,.all 3 none,.all 4 none,.t (.sl 1 (near.map ti)),vi (0:Nat)] [.one 5 (.t c.enc) false,.one 2 (.agg [vi 0,.fit 9 []]) false,.one 9 (mkV c r f made (.all 5 none)) false,.arr 15 (([]:List Cross).map zn) none false,.arr 1 (ids.map ti) none false,.arr 9 ((H).map zm) none false])
   ⟨.exit 4,[vi r,.ptr 0 0 0,.ptr 1 0 0,.ptr 2 0 0,.all 3 none,.all 4 none,.t (.sl 1 (near.map ti)),vi ids.length],[.one 5 (.t c.enc) false,.one 2 (.agg [vi 0,.fit 9 []]) false,.one 9 (mkV c r f made (.all 5 none)) false,.arr 15 ((o).map zn) none false,.arr 1 (ids.map ti) none false,.arr 9 ((FL).map zm) none false]⟩)
  (hgm:Is cx (.loop 80 [0,1,0,1,1,1,1,1,1,1,1,1,1,1,1,1,1] 0 [vi r,.ptr 0 0 0,.ptr 1 0 0,.ptr 2 0 0,.all 3 none,vi (0:Nat),vi (0:Nat)] [.one 5 (.t c.enc) false,.one 2 (.agg [vi 0,.fit 9 []]) false,.one 9 (mkV c r f made (.all 4 none)) false,.arr 15 ((o).map zn) none false,.arr 9 ((FL).map zm) none false])
   ⟨.exit 8,[vi r,.ptr 0 0 0,.ptr 1 0 0,.ptr 2 0 0,.all 3 none,vi (n:Nat),vi FL.length],[.one 5 (.t c.enc) false,.one 2 (.agg [vi 0,.fit 9 []]) false,.one 9 (mkV c r f made (.all 4 none)) false,.arr 15 ((o).map zn) none false,.arr 9 ((FL).map zm) none false]⟩)
  (hbw:Fn cx 144 [ti 8,.int .u64 c.seed,.sl 1 ([3,f,r].map ti)] (ti b))
  (hrm:Fn cx 135 [.ip 9 (mkT c r f FL made) 0] (.bool (decide (z=1))))
  (hso:Fn cx 145 [.sl 15 (oo.map zn)] (.sl 15 (so.map zn)))
  (hlv:Is cx (.loop 80 [0,1,0,1,1,1,1,1,1,1,1,1,1,1,1,1,1,1,1,1] 0 [vi r,.ptr 0 0 0,.ptr 1 0 0,.ptr 2 0 0,.all 3 none,.all 4 none,vi (0:Nat)] [.one 5 (.t c.enc) false,.one 2 (.agg [vi 0,.fit 9 []]) false,.one 9 (mkV c r f (made) (.all 5 none)) false,.arr 15 ((o).map zn) none false,.arr 9 (([]:List Entity).map zm) none false,.arr 9 ((FL).map zm) none false])
   ⟨.exit 10,[vi r,.ptr 0 0 0,.ptr 1 0 0,.ptr 2 0 0,.all 3 none,.all 4 none,vi FL.length],[.one 5 (.t c.enc) false,.one 2 (.agg [vi 0,.fit 9 []]) false,.one 9 (mkV c r f (made) (.all 5 none)) false,.arr 15 ((oo).map zn) none false,.arr 9 ((Z).map zm) none false,.arr 9 ((FL).map zm) none false]⟩)
  (hg:b≠0∨3≤n∨z≠1):Is cx (.call 80 [.t c.enc,vi r,.t (zt ⟨f,l⟩),.t (.sl 3 (ins.map zr)),.t (.sl 15 (inbox.map zn))] []) ⟨.ret,[.t (zt ⟨f+1,Z⟩),.t (.sl 15 (so.map zn)),vi 0],[]⟩:=by
 refine qq ?_
 refine gg [.a _ _,.b (0 !=0) false,.a _ _,.a _ _,.a _ _,.a _ _,.a _ _,.a _ _,.a _ _,.a _ _] ⟨o_a ha,bK,o_a hA,o_a hPr,o_a hst,o_a hmv,o_a hsh,o_a hge,o_a hbl,o_a hfa,trivial⟩ ?_
 refine gg [.a _ _,.a _ _,.a _ _,.a _ _] ⟨o_a hnr,o_a hfl,o_a hgm,o_a hbw,trivial⟩ ?_
 refine bre (x:=b) (y:=0) (by kernel_rfl) (fun h1=> ?_) (fun h1=> ?_)
 ·refine gg [.tt,.tt] trivial ?_
  refine brp (p:=(n:Int)<3) (by kernel_rfl) (fun h2=> ?_) (fun h2=> ?_)
  ·refine gg [.tt,.a _ _,.b (flats [T.bool (decide (z=1))]) true,.tt,.b (decide (z=1)) false,.a _ _,.i zd (f+1) (f+1),.a _ _,.b (flats [qk 15 (zz zn so)]) false] ⟨o_a hrm,bK,fP,o_a hlv,oI,o_a hso,bK,trivial⟩ ?_
   exact ge
  ·refine gg [.ff,.ff,.ff,.a _ _,.i zd (f+1) (f+1),.a _ _,.b (flats [qk 15 (zz zn so)]) false] ⟨o_a hlv,oI,o_a hso,bK,trivial⟩ ?_
   exact ge
 ·refine gg [.ff,.ff,.ff,.ff,.ff,.ff,.a _ _,.i zd (f+1) (f+1),.a _ _,.b (flats [qk 15 (zz zn so)]) false] ⟨o_a hlv,oI,o_a hso,bK,trivial⟩ ?_
  exact ge
theorem Ams (c:Config) (r f made:Int) (l L A M M1 M2 H FL Z:List Entity) (P ids near:List Int) (ins:List Input) (inbox:List Cross) (o oo so:List Cross) (n:Nat) (b z:Int)
  (hf:0≤f∧f<10000) (hll:L.length≤1000) (hlA:A.length≤1000) (hlH:H.length≤1000) (hlF:FL.length≤1000) (hno:n≤1000)
  (ha:Fn cx 131 [c.enc,ti r,zt ⟨f,l⟩,.sl 3 (ins.map zr),(.sl 15 (inbox.map zn))] (ti 0))
  (hA:Is cx (.call 132 [.t (zt ⟨f,l⟩),.t (.sl 15 (inbox.map zn))] []) ⟨.ret,[.all 0 none],[.arr 9 (L.map zm) none false]⟩)
  (hPr:Fn cx 133 [zt ⟨f,l⟩,(.sl 15 (inbox.map zn))] (.sl 1 (P.map ti)))
  (hst:Is cx (.loop 80 [0,1,0,1,1,1,1,1] 0 [vi r,.t (.sl 3 (ins.map zr)),.t (.sl 15 (inbox.map zn)),.ptr 0 0 0,.ptr 1 0 0,.ptr 2 0 0,.t (.sl 1 (P.map ti)),vi ((0:Nat))] [.one 5 (.t c.enc) false,.one 2 (.agg [vi 0,.fit 9 []]) false,.one 9 (mkV c r f (0) (.all 3 none)) false,.arr 9 ((L).map zm) none false])
   ⟨.exit 0,[vi r,.t (.sl 3 (ins.map zr)),.t (.sl 15 (inbox.map zn)),.ptr 0 0 0,.ptr 1 0 0,.ptr 2 0 0,.t (.sl 1 (P.map ti)),vi P.length],[.one 5 (.t c.enc) false,.one 2 (.agg [vi 0,.fit 9 []]) false,.one 9 (mkV c r f (made) (.all 3 none)) false,.arr 9 ((A).map zm) none false]⟩)
  (hmv:Is cx (.loop 80 [0,1,0,1,1,1,1,1,1,1] 0 [vi r,.t (.sl 15 (inbox.map zn)),.ptr 0 0 0,.ptr 1 0 0,.ptr 2 0 0,.all 3 none,vi (0:Nat)] [.one 5 (.t c.enc) false,.one 2 (.agg [vi 0,.fit 9 []]) false,.one 9 (mkV c r f made (.all 4 none)) false,.arr 9 (([]:List Entity).map zm) none false,.arr 9 ((A).map zm) none false])
   ⟨.exit 2,[vi r,.t (.sl 15 (inbox.map zn)),.ptr 0 0 0,.ptr 1 0 0,.ptr 2 0 0,.all 3 none,vi A.length],[.one 5 (.t c.enc) false,.one 2 (.agg [vi 0,.fit 9 []]) false,.one 9 (mkV c r f made (.all 4 none)) false,.arr 9 ((M).map zm) none false,.arr 9 ((A).map zm) none false]⟩)
  (hsh:Is cx (.call 141 [.t (.sl 9 (M.map zm))] []) ⟨.ret,[.all 0 none],[.arr 9 ((M1).map zm) none false]⟩)
  (hge:Is cx (.call 140 [.t (.sl 9 (M1.map zm))] []) ⟨.ret,[.all 0 none],[.arr 9 ((M2).map zm) none false]⟩)
  (hbl:Is cx (.call 139 [.t (.sl 9 (M2.map zm)),.t (.sl 15 (inbox.map zn))] []) ⟨.ret,[.all 0 none],[.arr 9 ((H).map zm) none false]⟩)
  (hfa:Is cx (.call 142 [.all 0 none] [.arr 9 (H.map zm) none false]) ⟨.ret,[.all 1 none],[.arr 9 (H.map zm) none false,.arr 1 (ids.map ti) none false]⟩)
  (hnr:Fn cx 27 [c.enc,ti r] (.sl 1 (near.map ti)))
  (hfl:Is cx (.loop 80 [0,1,0,1,1,1,1,1,1,1,1,1,1,1,1] 0 [vi r,.ptr 0 0 0,.ptr 1 0 0,.ptr 2 0 0,.all 3 none,.all 4 none,.t (.sl 1 (near.map ti)),vi (0:Nat)] [.one 5 (.t c.enc) false,.one 2 (.agg [vi 0,.fit 9 []]) false,.one 9 (mkV c r f made (.all 5 none)) false,.arr 15 (([]:List Cross).map zn) none false,.arr 1 (ids.map ti) none false,.arr 9 ((H).map zm) none false])
   ⟨.exit 4,[vi r,.ptr 0 0 0,.ptr 1 0 0,.ptr 2 0 0,.all 3 none,.all 4 none,.t (.sl 1 (near.map ti)),vi ids.length],[.one 5 (.t c.enc) false,.one 2 (.agg [vi 0,.fit 9 []]) false,.one 9 (mkV c r f made (.all 5 none)) false,.arr 15 ((o).map zn) none false,.arr 1 (ids.map ti) none false,.arr 9 ((FL).map zm) none false]⟩)
  (hgm:Is cx (.loop 80 [0,1,0,1,1,1,1,1,1,1,1,1,1,1,1,1,1] 0 [vi r,.ptr 0 0 0,.ptr 1 0 0,.ptr 2 0 0,.all 3 none,vi (0:Nat),vi (0:Nat)] [.one 5 (.t c.enc) false,.one 2 (.agg [vi 0,.fit 9 []]) false,.one 9 (mkV c r f made (.all 4 none)) false,.arr 15 ((o).map zn) none false,.arr 9 ((FL).map zm) none false])
   ⟨.exit 8,[vi r,.ptr 0 0 0,.ptr 1 0 0,.ptr 2 0 0,.all 3 none,vi (n:Nat),vi FL.length],[.one 5 (.t c.enc) false,.one 2 (.agg [vi 0,.fit 9 []]) false,.one 9 (mkV c r f made (.all 4 none)) false,.arr 15 ((o).map zn) none false,.arr 9 ((FL).map zm) none false]⟩)
  (hbw:Fn cx 144 [ti 8,.int .u64 c.seed,.sl 1 ([3,f,r].map ti)] (ti b))
  (hrm:Fn cx 135 [.ip 9 (mkT c r f FL made) 0] (.bool (decide (z=1))))
  (hso:Fn cx 145 [.sl 15 (oo.map zn)] (.sl 15 (so.map zn)))
  (px py nn:Int) (G:List Entity)
  (hpl:Is cx (.call 143 [.t (.ip 9 (mkT c r f FL made) 0),vi 4,vi 5,vi r] []) ⟨.ret,[vi px,vi py],[]⟩)
  (hnx:Is cx (.call 137 [.ptr 0 0 0] [.one 9 (mkV c r f made (.all 1 none)) false,.arr 9 (FL.map zm) none false]) ⟨.ret,[vi nn],[.one 9 (mkV c r f (made+1) (.all 1 none)) false,.arr 9 (FL.map zm) none false]⟩)
  (hput:Is cx (.call 58 [.all 0 none,.t (zm ⟨nn,3,px,py,0,0,1,0,0⟩)] [.arr 9 (FL.map zm) none false]) ⟨.ret,[.all 1 none],[.dead,.arr 9 (G.map zm) none false]⟩)
  (hlv:Is cx (.loop 80 [0,1,0,1,1,1,1,1,1,1,1,1,1,1,1,1,1,1,1,1] 0 [vi r,.ptr 0 0 0,.ptr 1 0 0,.ptr 2 0 0,.all 3 none,.all 4 none,vi (0:Nat)] [.one 5 (.t c.enc) false,.one 2 (.agg [vi 0,.fit 9 []]) false,.one 9 (mkV c r f (made+1) (.all 5 none)) false,.arr 15 ((o).map zn) none false,.arr 9 (([]:List Entity).map zm) none false,.arr 9 ((G).map zm) none false])
   ⟨.exit 10,[vi r,.ptr 0 0 0,.ptr 1 0 0,.ptr 2 0 0,.all 3 none,.all 4 none,vi G.length],[.one 5 (.t c.enc) false,.one 2 (.agg [vi 0,.fit 9 []]) false,.one 9 (mkV c r f (made+1) (.all 5 none)) false,.arr 15 ((oo).map zn) none false,.arr 9 ((Z).map zm) none false,.arr 9 ((G).map zm) none false]⟩)
  (hg1:b=0) (hg2:n<3) (hg3:z=1):Is cx (.call 80 [.t c.enc,vi r,.t (zt ⟨f,l⟩),.t (.sl 3 (ins.map zr)),.t (.sl 15 (inbox.map zn))] []) ⟨.ret,[.t (zt ⟨f+1,Z⟩),.t (.sl 15 (so.map zn)),vi 0],[]⟩:=by
 refine qq ?_
 refine gg [.a _ _,.b (0 !=0) false,.a _ _,.a _ _,.a _ _,.a _ _,.a _ _,.a _ _,.a _ _,.a _ _] ⟨o_a ha,bK,o_a hA,o_a hPr,o_a hst,o_a hmv,o_a hsh,o_a hge,o_a hbl,o_a hfa,trivial⟩ ?_
 refine gg [.a _ _,.a _ _,.a _ _,.a _ _,.b (b==0) true,.tt,.tt,.b (decide ((n:Int)<3)) true,.tt,.a _ _,.b (flats [T.bool (decide (z=1))]) true,.tt,.b (decide (z=1)) true,.a _ _,.b (flats [ti px,ti py]) true,.a _ _] ⟨o_a hnr,o_a hfl,o_a hgm,o_a hbw,t_bre (by assumption),tP,o_a hrm,bK,t_brp (by assumption),o_a hpl,bK,o_a hnx,trivial⟩ ?_
 refine gg [.a _ _,.a _ _,.i zd (f+1) (f+1),.a _ _,.b (flats [qk 15 (zz zn so)]) false] ⟨o_a hput,o_a hlv,oI,o_a hso,bK,trivial⟩ ?_
 exact ge
theorem Afb (c:Config) (r:Int) (s:Region) (ins:List Input) (inbox:List Cross) (hn:small s.ents) (hi:small ins) (hb:small inbox) (h:askedE c r s ins inbox≠0):
  Is cx (.call 80 [.t c.enc,vi r,.t s.enc,.t (.sl 3 (ins.map zr)),.t (.sl 15 (inbox.map zn))] []) ⟨.ret,[.t Region.zero.enc,.t (.sl 15 []),vi (askedE c r s ins inbox)],[]⟩:=by
 have ha:=Acx c r s ins inbox hn hi hb
 generalize askedE c r s ins inbox=e at*
 obtain ⟨f,l⟩:=s
 refine qq ?_
 refine gg [.a _ _,.b (e !=0) true] ⟨o_a ha,t_brn (by assumption),trivial⟩ ?_
 exact ge
theorem Ab6 (c:Config) (r:Int) (s:Region) (ins:List Input) (inbox:List Cross) (hn:s.ents.length≤100000) (hi:small ins) (hb:inbox.length≤100000) (h:askedE c r s ins inbox=0):
  Is cx (.call 80 [.t c.enc,vi r,.t s.enc,.t (.sl 3 (ins.map zr)),.t (.sl 15 (inbox.map zn))] []) ⟨.ret,[.t (zt ⟨s.frame+1,(stepS c r s ins inbox).l⟩),.t (.sl 15 ((sortS z7 (stepS c r s ins inbox).out).map zn)),vi 0],[]⟩:=by
 have hfine:=Agz h
 have hrc:=Config.is_right hfine.is
 have ha:=Acx c r s ins inbox (by unfold small;omega) hi (by unfold small;omega)
 rw [h] at ha
 have hA:=Ach s inbox hn hb
 have hsane:=hfine.sane
 have hLl:=hsane.len hrc
 have hPr:=AeX s inbox hn hb (by omega)
 obtain ⟨hst1,hst2⟩:=AfI hfine
 have hr:=Config.is_le hfine.is
 have hreg:= @Config.regions_le c
 have hf:=hfine.frame
 have hPl:(presentL s.ents inbox).length≤(arriveL s.ents inbox).length:=by unfold presentL;rw [List.length_map];exact List.length_filter_le ..
 have hst:=Ad7 c r s.frame ins (.sl 15 (inbox.map zn)) hfine.is hf hfine.len hfine.ins (presentL s.ents inbox) (by omega) (presentL s.ents inbox).length 0 (arriveL s.ents inbox) 0 (plE1 (arriveL s.ents inbox)) (by omega) rfl (fun p hp=>by
  obtain ⟨h1,h2⟩:=List.mem_filter.1 hp
  exact ⟨h1,by simpa using h2⟩) (AeM hsane.srt) ⟨hsane,by simp⟩
 rw [←AkP] at hst
 change Is cx _ ⟨_,_,[_,_,.one 9 (mkV c r s.frame (steerS c r s.frame ins ⟨arriveL s.ents inbox,0,[]⟩).made _) _,.arr 9 ((steerS c r s.frame ins ⟨arriveL s.ents inbox,0,[]⟩).l.map zm) _ _]⟩ at hst
 unfold stepS restS
 generalize steerS c r s.frame ins ⟨arriveL s.ents inbox,0,[]⟩=S at*
 generalize presentL s.ents inbox=P at*
 generalize arriveL s.ents inbox=L at*
 obtain ⟨A,made,o⟩:=S
 simp only at hst hst1 hst2⊢
 subst hst2
 have hmade:=hst1.made
 simp only at hmade
 have hAs:=hst1.sane
 simp only at hAs
 have hAl:=hAs.len hrc
 have hmv:=AdV c r s.frame made (.sl 15 (inbox.map zn)) A (by omega) (fun e he=>by have:=AfQ (hAs.ents e he).1;omega) A.length 0 [] (by omega) (by simp)
 rw [List.drop_zero,List.nil_append] at hmv
 obtain ⟨hM,hMr⟩:=AcK hAs
 have hMl:=hM.len hrc
 have hHm:=(AcE (inbox:=inbox) hM).1
 have hHl:=hHm.len hrc
 have hsh:=Agt (moveL c A) (by unfold small;omega)
 rw [←Aoq] at hsh
 have h1l:(shotsL (moveL c A)).length≤30:=by
  have:=(AeF (l:=moveL c A) fun e he _=>Af8 (hMr e he)).moved hM
  exact this.len hrc
 have hge:=Ag0 (shotsL (moveL c A)) (by unfold small;omega)
 rw [←Apg] at hge
 have h2l:(gemsL (shotsL (moveL c A))).length≤30:=by
  have k1:=AeF (l:=moveL c A) fun e he _=>Af8 (hMr e he)
  have:=(Ajt (l:=shotsL (moveL c A)) k1.low).moved (k1.moved hM)
  exact this.len hrc
 have hbl:=Afu (gemsL (shotsL (moveL c A))) inbox (by unfold small;omega) (by unfold small;omega)
 clear hHm hM hMr hst1 hsane hfine h hAs
 generalize blastsL (gemsL (shotsL (moveL c A))) inbox=H at*
 generalize gemsL (shotsL (moveL c A))=M2 at*
 generalize shotsL (moveL c A)=M1 at*
 generalize moveL c A=M at*
 obtain ⟨f,l⟩:=s
 simp only at*
 have hfa:=Af4 H (by unfold small;omega)
 have hnr:=AaP c r
 have hfln:(fallenL H).length≤H.length:=by unfold fallenL;rw [List.length_map];exact List.length_filter_le ..
 have hflh: ∀id∈fallenL H,∃x∈H,x.id=id:=by
  intro id h
  obtain ⟨x,h1,h2⟩:=List.mem_map.1 h
  exact ⟨x,(List.mem_filter.1 h1).1,h2⟩
 have hfl:=AdQ c r f made (fallenL H) (c.near r) (by omega) rfl (fallenL H).length 0 H [] (by omega) (by omega) (by simp) (by rw [List.drop_zero];exact hflh)
 rw [List.drop_zero] at hfl
 change Is cx _ ⟨_,_,[_,_,_,.arr 15 ((fallS c r f ⟨H,made,[]⟩).out.map zn) _ _,_,.arr 9 ((fallS c r f ⟨H,made,[]⟩).l.map zm) _ _]⟩ at hfl
 have hlen:(fallS c r f ⟨H,made,[]⟩).l.length=H.length∧(fallS c r f ⟨H,made,[]⟩).made=made∧(fallS c r f ⟨H,made,[]⟩).out.length≤1000:=by
  obtain ⟨k1,k2,k3⟩:= @AfP c r f (fallenL H) ⟨H,made,[]⟩
  refine ⟨k1,k2,?_⟩
  change ((fallenL H).foldl (fall1 c r f) ⟨H,made,[]⟩).out.length≤1000
  rw [k3]
  have hns:= @Aa0 c r
  have:=Nat.mul_le_mul (Nat.le_trans hfln hHl) hns
  simp only [List.length_nil]
  omega
 generalize fallS c r f ⟨H,made,[]⟩=F at*
 obtain ⟨FL,fm,o⟩:=F
 simp only at hlen hfl⊢
 obtain ⟨hl1,rfl,hl3⟩:=hlen
 have hgm:=AdW c r f fm FL o (by omega) FL.length 0 0 (by omega) (by omega)
 rw [List.drop_zero,Nat.zero_add] at hgm
 have hcn:(FL.countP fun e=>e.kind==3)≤FL.length:=List.countP_le_length
 have hbw:=Abc 8 c.seed [3,f,r] (by decide) (by simp [small])
 have hrm:=AcI c r f ⟨FL,fm,o⟩ (by unfold small;simp only;omega)
 obtain ⟨z,hz⟩: ∃z:Int,Stg.room ⟨FL,fm,o⟩=decide (z=1):=by
  cases Stg.room ⟨FL,fm,o⟩ with
  |true=>exact ⟨1,by decide⟩
  |false=>exact ⟨0,by decide⟩
 rw [hz] at hrm
 clear hfln hflh hPl
 generalize fallenL H=ids at*
 by_cases hg:below 8 c.seed [3,f,r]≠0∨3≤(FL.countP fun e=>e.kind==3)∨Stg.room ⟨FL,fm,o⟩=false
 ·have e2:growS c r f ⟨FL,fm,o⟩=⟨FL,fm,o⟩:=by unfold growS;rw [if_pos hg]
  rw [e2]
  have hlv:=Abg c r f fm FL (by omega) FL.length 0 o [] (by omega) (by omega) (by simp)
  rw [List.drop_zero,List.nil_append] at hlv
  have hso:=AcZ (leaveS c r f ⟨FL,fm,o⟩).out (by have:= @Acl c r f ⟨FL,fm,o⟩;unfold small;simp only at this;omega)
  exact Anm c r f fm l L A M M1 M2 H FL _ P ids (c.near r) ins inbox o _ _ _ _ _ hf (by omega) (by omega) (by omega) (by omega) (by omega) ha hA hPr hst hmv hsh hge hbl hfa hnr hfl hgm hbw hrm hso hlv (by rcases hg with h|h|h;exact .inl h;exact .inr (.inl h);exact .inr (.inr (by rw [hz] at h;simpa using h)))
 ·have e2:growS c r f ⟨FL,fm,o⟩=⟨put1 FL (gemE c r f fm),fm+1,o⟩:=by unfold growS;rw [if_neg hg]
  rw [e2]
  have hg1:below 8 c.seed [3,f,r]=0:=Decidable.byContradiction fun q=>hg (.inl q)
  have hg2:(FL.countP fun e=>e.kind==3)<3:=by
   have: ¬3≤(FL.countP fun e=>e.kind==3):=fun q=>hg (.inr (.inl q))
   omega
  have hg3:Stg.room ⟨FL,fm,o⟩=true:=by
   cases q:Stg.room ⟨FL,fm,o⟩ with
   |true=>rfl
   |false=>exact absurd (Or.inr (Or.inr q)) hg
  have hpl:=Aco c r f 4 5 r fm FL
  have hnx:=AcC c r f fm FL (by omega) (by omega) (by omega)
  have hput:=AaD FL (gemE c r f fm) (by unfold small;omega)
  have hpln:=(@Abl FL (gemE c r f fm)).2
  have hlv:=Abg c r f (fm+1) (put1 FL (gemE c r f fm)) (by omega) (put1 FL (gemE c r f fm)).length 0 o [] (by omega) (by omega) (by simp)
  rw [List.drop_zero,List.nil_append] at hlv
  have hso:=AcZ (leaveS c r f ⟨put1 FL (gemE c r f fm),fm+1,o⟩).out (by have:= @Acl c r f ⟨put1 FL (gemE c r f fm),fm+1,o⟩;unfold small;simp only at this;omega)
  exact Ams c r f fm l L A M M1 M2 H FL _ P ids (c.near r) ins inbox o _ _ _ _ _ hf (by omega) (by omega) (by omega) (by omega) (by omega) ha hA hPr hst hmv hsh hge hbl hfa hnr hfl hgm hbw hrm hso _ _ _ _ hpl hnx hput hlv hg1 hg2 (by rw [hz] at hg3;simpa using hg3)
theorem AgO (c:Config) (r:Int) (s:Region) (ins:List Input) (inbox:List Cross) (hn:s.ents.length≤100000) (hi:small ins) (hb:inbox.length≤100000):
  Is cx (.call 80 [.t c.enc,vi r,.t s.enc,.t (.sl 3 (ins.map zr)),.t (.sl 15 (inbox.map zn))] []) ⟨.ret,[.t (stepP c r s ins inbox).1.enc,.t (.sl 15 ((stepP c r s ins inbox).2.1.map zn)),vi (stepP c r s ins inbox).2.2],[]⟩:=by
 unfold stepP
 by_cases h:askedE c r s ins inbox=0
 ·rw [if_neg (by simp [h])]
  exact Ab6 c r s ins inbox hn hi hb h
 ·rw [if_pos h]
  exact Afb c r s ins inbox (by unfold small;omega) hi (by unfold small;omega) h
end Go.Eva.S4
namespace Go.Eva
open Go.RowKit
noncomputable def peek (live:List Nat) (q:Q (Env×Heap)):Q Res:=q.bind fun x=>(looks x.1 live).bind fun vs=> .ret ⟨.normal,vs,x.2⟩
section
variable {P:Program} {cx:Cx} {n:Nat} {ι:Io} {F:Nat→Prop} {w:Go.World} {H:Heap} {e:Env} {a:Act} {Q:Exit→Act→Go.World→Prop}
theorem An1 {live:List Nat} {vs:List V} {H':Heap} {q:Eva.Q (Env×Heap)} (hc:CxTy P cx) (hfn:FnsOK P cx) (h:Wp cx (peek live q) (· =⟨.normal,vs,H'⟩)):
  wpQ (TaskS P cx) q (fun x=>wpQ (TaskS P cx) ((looks x.1 live).bind fun vs=> .ret ⟨.normal,vs,x.2⟩) (· =(⟨.normal,vs,H'⟩:Res))):=
 Aaa _ _ _ (Ajn (fun _ _ h=>h P hc hfn) _ _ h.h)
theorem Anp {live:List Nat} {vs:List V} {H':Heap} (hi:In n ι F w H e a) (h:wpQ (TaskS P cx) ((looks e live).bind fun vs=> .ret ⟨.normal,vs,H⟩) (· =(⟨.normal,vs,H'⟩:Res))):
  H=H'∧In n ι F w H (zipE live vs) a:=by
 obtain ⟨vs',h1,h2⟩:=AfJ hi (Aaa _ _ _ h)
 have h1:(⟨.normal,vs',H⟩:Res)=⟨.normal,vs,H'⟩:=h1
 injection h1 with _ e1 e2
 subst e1 e2
 exact ⟨rfl,hi.good,Abm h2,hi.size,hi.defers⟩
theorem Adv {ops:Array Oper} (hc:CxTy P cx) (hfn:FnsOK P cx) (hfit: ∀o∈ops.toList,fitO cx n o=true) {id:Nat} {live:List Nat} {vs:List V} {H':Heap} (hi:In n ι F w H e a) (h:Wp cx (peek live (runOps cx ops.toList ops.toList e H)) (· =⟨.normal,vs,H'⟩))
  (hQ: ∀a' w' ι' F',In n ι' F' w' H' (zipE live vs) a'→Step ι F H w ι' F' H' w'→Q .normal a' w'):(Code.region id ops false).wp P Q a w:=
 Ail hc hfn.callable (fun _ _ _ _ h=>h) hfit hi (An1 hc hfn h) (by
  rintro a' w' ⟨e',H1,ι',F',k1,k2,k3⟩
  obtain ⟨rfl,hi'⟩:=Anp k2 k1
  exact hQ a' w' ι' F' hi' k3)
theorem AjM (hi:In n ι F w H e a) (live:List Nat):VRs ι F w H (live.map (look e)) (slots a live):=by
 refine ⟨by simp [slots],fun i v u hv hu=> ?_⟩
 simp only [List.getElem?_map,slots] at hv hu
 obtain ⟨t,ht,rfl⟩:=Option.map_eq_some_iff.1 hv
 rw [ht] at hu
 simp at hu
 subst hu
 simpa using hi.sim t
theorem Al1 {vs:List V} {us:List Value} {v:V} {u:Value} (h:VRs ι F w H vs us) (hv:VR ι F w H v u):VRs ι F w H (vs++ [v]) (us++ [u]):=by
 refine ⟨by simp [h.1],fun i x y hx hy=> ?_⟩
 by_cases hi:i<vs.length
 ·rw [List.getElem?_append_left hi] at hx
  rw [List.getElem?_append_left (by rw [←h.1];exact hi)] at hy
  exact h.2 i x y hx hy
 ·rw [List.getElem?_append_right (by omega)] at hx
  rw [List.getElem?_append_right (by rw [←h.1];omega),←h.1] at hy
  cases hk:i-vs.length with
  |zero=>rw [hk] at hx hy;simp at hx hy;subst hx hy;exact hv
  |succ k=>rw [hk] at hx;simp at hx
theorem AkS {ι':Io} {F':Nat→Prop} {w':Go.World} {H':Heap} {vs:List V} {us:List Value} (h:VRs ι F w H vs us) (hm: ∀v u,VR ι F w H v u→VR ι' F' w' H' v u):VRs ι' F' w' H' vs us:=
 ⟨h.1,fun i v u hv hu=>hm v u (h.2 i v u hv hu)⟩
noncomputable def peekG (live:List Nat) (q:Eva.Q (Env×Heap)):Eva.Q Res:=q.bind fun x=>(looks x.1 live).bind fun vs=>(gc 0 vs x.2).bind fun g=> .ret ⟨.normal,g.vs,g.H⟩
theorem AjZ {ops:Array Oper} (hc:CxTy P cx) (hfn:FnsOK P cx) (hfit: ∀o∈ops.toList,fitO cx n o=true) {id:Nat} {live:List Nat} {vs:List V} {H':Heap} (hi:In n ι F w H e a) (h:Wp cx (peekG live (runOps cx ops.toList ops.toList e H)) (· =⟨.normal,vs,H'⟩))
  (hQ: ∀a' w' ι' F',In n ι' F' w' H' (zipE live vs) a'→(∃ι1 F1 H1,Good ι1 F1 w' H1∧Step ι F H w ι1 F1 H1 w'∧Ext 0 ι1 F1 H1 w' ι' F' H' w')→Q .normal a' w'):(Code.region id ops false).wp P Q a w:=
 Ail hc hfn.callable (fun _ _ _ _ h=>h) hfit hi (Aaa _ _ _ (Ajn (fun _ _ h=>h P hc hfn) _ _ h.h)) (by
  rintro a' w' ⟨e',H1,ι1,F1,k1,k2,k3⟩
  obtain ⟨vs',h1,h2⟩:=AfJ k2 (Aaa _ _ _ k1)
  obtain ⟨g,ιg,h3,_,_,_,hgg,hgv,hge⟩:=gc_ok k2.good (Aaa _ _ _ h1) h2
  have h3:(⟨.normal,g.vs,g.H⟩:Res)=⟨.normal,vs,H'⟩:=h3
  injection h3 with _ e1 e2
  rw [e1] at hgv
  rw [e2] at hgg hgv hge
  exact hQ a' w' ιg F1 ⟨hgg,Abm hgv,k2.size,k2.defers⟩ ⟨ι1,F1,H1,k2.good,k3,hge⟩)
theorem Agx {ops:Array Oper} (hc:CxTy P cx) (hfn:FnsOK P cx) (hfit: ∀o∈ops.toList,fitO cx n o=true) (hsel:Region.noSelect ops=true) (hQ: ∀c a w,¬Q (.panic c) a w) {d:Ord} {f:Nat} {listed:Array Bool} {fin:Nat→Array Bool→Bool} {live:List Nat} {vs:List V} {H':Heap}
  (hok:okTo cx ops fin d f listed []=true) (hi:In n ι F w H e a) (h:Wp cx (peek live (ordQ cx ops.toList d e H)) (· =⟨.normal,vs,H'⟩))
  (hq: ∀f' listed',fin f' listed'=true→ ∀a' w' ι' F',In n ι' F' w' H' (zipE live vs) a'→Step ι F H w ι' F' H' w'→wpAnyR P cx ops Q f' listed' a' w'):wpAnyR P cx ops Q f listed a w:=
 (Ao0 hc hfn.callable (fun _ _ _ _ h=>h) hfit hsel hQ d f listed [] hok hi (An1 hc hfn h) (by
  rintro f' listed' hf a' w' ⟨e',H1,ι',F',k1,k2,k3⟩
  obtain ⟨rfl,hi'⟩:=Anp k2 k1
  exact hq f' listed' hf a' w' ι' F' hi' k3)).1 rfl
theorem AoZ {ops:Array Oper} {f:Nat} {listed:Array Bool} (h:okEnd ops f listed=true) (hq:Q .normal a w):wpAnyR P cx ops Q f listed a w:=by
 have hr:Region.ready .any ops listed= []:=by simpa [okEnd] using h
 cases f with
 |zero=>exact ⟨hr,hq⟩
 |succ f=>exact ⟨fun _=>hq,by rw [hr];simp⟩
theorem retree (hg:Good ι F w H) {id s:Nat} {xs ys:List T} {sp:Option Nat} {ro:Bool} (ho:H[id]?=some (.arr s xs sp ro)) (hl:ys.length=xs.length) (hc: ∀b,CellsR F w b s xs→CellsR F w b s ys):
  Good ι F w (H.set id (.arr s ys sp ro))∧Step ι F H w ι F (H.set id (.arr s ys sp ro)) w:=
 Aib hg ho rfl rfl rfl rfl (fun _ _=>rfl) (.inr ⟨rfl,fun _ _=>rfl,ys,sp,ro,rfl,hl⟩) (fun _=>rfl) (fun _=>by
  obtain ⟨h0,h⟩:=hg.obj id _ ho
  refine ⟨h0,?_⟩
  rcases h with ⟨h1,h2,h3⟩|⟨b,cs,e,h1,h2,h3,h4,h5,h6,h7⟩
  ·refine .inl ⟨h1,?_,h3⟩
   subst h2
   exact List.length_eq_zero_iff.1 hl
  ·exact .inr ⟨b,cs,e,h1,h2,by rw [hl];exact h3,by rw [hl];exact h4,h5,h6,hc b h7⟩)
theorem retree' (hg:Good ι F w H) {id s:Nat} {xs ys:List T} {sp:Option Nat} {ro:Bool} (ho:H[id]?=some (.arr s xs sp ro)) (hl:ys.length=xs.length) (hc: ∀b,ι id=some b→CellsR F w b s ys):
  Good ι F w (H.set id (.arr s ys sp ro))∧Step ι F H w ι F (H.set id (.arr s ys sp ro)) w:=
 Aib hg ho rfl rfl rfl rfl (fun _ _=>rfl) (.inr ⟨rfl,fun _ _=>rfl,ys,sp,ro,rfl,hl⟩) (fun _=>rfl) (fun _=>by
  obtain ⟨h0,h⟩:=hg.obj id _ ho
  refine ⟨h0,?_⟩
  rcases h with ⟨h1,h2,h3⟩|⟨b,cs,e,h1,h2,h3,h4,h5,h6,h7⟩
  ·refine .inl ⟨h1,?_,h3⟩
   subst h2
   exact List.length_eq_zero_iff.1 hl
  ·exact .inr ⟨b,cs,e,h1,h2,by rw [hl];exact h3,by rw [hl];exact h4,h5,h6,hc b h1⟩)
theorem widen (hg:Good ι F w H) {R:Nat→Prop} (hR: ∀b,R b→b<w.heap.size∧ ¬Live ι H b):Good ι (fun b=>F b∨R b) w H:=by
 refine ⟨fun b hb=>hb.elim (hg.fin b) fun h=>(hR b h).1,fun id o ho=>(hg.obj id o ho).mono (fun _ h=> .inl h) (fun _ _=>rfl) (fun i o h=>⟨o,h,.refl ι w i o⟩) (fun _=>rfl) (fun _ _ _=>rfl),hg.inj,?_,fun id o b h1 h2 h3 h4=> .inl (hg.rof id o b h1 h2 h3 h4)⟩
 rintro b ⟨id,o,h1,h2,h3⟩ (h|h)
 ·exact hg.sep b ⟨id,o,h1,h2,h3⟩ h
 ·exact (hR b h).2 ⟨id,o,h1,by cases o<;>simp_all [Ob.ro,Ob.isDead],h3⟩
theorem Own.live {b:Nat} (h:Own ι H b):Live ι H b:=by
 obtain ⟨id,o,h1,h2,h3⟩:=h
 exact ⟨id,o,h1,by cases o<;>simp_all [Ob.ro,Ob.isDead],h3⟩
def RowD (K:Nat→Prop) (ι:Io) (F:Nat→Prop) (w:Go.World) (H:Heap) (s:Nat) (h:Value) (r:List T):Option Nat→Prop
 |none=>r= []∧ ∃a,h= .slice a 0 0
 |some b=> ∃cap cs e,h= .slice (some ⟨b,0,none⟩) r.length cap∧r.length≤cap∧w.heap[b]?=some (.cells cs e (0,0))∧cs.size=cap*s∧(∀(i:Nat) (c:Value),cs[i]?=some c→c.oneCell'=true)∧CellsR F w b s r∧ ¬F b∧ ¬Live ι H b∧K b
theorem RowD.ext {K:Nat→Prop} {s:Nat} {h:Value} {r:List T} {β:Option Nat} {keep:Nat} {ι':Io} {F':Nat→Prop} {w':Go.World} {H':Heap} (hg:Good ι F w H) (hx:Ext keep ι F H w ι' F' H' w') (hr:RowD K ι F w H s h r β):RowD K ι' F' w' H' s h r β:=by
 cases β with
 |none=>exact hr
 |some b=>
  obtain ⟨cap,cs,e,k1,k2,k3,k4,k5,k6,k7,k8,k9⟩:=hr
  have hlt:b<w.heap.size:=(Array.getElem?_eq_some_iff.1 k3).1
  have hsame:=hx.same b hlt fun ho=>k8 ho.live
  refine ⟨cap,cs,e,k1,k2,by rw [hsame];exact k3,k4,k5,k6.mono hx.fsub (fun b hb=>hx.same b (hg.fin b hb) fun ho=>hg.sep b ho hb) hsame,fun hf=> ?_,fun hl=>k8 (hx.live b hlt hl),k9⟩
  rcases hx.ffr b hlt hf with hf|hf
  ·exact k7 hf
  ·exact k8 hf.live
theorem RowD.other {K:Nat→Prop} {s:Nat} {h:Value} {r:List T} {β:Option Nat} {ι':Io} {H':Heap} (hr:RowD K ι F w H s h r β) (hl: ∀b,β=some b→ ¬Live ι' H' b):RowD K ι' F w H' s h r β:=by
 cases β with
 |none=>exact hr
 |some b=>
  obtain ⟨cap,cs,e,k1,k2,k3,k4,k5,k6,k7,k8,k9⟩:=hr
  exact ⟨cap,cs,e,k1,k2,k3,k4,k5,k6,k7,hl b rfl,k9⟩
theorem RowD.dark {K:Nat→Prop} {s b:Nat} {h:Value} {r:List T} {β:Option Nat} (hr:RowD K ι F w H s h r β) (hb:β=some b):b<w.heap.size∧ ¬Live ι H b∧K b:=by
 subst hb
 obtain ⟨cap,cs,e,k1,k2,k3,k4,k5,k6,k7,k8,k9⟩:=hr
 exact ⟨(Array.getElem?_eq_some_iff.1 k3).1,k8,k9⟩
def sameB:List Bool→List Bool→Bool
 | [],[]=>true
 |true::l,true::m=>sameB l m
 |false::l,false::m=>sameB l m
 |_,_=>false
theorem Ajw: ∀ {l m:List Bool},sameB l m=true→l=m
 | [],[],_=>rfl
 |true::l,true::m,h=>by rw [Ajw (l:=l) (m:=m) h]
 |false::l,false::m,h=>by rw [Ajw (l:=l) (m:=m) h]
 |true::_,false::_,h=>by simp [sameB] at h
 |false::_,true::_,h=>by simp [sameB] at h
 | [],_::_,h=>by simp [sameB] at h
 |_::_,[],h=>by simp [sameB] at h
def finAt (k:Nat) (m:List Bool) (f:Nat) (l:Array Bool):Bool:=Nat.beq f k&&sameB l.toList m
theorem Alk {k f:Nat} {m:List Bool} {l:Array Bool} (h:finAt k m f l=true):f=k∧l=m.toArray:=by
 simp only [finAt,Bool.and_eq_true] at h
 refine ⟨Nat.eq_of_beq_eq_true h.1,?_⟩
 rw [←Ajw h.2]
theorem adopt {K:Nat→Prop} {s:Nat} {h:Value} {r:List T} {β:Option Nat} (h0:0<s) (hg:Good ι F w H) (hr:RowD K ι F w H s h r β):
  Good (upd ι H.length β) F w (H++ [.arr s r none false])∧VR (upd ι H.length β) F w (H++ [.arr s r none false]) (.all H.length none) h∧
  (∀id o,H[id]?=some o→ ∃o',(H++ [.arr s r none false])[id]?=some o'∧Like ι (upd ι H.length β) w w id o o')∧
  (∀b,Own (upd ι H.length β) (H++ [.arr s r none false]) b→Own ι H b∨β=some b)∧(∀b,Live (upd ι H.length β) (H++ [.arr s r none false]) b→Live ι H b∨β=some b):=by
 have old: ∀id,id<H.length→upd ι H.length β id=ι id:=fun id h=>by unfold upd;rw [if_neg (by omega)]
 have new:upd ι H.length β H.length=β:=by unfold upd;rw [if_pos rfl]
 have hno:(H++ [qv s r none false])[H.length]?=some (.arr s r none false):=by simp
 have hl: ∀id o,H[id]?=some o→ ∃o',(H++ [.arr s r none false])[id]?=some o'∧Like ι (upd ι H.length β) w w id o o':=by
  intro id o ho
  have hid:=(List.getElem?_eq_some_iff.1 ho).1
  refine ⟨o,by rw [List.getElem?_append_left hid];exact ho,?_⟩
  unfold Like
  cases o with
  |dead=>exact .inl rfl
  |one s v r=>exact .inr ⟨old id hid,v,r,rfl⟩
  |arr s xs sp r=>exact .inr ⟨old id hid,fun _ _=>rfl,xs,sp,r,rfl,rfl⟩
 have hown: ∀b,Own (upd ι H.length β) (H++ [.arr s r none false]) b→Own ι H b∨β=some b:=by
  rintro b ⟨id,o,h1,h2,h3⟩
  rcases Aa1 h1 with h1|⟨rfl,rfl⟩
  ·rw [old id (List.getElem?_eq_some_iff.1 h1).1] at h3
   exact .inl ⟨id,o,h1,h2,h3⟩
  ·rw [new] at h3;exact .inr h3
 have hlive: ∀b,Live (upd ι H.length β) (H++ [.arr s r none false]) b→Live ι H b∨β=some b:=by
  rintro b ⟨id,o,h1,h2,h3⟩
  rcases Aa1 h1 with h1|⟨rfl,rfl⟩
  ·rw [old id (List.getElem?_eq_some_iff.1 h1).1] at h3
   exact .inl ⟨id,o,h1,h2,h3⟩
  ·rw [new] at h3;exact .inr h3
 have hd: ∀b,β=some b→ ¬F b∧ ¬Live ι H b:=by
  intro b hb
  subst hb
  obtain ⟨cap,cs,e,k1,k2,k3,k4,k5,k6,k7,k8,k9⟩:=hr
  exact ⟨k7,k8⟩
 refine ⟨⟨hg.fin,?_,?_,?_,?_⟩,.all _ _ _ ?_,hl,hown,hlive⟩
 ·intro id o ho
  rcases Aa1 ho with h1|⟨rfl,rfl⟩
  ·exact (hg.obj id o h1).mono (fun _ h=>h) (fun _ _=>rfl) hl (fun _=>old id (List.getElem?_eq_some_iff.1 h1).1) (fun _ _ _=>rfl)
  ·refine ⟨h0,?_⟩
   cases β with
   |none=>exact .inl ⟨new,hr.1,by simp⟩
   |some b=>
    obtain ⟨cap,cs,e,k1,k2,k3,k4,k5,k6,k7,k8,k9⟩:=hr
    exact .inr ⟨b,cs,e,new,k3,by rw [k4];exact Nat.mul_le_mul_right _ k2,by simp,⟨cap,k4⟩,k5,k6⟩
 ·intro i j oi oj b hi hj di dj bi bj
  rcases Aa1 hi with h1|⟨rfl,rfl⟩<;>rcases Aa1 hj with h2|⟨rfl,rfl⟩
  ·rw [old i (List.getElem?_eq_some_iff.1 h1).1] at bi
   rw [old j (List.getElem?_eq_some_iff.1 h2).1] at bj
   exact hg.inj i j oi oj b h1 h2 di dj bi bj
  ·rw [old i (List.getElem?_eq_some_iff.1 h1).1] at bi
   rw [new] at bj
   exact absurd ⟨i,oi,h1,di,bi⟩ (hd b bj).2
  ·rw [old j (List.getElem?_eq_some_iff.1 h2).1] at bj
   rw [new] at bi
   exact absurd ⟨j,oj,h2,dj,bj⟩ (hd b bi).2
  ·rfl
 ·intro b ho
  rcases hown b ho with ho|ho
  ·exact hg.sep b ho
  ·exact (hd b ho).1
 ·intro id o b ho hdd hro hb
  rcases Aa1 ho with h1|⟨rfl,rfl⟩
  ·rw [old id (List.getElem?_eq_some_iff.1 h1).1] at hb
   exact hg.rof id o b h1 hdd hro hb
  ·simp [Ob.ro] at hro
 ·unfold OwnSl
  rw [hno,new]
  cases β with
  |none=>
   obtain ⟨rfl,a,rfl⟩:=hr
   exact ⟨a,0,rfl,Nat.le_refl _,Nat.le_refl _,rfl⟩
  |some b=>
   obtain ⟨cap,cs,e,k1,k2,k3,k4,k5,k6,k7,k8,k9⟩:=hr
   refine ⟨_,cap,k1,k2,by simp,.inr (by simp),?_⟩
   simp only
   unfold blk
   rw [k3]
   simp only
   rw [k4,Nat.zero_add]
theorem release {K:Nat→Prop} {s id:Nat} {h:Value} {r:List T} {sp:Option Nat} (hg:Good ι F w H) (ho:H[id]?=some (.arr s r sp false)) (hv:VR ι F w H (.all id none) h) (hK: ∀b,Own ι H b→K b):
  ∃β,RowD K ι F w (H.set id .dead) s h r β∧ ∀b,β=some b→Live ι H b:=by
 cases hv with
 |all _ _ _ hv=>
 unfold OwnSl at hv
 rw [ho] at hv
 obtain ⟨ad,cap,rfl,h2,_,h4⟩:=hv
 simp only [Option.getD_none] at*
 by_cases hcap:cap=0
 ·subst hcap
  have:r= []:=List.length_eq_zero_iff.1 (by omega)
  subst this
  exact ⟨none,⟨rfl,ad,rfl⟩,by simp⟩
 ·obtain ⟨h0,hb|⟨b,cs,e,h5,h6,h7,h8,h9,h10,h11⟩⟩:=hg.obj id _ ho
  ·rw [hb.1] at h4;exact absurd h4 hcap
  ·rw [h5] at h4
   obtain ⟨h12,h13⟩:=h4
   have had:ad=some ⟨b,0,none⟩:=by
    rcases h12 with h12|h12
    ·exact absurd h12 hcap
    ·simpa using h12
   subst had
   have hown:Own ι H b:=⟨id,_,ho,rfl,h5⟩
   refine ⟨some b,⟨cap,cs,e,rfl,h2,h6,?_,h10,h11,hg.sep b hown,?_,hK b hown⟩,fun b' hb'=>by cases hb';exact hown.live⟩
   ·simp only [blk,h6,Nat.zero_add] at h13
    exact h13.symm
   ·rintro ⟨i,oi,k1,k2,k3⟩
    by_cases hne:i=id
    ·subst hne
     rw [List.getElem?_set_self (List.getElem?_eq_some_iff.1 ho).1] at k1
     cases k1
     simp [Ob.isDead] at k2
    ·rw [List.getElem?_set_ne (Ne.symm hne)] at k1
     exact hne (hg.inj i id oi _ b k1 ho k2 rfl k3 h5)
theorem RowD.tr {K:Nat→Prop} {s:Nat} {h:Value} {r:List T} {β:Option Nat} (hr:RowD K ι F w H s h r β):TR (fun b=>F b∨β=some b) w (.sl s r) h:=by
 cases β with
 |none=>
  obtain ⟨rfl,a,rfl⟩:=hr
  exact .slN _ _ _
 |some b=>
  obtain ⟨cap,cs,e,rfl,k2,k3,k4,k5,⟨c,c1,c2,c3⟩,k7,k8,k9⟩:=hr
  by_cases hn:r= []
  ·subst hn;exact .slN _ _ _
  ·exact .slC s r b 0 cap c hn k2 (.inr rfl) (fun i j hi hj=>by rw [Nat.zero_add];exact c1 i j hi hj) c2 fun i j x t h1 h2 h3=>(c3 i j x t h1 h2 h3).mono (fun _ h=> .inl h) (fun _ _=>rfl)
abbrev pinE (x:T) (h:Value):T:= .agg [x,.pin h]
theorem Apd {b m:Nat} {x:T} (h:CellsR F w b 2 (zj m (.agg [x,.nul]))): ∃hs:List Value,hs.length=m∧CellsR F w b 2 (hs.map (pinE x))∧ ∀h∈hs,∃a,h= .slice a 0 0:=by
 obtain ⟨c,c1,c2,c3⟩:=h
 have key: ∀i,i<m→TR F w .nul (c i 1):=fun i hi=>c3 i 1 (.agg [x,.nul]) .nul (by simp [hi]) (by simp) rfl
 refine ⟨(List.range m).map fun i=>c i 1,by simp,⟨c,fun i j hi hj=>c1 i j (by simpa using hi) hj,?_,?_⟩,?_⟩
 ·intro i y hy hn
  simp only [List.getElem?_map] at hy
  obtain ⟨h,_,rfl⟩:=Option.map_eq_some_iff.1 hy
  rfl
 ·intro i j y t hy hn ht
  simp only [List.getElem?_map] at hy
  obtain ⟨h,hh,rfl⟩:=Option.map_eq_some_iff.1 hy
  obtain ⟨i',hi',rfl⟩:=Option.map_eq_some_iff.1 hh
  have him:i<m:=by have:=(List.getElem?_eq_some_iff.1 hi').1;simpa using this
  have e:i'=i:=by have:=(List.getElem?_eq_some_iff.1 hi').2;simpa using this.symm
  subst e
  match j,ht with
  |0,ht=>
   simp [T.cells] at ht;subst ht
   exact c3 i' 0 (.agg [x,.nul]) x (by simp [him]) (by simp) rfl
  |1,ht=>
   simp [T.cells] at ht;subst ht
   exact .pin _ (c1 i' 1 (by simpa using him) (by omega)).2
  |j+2,ht=>simp [T.cells] at ht
 ·intro h hh
  obtain ⟨i,hi,rfl⟩:=List.mem_map.1 hh
  have:=key i (by simpa using hi)
  generalize c i 1=v at this
  cases this with
  |nul a=>exact ⟨a,rfl⟩
theorem AoP {b s:Nat} {x:T} {hs:List Value} {rows:List (List T)} {F':Nat→Prop} (h:CellsR F w b 2 (hs.map (pinE x))) (hl:hs.length=rows.length) (hF: ∀b,F b→F' b)
  (hr: ∀(k:Nat) h r,hs[k]?=some h→rows[k]?=some r→TR F' w (.sl s r) h):CellsR F' w b 2 (rows.map fun r=> .agg [x,.sl s r]):=by
 obtain ⟨c,c1,c2,c3⟩:=h
 refine ⟨c,fun i j hi hj=>c1 i j (by simp at hi⊢;omega) hj,?_,?_⟩
 ·intro i y hy hn
  simp only [List.getElem?_map] at hy
  obtain ⟨r,_,rfl⟩:=Option.map_eq_some_iff.1 hy
  rfl
 ·intro i j y t hy hn ht
  simp only [List.getElem?_map] at hy
  obtain ⟨r,hrr,rfl⟩:=Option.map_eq_some_iff.1 hy
  have hi:i<hs.length:=by have:=(List.getElem?_eq_some_iff.1 hrr).1;omega
  have hh:hs[i]?=some hs[i]:=List.getElem?_eq_getElem hi
  match j,ht with
  |0,ht=>
   simp [T.cells] at ht;subst ht
   exact (c3 i 0 (pinE x hs[i]) x (by simp [hh]) (by simp) rfl).mono hF (fun _ _=>rfl)
  |1,ht=>
   simp [T.cells] at ht;subst ht
   have hp:=c3 i 1 (pinE x hs[i]) (.pin hs[i]) (by simp [hh]) (by simp) rfl
   have:=hr i _ _ hh hrr
   generalize hs[i]=v at hp this
   generalize c i 1=u at hp
   cases hp with
   |pin _ _=>exact this
  |j+2,ht=>simp [T.cells] at ht
end
end Go.Eva
namespace Go.Eva.S4
open Go.Proofs
noncomputable def c42 (p:List Nat):Code:=match subAt (codeOf Tryz.f42) (p++ [0,1,0,1,1,1,1]) with|some c=>c|none=> .skip
noncomputable def o42 (p:List Nat):Array Oper:=match c42 p with| .region _ ops _=>ops|_=> #[]
theorem w6 (c:Config) (g i:Int) (hs:List Value) (os:List T):Wp cx (peek [1,2,4,5,6,24] (runOps cx (o42 [0,0,0]).toList (o42 [0,0,0]).toList (zipE [1,2,4,5,6] [.ptr 0 0 0,.ptr 1 0 0,vi g,.ptr 2 0 0,vi i]) [.one 5 (.t c.enc) false,.one 2 (.agg [.fit 2 [],.fit 1 []]) false,.one 2 (.agg [.all 3 none,.all 4 none]) false,.arr 2 (hs.map (pinE (ti 0))) (some 0) false,.arr 1 os (some 0) false]))
  (· =⟨.normal,[.ptr 0 0 0,.ptr 1 0 0,vi g,.ptr 2 0 0,vi i,vb (decide (i≤c.players))],[.one 5 (.t c.enc) false,.one 2 (.agg [.fit 2 [],.fit 1 []]) false,.one 2 (.agg [.all 3 none,.all 4 none]) false,.arr 2 (hs.map (pinE (ti 0))) (some 0) false,.arr 1 os (some 0) false]⟩):=by
 exact ge
theorem w8 (c:Config) (g i:Int) (hs:List Value) (os:List T) (hg:0<g) (hi:1≤i∧i≤1000000):Wp cx (peek [1,2,4,5,6,7] (runOps cx (o42 [0,0,0,1,0]).toList (o42 [0,0,0,1,0]).toList (zipE [1,2,4,5,6] [.ptr 0 0 0,.ptr 1 0 0,vi g,.ptr 2 0 0,vi i]) [.one 5 (.t c.enc) false,.one 2 (.agg [.fit 2 [],.fit 1 []]) false,.one 2 (.agg [.all 3 none,.all 4 none]) false,.arr 2 (hs.map (pinE (ti 0))) (some 0) false,.arr 1 os (some 0) false]))
  (· =⟨.normal,[.ptr 0 0 0,.ptr 1 0 0,vi g,.ptr 2 0 0,vi i,vi ((i-1).tmod g)],[.one 5 (.t c.enc) false,.one 2 (.agg [.fit 2 [],.fit 1 []]) false,.one 2 (.agg [.all 3 none,.all 4 none]) false,.arr 2 (hs.map (pinE (ti 0))) (some 0) false,.arr 1 os (some 0) false]⟩):=by
 refine gg [.i zd (i-1) (i-1),.w (g≠(0:Int)),.s (ti (zg (i-1) g))] ⟨oI,oW,trivial⟩ ?_
 exact ge
theorem w9 (c:Config) (g i r:Int) (hs:List Value) (os:List T):Wp cx (peek [1,2,4,5,6,7,8,9] (runOps cx (o42 [0,1,0,0,1,0]).toList (o42 [0,1,0,0,1,0]).toList (zipE [1,2,4,5,6,7] [.ptr 0 0 0,.ptr 1 0 0,vi g,.ptr 2 0 0,vi i,vi r]) [.one 5 (.t c.enc) false,.one 2 (.agg [.fit 2 [],.fit 1 []]) false,.one 2 (.agg [.all 3 none,.all 4 none]) false,.arr 2 (hs.map (pinE (ti 0))) (some 0) false,.arr 1 os (some 0) false]))
  (· =⟨.normal,[.ptr 0 0 0,.ptr 1 0 0,vi g,.ptr 2 0 0,vi i,vi r,vi (c.cornerX r),vi (c.cornerY r)],[.one 5 (.t c.enc) false,.one 2 (.agg [.fit 2 [],.fit 1 []]) false,.one 2 (.agg [.all 3 none,.all 4 none]) false,.arr 2 (hs.map (pinE (ti 0))) (some 0) false,.arr 1 os (some 0) false]⟩):=by
 have h:=Acb c r
 refine gg [.a _ _] ⟨o_a h,trivial⟩ ?_
 exact ge
noncomputable def d42a:Ord:= .one 0 (.one 2 (.one 3 (.one 5 (.one 9 (.one 10 (.one 11 (.one 12 (.one 13 (.one 14 (.one 4 (.one 6 (.one 7 (.one 8 .done)))))))))))))
noncomputable def d42b:Ord:= .two 1 (.one 15 (.one 16 (.one 17 (.one 18 .done)))) 15 (.two 1 (.one 16 (.one 17 (.one 18 .done))) 16 (.one 1 (.one 17 (.one 18 .done))))
noncomputable def d42c:Ord:= .one 19 .done
theorem w10a (c:Config) (g i:Int) (r:Nat) (x y:Int) (hs:List Value) (os:List T) (hr:r<hs.length) (hx:0≤x∧x≤1000000) (hy:0≤y∧y≤1000000) (hi:1≤i∧i≤1000000):
  Wp cx (peek [1,2,4,5,6,37,39,51,45] (ordQ cx (o42 [1,1,0,0,1,0]).toList d42a (zipE [1,2,4,5,6,7,8,9] [.ptr 0 0 0,.ptr 1 0 0,vi g,.ptr 2 0 0,vi i,vi r,vi x,vi y]) [.one 5 (.t c.enc) false,.one 2 (.agg [.fit 2 [],.fit 1 []]) false,.one 2 (.agg [.all 3 none,.all 4 none]) false,.arr 2 (hs.map (pinE (ti 0))) (some 0) false,.arr 1 os (some 0) false]))
  (· =⟨.normal,[.ptr 0 0 0,.ptr 1 0 0,vi g,.ptr 2 0 0,vi i,.ptr 2 0 0,vi r,.t (zm ⟨i,1,x+512,y+512,0,0,100,0,0⟩),.t (.pin (gt hs r))],[.one 5 (.t c.enc) false,.one 2 (.agg [.fit 2 [],.fit 1 []]) false,.one 2 (.agg [.all 3 none,.all 4 none]) false,.arr 2 (hs.map (pinE (ti 0))) (some 0) false,.arr 1 os (some 0) false]⟩):=by
 refine gg [.i zd (x+512) (x+512),.i zd (y+512) (y+512),.w (0≤(r:Int)),.n (zy (r:Int)) r,.w (r<zq (zz (pinE (ti (0:Int))) hs)),.g (zz (pinE (ti 0)) hs) r (pinE (ti 0) (gt hs r))] ⟨oI,oI,oW,nK,o_w (by (simp;omega)),o_gt rfl (by assumption) (by intro h;cases h),trivial⟩ ?_
 exact ge
theorem w10b (c:Config) (g i:Int) (r:Nat) (p:Entity) (row:List Entity) (hs:List Value) (os:List T) (hr:r<hs.length) (hn:row.length≤100000):
  Wp cx (peek [1,2,4,5,6,55,53] (ordQ cx (o42 [1,1,0,0,1,0]).toList d42b (zipE [1,2,4,5,6,37,39,51,45] [.ptr 0 0 0,.ptr 1 0 0,vi g,.ptr 2 0 0,vi i,.ptr 2 0 0,vi r,.t p.enc,.all 5 none]) [.one 5 (.t c.enc) false,.one 2 (.agg [.fit 2 [],.fit 1 []]) false,.one 2 (.agg [.all 3 none,.all 4 none]) false,.arr 2 (hs.map (pinE (ti 0))) (some 0) false,.arr 1 os (some 0) false,.arr 9 (row.map zm) none false]))
  (· =⟨.normal,[.ptr 0 0 0,.ptr 1 0 0,vi g,.ptr 2 0 0,vi i,.ptr 3 r 1,.all 6 none],[.one 5 (.t c.enc) false,.one 2 (.agg [.fit 2 [],.fit 1 []]) false,.one 2 (.agg [.all 3 none,.all 4 none]) false,.arr 2 (hs.map (pinE (ti 0))) (some 0) false,.arr 1 os (some 0) false,.dead,.arr 9 ((row++ [p]).map zm) none false]⟩):=by
 refine bO ?_ (bO ?_ ?_)
 all_goals
  refine gg [.w ((0:Nat)<(72:Nat)),.t (qk 0 [zm p]) (qk 0 (zz zm [p])),.t (qk 0 (zz zm row++zz zm [p])) (qk 0 (zz zm (row++ [p]))),.w (room (zq (zz zm (row++ [p]))) (72:Nat)),.w (0≤(r:Int)),.n (zy (r:Int)) r,.w (r<zq (zz (pinE (ti (0:Int))) hs))] ⟨oW,o_l (Aaf rfl Aap),o_l (Aam rfl rfl),o_w (by (simp [room,appendMax];omega)),oW,nK,o_w (by (simp [room,appendMax];omega)),trivial⟩ ?_
  exact ge
theorem w10c (c:Config) (g i:Int) (r:Nat) (h:Value) (hs:List Value) (os:List T) (hr:r<hs.length):
  Wp cx (peek [1,2,4,5,6] (ordQ cx (o42 [1,1,0,0,1,0]).toList d42c (zipE [1,2,4,5,6,55,53] [.ptr 0 0 0,.ptr 1 0 0,vi g,.ptr 2 0 0,vi i,.ptr 3 r 1,.t (.pin h)]) [.one 5 (.t c.enc) false,.one 2 (.agg [.fit 2 [],.fit 1 []]) false,.one 2 (.agg [.all 3 none,.all 4 none]) false,.arr 2 (hs.map (pinE (ti 0))) (some 0) false,.arr 1 os (some 0) false,.dead,.dead]))
  (· =⟨.normal,[.ptr 0 0 0,.ptr 1 0 0,vi g,.ptr 2 0 0,vi i],[.one 5 (.t c.enc) false,.one 2 (.agg [.fit 2 [],.fit 1 []]) false,.one 2 (.agg [.all 3 none,.all 4 none]) false,.arr 2 ((hs.set r h).map (pinE (ti 0))) (some 0) false,.arr 1 os (some 0) false,.dead,.dead]⟩):=by
 refine gg [.g (zz (pinE (ti 0)) hs) r (pinE (ti 0) (gt hs r)),.t (qk 0 (zx (zz (pinE (ti 0)) hs) r (T.agg [ti 0,T.pin h]))) (qk 0 (zz (pinE (ti 0)) (zx hs r h)))] ⟨o_gt rfl (by assumption) (by intro h;cases h),o_l (Aal (e:=h) rfl rfl),trivial⟩ ?_
 exact ge
theorem w7 (c:Config) (g i:Int) (hs:List Value) (os:List T) (hi:1≤i∧i≤1000000):Wp cx (peekG [1,2,4,5,6] (runOps cx (o42 [1,1,0]).toList (o42 [1,1,0]).toList (zipE [1,2,4,5,6] [.ptr 0 0 0,.ptr 1 0 0,vi g,.ptr 2 0 0,vi i]) [.one 5 (.t c.enc) false,.one 2 (.agg [.fit 2 [],.fit 1 []]) false,.one 2 (.agg [.all 3 none,.all 4 none]) false,.arr 2 (hs.map (pinE (ti 0))) (some 0) false,.arr 1 os (some 0) false,.dead,.dead]))
  (· =⟨.normal,[.ptr 0 0 0,.ptr 1 0 0,vi g,.ptr 2 0 0,vi (i+1)],[.one 5 (.t c.enc) false,.one 2 (.agg [.fit 2 [],.fit 1 []]) false,.one 2 (.agg [.all 3 none,.all 4 none]) false,.arr 2 (hs.map (pinE (ti 0))) (some 0) false,.arr 1 os (some 0) false]⟩):=by
 refine gg [.i zd (i+1) (i+1)] ⟨oI,trivial⟩ ?_
 exact ge
end Go.Eva.S4
namespace Go.Eva
def plB (c:Config) (g i:Int):Entity:=⟨i,1,c.cornerX ((i-1).tmod g)+512,c.cornerY ((i-1).tmod g)+512,0,0,100,0,0⟩
def rowsB (c:Config) (g:Int):Nat→Int→List (List Entity)→List (List Entity)
 |0,_,L=>L
 |d+1,i,L=>rowsB c g d (i+1) (L.set ((i-1).tmod g).toNat (gt L ((i-1).tmod g).toNat++ [plB c g i]))
theorem AnO {l:List Entity} {e:Entity} (h: ∀x∈l,x.id<e.id):put1 l e=l++ [e]:=by
 have h1:(l.findIdx? fun x=>x.id==e.id)=none:=by
  rw [List.findIdx?_eq_none_iff]
  intro x hx
  have:=h x hx
  simp;omega
 have h2:(l.findIdx? fun x=>decide (x.id≥e.id))=none:=by
  rw [List.findIdx?_eq_none_iff]
  intro x hx
  have:=h x hx
  simp;omega
 unfold put1 ins
 rw [h1,h2]
theorem Amq {c:Config} (hr:c.right=true) {i:Int} (hi:1≤i):plB c c.regions i=playerP c.cols c.regions i:=by
 have h1:=Config.right_iff.1 hr
 have hml:=Config.mul_le hr
 have hre:c.regions=c.cols*c.rows:=by simp [z0,hr]
 have hk:=AaE (v:=i-1) (k:=c.regions) (by omega) (by omega)
 have his:c.is ((i-1).tmod c.regions)=true:=by rw [Config.is_iff hr];omega
 simp only [plB,playerP,Config.cornerX,Config.cornerY,his,if_true]
theorem Amc {c:Config} (hr:c.right=true): ∀ {d:Nat} {i:Int} {L:List (List Entity)},1≤i→(L.length:Int)=c.regions→(∀l∈L,∀x∈l,x.id<i)→
  beginP c.cols c.regions d i (L.map (Region.mk 0))=(rowsB c c.regions d i L).map (Region.mk 0):=by
 intro d
 induction d with
 |zero=>intro i L _ _ _;rfl
 |succ d ih=>
  intro i L hi hL hx
  have h1:=Config.right_iff.1 hr
  have hml:=Config.mul_le hr
  have hre:c.regions=c.cols*c.rows:=by simp [z0,hr]
  have hk:=AaE (v:=i-1) (k:=c.regions) (by omega) (by omega)
  have hlt:((i-1).tmod c.regions).toNat<L.length:=by omega
  rw [beginP,rowsB]
  generalize hkk:((i-1).tmod c.regions).toNat=k at*
  have hg:gt (L.map (Region.mk 0)) k=⟨0,gt L k⟩:=by simp [gt,hlt]
  have e:begin1 c.cols c.regions (L.map (Region.mk 0)) i=(L.set k (gt L k++ [plB c c.regions i])).map (Region.mk 0):=by
   unfold begin1
   rw [hkk,hg]
   simp only
   rw [←Amq hr hi,AnO (hx _ (Aa3 hlt)),List.map_set]
  rw [e]
  refine ih (by omega) (by simpa using hL) ?_
  intro l hl x hxl
  rcases List.mem_or_eq_of_mem_set hl with hl|rfl
  ·have:=hx l hl x hxl;omega
  ·rcases List.mem_append.1 hxl with hxl|hxl
   ·have:=hx _ (Aa3 hlt) x hxl;omega
   ·simp at hxl;subst hxl;show i<i+1;omega
theorem Amk {c:Config} (hr:c.right=true):beginW c.cols c.regions c.players.toNat=⟨(rowsB c c.regions c.players.toNat 1 (zj c.regions.toNat [])).map (Region.mk 0),zj c.regions.toNat []⟩:=by
 have hgl:= @Config.regions_le c
 have h:=Amc hr (d:=c.players.toNat) (i:=1) (L:=zj c.regions.toNat []) (by omega) (by simp;omega) (fun l hl=>by rw [List.eq_of_mem_replicate hl];simp)
 rw [List.map_replicate] at h
 unfold beginW
 rw [h]
end Go.Eva
namespace Go.Eva.S4
open Go.Proofs Go.RowKit
abbrev hB (c:Config) (xs os:List T):Heap:= [.one 5 (.t c.enc) false,.one 2 (.agg [.fit 2 [],.fit 1 []]) false,.one 2 (.agg [.all 3 none,.all 4 none]) false,.arr 2 (xs) (some 0) false,.arr 1 os (some 0) false]
abbrev hB2 (c:Config) (xs os:List T):Heap:= [.one 5 (.t c.enc) false,.one 2 (.agg [.fit 2 [],.fit 1 []]) false,.one 2 (.agg [.all 3 none,.all 4 none]) false,.arr 2 (xs) (some 0) false,.arr 1 os (some 0) false,.dead,.dead]
abbrev vB (g i:Int):List V:= [.ptr 0 0 0,.ptr 1 0 0,vi g,.ptr 2 0 0,vi i]
section
variable {P:Program} {n:Nat} {w0:Go.World} {ι0:Io} {F0:Nat→Prop} {H0:Heap}
structure BInv (n:Nat) (w0:Go.World) (ι0:Io) (F0:Nat→Prop) (H0:Heap) (c:Config) (g:Int) (os:List T) (i:Int) (L:List (List Entity)) (w:Go.World) (a:Act) (ι:Io) (F:Nat→Prop) (hs:List Value) (β:Nat→Option Nat):Prop where
 inn:In n ι F w (hB c (hs.map (pinE (ti 0))) os) (zipE [1,2,4,5,6] (vB g i)) a
 ext:Ext 0 ι0 F0 H0 w0 ι F (hB c (hs.map (pinE (ti 0))) os) w
 len:hs.length=L.length
 row: ∀(k:Nat) h r,hs[k]?=some h→L[k]?=some r→RowD (fun b=>b<w0.heap.size→Own ι0 H0 b) ι F w (hB c (hs.map (pinE (ti 0))) os) 9 h (r.map zm) (β k)
 inj: ∀(i j:Nat) b,i<hs.length→j<hs.length→β i=some b→β j=some b→i=j
theorem AlP:c42 [0]= .seq (.seq (c42 [0,0,0]) (.cond (.tmp 24) .skip (.exit 0))) (.seq (.block 1 (.seq (c42 [0,0,0,1,0]) (.seq (c42 [0,1,0,0,1,0]) (c42 [1,1,0,0,1,0])))) (c42 [1,1,0])):=by kernel_rfl
theorem c42_6:c42 [0,0,0]= .region 6 (o42 [0,0,0]) false:=by kernel_rfl
theorem c42_8:c42 [0,0,0,1,0]= .region 8 (o42 [0,0,0,1,0]) false:=by kernel_rfl
theorem c42_9:c42 [0,1,0,0,1,0]= .region 9 (o42 [0,1,0,0,1,0]) false:=by kernel_rfl
theorem Aoy:c42 [1,1,0,0,1,0]= .region 10 (o42 [1,1,0,0,1,0]) true:=by kernel_rfl
theorem c42_7:c42 [1,1,0]= .region 7 (o42 [1,1,0]) false:=by kernel_rfl
theorem fit42 {n:Nat} (h:fitC cx fi42 n fi42.code=true) {p:List Nat} {id:Nat} {b:Bool} (hp:c42 p= .region id (o42 p) b) (hs:subAt fi42.code (p++ [0,1,0,1,1,1,1])=some (c42 p)): ∀o∈(o42 p).toList,fitO cx n o=true:=by
 have:=AnC h hs
 rw [hp] at this
 simp only [fitC,Bool.and_eq_true] at this
 exact fun o ho=>List.all_eq_true.1 this.1 o ho
theorem Apo (hc:CxTy P cx) (hfn:FnsOK P cx) (hfit:fitC cx fi42 n fi42.code=true) {Q:Exit→Act→Go.World→Prop} (hQ: ∀c a w,¬Q (.panic c) a w) {c:Config} {g i:Int} {os:List T} {L:List (List Entity)} {w:Go.World} {a:Act} {ι:Io} {F:Nat→Prop} {hs:List Value} {β:Nat→Option Nat} {r:Nat} {x y:Int} {row:List Entity}
  (hi:In n ι F w (hB c (hs.map (pinE (ti 0))) os) (zipE [1,2,4,5,6,7,8,9] (vB g i++ [vi r,vi x,vi y])) a) (hx:Ext 0 ι0 F0 H0 w0 ι F (hB c (hs.map (pinE (ti 0))) os) w) (hlen:hs.length=L.length)
  (hrow: ∀(k:Nat) h r,hs[k]?=some h→L[k]?=some r→RowD (fun b=>b<w0.heap.size→Own ι0 H0 b) ι F w (hB c (hs.map (pinE (ti 0))) os) 9 h (r.map zm) (β k)) (hinj: ∀(i j:Nat) b,i<hs.length→j<hs.length→β i=some b→β j=some b→i=j)
  (hr:r<hs.length) (hL:L[r]?=some row) (hn:row.length≤100000) (h1:0≤x∧x≤1000000) (h2:0≤y∧y≤1000000) (h3:1≤i∧i≤1000000)
  (hq: ∀a' w' ι' F' (h':Value) (β':Nat→Option Nat),In n ι' F' w' (hB2 c ((hs.set r h').map (pinE (ti 0))) os) (zipE [1,2,4,5,6] (vB g i)) a'→Ext 0 ι0 F0 H0 w0 ι' F' (hB2 c ((hs.set r h').map (pinE (ti 0))) os) w'→
   (∀(k:Nat) h rr,(hs.set r h')[k]?=some h→(L.set r (row++ [⟨i,1,x+512,y+512,0,0,100,0,0⟩]))[k]?=some rr→RowD (fun b=>b<w0.heap.size→Own ι0 H0 b) ι' F' w' (hB2 c ((hs.set r h').map (pinE (ti 0))) os) 9 h (rr.map zm) (β' k))→
   (∀(i j:Nat) b,i<hs.length→j<hs.length→β' i=some b→β' j=some b→i=j)→Q .normal a' w'):(c42 [1,1,0,0,1,0]).wp P Q a w:=by
 rw [Aoy]
 have hall:=fit42 hfit Aoy (by kernel_rfl)
 have hsel:Region.noSelect (o42 [1,1,0,0,1,0])=true:=by kernel_rfl
 refine wp_region_any hc.orders (Ajk (cx:=cx) _ _ _ _ ?_)
 obtain ⟨d1,d2⟩:=Ajl hi.good
 have hrow:=fun k h rr e1 e2=>(hrow k h rr e1 e2).ext hi.good (d2.ext 0)
 change wpAnyR P cx (o42 [1,1,0,0,1,0]) Q _ _ a w.drew
 have hi:In n ι F w.drew (hB c (hs.map (pinE (ti 0))) os) (zipE [1,2,4,5,6,7,8,9] (vB g i++ [vi r,vi x,vi y])) a:=⟨d1,fun t=>d2.vr hi.good (hi.sim t),hi.size,hi.defers⟩
 have hx:=hx.trans (d2.ext 0)
 generalize w.drew=w at*
 clear d1 d2
 refine Agx hc hfn hall hsel hQ (fin:=finAt 6 [true,false,true,true,true,true,true,true,true,true,true,true,true,true,true,false,false,false,false,false]) (d:=d42a) (by kernel_rfl) hi (w10a c g i r x y hs os hr h1 h2 h3) ?_
 intro f1 l1 hf1 a1 w1 ι1 F1 hi1 hst1
 obtain ⟨rfl,rfl⟩:=Alk hf1
 have hx1:=hx.trans (hst1.ext 0)
 have hrow1:=fun k h r e1 e2=>(hrow k h r e1 e2).ext hi.good (hst1.ext 0)
 clear hrow hst1 hi hx hf1
 have hR:=hrow1 r (gt hs r) row (AcJ hr) hL
 obtain ⟨ga,va,hl,ho,hlv⟩:=adopt (by decide) hi1.good hR
 generalize hp:(⟨i,1,x+512,y+512,0,0,100,0,0⟩:Entity)=p at*
 have hva:VRs ι1 F1 w1 (hB c (hs.map (pinE (ti 0))) os) (vB g i++ [.ptr 2 0 0,vi r,.t p.enc]) (slots a1 [1,2,4,5,6,37,39,51]):=AjM hi1 [1,2,4,5,6,37,39,51]
 have h45:a1.tmps.getD 45 undef=gt hs r:=by
  have h:VR ι1 F1 w1 (hB c (hs.map (pinE (ti 0))) os) (.t (.pin (gt hs r))) (a1.tmps.getD 45 undef):=hi1.sim 45
  generalize a1.tmps.getD 45 undef=u at h
  have h:=h.t_inv
  generalize gt hs r=v at h
  cases h
  rfl
 have hva2:=Al1 (AkS hva fun v u h=>h.mono (fun _ h=>h) (fun _ _=>rfl) hl) (v:= .all 5 none) (u:=a1.tmps.getD 45 undef) (by rw [h45];exact va)
 have hi1':In n (upd ι1 5 (β r)) F1 w1 (hB c (hs.map (pinE (ti 0))) os++ [.arr 9 (row.map zm) none false]) (zipE [1,2,4,5,6,37,39,51,45] (vB g i++ [.ptr 2 0 0,vi r,.t p.enc,.all 5 none])) a1:=⟨ga,Abm hva2,hi1.size,hi1.defers⟩
 have hxa:Ext 0 ι0 F0 H0 w0 (upd ι1 5 (β r)) F1 (hB c (hs.map (pinE (ti 0))) os++ [.arr 9 (row.map zm) none false]) w1:=
  ⟨hx1.os,hx1.tape,hx1.output,hx1.size,hx1.same,fun b hb h=>(ho b h).elim (hx1.own b hb) fun e=>(hR.dark e).2.2 hb,hx1.fsub,hx1.ffr,fun id o hid=>absurd hid (by simp),fun b hb h=>(hlv b h).elim (hx1.live b hb) fun e=>((hR.dark e).2.2 hb).live⟩
 have get: ∀k,k<hs.length→ ∃h rr,hs[k]?=some h∧L[k]?=some rr:=fun k hk=>⟨hs[k],L[k]'(by omega),List.getElem?_eq_getElem hk,List.getElem?_eq_getElem (by omega)⟩
 have hrowa: ∀(k:Nat) h rr,k≠r→hs[k]?=some h→L[k]?=some rr→RowD (fun b=>b<w0.heap.size→Own ι0 H0 b) (upd ι1 5 (β r)) F1 w1 (hB c (hs.map (pinE (ti 0))) os++ [.arr 9 (row.map zm) none false]) 9 h (rr.map zm) (β k):=by
  intro k h rr hk e1 e2
  refine (hrow1 k h rr e1 e2).other fun b hb hl=> ?_
  rcases hlv b hl with hl|hl
  ·exact ((hrow1 k h rr e1 e2).dark hb).2.1 hl
  ·exact hk (hinj k r b (List.getElem?_eq_some_iff.1 e1).1 hr hb hl)
 clear hva hva2 h45 va hl ho hlv hrow1 hi1 hx1
 refine Agx hc hfn hall hsel hQ (fin:=finAt 1 [true,true,true,true,true,true,true,true,true,true,true,true,true,true,true,true,true,true,true,false]) (d:=d42b) (by kernel_rfl) hi1' (w10b c g i r p row hs os hr hn) ?_
 intro f2 l2 hf2 a2 w2 ι2 F2 hi2 hst2
 obtain ⟨rfl,rfl⟩:=Alk hf2
 have hx2:=hxa.trans (hst2.ext 0)
 have hrow2:=fun k h r hk e1 e2=>(hrowa k h r hk e1 e2).ext ga (hst2.ext 0)
 clear hrowa hst2 hi1' hxa hf2
 have hva:VRs ι2 F2 w2 ([.one 5 (.t c.enc) false,.one 2 (.agg [.fit 2 [],.fit 1 []]) false,.one 2 (.agg [.all 3 none,.all 4 none]) false,.arr 2 (hs.map (pinE (ti 0))) (some 0) false,.arr 1 os (some 0) false,.dead,.arr 9 ((row++ [p]).map zm) none false]) (vB g i++ [.ptr 3 r 1]) (slots a2 [1,2,4,5,6,55]):=AjM hi2 [1,2,4,5,6,55]
 have h53:VR ι2 F2 w2 ([.one 5 (.t c.enc) false,.one 2 (.agg [.fit 2 [],.fit 1 []]) false,.one 2 (.agg [.all 3 none,.all 4 none]) false,.arr 2 (hs.map (pinE (ti 0))) (some 0) false,.arr 1 os (some 0) false,.dead,.arr 9 ((row++ [p]).map zm) none false]) (.all 6 none) (a2.tmps.getD 53 undef):=hi2.sim 53
 have hone:(a2.tmps.getD 53 undef).oneCell'=true:=(h53.shape (by simp) rfl).2 0 _ (by
  have:=(h53.shape (by simp) rfl).1
  generalize a2.tmps.getD 53 undef=u at h53 this
  cases h53 with
  |all _ _ _ h=>
   obtain ⟨ad,cap,rfl,_⟩:=h
   rfl)
 obtain ⟨β6,hR6,hlive6⟩:=release (K:=fun b=>b<w0.heap.size→Own ι0 H0 b) (id:=6) hi2.good rfl h53 fun b ho hb=>hx2.own b hb ho
 obtain ⟨gk,sk⟩:=Agh (id:=6) hi2.good rfl
 have hva2:=Al1 (AkS hva fun v u h=>sk.vr hi2.good h) (v:= .t (.pin (a2.tmps.getD 53 undef))) (u:=a2.tmps.getD 53 undef) (.t _ _ (.pin _ hone))
 have hi2':In n ι2 F2 w2 (hB2 c (hs.map (pinE (ti 0))) os) (zipE [1,2,4,5,6,55,53] (vB g i++ [.ptr 3 r 1,.t (.pin (a2.tmps.getD 53 undef))])) a2:=⟨gk,Abm hva2,hi2.size,hi2.defers⟩
 have hx3:=hx2.trans (sk.ext 0)
 have hrow3:=fun k h r hk e1 e2=>(hrow2 k h r hk e1 e2).ext hi2.good (sk.ext 0)
 generalize a2.tmps.getD 53 undef=h' at*
 refine Agx hc hfn hall hsel hQ (fin:=okEnd (o42 [1,1,0,0,1,0])) (d:=d42c) (by kernel_rfl) hi2' (w10c c g i r h' hs os hr) ?_
 intro f3 l3 hf3 a3 w3 ι3 F3 hi3 hst3
 refine AoZ hf3 (hq a3 w3 ι3 F3 h' (fun k=>if k=r then β6 else β k) hi3 (hx3.trans (hst3.ext 0)) ?_ ?_)
 ·intro k h rr e1 e2
  by_cases hk:k=r
  ·subst hk
   rw [List.getElem?_set_self hr] at e1
   rw [List.getElem?_set_self (by omega)] at e2
   cases e1
   cases e2
   simp only [if_pos]
   exact hR6.ext gk (hst3.ext 0)
  ·rw [List.getElem?_set_ne (Ne.symm hk)] at e1 e2
   rw [if_neg hk]
   exact (hrow3 k h rr hk e1 e2).ext gk (hst3.ext 0)
 ·have new: ∀j b,j<hs.length→j≠r→β j=some b→β6=some b→False:=by
   intro j b hj hne e1 e2
   obtain ⟨h,rr,k1,k2⟩:=get j hj
   exact ((hrow2 j h rr hne k1 k2).dark e1).2.1 (hlive6 b e2)
  intro i' j b hi hj e1 e2
  by_cases c1:i'=r
  ·by_cases c2:j=r
   ·rw [c1,c2]
   ·simp only [c1,c2,if_true,if_false] at e1 e2
    exact (new j b hj c2 e2 e1).elim
  ·by_cases c2:j=r
   ·simp only [c1,c2,if_true,if_false] at e1 e2
    exact (new i' b hi c1 e1 e2).elim
   ·simp only [c1,c2,if_false] at e1 e2
    exact hinj i' j b hi hj e1 e2
end
end Go.Eva.S4
namespace Go.Eva.S4
open Go.Proofs Go.RowKit
abbrev rowT (l:List Entity):T:= .agg [ti 0,.sl 9 (l.map zm)]
theorem Aom {L:List (List Entity)}:((L.map fun l=>l.map zm).map fun r=>T.agg [ti 0,.sl 9 r])=L.map rowT:=by rw [List.map_map];rfl
section
variable {P:Program} {n:Nat} {w0:Go.World} {ι0:Io} {F0:Nat→Prop} {H0:Heap}
def QB (n:Nat) (w0:Go.World) (ι0:Io) (F0:Nat→Prop) (H0:Heap) (c:Config) (g:Int) (os:List T) (i:Int) (L:List (List Entity)) (ex:Exit) (a':Act) (w':Go.World):Prop:=
 ∃ι' F',exEq ex (.exit 0)∧In n ι' F' w' (hB c (L.map rowT) os) (zipE [1,2,4,5,6] (vB g i)) a'∧Ext 0 ι0 F0 H0 w0 ι' F' (hB c (L.map rowT) os) w'
theorem Amn {c:Config} {g i:Int} {os:List T} {L:List (List Entity)} {w:Go.World} {a:Act} {ι:Io} {F:Nat→Prop} {hs:List Value} {β:Nat→Option Nat} (hv:BInv n w0 ι0 F0 H0 c g os i L w a ι F hs β):QB n w0 ι0 F0 H0 c g os i L (.exit 0) a w:=by
 obtain ⟨hi,hx,hl,hrow,hinj⟩:=hv
 have get: ∀k,k<hs.length→ ∃h rr,hs[k]?=some h∧L[k]?=some rr:=fun k hk=>⟨hs[k],L[k]'(by omega),List.getElem?_eq_getElem hk,List.getElem?_eq_getElem (by omega)⟩
 have hd: ∀b,(∃k,k<hs.length∧β k=some b)→b<w.heap.size∧ ¬Live ι (hB c (hs.map (pinE (ti 0))) os) b∧(b<w0.heap.size→Own ι0 H0 b):=by
  rintro b ⟨k,hk,hb⟩
  obtain ⟨h,rr,e1,e2⟩:=get k hk
  exact (hrow k h rr e1 e2).dark hb
 have gw:=widen (R:=fun b=> ∃k,k<hs.length∧β k=some b) hi.good fun b hb=>⟨(hd b hb).1,(hd b hb).2.1⟩
 obtain ⟨gr,sr⟩:=retree (id:=3) (ys:=L.map rowT) gw rfl (by simp [hl]) (fun b hcb=>by
  have:=AoP (s:=9) (rows:=L.map fun l=>l.map zm) (F':=fun b=>F b∨ ∃k,k<hs.length∧β k=some b) hcb (by simp [hl]) (fun _ h=>h) (fun k h r e1 e2=>by
   simp only [List.getElem?_map] at e2
   obtain ⟨l,e3,rfl⟩:=Option.map_eq_some_iff.1 e2
   exact (hrow k h l e1 e3).tr.mono (fun b hb=>hb.elim .inl fun hb=> .inr ⟨k,(List.getElem?_eq_some_iff.1 e1).1,hb⟩) (fun _ _=>rfl))
  rw [Aom] at this
  exact this)
 have hvr: ∀v u,VR ι F w (hB c (hs.map (pinE (ti 0))) os) v u→VR ι (fun b=>F b∨ ∃k,k<hs.length∧β k=some b) w (hB c (L.map rowT) os) v u:=fun v u h=>
  sr.vr gw (h.mono (fun _ h=> .inl h) (fun _ _=>rfl) fun i o h=>⟨o,h,.refl ι w i o⟩)
 refine ⟨ι,_,rfl,⟨gr,Abm (AkS (AjM hi [1,2,4,5,6]) hvr),hi.size,hi.defers⟩,⟨hx.os,hx.tape,hx.output,hx.size,hx.same,fun b hb h=>hx.own b hb (sr.own b (Nat.lt_of_lt_of_le hb hx.size) h),fun b hb=> .inl (hx.fsub b hb),?_,fun id o hid=>absurd hid (by simp),fun b hb h=>hx.live b hb (sr.live b (Nat.lt_of_lt_of_le hb hx.size) h)⟩⟩
 rintro b hb (h|h)
 ·exact hx.ffr b hb h
 ·exact .inr ((hd b h).2.2 hb)
theorem Am8 (hc:CxTy P cx) (hfn:FnsOK P cx) (hfit:fitC cx fi42 n fi42.code=true) {c:Config} {g:Int} {os:List T} (hg:0<g) (hp:c.players≤1000): ∀(d:Nat) (i:Int) (L:List (List Entity)) (w:Go.World) (a:Act) {ι:Io} {F:Nat→Prop} {hs:List Value} {β:Nat→Option Nat},
  i+d=c.players+1→1≤i→(L.length:Int)=g→(∀l∈L,l.length+d≤10000)→BInv n w0 ι0 F0 H0 c g os i L w a ι F hs β→LoopWp P (c42 [0]) (QB n w0 ι0 F0 H0 c g os (c.players+1) (rowsB c g d i L)) a w:=by
 intro d
 induction d with
 |zero=>
  intro i L w a ι F hs β hd h1 hL hb hv
  obtain rfl:i=c.players+1:=by omega
  refine LoopWp.round ?_
  rw [AlP]
  refine wp_seq (wp_seq ?_)
  rw [c42_6]
  refine Adv hc hfn (fit42 hfit c42_6 (by kernel_rfl)) hv.inn (w6 c g (c.players+1) hs os) ?_
  intro a1 w1 ι1 F1 hi1 hst1
  have hev:a1.eval (.tmp 24)= .bool (decide (c.players+1≤c.players)):=by
   have h:=Aar hi1.sim (.tmp 24)
   exact (show VR ι1 F1 w1 _ (vb (decide (c.players+1≤c.players))) _ from h).t_inv.bool_inv
  rw [show decide (c.players+1≤c.players)=false by simp;omega] at hev
  refine wp_cond_false hev (wp_exit ?_)
  refine Amn (hs:=hs) (β:=β) ⟨⟨hi1.good,Abm (AjM hi1 [1,2,4,5,6]),hi1.size,hi1.defers⟩,hv.ext.trans (hst1.ext 0),hv.len,fun k h r e1 e2=>(hv.row k h r e1 e2).ext hv.inn.good (hst1.ext 0),hv.inj⟩
 |succ d ih=>
  intro i L w a ι F hs β hd h1 hL hb hv
  refine LoopWp.round ?_
  rw [AlP]
  refine wp_seq (wp_seq ?_)
  rw [c42_6]
  refine Adv hc hfn (fit42 hfit c42_6 (by kernel_rfl)) hv.inn (w6 c g i hs os) ?_
  intro a1 w1 ι1 F1 hi1 hst1
  have hev:a1.eval (.tmp 24)= .bool (decide (i≤c.players)):=by
   have h:=Aar hi1.sim (.tmp 24)
   exact (show VR ι1 F1 w1 _ (vb (decide (i≤c.players))) _ from h).t_inv.bool_inv
  rw [show decide (i≤c.players)=true by simp;omega] at hev
  refine wp_cond_true hev (wp_skip ?_)
  have hi1:In n ι1 F1 w1 (hB c (hs.map (pinE (ti 0))) os) (zipE [1,2,4,5,6] (vB g i)) a1:=⟨hi1.good,Abm (AjM hi1 [1,2,4,5,6]),hi1.size,hi1.defers⟩
  have hx1:=hv.ext.trans (hst1.ext 0)
  have hr1:=fun k h r e1 e2=>(hv.row k h r e1 e2).ext hv.inn.good (hst1.ext 0)
  have hlen:=hv.len
  have hinj:=hv.inj
  clear hv hst1 hev
  refine wp_seq (wp_block (wp_seq ?_))
  rw [c42_8]
  refine Adv hc hfn (fit42 hfit c42_8 (by kernel_rfl)) hi1 (w8 c g i hs os hg (by omega)) ?_
  intro a2 w2 ι2 F2 hi2 hst2
  have hx2:=hx1.trans (hst2.ext 0)
  have hr2:=fun k h r e1 e2=>(hr1 k h r e1 e2).ext hi1.good (hst2.ext 0)
  clear hr1 hx1 hst2 hi1
  have htm:=AaE (v:=i-1) (k:=g) (by omega) (by omega)
  obtain ⟨r,hr⟩: ∃r:Nat,(i-1).tmod g=r:=⟨((i-1).tmod g).toNat,by omega⟩
  have hrL:r<L.length:=by omega
  have hcor:= @AfC c ((i-1).tmod g)
  have hbk:=hb _ (Aa3 hrL)
  rw [hr] at hi2 hcor
  refine wp_seq ?_
  rw [c42_9]
  refine Adv hc hfn (fit42 hfit c42_9 (by kernel_rfl)) hi2 (w9 c g i r hs os) ?_
  intro a3 w3 ι3 F3 hi3 hst3
  have hx3:=hx2.trans (hst3.ext 0)
  have hr3:=fun k h r e1 e2=>(hr2 k h r e1 e2).ext hi2.good (hst3.ext 0)
  clear hr2 hx2 hst3 hi2
  refine Apo hc hfn hfit (β:=β) ?_ hi3 hx3 hlen hr3 hinj (r:=r) (row:=gt L r) (by omega) (AcJ hrL) (by omega) (by omega) (by omega) (by omega) ?_
  ·rintro cc aa ww ⟨_,_,h,_⟩
   exact h
  intro a4 w4 ι4 F4 h' β4 hi4 hx4 hr4 hinj4
  show (c42 [1,1,0]).wp P _ a4 w4
  rw [c42_7]
  refine AjZ hc hfn (fit42 hfit c42_7 (by kernel_rfl)) hi4 (w7 c g i (hs.set r h') os (by omega)) ?_
  rintro a5 w5 ι5 F5 hi5 ⟨ι6,F6,H6,g6,hst6,hx6⟩
  show LoopWp P (c42 [0]) _ a5 w5
  have e:rowsB c g (d+1) i L=rowsB c g d (i+1) (L.set r (gt L r++ [⟨i,1,c.cornerX r+512,c.cornerY r+512,0,0,100,0,0⟩])):=by
   rw [rowsB]
   unfold plB
   rw [hr,Int.toNat_natCast]
  rw [e]
  refine ih (i+1) _ w5 a5 (hs:=hs.set r h') (β:=β4) (by omega) (by omega) (by simpa using hL) ?_ ⟨hi5,(hx4.trans (hst6.ext 0)).trans hx6,by simp [hlen],fun k h rr e1 e2=>((hr4 k h rr e1 e2).ext hi4.good (hst6.ext 0)).ext g6 hx6,by simpa using hinj4⟩
  intro l hl
  rcases List.mem_or_eq_of_mem_set hl with hl|rfl
  ·have:=hb l hl;omega
  ·simp;omega
end
end Go.Eva.S4
namespace Go.Eva.S4
open Go.Proofs Go.RowKit
theorem Adj (c:Config) (g:Int) (m:Nat) (os:List T) (hg:0<g) (hm:(m:Int)=g) (hp:0≤c.players∧c.players≤1000):
  Is cx (.loop 42 [0,1,0,1,1,1,1] 0 (vB g 1) (hB c (zj m (.agg [ti 0,.nul])) os)) ⟨.exit 0,vB g (c.players+1),hB c ((rowsB c g c.players.toNat 1 (zj m [])).map rowT) os⟩:=by
 intro P hc hfn fi cc live n hf hsub hlive hfit w ι F a hi
 have e1:cx.fn.get 42=some (some fi42):=by kernel_rfl
 rw [e1] at hf
 simp only [Option.some.injEq] at hf
 subst hf
 have e2:subAt fi42.code [0,1,0,1,1,1,1]=some (.loop (c42 [0])):=by kernel_rfl
 rw [e2] at hsub
 simp only [Option.some.injEq,Code.loop.injEq] at hsub
 subst hsub
 have e3:liveAt fi42.live [0,1,0,1,1,1,1]=some [1,2,4,5,6]:=by kernel_rfl
 rw [e3] at hlive
 simp only [Option.some.injEq] at hlive
 subst hlive
 have hob:=hi.good.obj 3 _ rfl
 have key: ∃hs:List Value,hs.length=m∧(∀h∈hs,∃ad,h= .slice ad 0 0)∧Good ι F w (hB c (hs.map (pinE (ti 0))) os)∧Step ι F (hB c (zj m (.agg [ti 0,.nul])) os) w ι F (hB c (hs.map (pinE (ti 0))) os) w:=by
  obtain ⟨h0,h⟩:=hob
  rcases h with ⟨_,h2,_⟩|⟨b,cs,e,h1,h2,h3,h4,h5,h6,h7⟩
  ·have:=congrArg zq h2
   simp at this
   omega
  ·obtain ⟨hs,k1,k2,k3⟩:=Apd h7
   obtain ⟨g1,g2⟩:=retree' (id:=3) (ys:=hs.map (pinE (ti 0))) hi.good rfl (by simp [k1]) (fun b' hb'=>by
    rw [h1] at hb'
    cases hb'
    exact k2)
   exact ⟨hs,k1,k3,g1,g2⟩
 obtain ⟨hs,k1,k2,k3,k4⟩:=key
 have hi':In n ι F w (hB c (hs.map (pinE (ti 0))) os) (zipE [1,2,4,5,6] (vB g 1)) a:=⟨k3,fun t=>k4.vr hi.good (hi.sim t),hi.size,hi.defers⟩
 have hx:Ext 0 ι F (hB c (zj m (.agg [ti 0,.nul])) os) w ι F (hB c (hs.map (pinE (ti 0))) os) w:=k4.ext 0
 have hmain:=Am8 hc hfn hfit hg hp.2 c.players.toNat 1 (zj m []) w a (os:=os) (hs:=hs) (β:=fun _=>none) (by omega) (by omega) (by simpa using hm) (fun l hl=>by rw [List.eq_of_mem_replicate hl];simp;omega) ⟨hi',hx,by simp [k1],fun k h r e1 e2=>by
  have hr:r= []:=List.eq_of_mem_replicate (List.mem_of_getElem? e2)
  subst hr
  exact ⟨rfl,k2 h (List.mem_of_getElem? e1)⟩,fun i j b _ _ h=>by simp at h⟩
 refine hmain.mono ?_
 rintro ex a' w' ⟨ι',F',q1,q2,q3⟩
 exact ⟨_,ι',F',rfl,q1,q2,q3⟩
end Go.Eva.S4
namespace Go.Eva.S4
theorem Ab3 (c:Config) (h:c.right=false):Is cx (.call 42 [.t c.enc] []) ⟨.ret,[.t (World.enc ⟨[],[]⟩),vi 10],[]⟩:=by
 have hR:=Aag c
 rw [h] at hR
 refine qq ?_
 refine gg [.a _ _,.b (!false) true] ⟨o_a hR,bK,trivial⟩ ?_
 exact ge
theorem AdL (c:Config) (h:c.right=true):Is cx (.call 42 [.t c.enc] []) ⟨.ret,[.t (.agg [.sl 2 ((rowsB c c.regions c.players.toNat 1 (zj c.regions.toNat [])).map rowT),.sl 1 (zj c.regions.toNat (qk 15 []))]),vi 0],[]⟩:=by
 have hgr:=Config.right_iff.1 h
 have hgl:= @Config.regions_le c
 have hml:=Config.mul_le h
 have hre:c.regions=c.cols*c.rows:=by simp [z0,h]
 have hR:=Aag c
 rw [h] at hR
 have hG:=Aaj c
 have hL:=Adj c c.regions c.regions.toNat (zj c.regions.toNat (qk 15 [])) (by omega) (by omega) (by omega)
 simp only [hB,vB] at hL
 generalize (rowsB c c.regions c.players.toNat 1 (zj c.regions.toNat [])).map rowT=X at*
 generalize c.regions=g at*
 refine qq ?_
 refine gg [.a _ _,.b (!true) false,.a _ _] ⟨o_a hR,bK,o_a hG,trivial⟩ ?_
 refine bO ?_ ?_
 ·refine gg [.w (0≤g∧g≤g∧room (zy g) (32:Nat)),.l (zy g)] ⟨o_w ⟨(by omega),⟨(by omega),(by (simp [room,appendMax];omega))⟩⟩,trivial⟩ ?_
  refine bO ?_ ?_
  all_goals
   refine gg [.w (0≤g∧g≤g∧room (zy g) (24:Nat)),.l (zy g),.a _ _] ⟨o_w ⟨(by omega),⟨(by omega),(by (simp [room,appendMax];omega))⟩⟩,o_a hL,trivial⟩ ?_
   exact ge
 ·refine bO ?_ ?_
  ·refine gg [.w (0≤g∧g≤g∧room (zy g) (24:Nat)),.l (zy g)] ⟨o_w ⟨(by omega),⟨(by omega),(by (simp [room,appendMax];omega))⟩⟩,trivial⟩ ?_
   refine bO ?_ ?_
   all_goals
    refine gg [.w (0≤g∧g≤g∧room (zy g) (32:Nat)),.l (zy g),.a _ _] ⟨o_w ⟨(by omega),⟨(by omega),(by (simp [room,appendMax];omega))⟩⟩,o_a hL,trivial⟩ ?_
    exact ge
  ·refine bO ?_ ?_
   ·refine gg [.w (0≤g∧g≤g∧room (zy g) (32:Nat)),.l (zy g),.w (0≤g∧g≤g∧room (zy g) (24:Nat)),.l (zy g),.a _ _] ⟨o_w ⟨(by omega),⟨(by omega),(by (simp [room,appendMax];omega))⟩⟩,o_w ⟨(by omega),⟨(by omega),(by (simp [room,appendMax];omega))⟩⟩,o_a hL,trivial⟩ ?_
    exact ge
   ·refine gg [.w (0≤g∧g≤g∧room (zy g) (24:Nat)),.l (zy g),.w (0≤g∧g≤g∧room (zy g) (32:Nat)),.l (zy g),.a _ _] ⟨o_w ⟨(by omega),⟨(by omega),(by (simp [room,appendMax];omega))⟩⟩,o_w ⟨(by omega),⟨(by omega),(by (simp [room,appendMax];omega))⟩⟩,o_a hL,trivial⟩ ?_
    exact ge
theorem Abo (c:Config) (h:c.right=true):Is cx (.call 42 [.t c.enc] []) ⟨.ret,[.t (beginW c.cols c.regions c.players.toNat).enc,vi 0],[]⟩:=by
 have hB:=AdL c h
 rw [Amk h]
 have e:(World.enc ⟨(rowsB c c.regions c.players.toNat 1 (zj c.regions.toNat [])).map (Region.mk 0),zj c.regions.toNat []⟩)= .agg [.sl 2 ((rowsB c c.regions c.players.toNat 1 (zj c.regions.toNat [])).map rowT),.sl 1 (zj c.regions.toNat (qk 15 []))]:=by
  simp only [World.enc,List.map_map,List.map_replicate]
  rfl
 rw [e]
 exact hB
end Go.Eva.S4
namespace Go.Eva.S4
theorem Ans {outs:List CrossL} {r:Int} {l:List Int} {i:Nat} (h:i<l.length):(((l.drop i).filter fun q=>decide (q<(outs.length:Int))).map fun q=>toL (gt outs q.toNat) r).flatten=(if gt l i<(outs.length:Int) then toL (gt outs (gt l i).toNat) r else [])++(((l.drop (i+1)).filter fun q=>decide (q<(outs.length:Int))).map fun q=>toL (gt outs q.toNat) r).flatten:=by
 rw [Aae h,List.filter_cons]
 by_cases h2:gt l i<(outs.length:Int)<;>simp [h2]
theorem Adh (c:Config) (outs:List CrossL) (r:Int) (hr:c.is r=true) (ho:outs.length≤16) (hs: ∀l∈outs,l.length≤400): ∀(d i:Nat) (A:List Cross),i+d=(c.near r).length→A.length≤400*i→
  Is cx (.loop 48 [0,1,0,1,1,1] 0 [.t (.sl 1 (outs.map encL)),vi r,.all 0 none,.t (.sl 1 ((c.near r).map ti)),vi (i)] [.arr 15 (A.map zn) none false])
   ⟨.exit 0,[.t (.sl 1 (outs.map encL)),vi r,.all 0 none,.t (.sl 1 ((c.near r).map ti)),vi ((c.near r).length)],[.arr 15 ((A++((((c.near r).drop i).filter fun q=>decide (q<(outs.length:Int))).map fun q=>toL (gt outs q.toNat) r).flatten).map zn) none false]⟩:=by
 have hns:(c.near r).length≤9:=Aa0
 intro d
 induction d with
 |zero=>
  intro i A hi hA
  rw [Aac (by omega)]
  refine qq ?_
  refine gg [.n (zq (zz ti (z6 c r))) (zq (z6 c r)),.b (decide ((i:Int)<(↑(zq (z6 c r)):Int))) false] ⟨o_n (by simp),fP,trivial⟩ ?_
  refine rT (a:=qz (qx 0) [V.t (qk 1 (zz encL outs)),vi r,qy 0 none,V.t (qk 1 (zz ti (z6 c r))),vi (i:Int)] [qv 15 (zz zn A) none false]) ?_
  ((have:i=(c.near r).length:=by omega);subst this;simp)
 |succ d ih=>
  intro i A hi hA
  have hlt:i<(c.near r).length:=by omega
  have hq:=AhZ hr (Aa3 hlt)
  rw [Ans hlt]
  have ih0:=ih (i+1) A (by omega) (by omega)
  by_cases h2:gt (c.near r) i<(outs.length:Int)
  ·rw [if_pos h2]
   have hl:=hs _ (Aa3 (show (gt (c.near r) i).toNat<outs.length by omega))
   have hT:=AhU (gt outs (gt (c.near r) i).toNat) r (by unfold small;omega)
   have hTl:= @AjE (gt outs (gt (c.near r) i).toNat) r
   have ih1:=ih (i+1) (A++toL (gt outs (gt (c.near r) i).toNat) r) (by omega) (by rw [List.length_append];omega)
   rw [List.append_assoc] at ih1
   clear ih ih0 hs
   generalize ((((c.near r).drop (i+1)).filter fun q=>decide (q<(outs.length:Int))).map fun q=>toL (gt outs q.toNat) r).flatten=X at*
   generalize toL (gt outs (gt (c.near r) i).toNat) r=W at*
   refine qq ?_
   refine gg [.n (zq (zz ti (z6 c r))) (zq (z6 c r)),.b (decide ((i:Int)<(↑(zq (z6 c r)):Int))) true,.w (0≤(i:Int)),.n (zy (i:Int)) i,.g (zz ti (z6 c r)) i (ti (gt (z6 c r) i)),.n (zq (zz encL outs)) (zq outs),.b (decide (gt (z6 c r) i<(↑(zq outs):Int))) true,.w (0≤(i:Int)),.n (zy (i:Int)) i,.g (zz ti (z6 c r)) i (ti (gt (z6 c r) i)),.w (0≤gt (z6 c r) i),.l (zy (gt (z6 c r) i)),.g (zz encL outs) (zy (gt (z6 c r) i)) (encL (gt outs (zy (gt (z6 c r) i)))),.a _ _,.w ((0:Nat)<(120:Nat)),.s (qk 0 (zz zn W))] ⟨o_n (by simp),tP,oW,nK,o_gt rfl (by assumption) (by intro h;cases h),o_n (by simp),t_brp (by assumption),oW,nK,o_gt rfl (by assumption) (by intro h;cases h),oW,oT,o_a hT,oW,trivial⟩ ?_
   refine gg [.t (qk 0 (zz zn A++zz zn W)) (qk 0 (zz zn (A++W))),.w (room (zq (zz zn (A++W))) (120:Nat)),.i zd ((i:Int)+1) ((↑(i+1):Int)),.a _ _] ⟨o_l (Aam rfl rfl),o_w (by (simp [room,appendMax];omega)),oI,o_a ih1,trivial⟩ ?_
   exact ge
  ·rw [if_neg h2,List.nil_append]
   clear ih hs
   generalize ((((c.near r).drop (i+1)).filter fun q=>decide (q<(outs.length:Int))).map fun q=>toL (gt outs q.toNat) r).flatten=X at*
   refine qq ?_
   refine gg [.n (zq (zz ti (z6 c r))) (zq (z6 c r)),.b (decide ((i:Int)<(↑(zq (z6 c r)):Int))) true,.w (0≤(i:Int)),.n (zy (i:Int)) i,.g (zz ti (z6 c r)) i (ti (gt (z6 c r) i)),.n (zq (zz encL outs)) (zq outs),.b (decide (gt (z6 c r) i<(↑(zq outs):Int))) false,.i zd ((i:Int)+1) ((↑(i+1):Int)),.a _ _] ⟨o_n (by simp),tP,oW,nK,o_gt rfl (by assumption) (by intro h;cases h),o_n (by simp),f_brp (by assumption),oI,o_a ih0,trivial⟩ ?_
   exact ge
theorem AaK (c:Config) (outs:List CrossL) (r:Int) (hr:c.is r=true) (ho:outs.length≤16) (hs: ∀l∈outs,l.length≤400):Fn cx 48 [c.enc,.sl 1 (outs.map encL),ti r] (.sl 15 ((inboxL c outs r).map zn)):=by
 have hN:=AaP c r
 have h:=Adh c outs r hr ho hs (c.near r).length 0 [] (by omega) (by simp)
 rw [List.drop_zero,List.nil_append] at h
 unfold inboxL
 clear hs
 generalize (((c.near r).filter fun q=>decide (q<(outs.length:Int))).map fun q=>toL (gt outs q.toNat) r).flatten=X at*
 have hns:(c.near r).length≤9:=Aa0
 refine qq ?_
 refine gg [.a _ _,.a _ _] ⟨o_a hN,o_a h,trivial⟩ ?_
 exact ge
theorem AgQ {c:Config} {w:World} {f:Int} (h:WFine c w f): ∀l∈w.outs,l.length≤400:=by
 intro l hl
 obtain ⟨k,hk,rfl⟩:=List.mem_iff_getElem.1 hl
 have:=(h.sent k hk).2
 have e:gt w.outs k=w.outs[k]:=by simp [gt,hk]
 rwa [e] at this
theorem Ab5 (c:Config) (w:World) (f:Int) (ins:List Input) (h:WFine c w f) (hf:0≤f∧f<10000) (hl:(ins.length:Int)=c.players) (hi: ∀i∈ins,i.right=true) {r:Nat} (hr:r<w.regions.length):
  Fn cx 48 [c.enc,.sl 1 (w.outs.map encL),ti r] (.sl 15 ((inboxL c w.outs r).map zn))∧
  Is cx (.call 80 [.t c.enc,vi r,.t (gt w.regions r).enc,.t (.sl 3 (ins.map zr)),.t (.sl 15 ((inboxL c w.outs r).map zn))] []) ⟨.ret,[.t (nextR c w ins r).enc,.t (.sl 15 ((nextO c w ins r).map zn)),vi 0],[]⟩:=by
 have hreg:=h.regs
 have hout:=h.outs
 have hgl:= @Config.regions_le c
 have hcr:=Config.right_iff.1 h.right
 have hF:=AeK h hf hl hi hr
 have hb:=Ad5 h hr
 have hs:=h.sane r hr
 exact ⟨AaK c w.outs r hF.is (by omega) (AgQ h),Ab6 c r (gt w.regions r) ins (inboxL c w.outs r) (by omega) (by unfold small;omega) (by omega) (Ag2 hF)⟩
theorem AdZ (c:Config) (w:World) (f:Int) (ins:List Input) (h:WFine c w f) (hf:0≤f∧f<10000) (hl:(ins.length:Int)=c.players) (hi: ∀i∈ins,i.right=true): ∀(d i:Nat),i+d=w.regions.length→
  Is cx (.loop 35 [0,1,0,1,1,1,1,1] 0 [.t (.sl 3 (ins.map zr)),.ptr 0 0 0,.ptr 1 0 0,.ptr 2 0 0,vi 0,vi w.regions.length,.ptr 3 0 0,vi (i)] [.one 5 (.t c.enc) false,.one 2 (.t w.enc) false,.one 2 (.agg [.fit 2 [],.fit 1 []]) false,.one 2 (.agg [.all 4 none,.all 5 none]) false,.arr 2 (((List.range i).map (nextR c w ins)).map zt) none false,.arr 1 (((List.range i).map (nextO c w ins)).map encL) none false])
   ⟨.exit 0,[.t (.sl 3 (ins.map zr)),.ptr 0 0 0,.ptr 1 0 0,.ptr 2 0 0,vi 0,vi w.regions.length,.ptr 3 0 0,vi (w.regions.length)],[.one 5 (.t c.enc) false,.one 2 (.t w.enc) false,.one 2 (.agg [.fit 2 [],.fit 1 []]) false,.one 2 (.agg [.all 4 none,.all 5 none]) false,.arr 2 (((List.range w.regions.length).map (nextR c w ins)).map zt) none false,.arr 1 (((List.range w.regions.length).map (nextO c w ins)).map encL) none false]⟩:=by
 have hreg:=h.regs
 have hgl:= @Config.regions_le c
 intro d
 induction d with
 |zero=>
  intro i hi
  obtain rfl:i=w.regions.length:=by omega
  generalize (List.range w.regions.length).map (nextR c w ins)=A at*
  generalize (List.range w.regions.length).map (nextO c w ins)=B at*
  obtain ⟨R,O⟩:=w
  refine qq ?_
  refine gg [.b (decide ((↑(zq R):Int)<(↑(zq R):Int))) false] ⟨fP,trivial⟩ ?_
  exact ge
 |succ d ih=>
  intro i hid
  have hlt:i<w.regions.length:=by omega
  have ih1:=ih (i+1) (by omega)
  obtain ⟨hI,hS⟩:=Ab5 c w f ins h hf hl hi hlt
  have e1:(List.range (i+1)).map (nextR c w ins)=(List.range i).map (nextR c w ins)++ [nextR c w ins i]:=by rw [List.range_succ,List.map_append];rfl
  have e2:(List.range (i+1)).map (nextO c w ins)=(List.range i).map (nextO c w ins)++ [nextO c w ins i]:=by rw [List.range_succ,List.map_append];rfl
  rw [e1,e2] at ih1
  have hA:((List.range i).map (nextR c w ins)).length=i:=by simp
  have hB:((List.range i).map (nextO c w ins)).length=i:=by simp
  clear ih hi e1 e2
  generalize (List.range i).map (nextR c w ins)=A at*
  generalize (List.range i).map (nextO c w ins)=B at*
  generalize (List.range w.regions.length).map (nextR c w ins)=A2 at*
  generalize (List.range w.regions.length).map (nextO c w ins)=B2 at*
  generalize nextR c w ins i=x at*
  generalize nextO c w ins i=y at*
  generalize inboxL c w.outs i=box at*
  obtain ⟨R,O⟩:=w
  simp only at hreg hlt hI hS ih1⊢
  clear h
  refine qq ?_
  refine gg [.b (decide ((i:Int)<(↑(zq R):Int))) true,.w (0≤(i:Int)),.n (zy (i:Int)) i,.g (zz zt R) i (zt (gt R i))] ⟨tP,oW,nK,o_gt rfl (by assumption) (by intro h;cases h),trivial⟩ ?_
  refine bO ?_ ?_
  ·refine gg [.a _ _] ⟨o_a hI,trivial⟩ ?_
   refine bO ?_ ?_
   all_goals
    refine gg [.a _ _,.b (0 !=0) false] ⟨o_a hS,bK,trivial⟩ ?_
    refine bO (bO ?_ (bO (bO ?_ ?_) (bO ?_ ?_))) (bO (bO (bO ?_ ?_) ?_) (bO (bO ?_ ?_) ?_))
    all_goals
     refine gg [.w ((0:Nat)<(32:Nat)),.t (qk 0 [zt x]) (qk 0 (zz zt [x])),.t (qk 0 (zz zt A++zz zt [x])) (qk 0 (zz zt (A++ [x]))),.w (room (zq (zz zt (A++ [x]))) (32:Nat)),.w ((0:Nat)<(24:Nat)),.s (qk 0 [qk 15 (zz zn y)]),.t (qk 0 (zz encL B++ [qk 15 (zz zn y)])) (qk 0 (zz encL (B++ [y]))),.w (room (zq (zz encL (B++ [y]))) (24:Nat)),.i zd ((i:Int)+1) ((↑(i+1):Int)),.a _ _] ⟨oW,o_l (Aaf rfl Aap),o_l (Aam rfl rfl),o_w (by (simp [room,appendMax];omega)),oW,o_l (Aam rfl (Aaf (e:=y) rfl Aap)),o_w (by (simp [room,appendMax];omega)),oI,o_a ih1,trivial⟩ ?_
     exact ge
  ·refine gg [.a _ _,.a _ _,.b (0 !=0) false] ⟨o_a hI,o_a hS,bK,trivial⟩ ?_
   refine bO (bO ?_ (bO (bO ?_ ?_) (bO ?_ ?_))) (bO (bO (bO ?_ ?_) ?_) (bO (bO ?_ ?_) ?_))
   all_goals
    refine gg [.w ((0:Nat)<(32:Nat)),.t (qk 0 [zt x]) (qk 0 (zz zt [x])),.t (qk 0 (zz zt A++zz zt [x])) (qk 0 (zz zt (A++ [x]))),.w (room (zq (zz zt (A++ [x]))) (32:Nat)),.w ((0:Nat)<(24:Nat)),.s (qk 0 [qk 15 (zz zn y)]),.t (qk 0 (zz encL B++ [qk 15 (zz zn y)])) (qk 0 (zz encL (B++ [y]))),.w (room (zq (zz encL (B++ [y]))) (24:Nat)),.i zd ((i:Int)+1) ((↑(i+1):Int)),.a _ _] ⟨oW,o_l (Aaf rfl Aap),o_l (Aam rfl rfl),o_w (by (simp [room,appendMax];omega)),oW,o_l (Aam rfl (Aaf (e:=y) rfl Aap)),o_w (by (simp [room,appendMax];omega)),oI,o_a ih1,trivial⟩ ?_
    exact ge
theorem Adt (c:Config) (w:World) (f:Int) (ins:List Input) (h:WFine c w f) (hf:0≤f∧f<10000) (hl:(ins.length:Int)=c.players) (hi: ∀i∈ins,i.right=true):
  Is cx (.loop 35 [0,1,0,1,1,1,1,1] 0 [.t (.sl 3 (ins.map zr)),.ptr 0 0 0,.ptr 1 0 0,.ptr 2 0 0,vi 0,vi w.regions.length,.ptr 3 0 0,vi (0)] [.one 5 (.t c.enc) false,.one 2 (.t w.enc) false,.one 2 (.agg [.fit 2 [],.fit 1 []]) false,.one 2 (.agg [.fit 2 [],.fit 1 []]) false])
   ⟨.exit 0,[.t (.sl 3 (ins.map zr)),.ptr 0 0 0,.ptr 1 0 0,.ptr 2 0 0,vi 0,vi w.regions.length,.ptr 3 0 0,vi (w.regions.length)],[.one 5 (.t c.enc) false,.one 2 (.t w.enc) false,.one 2 (.agg [.fit 2 [],.fit 1 []]) false,.one 2 (.agg [.all 4 none,.all 5 none]) false,.arr 2 (((List.range w.regions.length).map (nextR c w ins)).map zt) none false,.arr 1 (((List.range w.regions.length).map (nextO c w ins)).map encL) none false]⟩:=by
 have hreg:=h.regs
 have hgl:= @Config.regions_le c
 have hml:=Config.mul_le h.right
 have hgr:c.regions=c.cols*c.rows:=by simp [z0,h.right]
 have hlt:0<w.regions.length:=by omega
 have ih1:=AdZ c w f ins h hf hl hi (w.regions.length-1) 1 (by omega)
 obtain ⟨hI,hS⟩:=Ab5 c w f ins h hf hl hi hlt
 change Is cx (.loop _ _ _ _ [_,_,_,_,.arr 2 [(nextR c w ins 0).enc] _ _,.arr 1 [encL (nextO c w ins 0)] _ _]) _ at ih1
 clear hi hgr
 generalize (List.range w.regions.length).map (nextR c w ins)=A2 at*
 generalize (List.range w.regions.length).map (nextO c w ins)=B2 at*
 generalize nextR c w ins 0=x at*
 generalize nextO c w ins 0=y at*
 generalize inboxL c w.outs (0:Nat)=box at*
 obtain ⟨R,O⟩:=w
 simp only at hreg hlt hI hS ih1⊢
 clear h
 refine qq ?_
 refine gg [.b (decide (0<(↑(zq R):Int))) true,.w (0≤(0:Int)),.l 0,.g (zz zt R) 0 (zt (gt R 0))] ⟨tP,oW,o_gt rfl (by assumption) (by intro h;cases h),trivial⟩ ?_
 refine bO ?_ ?_
 ·refine gg [.a _ _] ⟨o_a hI,trivial⟩ ?_
  refine bO ?_ ?_
  all_goals
   refine gg [.a _ _,.b (0 !=0) false] ⟨o_a hS,bK,trivial⟩ ?_
   refine bO (bO ?_ (bO (bO ?_ ?_) (bO ?_ ?_))) (bO (bO (bO ?_ ?_) ?_) (bO (bO ?_ ?_) ?_))
   all_goals
    refine gg [.w ((0:Nat)<(32:Nat)),.t (qk 0 [zt x]) (qk 0 (zz zt [x])),.t (qk 0 [zt x]) (qk 0 (zz zt [x])),.w (room (zq (zz zt [x])) (32:Nat)),.w ((0:Nat)<(24:Nat)),.s (qk 0 [qk 15 (zz zn y)]),.s (qk 0 [qk 15 (zz zn y)]),.w (room (zq [qk (15:Nat) (zz zn y)]) (24:Nat)),.i zd 1 1,.a _ _] ⟨oW,o_l (Aaf rfl Aap),o_l (Aaf rfl Aap),o_w (by (simp [room,appendMax])),oW,o_w (by (simp [room,appendMax])),oK,o_a ih1,trivial⟩ ?_
    exact ge
 ·refine gg [.a _ _,.a _ _,.b (0 !=0) false] ⟨o_a hI,o_a hS,bK,trivial⟩ ?_
  refine bO (bO ?_ (bO (bO ?_ ?_) (bO ?_ ?_))) (bO (bO (bO ?_ ?_) ?_) (bO (bO ?_ ?_) ?_))
  all_goals
   refine gg [.w ((0:Nat)<(32:Nat)),.t (qk 0 [zt x]) (qk 0 (zz zt [x])),.t (qk 0 [zt x]) (qk 0 (zz zt [x])),.w (room (zq (zz zt [x])) (32:Nat)),.w ((0:Nat)<(24:Nat)),.s (qk 0 [qk 15 (zz zn y)]),.s (qk 0 [qk 15 (zz zn y)]),.w (room (zq [qk (15:Nat) (zz zn y)]) (24:Nat)),.i zd 1 1,.a _ _] ⟨oW,o_l (Aaf rfl Aap),o_l (Aaf rfl Aap),o_w (by (simp [room,appendMax])),oW,o_w (by (simp [room,appendMax])),oK,o_a ih1,trivial⟩ ?_
   exact ge
theorem AeH (c:Config) (w:World) (f:Int) (ins:List Input) (h:WFine c w f) (hf:0≤f∧f<10000) (hl:(ins.length:Int)=c.players) (hi: ∀i∈ins,i.right=true):
  Is cx (.call 35 [.t c.enc,.t w.enc,.t (.sl 3 (ins.map zr))] []) ⟨.ret,[.t (nextW c w ins).enc,vi 0],[]⟩:=by
 have hr:=h.right
 have hreg:=h.regs
 have hout:=h.outs
 have hgl:= @Config.regions_le c
 have hR:=Aag c
 rw [hr] at hR
 have hG:=Aaj c
 rw [←hreg] at hG
 have hE:=Adt c w f ins h hf hl hi
 have e3:(nextW c w ins).enc= .agg [.sl 2 (((List.range w.regions.length).map (nextR c w ins)).map zt),.sl 1 (((List.range w.regions.length).map (nextO c w ins)).map encL)]:=rfl
 rw [e3]
 clear hi e3
 generalize (List.range w.regions.length).map (nextR c w ins)=A at*
 generalize (List.range w.regions.length).map (nextO c w ins)=B at*
 obtain ⟨R,O⟩:=w
 simp only at hreg hout hG hE⊢
 clear h
 refine qq ?_
 refine gg [.a _ _,.b (!true) false,.a _ _,.n (zq (zz zt R)) (zq R),.b ((↑(zq R):Int) !=(↑(zq R):Int)) false,.ff,.ff,.n (zq (zz encL O)) (zq O),.ff,.ff,.ff,.b ((↑(zq O):Int) !=(↑(zq R):Int)) false,.a _ _] ⟨o_a hR,bK,o_a hG,o_n (by simp),f_brn rfl,o_n (by simp),fN,o_a hE,trivial⟩ ?_
 exact ge
theorem AbL (c:Config) (w:World) (f:Int) (ins:List Input) (h:WFine c w f) (hf:0≤f∧f<10000) (hl:(ins.length:Int)≠c.players∨(ins.any fun i=> !i.right)=true) (hs:ins.length≤100):
  Is cx (.loop 35 [0,1,0,1,1,1,1,1] 0 [.t (.sl 3 (ins.map zr)),.ptr 0 0 0,.ptr 1 0 0,.ptr 2 0 0,vi 0,vi w.regions.length,.ptr 3 0 0,vi (0)] [.one 5 (.t c.enc) false,.one 2 (.t w.enc) false,.one 2 (.agg [.fit 2 [],.fit 1 []]) false,.one 2 (.agg [.fit 2 [],.fit 1 []]) false])
   ⟨.ret,[.t (.sl 3 (ins.map zr)),.ptr 0 0 0,.ptr 1 0 0,.ptr 2 0 0,vi 11,vi w.regions.length,.ptr 3 0 0,vi (0)],[.one 5 (.t c.enc) false,.one 2 (.t w.enc) false,.one 2 (.agg [.fit 2 [],.fit 1 []]) false,.one 2 (.agg [.fit 2 [],.fit 1 []]) false]⟩:=by
 have hreg:=h.regs
 have hout:=h.outs
 have hgl:= @Config.regions_le c
 have hml:=Config.mul_le h.right
 have hgr:c.regions=c.cols*c.rows:=by simp [z0,h.right]
 have hlt:0<w.regions.length:=by omega
 have his:c.is 0=true:=by rw [Config.is_iff h.right];omega
 have hb:=Ad5 h hlt
 change (∀m∈inboxL c w.outs 0,_)∧(inboxL c w.outs 0).length≤3600 at hb
 obtain ⟨s1,s2,s3⟩:=h.sane 0 hlt
 have hI:=AaK c w.outs 0 his (by omega) (AgQ h)
 have hS:=AgO c 0 (gt w.regions 0) ins (inboxL c w.outs 0) (by omega) (by unfold small;omega) (by omega)
 have hR:regionRight c 0 (gt w.regions 0)=true:=Aaz.2 ⟨his,by omega,s1.srt,s1.things,s1.ents⟩
 have hA:askedE c 0 (gt w.regions 0) ins (inboxL c w.outs 0)=11:=by
  unfold askedE
  rw [if_neg (by simp [his]),if_neg (by simp [hR]),if_pos hl]
 have e:stepP c 0 (gt w.regions 0) ins (inboxL c w.outs 0)=(Region.zero,[],11):=by
  unfold stepP
  rw [hA]
  rfl
 rw [e] at hS
 change Is cx _ ⟨_,[.t (.agg [ti 0,.sl 9 []]),.t (.sl 15 []),vi 11],_⟩ at hS
 clear hgr hb
 generalize inboxL c w.outs 0=box at*
 clear e hA hR s1 s2 s3
 obtain ⟨R,O⟩:=w
 simp only at hreg hlt hI hS⊢
 clear h hl
 refine qq ?_
 refine gg [.b (decide (0<(↑(zq R):Int))) true,.w (0≤(0:Int)),.l 0,.g (zz zt R) 0 (zt (gt R 0))] ⟨tP,oW,o_gt rfl (by assumption) (by intro h;cases h),trivial⟩ ?_
 refine bO ?_ ?_
 ·refine gg [.a _ _] ⟨o_a hI,trivial⟩ ?_
  refine bO ?_ ?_
  all_goals
   refine gg [.a _ _,.b (11 !=0) true] ⟨o_a hS,bK,trivial⟩ ?_
   exact ge
 ·refine gg [.a _ _,.a _ _,.b (11 !=0) true] ⟨o_a hI,o_a hS,bK,trivial⟩ ?_
  exact ge
theorem Adz (c:Config) (w:World) (f:Int) (ins:List Input) (h:WFine c w f) (hf:0≤f∧f<10000) (hl:(ins.length:Int)≠c.players∨(ins.any fun i=> !i.right)=true) (hs:ins.length≤100):
  Is cx (.call 35 [.t c.enc,.t w.enc,.t (.sl 3 (ins.map zr))] []) ⟨.ret,[.t (World.enc ⟨[],[]⟩),vi 11],[]⟩:=by
 have hr:=h.right
 have hreg:=h.regs
 have hout:=h.outs
 have hgl:= @Config.regions_le c
 have hR:=Aag c
 rw [hr] at hR
 have hG:=Aaj c
 rw [←hreg] at hG
 have hE:=AbL c w f ins h hf hl hs
 obtain ⟨R,O⟩:=w
 simp only at hreg hout hG hE⊢
 clear h hl
 refine qq ?_
 refine gg [.a _ _,.b (!true) false,.a _ _,.n (zq (zz zt R)) (zq R),.b ((↑(zq R):Int) !=(↑(zq R):Int)) false,.ff,.ff,.n (zq (zz encL O)) (zq O),.ff,.ff,.ff,.b ((↑(zq O):Int) !=(↑(zq R):Int)) false,.a _ _] ⟨o_a hR,bK,o_a hG,o_n (by simp),f_brn rfl,o_n (by simp),fN,o_a hE,trivial⟩ ?_
 exact ge
end Go.Eva.S4
namespace Go.Eva.S4
theorem AbG (l:List Entity) (g:Nat) (cs:List T) (p:Entity→Bool) (hb:isFnB cx g=true) (hn:small l)
  (hg: ∀e∈l,Fn cx g (e.enc::cs) (.bool (p e))):Fn cx 95 [.sl 9 (l.map zm),.clo g cs] (.bool (l.any p)):=by
 have h:=Aav l g cs p hb hn hg
 clear hg
 cases hq:l.findIdx? p with
 |some k=>
  rw [AbK hq] at h
  have e:l.any p=true:=by
   obtain ⟨hk,h1,_⟩:=List.findIdx?_eq_some_iff_getElem.1 hq
   exact List.any_eq_true.2 ⟨_,List.getElem_mem hk,h1⟩
  rw [e]
  refine qq ?_
  refine gg [.a _ _] ⟨o_a h,trivial⟩ ?_
  exact ge
 |none=>
  rw [Ac2 hq] at h
  have e:l.any p=false:=by
   rw [List.any_eq_false]
   intro x hx
   simpa using List.findIdx?_eq_none_iff.1 hq x hx
  rw [e]
  refine qq ?_
  refine gg [.a _ _] ⟨o_a h,trivial⟩ ?_
  exact ge
theorem Acg (l:List Cross) (g:Nat) (cs:List T) (p:Cross→Bool) (hb:isFnB cx g=true) (hn:small l)
  (hg: ∀e∈l,Fn cx g (e.enc::cs) (.bool (p e))):Fn cx 105 [.sl 15 (l.map zn),.clo g cs] (.bool (l.any p)):=by
 have h:=AaW l g cs p hb hn hg
 clear hg
 cases hq:l.findIdx? p with
 |some k=>
  rw [AbK hq] at h
  have e:l.any p=true:=by
   obtain ⟨hk,h1,_⟩:=List.findIdx?_eq_some_iff_getElem.1 hq
   exact List.any_eq_true.2 ⟨_,List.getElem_mem hk,h1⟩
  rw [e]
  refine qq ?_
  refine gg [.a _ _] ⟨o_a h,trivial⟩ ?_
  exact ge
 |none=>
  rw [Ac2 hq] at h
  have e:l.any p=false:=by
   rw [List.any_eq_false]
   intro x hx
   simpa using List.findIdx?_eq_none_iff.1 hq x hx
  rw [e]
  refine qq ?_
  refine gg [.a _ _] ⟨o_a h,trivial⟩ ?_
  exact ge
theorem Acd (l:List Input) (g:Nat) (cs:List T) (p:Input→Bool) (hb:isFnB cx g=true) (hn:small l)
  (hg: ∀e∈l,Fn cx g (e.enc::cs) (.bool (p e))):Fn cx 102 [.sl 3 (l.map zr),.clo g cs] (.bool (l.any p)):=by
 have h:=Ada l g cs p hb hn hg
 clear hg
 cases hq:l.findIdx? p with
 |some k=>
  rw [AbK hq] at h
  have e:l.any p=true:=by
   obtain ⟨hk,h1,_⟩:=List.findIdx?_eq_some_iff_getElem.1 hq
   exact List.any_eq_true.2 ⟨_,List.getElem_mem hk,h1⟩
  rw [e]
  refine qq ?_
  refine gg [.a _ _] ⟨o_a h,trivial⟩ ?_
  exact ge
 |none=>
  rw [Ac2 hq] at h
  have e:l.any p=false:=by
   rw [List.any_eq_false]
   intro x hx
   simpa using List.findIdx?_eq_none_iff.1 hq x hx
  rw [e]
  refine qq ?_
  refine gg [.a _ _] ⟨o_a h,trivial⟩ ?_
  exact ge
theorem Afr (c:Config) (r:Int):Fn cx 92 [c.enc,ti r] (.bool (c.is r)):=by
 have h1:= @Config.regions_le c
 refine qq ?_
 refine brp (p:=r≥0) (by kernel_rfl) (fun h1=> ?_) (fun h1=> ?_)
 ·refine gg [.tt,.tt,.a _ _,.tt,.tt] ⟨o_a (Aaw c),trivial⟩ ?_
  refine rT (a:=qz qj [vb (decide (r<z0 c))] []) ?_
  (simp only [Config.is,within];first|rfl|(congr 3;rw [Bool.eq_iff_iff];simp;omega))
 ·refine gg [.ff,.ff,.ff,.ff] trivial ?_
  refine rT (a:=qz qj [vb false] []) ?_
  (simp only [Config.is,within];first|rfl|(congr 3;rw [Bool.eq_iff_iff];simp;omega))
theorem Ahg (c:Config) (r:Int) (e:Entity):Fn cx 96 [e.enc,.ip 5 c.enc 0,.ip 1 (ti r) 0] (.bool (!(e.right c&&decide (c.of e.x e.y=r)))):=by
 have h1:=Ac6 c e
 have h2:=AcU c e.x e.y
 cases hr:e.right c with
 |true=>
  rw [hr] at h1
  refine qq ?_
  refine gg [.a _ _,.b (!true) false,.ff,.ff,.ff,.ff,.ff,.ff,.a _ _,.ff,.ff] ⟨o_a h1,bK,o_a h2,trivial⟩ ?_
  refine rT (a:=qz qj [vb (Config.of c e.x e.y !=r)] []) ?_
  simp [bned]
 |false=>
  rw [hr] at h1
  refine qq ?_
  refine gg [.a _ _,.b (!false) true,.tt,.tt,.tt,.tt,.tt,.tt,.tt,.tt] ⟨o_a h1,bK,trivial⟩ ?_
  refine rT (a:=qz qj [vb true] []) ?_
  simp
theorem Afk (c:Config) (r:Int) (s:Region) (hn:small s.ents):Fn cx 54 [c.enc,ti r,s.enc] (.bool (regionRight c r s)):=by
 have q1:=Afr c r
 have q2:=Aih s.ents hn
 have q3:=AbZ s.ents hn
 have q4:=AbG s.ents 96 [.ip 5 c.enc 0,.ip 1 (ti r) 0] (fun e=> !(e.right c&&decide (c.of e.x e.y=r))) (by kernel_rfl) hn (fun e _=>Ahg c r e)
 have e4:(s.ents.any fun e=> !(e.right c&&decide (c.of e.x e.y=r)))= !(s.ents.all fun e=>e.right c&&decide (c.of e.x e.y=r)):=by rw [List.any_eq_not_all_not];simp
 rw [e4] at q4
 unfold regionRight within
 generalize c.is r=b1 at*
 generalize sortedL s.ents=b2 at*
 generalize things s.ents=n3 at*
 generalize (s.ents.all fun e=>e.right c&&decide (c.of e.x e.y=r))=b4 at*
 obtain ⟨f,l⟩:=s
 refine qq ?_
 refine gg [.a _ _] ⟨o_a q1,trivial⟩ ?_
 refine brnot (b:=b1) (by kernel_rfl) (fun h1=> ?_) (fun h1=> ?_)
 ·refine gg [.tt,.tt,.tt,.tt,.tt,.tt,.tt,.tt,.tt,.tt,.tt,.tt,.tt,.tt,.tt,.tt] trivial ?_
  refine gg [.tt,.tt] trivial ?_
  refine rT (a:=qz qj [vb false] []) ?_
  (simp_all;try omega)
 ·refine gg [.ff,.ff,.ff] trivial ?_
  refine brp (p:=f<0) (by kernel_rfl) (fun h2=> ?_) (fun h2=> ?_)
  ·refine gg [.tt,.tt,.tt,.tt,.tt,.tt,.tt,.tt,.tt,.tt,.tt,.tt,.tt,.tt] trivial ?_
   refine rT (a:=qz qj [vb false] []) ?_
   (simp_all;try omega)
  ·refine gg [.ff,.ff,.ff] trivial ?_
   refine brp (p:=f>10000) (by kernel_rfl) (fun h3=> ?_) (fun h3=> ?_)
   ·refine gg [.tt,.tt,.tt,.tt,.tt,.tt,.tt,.tt,.tt,.tt] trivial ?_
    refine rT (a:=qz qj [vb false] []) ?_
    (simp_all;try omega)
   ·refine gg [.ff,.ff,.a _ _,.ff,.ff] ⟨o_a q2,trivial⟩ ?_
    refine brnot (b:=b2) (by kernel_rfl) (fun h4=> ?_) (fun h4=> ?_)
    ·refine gg [.tt,.tt,.tt,.tt,.tt] trivial ?_
     refine rT (a:=qz qj [vb false] []) ?_
     (simp_all;try omega)
    ·refine gg [.ff,.ff,.a _ _,.ff,.ff] ⟨o_a q3,trivial⟩ ?_
     refine brp (p:=n3>24) (by kernel_rfl) (fun h5=> ?_) (fun h5=> ?_)
     ·refine rT (a:=qz qj [vb false] []) ?_
      (simp_all;try omega)
     ·refine gg [.a _ _,.b (flats [T.bool !b4]) true] ⟨o_a q4,bK,trivial⟩ ?_
      refine rT (a:=qz qj [vb !!b4] []) ?_
      (simp_all;try omega)
theorem Ahh (i:Input):Fn cx 103 [i.enc] (.bool (!i.right)):=by
 refine qq ?_
 refine gg [.a _ _] ⟨o_a (AfD i),trivial⟩ ?_
 exact ge
theorem Ahq (c:Config) (r:Int) (s:Region) (m:Cross) (hf:0≤s.frame∧s.frame≤10000):Fn cx 106 [m.enc,.ip 5 c.enc 0,.ip 1 (ti r) 0,.ip 2 s.enc 0] (.bool (!(m.right c&&decide (m.to=r)&&decide (m.frame=s.frame-1)))):=by
 have h:=AjF c m
 obtain ⟨f,l⟩:=s
 simp only at hf
 generalize m.right c=b at*
 cases b with
 |true=>
  refine qq ?_
  refine gg [.a _ _,.b (!true) false,.ff,.ff,.ff,.ff] ⟨o_a h,bK,trivial⟩ ?_
  refine brn (x:=m.to) (y:=r) (by kernel_rfl) (fun h1=> ?_) (fun h1=> ?_)
  ·refine gg [.tt,.tt,.tt,.tt,.tt,.tt] trivial ?_
   refine rT (a:=qz qj [vb true] []) ?_
   (simp_all [bned];try omega)
  ·refine gg [.ff,.ff,.ff,.ff,.i zd (f-1) (f-1),.ff,.ff] ⟨oI,trivial⟩ ?_
   refine rT (a:=qz qj [vb (m.frame !=f-1)] []) ?_
   (simp_all [bned];try omega)
 |false=>
  refine qq ?_
  refine gg [.a _ _,.b (!false) true,.tt,.tt,.tt,.tt,.tt,.tt,.tt,.tt,.tt,.tt,.tt] ⟨o_a h,bK,trivial⟩ ?_
  refine rT (a:=qz qj [vb true] []) ?_
  simp
theorem Afj (c:Config) (r:Int) (s:Region) (ins:List Input) (inbox:List Cross) (hn:small s.ents) (hi:small ins) (hb:small inbox):
  Fn cx 60 [c.enc,ti r,s.enc,.sl 3 (ins.map zr),.sl 15 (inbox.map zn)] (ti (askedE c r s ins inbox)):=by
 have h1:=Afr c r
 have h2:=Afk c r s hn
 have h3:=Acd ins 103 [] (fun i=> !i.right) (by kernel_rfl) hi (fun i _=>Ahh i)
 unfold askedE
 cases q1:c.is r with
 |false=>
  rw [q1] at h1
  clear h2 h3
  rw [if_pos rfl]
  obtain ⟨f,l⟩:=s
  refine qq ?_
  refine gg [.a _ _,.b (!false) true] ⟨o_a h1,bK,trivial⟩ ?_
  exact ge
 |true=>
  rw [q1] at h1
  rw [if_neg (by simp)]
  cases q2:regionRight c r s with
  |false=>
   rw [q2] at h2
   clear h3
   rw [if_pos rfl]
   obtain ⟨f,l⟩:=s
   refine qq ?_
   refine gg [.a _ _,.b (!true) false,.a _ _,.b (!false) true] ⟨o_a h1,bK,o_a h2,bK,trivial⟩ ?_
   exact ge
  |true=>
   rw [q2] at h2
   rw [if_neg (by simp)]
   have hf:=(Aaz.1 q2).2.1
   have h4:=Acg inbox 106 [.ip 5 c.enc 0,.ip 1 (ti r) 0,.ip 2 s.enc 0] (fun m=> !(m.right c&&decide (m.to=r)&&decide (m.frame=s.frame-1))) (by kernel_rfl) hb (fun m _=>Ahq c r s m hf)
   clear q2
   obtain ⟨f,l⟩:=s
   simp only at hf h4⊢
   unfold small at hi
   generalize (ins.any fun i=> !i.right)=b3 at*
   generalize (inbox.any fun m=> !(m.right c&&decide (m.to=r)&&decide (m.frame=f-1)))=b4 at*
   refine qq ?_
   refine gg [.a _ _,.b (!true) false,.a _ _,.b (!true) false,.n (zq (zz zr ins)) (zq ins)] ⟨o_a h1,bK,o_a h2,bK,o_n (by simp),trivial⟩ ?_
   refine brn (x:=(↑(zq ins):Int)) (y:=c.players) (by kernel_rfl) (fun h1=> ?_) (fun h1=> ?_)
   ·refine gg [.tt,.tt,.tt] trivial ?_
    refine rT (a:=qz qj [vi 11] []) ?_
    (simp_all;try omega)
   ·refine gg [.ff,.a _ _,.ff] ⟨o_a h3,trivial⟩ ?_
    refine br (b:=b3) (by kernel_rfl) (fun h2=> ?_) (fun h2=> ?_)
    ·refine rT (a:=qz qj [vi 11] []) ?_
     (simp_all;try omega)
    ·refine gg [.a _ _,.b (flats [T.bool b4]) true] ⟨o_a h4,bK,trivial⟩ ?_
     refine br (b:=b4) (by kernel_rfl) (fun h3=> ?_) (fun h3=> ?_)
     ·refine rT (a:=qz qj [vi 1] []) ?_
      (simp_all;try omega)
     ·refine bre (x:=f) (y:=10000) (by kernel_rfl) (fun h4=> ?_) (fun h4=> ?_)
      ·refine rT (a:=qz qj [vi 16] []) ?_
       (simp_all;try omega)
      ·refine rT (a:=qz qj [vi 0] []) ?_
       (simp_all;try omega)
theorem Afd (inbox:List Cross) (hb:inbox.length≤100000): ∀(d i:Nat) (A:List Entity),i+d=inbox.length→A.length≤100000+i→
  Is cx (.loop 61 [0,1,0,1,1] 0 [.all 0 none,.t (.sl 15 (inbox.map zn)),vi inbox.length,vi i] [.arr 9 (A.map zm) none false])
   ⟨.exit 0,[.all 0 none,.t (.sl 15 (inbox.map zn)),vi inbox.length,vi inbox.length],[.arr 9 ((arriveL A (inbox.drop i)).map zm) none false]⟩:=by
 intro d
 induction d with
 |zero=>
  intro i A hi hA
  rw [Aac (by omega)]
  refine qq ?_
  refine gg [.b (decide ((i:Int)<(↑(zq inbox):Int))) false] ⟨fP,trivial⟩ ?_
  refine rT (a:=qz (qx 0) [qy 0 none,V.t (qk 15 (zz zn inbox)),vi (↑(zq inbox):Int),vi (i:Int)] [qv 9 (zz zm A) none false]) ?_
  ((have hq:i=inbox.length:=by omega);subst hq;rfl)
 |succ d ih=>
  intro i A hi hA
  have hlt:i<inbox.length:=by omega
  rw [Aae hlt]
  change Is cx _ ⟨_,_,[.arr 9 ((arriveL (arrive1 A (gt inbox i)) (inbox.drop (i+1))).map zm) none false]⟩
  have hT:=AbZ A (by unfold small;omega)
  have hP:=Aba A [(gt inbox i).ent] (by omega) (by simp)
  change Is cx _ ⟨_,_,[.arr 9 ((put1 A (gt inbox i).ent).map zm) none false]⟩ at hP
  have hl:= @Abl A (gt inbox i).ent
  have ih1:=ih (i+1) A (by omega) (by omega)
  have ih2:=ih (i+1) (put1 A (gt inbox i).ent) (by omega) (by omega)
  clear ih hl
  by_cases hk:(gt inbox i).kind=1
  ·by_cases he:(gt inbox i).ent.kind=1
   ·have e:arrive1 A (gt inbox i)=put1 A (gt inbox i).ent:=by simp [arrive1,hk,he]
    rw [e]
    generalize put1 A (gt inbox i).ent=B at*
    refine qq ?_
    refine gg [.b (decide ((i:Int)<(↑(zq inbox):Int))) true,.w (0≤(i:Int)),.n (zy (i:Int)) i,.g (zz zn inbox) i (zn (gt inbox i)),.b ((gt inbox i).kind==1) true,.tt,.tt,.tt,.tt,.b ((gt inbox i).ent.kind==1) true,.tt,.tt,.tt,.tt,.tt,.tt] ⟨tP,oW,nK,o_gt rfl (by assumption) (by intro h;cases h),t_bre (by assumption),t_bre (by assumption),trivial⟩ ?_
    refine gg [.a _ _,.i zd ((i:Int)+1) ((↑(i+1):Int)),.a _ _] ⟨o_a hP,oI,o_a ih2,trivial⟩ ?_
    exact ge
   ·by_cases ht:things A<24
    ·have e:arrive1 A (gt inbox i)=put1 A (gt inbox i).ent:=by simp [arrive1,hk,ht]
     rw [e]
     generalize put1 A (gt inbox i).ent=B at*
     generalize things A=n at*
     refine qq ?_
     refine gg [.b (decide ((i:Int)<(↑(zq inbox):Int))) true,.w (0≤(i:Int)),.n (zy (i:Int)) i,.g (zz zn inbox) i (zn (gt inbox i)),.b ((gt inbox i).kind==1) true,.tt,.tt,.tt,.tt,.b ((gt inbox i).ent.kind==1) false,.ff,.a _ _,.b (flats [ti n]) true,.ff,.tt,.ff] ⟨tP,oW,nK,o_gt rfl (by assumption) (by intro h;cases h),t_bre (by assumption),f_bre (by assumption),o_a hT,bK,trivial⟩ ?_
     refine gg [.tt,.b (decide (n<24)) true,.a _ _,.i zd ((i:Int)+1) ((↑(i+1):Int)),.a _ _] ⟨t_brp (by assumption),o_a hP,oI,o_a ih2,trivial⟩ ?_
     exact ge
    ·have e:arrive1 A (gt inbox i)=A:=by simp [arrive1,hk,he,ht]
     rw [e]
     generalize put1 A (gt inbox i).ent=B at*
     generalize things A=n at*
     refine qq ?_
     refine gg [.b (decide ((i:Int)<(↑(zq inbox):Int))) true,.w (0≤(i:Int)),.n (zy (i:Int)) i,.g (zz zn inbox) i (zn (gt inbox i)),.b ((gt inbox i).kind==1) true,.tt,.tt,.tt,.tt,.b ((gt inbox i).ent.kind==1) false,.ff,.a _ _,.b (flats [ti n]) true,.ff,.tt,.ff] ⟨tP,oW,nK,o_gt rfl (by assumption) (by intro h;cases h),t_bre (by assumption),f_bre (by assumption),o_a hT,bK,trivial⟩ ?_
     refine gg [.tt,.b (decide (n<24)) false,.i zd ((i:Int)+1) ((↑(i+1):Int)),.a _ _] ⟨f_brp (by assumption),oI,o_a ih1,trivial⟩ ?_
     exact ge
  ·have e:arrive1 A (gt inbox i)=A:=by simp [arrive1,hk]
   rw [e]
   generalize put1 A (gt inbox i).ent=B at*
   refine qq ?_
   refine gg [.b (decide ((i:Int)<(↑(zq inbox):Int))) true,.w (0≤(i:Int)),.n (zy (i:Int)) i,.g (zz zn inbox) i (zn (gt inbox i)),.b ((gt inbox i).kind==1) false,.ff,.ff,.ff,.ff,.ff,.ff,.ff,.i zd ((i:Int)+1) ((↑(i+1):Int)),.a _ _] ⟨tP,oW,nK,o_gt rfl (by assumption) (by intro h;cases h),f_bre (by assumption),oI,o_a ih1,trivial⟩ ?_
   exact ge
theorem Ah4 (c:Config) (r:Int) (s:Region) (inbox:List Cross) (hn:s.ents.length≤100000) (hb:inbox.length≤100000):
  Is cx (.call 61 [.t c.enc,vi r,.t s.enc,.t (.sl 15 (inbox.map zn))] []) ⟨.ret,[.all 0 none],[.arr 9 ((arriveL s.ents inbox).map zm) none false]⟩:=by
 have h:=Afd inbox hb inbox.length 0 s.ents (by omega) (by omega)
 rw [List.drop_zero] at h
 obtain ⟨f,l⟩:=s
 simp only at hn h⊢
 have hs:small l:=by unfold small;omega
 refine qq ?_
 refine gg [.a _ _,.n (zq (zz zn inbox)) (zq inbox),.a _ _] ⟨o_a (Aa7 l (by assumption)),o_n (by simp),o_a h,trivial⟩ ?_
 exact ge
theorem AfG (c:Config) (r:Int):Is cx (.call 81 [.t c.enc,vi r] []) ⟨.ret,[vi (c.cornerX r),vi (c.cornerY r)],[]⟩:=by
 have h:=AhP c r
 unfold Config.cornerX Config.cornerY
 cases hi:c.is r with
 |false=>
  rw [hi] at h
  refine qq ?_
  refine gg [.a _ _,.b (!false) true] ⟨o_a h,bK,trivial⟩ ?_
  exact ge
 |true=>
  rw [hi] at h
  have hr:=Config.is_right hi
  have hi2:=(Config.is_iff hr).1 hi
  obtain ⟨hc,hrr,_⟩:=Config.right_iff.1 hr
  have k1:=AaR (v:=r) (k:=c.cols) (m:=c.rows) (by omega) (by omega) (by omega)
  have k2:=AaE (v:=r) (k:=c.cols) (by omega) (by omega)
  refine qq ?_
  refine gg [.a _ _,.b (!true) false,.w (c.cols≠(0:Int)),.s (ti (zg r c.cols)),.i zd (zg r c.cols*1024) (zg r c.cols*1024),.w (c.cols≠(0:Int)),.i zd (Int.tdiv r c.cols) (Int.tdiv r c.cols),.i zd (Int.tdiv r c.cols*1024) (Int.tdiv r c.cols*1024)] ⟨o_a h,bK,oW,oI,oW,oI,oI,trivial⟩ ?_
  exact ge
def stepT (c:Config) (r f:Int) (s:Stg):T:= .agg [ti c.cols,ti c.rows,ti c.players,ti c.window,.int .u64 c.seed,ti r,ti f,.sl 9 (s.l.map zm),ti s.made,.sl 15 (s.out.map zn)]
abbrev stepV (c:Config) (r f made:Int) (lv ov:V):V:= .agg [vi c.cols,vi c.rows,vi c.players,vi c.window,.t (.int .u64 c.seed),vi r,vi f,lv,vi made,ov]
theorem AaA (c:Config) (r f:Int) (s:Stg) (hn:small s.l):Fn cx 110 [.ip 10 (stepT c r f s) 0] (.bool s.room):=by
 have h:=AbZ s.l hn
 unfold Stg.room
 obtain ⟨l,made,out⟩:=s
 simp only at h⊢
 unfold stepT
 generalize things l=n at*
 by_cases h1:made<8
 ·refine qq ?_
  refine gg [.b (decide (made<8)) true,.tt,.tt,.tt,.tt,.a _ _,.tt,.tt] ⟨t_brp (by assumption),o_a h,trivial⟩ ?_
  refine rT (a:=qz qj [vb (decide (n<24))] []) ?_
  simp [h1]
 ·refine qq ?_
  refine gg [.b (decide (made<8)) false,.ff,.ff,.ff,.ff,.ff,.ff] ⟨f_brp (by assumption),trivial⟩ ?_
  refine rT (a:=qz qj [vb false] []) ?_
  simp [h1]
theorem AfC {c:Config} {r:Int}:(0≤c.cornerX r∧c.cornerX r≤4096)∧0≤c.cornerY r∧c.cornerY r≤4096:=by
 unfold Config.cornerX Config.cornerY
 split
 ·rename_i hi
  have hr:=Config.is_right hi
  have hi2:=(Config.is_iff hr).1 hi
  obtain ⟨hc,hrr,_⟩:=Config.right_iff.1 hr
  have k1:=AaR (v:=r) (k:=c.cols) (m:=c.rows) (by omega) (by omega) (by omega)
  have k2:=AaE (v:=r) (k:=c.cols) (by omega) (by omega)
  omega
 ·omega
theorem Abz (c:Config) (r f x y o:Int) (s:Stg):Is cx (.call 125 [.t (.ip 10 (stepT c r f s) 0),vi x,vi y,vi o] []) ⟨.ret,[vi (placeX c r f x o),vi (placeY c r f y o)],[]⟩:=by
 have h0:=AfG c r
 have h1:=AaG 1024 c.seed [x,f,o] (by decide) (by simp [small])
 have h2:=AaG 1024 c.seed [y,f,o] (by decide) (by simp [small])
 have b1:=Acr (n:=1024) (seed:=c.seed) (l:= [x,f,o]) (by decide)
 have b2:=Acr (n:=1024) (seed:=c.seed) (l:= [y,f,o]) (by decide)
 have b3:= @AfC c r
 unfold placeX placeY
 obtain ⟨l,made,out⟩:=s
 unfold stepT
 generalize below 1024 c.seed [x,f,o]=v1 at*
 generalize below 1024 c.seed [y,f,o]=v2 at*
 generalize c.cornerX r=v3 at*
 generalize c.cornerY r=v4 at*
 refine qq ?_
 refine gg [.a _ _] ⟨o_a h0,trivial⟩ ?_
 refine bO (bO ?_ ?_) ?_
 all_goals
  refine gg [.a _ _,.i zd (v3+v1) (v3+v1),.a _ _,.i zd (v4+v2) (v4+v2)] ⟨o_a h1,oI,o_a h2,oI,trivial⟩ ?_
  exact ge
theorem Abt (c:Config) (r f made:Int) (l:List Entity) (o:List Cross) (hr:0≤r∧r≤16) (hf:0≤f∧f≤10000) (hm:0≤made∧made≤1000):
  Is cx (.call 112 [.ptr 0 0 0] [.one 10 (stepV c r f made (.all 1 none) (.fit 15 [])) false,.arr 9 (l.map zm) none false])
   ⟨.ret,[vi (numI c r f made)],[.one 10 (stepV c r f (made+1) (.all 1 none) (.fit 15 [])) false,.arr 9 (l.map zm) none false]⟩:=by
 have h:=Aaw c
 have hl:= @Config.regions_le c
 unfold numI
 generalize c.regions=g at*
 have h1:0≤f*g∧f*g≤160000:=⟨Int.mul_nonneg hf.1 hl.1,Int.le_trans (Int.mul_le_mul hf.2 hl.2 hl.1 (by omega)) (by omega)⟩
 refine qq ?_
 refine gg [.i zd (made+1) (made+1),.a _ _,.i zd (f*g) (f*g),.i zd (f*g+r) (f*g+r),.i zd ((f*g+r)*8) ((f*g+r)*8),.i zd (1000+(f*g+r)*8) (1000+(f*g+r)*8),.i zd (1000+(f*g+r)*8+(made+1)) (1000+(f*g+r)*8+(made+1)),.i zd (1000+(f*g+r)*8+(made+1)-1) (1000+(f*g+r)*8+(made+1)-1)] ⟨oI,o_a h,oI,oI,oI,oI,oI,oI,trivial⟩ ?_
 exact ge
theorem Ag6 (c:Config) (r f made:Int) (l:List Entity) (o:List Cross) (hr:0≤r∧r≤16) (hf:0≤f∧f≤10000) (hm:0≤made∧made≤1000):
  Is cx (.call 112 [.ptr 0 0 0] [.one 10 (stepV c r f made (.all 1 none) (.all 2 none)) false,.arr 9 (l.map zm) none false,.arr 15 (o.map zn) none false])
   ⟨.ret,[vi (numI c r f made)],[.one 10 (stepV c r f (made+1) (.all 1 none) (.all 2 none)) false,.arr 9 (l.map zm) none false,.arr 15 (o.map zn) none false]⟩:=by
 have h:=Aaw c
 have hl:= @Config.regions_le c
 unfold numI
 generalize c.regions=g at*
 have h1:0≤f*g∧f*g≤160000:=⟨Int.mul_nonneg hf.1 hl.1,Int.le_trans (Int.mul_le_mul hf.2 hl.2 hl.1 (by omega)) (by omega)⟩
 refine qq ?_
 refine gg [.i zd (made+1) (made+1),.a _ _,.i zd (f*g) (f*g),.i zd (f*g+r) (f*g+r),.i zd ((f*g+r)*8) ((f*g+r)*8),.i zd (1000+(f*g+r)*8) (1000+(f*g+r)*8),.i zd (1000+(f*g+r)*8+(made+1)) (1000+(f*g+r)*8+(made+1)),.i zd (1000+(f*g+r)*8+(made+1)-1) (1000+(f*g+r)*8+(made+1)-1)] ⟨oI,o_a h,oI,oI,oI,oI,oI,oI,trivial⟩ ?_
 exact ge
theorem Aeq (c:Config) (r f made:Int) (l:List Entity) (m:Cross):
  Is cx (.call 124 [.ptr 0 0 0,.t m.enc] [.one 10 (stepV c r f made (.all 1 none) (.fit 15 [])) false,.arr 9 (l.map zm) none false])
   ⟨.ret,[],[.one 10 (stepV c r f made (.all 1 none) (.all 2 none)) false,.arr 9 (l.map zm) none false,.arr 15 ([{m with frm:=r,frame:=f}].map zn) none false]⟩:=by
 refine qq ?_
 refine bO ?_ ?_
 all_goals
  refine gg [.w ((0:Nat)<(120:Nat)),.s (qk 0 [T.agg [ti m.kind,ti r,ti m.to,ti f,ti m.ent.id,ti m.ent.kind,ti m.ent.x,ti m.ent.y,ti m.ent.vx,ti m.ent.vy,ti m.ent.health,ti m.ent.age,ti m.ent.owner,ti m.x,ti m.y]]),.s (qk 0 [T.agg [ti m.kind,ti r,ti m.to,ti f,ti m.ent.id,ti m.ent.kind,ti m.ent.x,ti m.ent.y,ti m.ent.vx,ti m.ent.vy,ti m.ent.health,ti m.ent.age,ti m.ent.owner,ti m.x,ti m.y]]),.w (room (zq [T.agg [ti m.kind,ti r,ti m.to,ti f,ti m.ent.id,ti m.ent.kind,ti m.ent.x,ti m.ent.y,ti m.ent.vx,ti m.ent.vy,ti m.ent.health,ti m.ent.age,ti m.ent.owner,ti m.x,ti m.y]]) (120:Nat))] ⟨o_w (by (simp [room,appendMax])),o_w (by (simp [room,appendMax])),trivial⟩ ?_
  exact ge
theorem Abf (c:Config) (r f made:Int) (l:List Entity) (o:List Cross) (m:Cross) (ho:o.length≤100000):
  Is cx (.call 124 [.ptr 0 0 0,.t m.enc] [.one 10 (stepV c r f made (.all 1 none) (.all 2 none)) false,.arr 9 (l.map zm) none false,.arr 15 (o.map zn) none false])
   ⟨.ret,[],[.one 10 (stepV c r f made (.all 1 none) (.all 3 none)) false,.arr 9 (l.map zm) none false,.dead,.arr 15 ((o++ [{m with frm:=r,frame:=f}]).map zn) none false]⟩:=by
 refine qq ?_
 refine bO ?_ ?_
 all_goals
  refine gg [.w ((0:Nat)<(120:Nat)),.s (qk 0 [T.agg [ti m.kind,ti r,ti m.to,ti f,ti m.ent.id,ti m.ent.kind,ti m.ent.x,ti m.ent.y,ti m.ent.vx,ti m.ent.vy,ti m.ent.health,ti m.ent.age,ti m.ent.owner,ti m.x,ti m.y]]),.t (qk 0 (zz zn o++ [T.agg [ti m.kind,ti r,ti m.to,ti f,ti m.ent.id,ti m.ent.kind,ti m.ent.x,ti m.ent.y,ti m.ent.vx,ti m.ent.vy,ti m.ent.health,ti m.ent.age,ti m.ent.owner,ti m.x,ti m.y]])) (qk 0 (zz zn (o++ [Cross.mk m.kind r m.to f m.ent m.x m.y]))),.w (room (zq (zz zn (o++ [Cross.mk m.kind r m.to f m.ent m.x m.y]))) (120:Nat))] ⟨oW,o_l (Aam rfl (Aaf (e:=Cross.mk m.kind r m.to f m.ent m.x m.y) rfl Aap)),o_w (by (simp [room,appendMax];omega)),trivial⟩ ?_
  exact ge
end Go.Eva.S4
namespace Go.Eva.S4
def Ready (ins:List Input) (A:List Entity) (p:Entity):Prop:=(-1000000≤p.age∧p.age≤1000000)∧(p.kind=1→(1≤p.id∧p.id≤ins.length)∧ ∃x∈A,x.id=p.id)
theorem Ann (c:Config) (r f:Int) (ins:List Input) (hi0:ins.length≤1000000) (hr:0≤r∧r≤16) (hf:0≤f∧f≤10000) (R:List Entity) (hR:R.length≤1000): ∀(d i:Nat) (A:List Entity) (made:Int),i+d=R.length→A.length≤1000+i→0≤made∧made≤8→(∀j,i≤j→j<R.length→Ready ins A (gt R j))→
  Is cx (.loop 62 [0,1] 2 [.ptr 0 0 0,.t (.sl 3 (ins.map zr)),.all 1 none,vi R.length,vi i] [.one 10 (stepV c r f made (.all 2 none) (.fit 15 [])) false,.arr 9 (R.map zm) none true,.arr 9 (A.map zm) none false])
   ⟨.exit 0,[.ptr 0 0 0,.t (.sl 3 (ins.map zr)),.all 1 none,vi R.length,vi R.length],[.one 10 (stepV c r f ((R.drop i).foldl (steer1 c r f ins) ⟨A,made,[]⟩).made (.all 2 none) (.fit 15 [])) false,.arr 9 (R.map zm) none true,.arr 9 (((R.drop i).foldl (steer1 c r f ins) ⟨A,made,[]⟩).l.map zm) none false]⟩:=by
 intro d
 induction d with
 |zero=>
  intro i A made hi hA hm hP
  rw [Aac (by omega),List.foldl_nil]
  refine qq ?_
  refine gg [.b (decide ((i:Int)<(↑(zq R):Int))) false] ⟨fP,trivial⟩ ?_
  refine rT (a:=qz (qx 0) [V.ptr 0 0 0,V.t (qk 3 (zz zr ins)),qy 1 none,vi (↑(zq R):Int),vi (i:Int)] [qg 10 (V.agg [vi c.cols,vi c.rows,vi c.players,vi c.window,V.t (T.int zf c.seed),vi r,vi f,qy 2 none,vi made,V.fit 15 []]) false,qv 9 (zz zm R) none true,qv 9 (zz zm A) none false]) ?_
  ((have hq:i=R.length:=by omega);subst hq;rfl)
 |succ d ih=>
  intro i A made hi hA hm hP
  have hlt:i<R.length:=by omega
  rw [Aae hlt,List.foldl_cons]
  obtain ⟨hage,hp⟩:=hP i (Nat.le_refl _) hlt
  by_cases hk:(gt R i).kind=1
  ·obtain ⟨hid,hx⟩:=hp hk
   have hS:=Afn (gt R i) (inAt ins (gt R i).id) hage
   have hSid:=(@AcD (gt R i) (inAt ins (gt R i).id)).1
   cases hb:(steerE (gt R i) (inAt ins (gt R i).id)).2 with
   |true=>
    rw [hb] at hS
    cases hroom:Stg.room ⟨A,made,[]⟩ with
    |true=>
     obtain ⟨hm1,_⟩:=Stg.room_iff.1 hroom
     simp only at hm1
     have hrm:=AaA c r f ⟨A,made,[]⟩ (by unfold small;simp only;omega)
     rw [hroom] at hrm
     have hnum:=Abt c r f made A [] hr hf (by omega)
     have e1:steer1 c r f ins ⟨A,made,[]⟩ (gt R i)=⟨setId (put1 A (shootE (steerE (gt R i) (inAt ins (gt R i).id)).1 (inAt ins (gt R i).id) (numI c r f made))) (gt R i).id (steerE (gt R i) (inAt ins (gt R i).id)).1,made+1,[]⟩:=by simp [steer1,hk,hb,hroom]
     rw [e1]
     have hsh:=Afi (steerE (gt R i) (inAt ins (gt R i).id)).1 (inAt ins (gt R i).id) (numI c r f made)
     generalize hE:(steerE (gt R i) (inAt ins (gt R i).id)).1=E at*
     generalize shootE E (inAt ins (gt R i).id) (numI c r f made)=sh at*
     have hput:=Aba A [sh] (by omega) (by simp)
     change Is cx _ ⟨_,_,[.arr 9 ((put1 A sh).map zm) none false]⟩ at hput
     have hpl:= @Abl A sh
     have hx1:=Ah0 (e:=sh) hx
     have ih1:=ih (i+1) (setId (put1 A sh) (gt R i).id E) (made+1) (by omega) (by rw [AfZ];omega) (by omega) fun j h1 h2=>by
      obtain ⟨g1,g2⟩:=hP j (by omega) h2
      exact ⟨g1,fun hk=>⟨(g2 hk).1,Aey hx1 hSid (Ah0 (g2 hk).2)⟩⟩
     obtain ⟨k,hk1,hk2,_⟩:=AbX hx1
     rw [Ab1 hk1] at ih1⊢
     have hF:=Aa2 (put1 A sh) (gt R i).id (by unfold small;omega)
     rw [hk1] at hF
     generalize put1 A sh=B at*
     generalize numI c r f made=nn at*
     clear ih hP e1 hE hroom hx hx1 hk1
     unfold inAt at hS hsh
     refine qq ?_
     refine gg [.b (decide ((i:Int)<(↑(zq R):Int))) true,.w (0≤(i:Int)),.n (zy (i:Int)) i,.w (i<zq (zz zm R)),.g (zz zm R) i (zm (gt R i)),.b ((gt R i).kind !=1) false,.i zd ((gt R i).id-1) ((gt R i).id-1),.w (0≤(gt R i).id-(1:Int)),.l (zy ((gt R i).id-1)),.g (zz zr ins) (zy ((gt R i).id-1)) (zr (gt ins (zy ((gt R i).id-1)))),.a _ _,.tt,.tt,.a _ _,.b (flats [T.bool true]) true,.tt] ⟨tP,oW,nK,o_w (by (simp;omega)),o_gt rfl (by assumption) (by intro h;cases h),f_brn (by assumption),oI,oW,oT,o_a hS,o_a hrm,bK,trivial⟩ ?_
     refine gg [.tt] trivial ?_
     refine bO (bO (bO ?_ ?_) (bO (bO ?_ ?_) ?_)) (bO (bO (bO ?_ ?_) (bO (bO ?_ ?_) ?_)) (bO (bO (bO ?_ ?_) (bO (bO ?_ ?_) ?_)) ?_))
     all_goals
      refine gg [.a _ _,.a _ _,.a _ _,.a _ _,.b (flats [ti (k:Int)]) true,.w (0≤(k:Int)),.n (zy (k:Int)) k,.w (k<zq (zz zm B)),.w (k<zq (zz zm B)),.t (qk 0 (zx (zz zm B) k (zm E))) (qk 0 (zz zm (zx B k E))),.i zd ((i:Int)+1) ((↑(i+1):Int)),.a _ _] ⟨o_a hnum,o_a hsh,o_a hput,o_a hF,bK,oW,nK,o_w (by (simp;omega)),o_w (by (simp;omega)),o_l (Aal rfl rfl),oI,o_a ih1,trivial⟩ ?_
      exact ge
    |false=>
     have hrm:=AaA c r f ⟨A,made,[]⟩ (by unfold small;simp only;omega)
     rw [hroom] at hrm
     have e1:steer1 c r f ins ⟨A,made,[]⟩ (gt R i)=⟨setId A (gt R i).id {(steerE (gt R i) (inAt ins (gt R i).id)).1 with age:=0},made,[]⟩:=by simp [steer1,hk,hb,hroom]
     rw [e1]
     generalize hE:(steerE (gt R i) (inAt ins (gt R i).id)).1=E at*
     have ih1:=ih (i+1) (setId A (gt R i).id {E with age:=0}) made (by omega) (by rw [AfZ];omega) hm fun j h1 h2=>by
      obtain ⟨g1,g2⟩:=hP j (by omega) h2
      exact ⟨g1,fun hk=>⟨(g2 hk).1,Aey hx hSid (g2 hk).2⟩⟩
     obtain ⟨k,hk1,hk2,_⟩:=AbX hx
     rw [Ab1 hk1] at ih1⊢
     have hF:=Aa2 A (gt R i).id (by unfold small;omega)
     rw [hk1] at hF
     clear ih hP e1 hE hroom hx hk1
     unfold inAt at hS
     refine qq ?_
     refine gg [.b (decide ((i:Int)<(↑(zq R):Int))) true,.w (0≤(i:Int)),.n (zy (i:Int)) i,.w (i<zq (zz zm R)),.g (zz zm R) i (zm (gt R i)),.b ((gt R i).kind !=1) false,.i zd ((gt R i).id-1) ((gt R i).id-1),.w (0≤(gt R i).id-(1:Int)),.l (zy ((gt R i).id-1)),.g (zz zr ins) (zy ((gt R i).id-1)) (zr (gt ins (zy ((gt R i).id-1)))),.a _ _,.tt,.tt,.a _ _,.b (flats [T.bool false]) true,.tt] ⟨tP,oW,nK,o_w (by (simp;omega)),o_gt rfl (by assumption) (by intro h;cases h),f_brn (by assumption),oI,oW,oT,o_a hS,o_a hrm,bK,trivial⟩ ?_
     refine gg [.ff,.tt,.a _ _,.b (flats [ti (k:Int)]) true,.w (0≤(k:Int)),.n (zy (k:Int)) k,.w (k<zq (zz zm A)),.w (k<zq (zz zm A)),.t (qk 0 (zx (zz zm A) k (T.agg [ti E.id,ti E.kind,ti E.x,ti E.y,ti E.vx,ti E.vy,ti E.health,ti 0,ti E.owner]))) (qk 0 (zz zm (zx A k (qw E.id E.kind E.x E.y E.vx E.vy E.health 0 E.owner)))),.i zd ((i:Int)+1) ((↑(i+1):Int)),.a _ _] ⟨o_a hF,bK,oW,nK,o_w (by (simp;omega)),o_w (by (simp;omega)),o_l (Aal (e:=qw E.id E.kind E.x E.y E.vx E.vy E.health 0 E.owner) rfl rfl),oI,o_a ih1,trivial⟩ ?_
     exact ge
   |false=>
    rw [hb] at hS
    have e1:steer1 c r f ins ⟨A,made,[]⟩ (gt R i)=⟨setId A (gt R i).id (steerE (gt R i) (inAt ins (gt R i).id)).1,made,[]⟩:=by simp [steer1,hk,hb]
    rw [e1]
    generalize hE:(steerE (gt R i) (inAt ins (gt R i).id)).1=E at*
    have ih1:=ih (i+1) (setId A (gt R i).id E) made (by omega) (by rw [AfZ];omega) hm fun j h1 h2=>by
     obtain ⟨g1,g2⟩:=hP j (by omega) h2
     exact ⟨g1,fun hk=>⟨(g2 hk).1,Aey hx hSid (g2 hk).2⟩⟩
    obtain ⟨k,hk1,hk2,_⟩:=AbX hx
    rw [Ab1 hk1] at ih1⊢
    have hF:=Aa2 A (gt R i).id (by unfold small;omega)
    rw [hk1] at hF
    clear ih hP e1 hE hx hk1
    unfold inAt at hS
    refine qq ?_
    refine gg [.b (decide ((i:Int)<(↑(zq R):Int))) true,.w (0≤(i:Int)),.n (zy (i:Int)) i,.w (i<zq (zz zm R)),.g (zz zm R) i (zm (gt R i)),.b ((gt R i).kind !=1) false,.i zd ((gt R i).id-1) ((gt R i).id-1),.w (0≤(gt R i).id-(1:Int)),.l (zy ((gt R i).id-1)),.g (zz zr ins) (zy ((gt R i).id-1)) (zr (gt ins (zy ((gt R i).id-1)))),.a _ _,.ff,.ff,.ff,.ff,.ff] ⟨tP,oW,nK,o_w (by (simp;omega)),o_gt rfl (by assumption) (by intro h;cases h),f_brn (by assumption),oI,oW,oT,o_a hS,trivial⟩ ?_
    refine gg [.a _ _,.b (flats [ti (k:Int)]) true,.w (0≤(k:Int)),.n (zy (k:Int)) k,.w (k<zq (zz zm A)),.w (k<zq (zz zm A)),.t (qk 0 (zx (zz zm A) k (zm E))) (qk 0 (zz zm (zx A k E))),.i zd ((i:Int)+1) ((↑(i+1):Int)),.a _ _] ⟨o_a hF,bK,oW,nK,o_w (by (simp;omega)),o_w (by (simp;omega)),o_l (Aal rfl rfl),oI,o_a ih1,trivial⟩ ?_
    exact ge
  ·have e1:steer1 c r f ins ⟨A,made,[]⟩ (gt R i)=⟨A,made,[]⟩:=by simp [steer1,hk]
   rw [e1]
   have ih1:=ih (i+1) A made (by omega) (by omega) hm fun j h1 h2=>hP j (by omega) h2
   clear ih hP e1
   refine qq ?_
   refine gg [.b (decide ((i:Int)<(↑(zq R):Int))) true,.w (0≤(i:Int)),.n (zy (i:Int)) i,.w (i<zq (zz zm R)),.g (zz zm R) i (zm (gt R i)),.b ((gt R i).kind !=1) true,.i zd ((i:Int)+1) ((↑(i+1):Int)),.a _ _] ⟨tP,oW,nK,o_w (by (simp;omega)),o_gt rfl (by assumption) (by intro h;cases h),t_brn (by assumption),oI,o_a ih1,trivial⟩ ?_
   exact ge
theorem AmN (c:Config) (r f:Int) (ins:List Input) (hi0:ins.length≤1000000) (hr:0≤r∧r≤16) (hf:0≤f∧f≤10000): ∀(d i:Nat) (A:List Entity) (made:Int),i+d=A.length→A.length≤1000→0≤made∧made≤8→(∀j,i≤j→j<A.length→Ready ins A (gt A j))→
  Is cx (.loop 62 [0,1] 2 [.ptr 0 0 0,.t (.sl 3 (ins.map zr)),.all 1 none,vi A.length,vi i] [.one 10 (stepV c r f made (.all 1 none) (.fit 15 [])) false,.arr 9 (A.map zm) none false])
   ⟨.exit 0,[.ptr 0 0 0,.t (.sl 3 (ins.map zr)),.all 1 none,vi A.length,vi A.length],[.one 10 (stepV c r f ((A.drop i).foldl (steer1 c r f ins) ⟨A,made,[]⟩).made (.all 1 none) (.fit 15 [])) false,.arr 9 (((A.drop i).foldl (steer1 c r f ins) ⟨A,made,[]⟩).l.map zm) none false]⟩∨
  ∃X:List Entity,Is cx (.loop 62 [0,1] 2 [.ptr 0 0 0,.t (.sl 3 (ins.map zr)),.all 1 none,vi A.length,vi i] [.one 10 (stepV c r f made (.all 1 none) (.fit 15 [])) false,.arr 9 (A.map zm) none false])
   ⟨.exit 0,[.ptr 0 0 0,.t (.sl 3 (ins.map zr)),.all 1 none,vi A.length,vi A.length],[.one 10 (stepV c r f ((A.drop i).foldl (steer1 c r f ins) ⟨A,made,[]⟩).made (.all 2 none) (.fit 15 [])) false,.arr 9 (X.map zm) none true,.arr 9 (((A.drop i).foldl (steer1 c r f ins) ⟨A,made,[]⟩).l.map zm) none false]⟩:=by
 intro d
 induction d with
 |zero=>
  intro i A made hi hA hm hP
  left
  rw [Aac (by omega),List.foldl_nil]
  refine qq ?_
  refine gg [.b (decide ((i:Int)<(↑(zq A):Int))) false] ⟨fP,trivial⟩ ?_
  refine rT (a:=qz (qx 0) [V.ptr 0 0 0,V.t (qk 3 (zz zr ins)),qy 1 none,vi (↑(zq A):Int),vi (i:Int)] [qg 10 (V.agg [vi c.cols,vi c.rows,vi c.players,vi c.window,V.t (T.int zf c.seed),vi r,vi f,qy 1 none,vi made,V.fit 15 []]) false,qv 9 (zz zm A) none false]) ?_
  ((have hq:i=A.length:=by omega);subst hq;rfl)
 |succ d ih=>
  intro i A made hi hA hm hP
  have hlt:i<A.length:=by omega
  obtain ⟨hage,hp⟩:=hP i (Nat.le_refl _) hlt
  rw [Aae hlt,List.foldl_cons]
  have step: ∀(k:Nat) (E:Entity),find A (gt A i).id=k→(∃x∈A,x.id=(gt A i).id)→E.id=(gt A i).id→(A.set k E).drop (i+1)=A.drop (i+1)∧(A.set k E).length=A.length∧ ∀j,i+1≤j→j<(A.set k E).length→Ready ins (A.set k E) (gt (A.set k E) j):=by
   intro k E hk hx hE
   have hki:=AoE hlt rfl hk
   refine ⟨Am5 (by simp) fun j h1 _=>Akg (by omega),by simp,fun j h1 h2=> ?_⟩
   rw [Akg (by omega)]
   obtain ⟨g1,g2⟩:=hP j (by omega) (by simpa using h2)
   refine ⟨g1,fun hk2=>⟨(g2 hk2).1,?_⟩⟩
   have:=Aey hx hE (g2 hk2).2
   rwa [Ab1 hk] at this
  by_cases hk:(gt A i).kind=1
  ·obtain ⟨hid,hx⟩:=hp hk
   have hS:=Afn (gt A i) (inAt ins (gt A i).id) hage
   have hSid:=(@AcD (gt A i) (inAt ins (gt A i).id)).1
   cases hb:(steerE (gt A i) (inAt ins (gt A i).id)).2 with
   |true=>
    rw [hb] at hS
    cases hroom:Stg.room ⟨A,made,[]⟩ with
    |true=>
     right
     refine ⟨A,?_⟩
     obtain ⟨hm1,_⟩:=Stg.room_iff.1 hroom
     simp only at hm1
     have hrm:=AaA c r f ⟨A,made,[]⟩ (by unfold small;simp only;omega)
     rw [hroom] at hrm
     have hnum:=Abt c r f made A [] hr hf (by omega)
     have e1:steer1 c r f ins ⟨A,made,[]⟩ (gt A i)=⟨setId (put1 A (shootE (steerE (gt A i) (inAt ins (gt A i).id)).1 (inAt ins (gt A i).id) (numI c r f made))) (gt A i).id (steerE (gt A i) (inAt ins (gt A i).id)).1,made+1,[]⟩:=by simp [steer1,hk,hb,hroom]
     rw [e1]
     have hsh:=Afi (steerE (gt A i) (inAt ins (gt A i).id)).1 (inAt ins (gt A i).id) (numI c r f made)
     generalize hE:(steerE (gt A i) (inAt ins (gt A i).id)).1=E at*
     generalize shootE E (inAt ins (gt A i).id) (numI c r f made)=sh at*
     have hput:=Aba A [sh] (by omega) (by simp)
     change Is cx _ ⟨_,_,[.arr 9 ((put1 A sh).map zm) none false]⟩ at hput
     have hpl:= @Abl A sh
     have hx1:=Ah0 (e:=sh) hx
     have ih1:=Ann c r f ins hi0 hr hf A hA d (i+1) (setId (put1 A sh) (gt A i).id E) (made+1) (by omega) (by rw [AfZ];omega) (by omega) fun j h1 h2=>by
      obtain ⟨g1,g2⟩:=hP j (by omega) h2
      exact ⟨g1,fun hk=>⟨(g2 hk).1,Aey hx1 hSid (Ah0 (g2 hk).2)⟩⟩
     obtain ⟨k,hk1,hk2,_⟩:=AbX hx1
     rw [Ab1 hk1] at ih1⊢
     have hF:=Aa2 (put1 A sh) (gt A i).id (by unfold small;omega)
     rw [hk1] at hF
     generalize put1 A sh=B at*
     generalize numI c r f made=nn at*
     clear ih hP e1 hE hroom hx hx1 hk1 step
     unfold inAt at hS hsh
     refine qq ?_
     refine gg [.b (decide ((i:Int)<(↑(zq A):Int))) true,.w (0≤(i:Int)),.n (zy (i:Int)) i,.w (i<zq (zz zm A)),.g (zz zm A) i (zm (gt A i)),.b ((gt A i).kind !=1) false,.i zd ((gt A i).id-1) ((gt A i).id-1),.w (0≤(gt A i).id-(1:Int)),.l (zy ((gt A i).id-1)),.g (zz zr ins) (zy ((gt A i).id-1)) (zr (gt ins (zy ((gt A i).id-1)))),.a _ _,.tt,.tt,.a _ _,.b (flats [T.bool true]) true,.tt] ⟨tP,oW,nK,o_w (by (simp;omega)),o_gt rfl (by assumption) (by intro h;cases h),f_brn (by assumption),oI,oW,oT,o_a hS,o_a hrm,bK,trivial⟩ ?_
     refine gg [.tt] trivial ?_
     refine bO (bO (bO ?_ ?_) (bO (bO ?_ ?_) ?_)) (bO (bO (bO ?_ ?_) (bO (bO ?_ ?_) ?_)) (bO (bO (bO ?_ ?_) (bO (bO ?_ ?_) ?_)) ?_))
     all_goals
      refine gg [.a _ _,.a _ _,.a _ _,.a _ _,.b (flats [ti (k:Int)]) true,.w (0≤(k:Int)),.n (zy (k:Int)) k,.w (k<zq (zz zm B)),.w (k<zq (zz zm B)),.t (qk 0 (zx (zz zm B) k (zm E))) (qk 0 (zz zm (zx B k E))),.i zd ((i:Int)+1) ((↑(i+1):Int)),.a _ _] ⟨o_a hnum,o_a hsh,o_a hput,o_a hF,bK,oW,nK,o_w (by (simp;omega)),o_w (by (simp;omega)),o_l (Aal rfl rfl),oI,o_a ih1,trivial⟩ ?_
      exact ge
    |false=>
     have hrm:=AaA c r f ⟨A,made,[]⟩ (by unfold small;simp only;omega)
     rw [hroom] at hrm
     have e1:steer1 c r f ins ⟨A,made,[]⟩ (gt A i)=⟨setId A (gt A i).id {(steerE (gt A i) (inAt ins (gt A i).id)).1 with age:=0},made,[]⟩:=by simp [steer1,hk,hb,hroom]
     rw [e1]
     generalize hE:(steerE (gt A i) (inAt ins (gt A i).id)).1=E at*
     obtain ⟨k,hk1,hk2,_⟩:=AbX hx
     obtain ⟨s1,s2,s3⟩:=step k {E with age:=0} hk1 hx hSid
     rw [Ab1 hk1]
     have ih1:=ih (i+1) (A.set k {E with age:=0}) made (by omega) (by omega) hm s3
     rw [s1,s2] at ih1
     have hF:=Aa2 A (gt A i).id (by unfold small;omega)
     rw [hk1] at hF
     clear ih hP e1 hE hroom hx hk1 step s1 s2 s3
     unfold inAt at hS
     rcases ih1 with ih1|⟨X,ih1⟩
     ·left
      refine qq ?_
      refine gg [.b (decide ((i:Int)<(↑(zq A):Int))) true,.w (0≤(i:Int)),.n (zy (i:Int)) i,.w (i<zq (zz zm A)),.g (zz zm A) i (zm (gt A i)),.b ((gt A i).kind !=1) false,.i zd ((gt A i).id-1) ((gt A i).id-1),.w (0≤(gt A i).id-(1:Int)),.l (zy ((gt A i).id-1)),.g (zz zr ins) (zy ((gt A i).id-1)) (zr (gt ins (zy ((gt A i).id-1)))),.a _ _,.tt,.tt,.a _ _,.b (flats [T.bool false]) true,.tt] ⟨tP,oW,nK,o_w (by (simp;omega)),o_gt rfl (by assumption) (by intro h;cases h),f_brn (by assumption),oI,oW,oT,o_a hS,o_a hrm,bK,trivial⟩ ?_
      refine gg [.ff,.tt,.a _ _,.b (flats [ti (k:Int)]) true,.w (0≤(k:Int)),.n (zy (k:Int)) k,.w (k<zq (zz zm A)),.w (k<zq (zz zm A)),.t (qk 0 (zx (zz zm A) k (T.agg [ti E.id,ti E.kind,ti E.x,ti E.y,ti E.vx,ti E.vy,ti E.health,ti 0,ti E.owner]))) (qk 0 (zz zm (zx A k (qw E.id E.kind E.x E.y E.vx E.vy E.health 0 E.owner)))),.i zd ((i:Int)+1) ((↑(i+1):Int)),.a _ _] ⟨o_a hF,bK,oW,nK,o_w (by (simp;omega)),o_w (by (simp;omega)),o_l (Aal (e:=qw E.id E.kind E.x E.y E.vx E.vy E.health 0 E.owner) rfl rfl),oI,o_a ih1,trivial⟩ ?_
      exact ge
     ·right
      refine ⟨X,?_⟩
      refine qq ?_
      refine gg [.b (decide ((i:Int)<(↑(zq A):Int))) true,.w (0≤(i:Int)),.n (zy (i:Int)) i,.w (i<zq (zz zm A)),.g (zz zm A) i (zm (gt A i)),.b ((gt A i).kind !=1) false,.i zd ((gt A i).id-1) ((gt A i).id-1),.w (0≤(gt A i).id-(1:Int)),.l (zy ((gt A i).id-1)),.g (zz zr ins) (zy ((gt A i).id-1)) (zr (gt ins (zy ((gt A i).id-1)))),.a _ _,.tt,.tt,.a _ _,.b (flats [T.bool false]) true,.tt] ⟨tP,oW,nK,o_w (by (simp;omega)),o_gt rfl (by assumption) (by intro h;cases h),f_brn (by assumption),oI,oW,oT,o_a hS,o_a hrm,bK,trivial⟩ ?_
      refine gg [.ff,.tt,.a _ _,.b (flats [ti (k:Int)]) true,.w (0≤(k:Int)),.n (zy (k:Int)) k,.w (k<zq (zz zm A)),.w (k<zq (zz zm A)),.t (qk 0 (zx (zz zm A) k (T.agg [ti E.id,ti E.kind,ti E.x,ti E.y,ti E.vx,ti E.vy,ti E.health,ti 0,ti E.owner]))) (qk 0 (zz zm (zx A k (qw E.id E.kind E.x E.y E.vx E.vy E.health 0 E.owner)))),.i zd ((i:Int)+1) ((↑(i+1):Int)),.a _ _] ⟨o_a hF,bK,oW,nK,o_w (by (simp;omega)),o_w (by (simp;omega)),o_l (Aal (e:=qw E.id E.kind E.x E.y E.vx E.vy E.health 0 E.owner) rfl rfl),oI,o_a ih1,trivial⟩ ?_
      exact ge
   |false=>
    rw [hb] at hS
    have e1:steer1 c r f ins ⟨A,made,[]⟩ (gt A i)=⟨setId A (gt A i).id (steerE (gt A i) (inAt ins (gt A i).id)).1,made,[]⟩:=by simp [steer1,hk,hb]
    rw [e1]
    generalize hE:(steerE (gt A i) (inAt ins (gt A i).id)).1=E at*
    obtain ⟨k,hk1,hk2,_⟩:=AbX hx
    obtain ⟨s1,s2,s3⟩:=step k E hk1 hx hSid
    rw [Ab1 hk1]
    have ih1:=ih (i+1) (A.set k E) made (by omega) (by omega) hm s3
    rw [s1,s2] at ih1
    have hF:=Aa2 A (gt A i).id (by unfold small;omega)
    rw [hk1] at hF
    clear ih hP e1 hE hx hk1 step s1 s2 s3
    unfold inAt at hS
    rcases ih1 with ih1|⟨X,ih1⟩
    ·left
     refine qq ?_
     refine gg [.b (decide ((i:Int)<(↑(zq A):Int))) true,.w (0≤(i:Int)),.n (zy (i:Int)) i,.w (i<zq (zz zm A)),.g (zz zm A) i (zm (gt A i)),.b ((gt A i).kind !=1) false,.i zd ((gt A i).id-1) ((gt A i).id-1),.w (0≤(gt A i).id-(1:Int)),.l (zy ((gt A i).id-1)),.g (zz zr ins) (zy ((gt A i).id-1)) (zr (gt ins (zy ((gt A i).id-1)))),.a _ _,.ff,.ff,.ff,.ff,.ff] ⟨tP,oW,nK,o_w (by (simp;omega)),o_gt rfl (by assumption) (by intro h;cases h),f_brn (by assumption),oI,oW,oT,o_a hS,trivial⟩ ?_
     refine gg [.a _ _,.b (flats [ti (k:Int)]) true,.w (0≤(k:Int)),.n (zy (k:Int)) k,.w (k<zq (zz zm A)),.w (k<zq (zz zm A)),.t (qk 0 (zx (zz zm A) k (zm E))) (qk 0 (zz zm (zx A k E))),.i zd ((i:Int)+1) ((↑(i+1):Int)),.a _ _] ⟨o_a hF,bK,oW,nK,o_w (by (simp;omega)),o_w (by (simp;omega)),o_l (Aal rfl rfl),oI,o_a ih1,trivial⟩ ?_
     exact ge
    ·right
     refine ⟨X,?_⟩
     refine qq ?_
     refine gg [.b (decide ((i:Int)<(↑(zq A):Int))) true,.w (0≤(i:Int)),.n (zy (i:Int)) i,.w (i<zq (zz zm A)),.g (zz zm A) i (zm (gt A i)),.b ((gt A i).kind !=1) false,.i zd ((gt A i).id-1) ((gt A i).id-1),.w (0≤(gt A i).id-(1:Int)),.l (zy ((gt A i).id-1)),.g (zz zr ins) (zy ((gt A i).id-1)) (zr (gt ins (zy ((gt A i).id-1)))),.a _ _,.ff,.ff,.ff,.ff,.ff] ⟨tP,oW,nK,o_w (by (simp;omega)),o_gt rfl (by assumption) (by intro h;cases h),f_brn (by assumption),oI,oW,oT,o_a hS,trivial⟩ ?_
     refine gg [.a _ _,.b (flats [ti (k:Int)]) true,.w (0≤(k:Int)),.n (zy (k:Int)) k,.w (k<zq (zz zm A)),.w (k<zq (zz zm A)),.t (qk 0 (zx (zz zm A) k (zm E))) (qk 0 (zz zm (zx A k E))),.i zd ((i:Int)+1) ((↑(i+1):Int)),.a _ _] ⟨o_a hF,bK,oW,nK,o_w (by (simp;omega)),o_w (by (simp;omega)),o_l (Aal rfl rfl),oI,o_a ih1,trivial⟩ ?_
     exact ge
  ·have e1:steer1 c r f ins ⟨A,made,[]⟩ (gt A i)=⟨A,made,[]⟩:=by simp [steer1,hk]
   rw [e1]
   have ih1:=ih (i+1) A made (by omega) hA hm fun j h1 h2=>hP j (by omega) h2
   clear ih hP e1 step
   rcases ih1 with ih1|⟨X,ih1⟩
   ·left
    refine qq ?_
    refine gg [.b (decide ((i:Int)<(↑(zq A):Int))) true,.w (0≤(i:Int)),.n (zy (i:Int)) i,.w (i<zq (zz zm A)),.g (zz zm A) i (zm (gt A i)),.b ((gt A i).kind !=1) true,.i zd ((i:Int)+1) ((↑(i+1):Int)),.a _ _] ⟨tP,oW,nK,o_w (by (simp;omega)),o_gt rfl (by assumption) (by intro h;cases h),t_brn (by assumption),oI,o_a ih1,trivial⟩ ?_
    exact ge
   ·right
    refine ⟨X,?_⟩
    refine qq ?_
    refine gg [.b (decide ((i:Int)<(↑(zq A):Int))) true,.w (0≤(i:Int)),.n (zy (i:Int)) i,.w (i<zq (zz zm A)),.g (zz zm A) i (zm (gt A i)),.b ((gt A i).kind !=1) true,.i zd ((i:Int)+1) ((↑(i+1):Int)),.a _ _] ⟨tP,oW,nK,o_w (by (simp;omega)),o_gt rfl (by assumption) (by intro h;cases h),t_brn (by assumption),oI,o_a ih1,trivial⟩ ?_
    exact ge
theorem Ai1 (c:Config) (r f:Int) (ins:List Input) (L:List Entity) (hi0:ins.length≤1000000) (hr:0≤r∧r≤16) (hf:0≤f∧f≤10000) (hL:L.length≤1000) (hP: ∀p∈L,(-1000000≤p.age∧p.age≤1000000)∧(p.kind=1→1≤p.id∧p.id≤ins.length)):
  Is cx (.call 62 [.ptr 0 0 0,.t (.sl 3 (ins.map zr))] [.one 10 (stepV c r f 0 (.all 1 none) (.fit 15 [])) false,.arr 9 (L.map zm) none false])
   ⟨.ret,[],[.one 10 (stepV c r f (steerS c r f ins ⟨L,0,[]⟩).made (.all 1 none) (.fit 15 [])) false,.arr 9 ((steerS c r f ins ⟨L,0,[]⟩).l.map zm) none false]⟩∨
  ∃X:List Entity,Is cx (.call 62 [.ptr 0 0 0,.t (.sl 3 (ins.map zr))] [.one 10 (stepV c r f 0 (.all 1 none) (.fit 15 [])) false,.arr 9 (L.map zm) none false])
   ⟨.ret,[],[.one 10 (stepV c r f (steerS c r f ins ⟨L,0,[]⟩).made (.all 2 none) (.fit 15 [])) false,.arr 9 (X.map zm) none true,.arr 9 ((steerS c r f ins ⟨L,0,[]⟩).l.map zm) none false]⟩:=by
 have h:=AmN c r f ins hi0 hr hf L.length 0 L 0 (by omega) hL (by omega) fun j _ h2=>by
  obtain ⟨g1,g2⟩:=hP _ (Aa3 h2)
  exact ⟨g1,fun hk=>⟨g2 hk,_,Aa3 h2,rfl⟩⟩
 rw [List.drop_zero] at h
 change _∨ ∃X,_ at h
 unfold steerS
 simp only
 generalize L.foldl (steer1 c r f ins) ⟨L,0,[]⟩=S at*
 obtain ⟨A,made,o⟩:=S
 simp only at h⊢
 rcases h with h|⟨X,h⟩
 ·left
  refine qq ?_
  refine gg [.n (zq (zz zm L)) (zq L),.a _ _] ⟨o_n (by simp),o_a h,trivial⟩ ?_
  exact ge
 ·right
  refine ⟨X,?_⟩
  refine qq ?_
  refine gg [.n (zq (zz zm L)) (zq L),.a _ _] ⟨o_n (by simp),o_a h,trivial⟩ ?_
  exact ge
theorem Amg {c:Config} {e:Entity} {l:List Entity}:moveL c (e::l)=(if (goE c e).2=true then [(goE c e).1] else [])++moveL c l:=by
 unfold moveL
 rw [List.filter_cons]
 split<;>simp
theorem AkV (c:Config) (r f made:Int) (L:List Entity) (hn:small L) (ha: ∀e∈L,-1000000≤e.age∧e.age≤1000000): ∀(d i:Nat) (A:List Entity),i+d=L.length→A.length≤i→
  Is cx (.loop 63 [0,1,0,1] 2 [.ptr 0 0 0,.all 2 none,.all 1 none,vi L.length,vi i] [.one 10 (stepV c r f made (.all 1 none) (.fit 15 [])) false,.arr 9 (L.map zm) none false,.arr 9 (A.map zm) none false])
   ⟨.exit 0,[.ptr 0 0 0,.all 2 none,.all 1 none,vi L.length,vi L.length],[.one 10 (stepV c r f made (.all 1 none) (.fit 15 [])) false,.arr 9 (L.map zm) none false,.arr 9 ((A++moveL c (L.drop i)).map zm) none false]⟩:=by
 unfold small at hn
 intro d
 induction d with
 |zero=>
  intro i A hi hA
  rw [Aac (by omega)]
  refine qq ?_
  refine gg [.b (decide ((i:Int)<(↑(zq L):Int))) false] ⟨fP,trivial⟩ ?_
  refine rT (a:=qz (qx 0) [V.ptr 0 0 0,qy 2 none,qy 1 none,vi (↑(zq L):Int),vi (i:Int)] [qg 10 (V.agg [vi c.cols,vi c.rows,vi c.players,vi c.window,V.t (T.int zf c.seed),vi r,vi f,qy 1 none,vi made,V.fit 15 []]) false,qv 9 (zz zm L) none false,qv 9 (zz zm A) none false]) ?_
  ((have hq:i=L.length:=by omega);subst hq;simp [moveL])
 |succ d ih=>
  intro i A hi hA
  have hlt:i<L.length:=by omega
  have hG:=AkO c (gt L i) (ha _ (Aa3 hlt))
  have ih1:=ih (i+1) A (by omega) (by omega)
  have ih2:=ih (i+1) (A++ [(goE c (gt L i)).1]) (by omega) (by simp;omega)
  clear ih
  rw [Aae hlt,Amg]
  generalize goE c (gt L i)=eb at*
  obtain ⟨e,b⟩:=eb
  cases b with
  |true=>
   simp only [if_true]
   rw [←List.append_assoc]
   clear ih1
   refine qq ?_
   refine gg [.b (decide ((i:Int)<(↑(zq L):Int))) true,.w (0≤(i:Int)),.n (zy (i:Int)) i,.w (i<zq (zz zm L)),.g (zz zm L) i (zm (gt L i))] ⟨tP,oW,nK,o_w (by (simp [room,appendMax];omega)),o_gt rfl (by assumption) (by intro h;cases h),trivial⟩ ?_
   refine bO ?_ ?_
   all_goals
    refine gg [.a _ _,.tt,.w ((0:Nat)<(72:Nat)),.t (qk 0 [zm e]) (qk 0 (zz zm [e])),.t (qk 0 (zz zm A++zz zm [e])) (qk 0 (zz zm (A++ [e]))),.w (room (zq (zz zm (A++ [e]))) (72:Nat)),.i zd ((i:Int)+1) ((↑(i+1):Int)),.a _ _] ⟨o_a hG,oW,o_l (Aaf rfl Aap),o_l (Aam rfl rfl),o_w (by (simp [room,appendMax];omega)),o_i (w64 (by (simp [room,appendMax];omega))),o_a ih2,trivial⟩ ?_
    exact ge
  |false=>
   simp only [Bool.false_eq_true,if_false,List.nil_append]
   clear ih2
   refine qq ?_
   refine gg [.b (decide ((i:Int)<(↑(zq L):Int))) true,.w (0≤(i:Int)),.n (zy (i:Int)) i,.w (i<zq (zz zm L)),.g (zz zm L) i (zm (gt L i))] ⟨tP,oW,nK,o_w (by (simp;omega)),o_gt rfl (by assumption) (by intro h;cases h),trivial⟩ ?_
   refine bO ?_ ?_
   all_goals
    refine gg [.a _ _,.ff,.i zd ((i:Int)+1) ((↑(i+1):Int)),.a _ _] ⟨o_a hG,oI,o_a ih1,trivial⟩ ?_
    exact ge
theorem Aj7 (c:Config) (r f made:Int) (L:List Entity) (hn:small L) (ha: ∀e∈L,-1000000≤e.age∧e.age≤1000000):
  Is cx (.call 63 [.ptr 0 0 0] [.one 10 (stepV c r f made (.all 1 none) (.fit 15 [])) false,.arr 9 (L.map zm) none false])
   ⟨.ret,[],[.one 10 (stepV c r f made (.all 2 none) (.fit 15 [])) false,.arr 9 (L.map zm) none false,.arr 9 ((moveL c L).map zm) none false]⟩:=by
 have h:=AkV c r f made L hn ha L.length 0 [] (by omega) (by simp)
 rw [List.drop_zero,List.nil_append] at h
 generalize moveL c L=X at*
 refine qq ?_
 refine gg [.n (zq (zz zm L)) (zq L),.a _ _] ⟨o_n (by simp),o_a h,trivial⟩ ?_
 exact ge
end Go.Eva.S4
namespace Go.Eva.S4
def blastAt (r f q:Int) (e:Entity):Cross:=⟨2,r,q,f,Entity.zero,e.x,e.y⟩
theorem Afo (c:Config) (r f made:Int) (A:List Entity) (k:Nat) (id:Int) (ids near:List Int) (i:Nat) (hk:k<A.length) (hA:A.length≤1000) (hids:ids.length≤1000) (hn:near.length≤9): ∀(d j:Nat) (o:List Cross),j+d=near.length→o.length≤50000+j→
  Is cx (.loop 67 [0,1,0,1,1,0,0,1,1,0,0,1] 2 [.ptr 0 0 0,vi id,.ptr 1 k 0,.all 2 none,vi ids.length,vi i,.t (.sl 1 (near.map ti)),vi near.length,vi j] [.one 10 (stepV c r f made (.all 1 none) (.all 3 none)) false,.arr 9 (A.map zm) none false,.arr 1 (ids.map ti) none false,.arr 15 (o.map zn) none false])
   ⟨.exit 2,[.ptr 0 0 0,vi id,.ptr 1 k 0,.all 2 none,vi ids.length,vi i,.t (.sl 1 (near.map ti)),vi near.length,vi near.length],[.one 10 (stepV c r f made (.all 1 none) (.all 3 none)) false,.arr 9 (A.map zm) none false,.arr 1 (ids.map ti) none false,.arr 15 ((o++(near.drop j).map fun q=>blastAt r f q (gt A k)).map zn) none false]⟩:=by
 intro d
 induction d with
 |zero=>
  intro j o hj ho
  rw [Aac (by omega)]
  refine qq ?_
  refine gg [.b (decide ((j:Int)<(↑(zq near):Int))) false] ⟨fP,trivial⟩ ?_
  refine rT (a:=qz (qx 2) [V.ptr 0 0 0,vi id,V.ptr 1 k 0,qy 2 none,vi (↑(zq ids):Int),vi (i:Int),V.t (qk 1 (zz ti near)),vi (↑(zq near):Int),vi (j:Int)] [qg 10 (V.agg [vi c.cols,vi c.rows,vi c.players,vi c.window,V.t (T.int zf c.seed),vi r,vi f,qy 1 none,vi made,qy 3 none]) false,qv 9 (zz zm A) none false,qv 1 (zz ti ids) none false,qv 15 (zz zn o) none false]) ?_
  ((have hq:j=near.length:=by omega);subst hq;simp)
 |succ d ih=>
  intro j o hj ho
  have hlt:j<near.length:=by omega
  have ih1:=ih (j+1) (o++ [blastAt r f (gt near j) (gt A k)]) (by omega) (by simp;omega)
  clear ih
  rw [Aae hlt,List.map_cons,List.append_cons]
  have hs:=Abf c r f made A o ⟨2,0,gt near j,0,Entity.zero,(gt A k).x,(gt A k).y⟩ (by omega)
  unfold blastAt at ih1⊢
  unfold Entity.zero at*
  refine qq ?_
  refine gg [.b (decide ((j:Int)<(↑(zq near):Int))) true,.w (0≤(j:Int)),.n (zy (j:Int)) j,.g (zz ti near) j (ti (gt near j)),.g (zz zm A) k (zm (gt A k)),.g (zz zm A) k (zm (gt A k)),.a _ _,.i zd ((j:Int)+1) ((↑(j+1):Int)),.a _ _] ⟨tP,oW,nK,o_gt rfl (by assumption) (by intro h;cases h),o_gt rfl (by assumption) (by intro h;cases h),o_gt rfl (by assumption) (by intro h;cases h),o_a hs,oI,o_a ih1,trivial⟩ ?_
  exact ge
theorem Ai5 (c:Config) (r f made:Int) (A:List Entity) (k:Nat) (id:Int) (ids near:List Int) (i:Nat) (hk:k<A.length) (hA:A.length≤1000) (hids:ids.length≤1000) (hn:near.length≤9) (h0:0<near.length):
  Is cx (.loop 67 [0,1,0,1,1,0,0,1,1,0,0,1] 2 [.ptr 0 0 0,vi id,.ptr 1 k 0,.all 2 none,vi ids.length,vi i,.t (.sl 1 (near.map ti)),vi near.length,vi 0] [.one 10 (stepV c r f made (.all 1 none) (.fit 15 [])) false,.arr 9 (A.map zm) none false,.arr 1 (ids.map ti) none false])
   ⟨.exit 2,[.ptr 0 0 0,vi id,.ptr 1 k 0,.all 2 none,vi ids.length,vi i,.t (.sl 1 (near.map ti)),vi near.length,vi near.length],[.one 10 (stepV c r f made (.all 1 none) (.all 3 none)) false,.arr 9 (A.map zm) none false,.arr 1 (ids.map ti) none false,.arr 15 ((near.map fun q=>blastAt r f q (gt A k)).map zn) none false]⟩:=by
 have hs:=Aeq c r f made A ⟨2,0,gt near 0,0,Entity.zero,(gt A k).x,(gt A k).y⟩
 have ih1:=Afo c r f made A k id ids near i hk hA hids hn (near.length-1) 1 [blastAt r f (gt near 0) (gt A k)] (by omega) (by simp)
 have e:near.map (fun q=>blastAt r f q (gt A k))= [blastAt r f (gt near 0) (gt A k)]++(near.drop 1).map fun q=>blastAt r f q (gt A k):=by
  have:=Aae h0
  rw [List.drop_zero] at this
  conv=>lhs;rw [this,List.map_cons]
  rfl
 rw [e]
 unfold blastAt at ih1⊢
 unfold Entity.zero at*
 refine qq ?_
 refine gg [.b (decide (0<(↑(zq near):Int))) true,.w (0≤(0:Int)),.l 0,.g (zz ti near) 0 (ti (gt near 0)),.g (zz zm A) k (zm (gt A k)),.g (zz zm A) k (zm (gt A k)),.a _ _,.i zd 1 1,.a _ _] ⟨tP,oW,o_gt rfl (by assumption) (by intro h;cases h),o_gt rfl (by assumption) (by intro h;cases h),o_gt rfl (by assumption) (by intro h;cases h),o_a hs,oK,o_a ih1,trivial⟩ ?_
 exact ge
theorem Ai4 (c:Config) (r f made:Int) (ids:List Int) (hids:ids.length≤1000): ∀(d i:Nat) (A:List Entity) (o:List Cross),i+d=ids.length→A.length≤1000→o.length≤9*i+9→(∀id∈ids.drop i,∃x∈A,x.id=id)→
  Is cx (.loop 67 [0,1] 2 [.ptr 0 0 0,.all 2 none,vi ids.length,vi i] [.one 10 (stepV c r f made (.all 1 none) (.all 3 none)) false,.arr 9 (A.map zm) none false,.arr 1 (ids.map ti) none false,.arr 15 (o.map zn) none false])
   ⟨.exit 0,[.ptr 0 0 0,.all 2 none,vi ids.length,vi ids.length],[.one 10 (stepV c r f made (.all 1 none) (.all 3 none)) false,.arr 9 (((ids.drop i).foldl (fall1 c r f) ⟨A,made,o⟩).l.map zm) none false,.arr 1 (ids.map ti) none false,.arr 15 (((ids.drop i).foldl (fall1 c r f) ⟨A,made,o⟩).out.map zn) none false]⟩:=by
 intro d
 induction d with
 |zero=>
  intro i A o hi hA ho hP
  rw [Aac (by omega),List.foldl_nil]
  refine qq ?_
  refine gg [.b (decide ((i:Int)<(↑(zq ids):Int))) false] ⟨fP,trivial⟩ ?_
  refine rT (a:=qz (qx 0) [V.ptr 0 0 0,qy 2 none,vi (↑(zq ids):Int),vi (i:Int)] [qg 10 (V.agg [vi c.cols,vi c.rows,vi c.players,vi c.window,V.t (T.int zf c.seed),vi r,vi f,qy 1 none,vi made,qy 3 none]) false,qv 9 (zz zm A) none false,qv 1 (zz ti ids) none false,qv 15 (zz zn o) none false]) ?_
  ((have hq:i=ids.length:=by omega);subst hq;rfl)
 |succ d ih=>
  intro i A o hi hA ho hP
  have hlt:i<ids.length:=by omega
  have hd:=Aae hlt
  have hx:=hP (gt ids i) (by rw [hd];exact List.mem_cons_self ..)
  obtain ⟨k,hk1,hk2,_⟩:=AbX hx
  have hns:= @Aa0 c r
  have hlenb:(o++blastsAt c r f (gt A k)).length≤9*(i+1)+9:=by simp [blastsAt];omega
  have ih1:=ih (i+1) (A.set k (anewE c r f (gt ids i) (gt A k))) (o++blastsAt c r f (gt A k)) (by omega) (by simpa using hA) hlenb fun id hid=>by
   have:=hP id (by rw [hd];exact List.mem_cons_of_mem _ hid)
   exact Ajx (Adg (e:=anewE c r f (gt ids i) (gt A k)) hk2 rfl).symm this
  rw [hd,List.foldl_cons]
  have e1:fall1 c r f ⟨A,made,o⟩ (gt ids i)=⟨A.set k (anewE c r f (gt ids i) (gt A k)),made,o++blastsAt c r f (gt A k)⟩:=by simp [fall1,hk1]
  rw [e1]
  have hF:=Aa2 A (gt ids i) (by unfold small;omega)
  rw [hk1] at hF
  have hN:=AbY c r
  have hB:=Afo c r f made A k (gt ids i) ids (c.near r) i hk2 hA hids hns (c.near r).length 0 o (by omega) (by omega)
  rw [List.drop_zero] at hB
  change Is cx _ ⟨_,_,[_,_,_,.arr 15 ((o++blastsAt c r f (gt A k)).map zn) none false]⟩ at hB
  generalize blastsAt c r f (gt A k)=bl at*
  have hpl:=Abz c r f 1 2 (gt ids i) ⟨A.set k {gt A k with health:=100,vx:=0,vy:=0,age:=0},made,o++bl⟩
  clear ih hP e1 hx hk1 hd hlenb
  unfold anewE at ih1⊢
  refine qq ?_
  refine gg [.b (decide ((i:Int)<(↑(zq ids):Int))) true,.w (0≤(i:Int)),.n (zy (i:Int)) i,.w (i<zq (zz ti ids)),.g (zz ti ids) i (ti (gt ids i)),.a _ _,.b (flats [ti (k:Int)]) true,.w (0≤(k:Int)),.n (zy (k:Int)) k,.w (k<zq (zz zm A)),.a _ _,.n (zq (zz ti (z6 c r))) (zq (z6 c r)),.a _ _,.g (zz zm A) k (zm (gt A k)),.t (qk 0 (zx (zz zm A) k (T.agg [ti (gt A k).id,ti (gt A k).kind,ti (gt A k).x,ti (gt A k).y,ti (gt A k).vx,ti (gt A k).vy,ti 100,ti (gt A k).age,ti (gt A k).owner]))) (qk 0 (zz zm (zx A k (qw (gt A k).id (gt A k).kind (gt A k).x (gt A k).y (gt A k).vx (gt A k).vy 100 (gt A k).age (gt A k).owner)))),.g (zz zm (zx A k (qw (gt A k).id (gt A k).kind (gt A k).x (gt A k).y (gt A k).vx (gt A k).vy 100 (gt A k).age (gt A k).owner))) k (zm (qw (gt A k).id (gt A k).kind (gt A k).x (gt A k).y (gt A k).vx (gt A k).vy 100 (gt A k).age (gt A k).owner))] ⟨tP,oW,nK,o_w (by (simp;omega)),o_gt rfl (by assumption) (by intro h;cases h),o_a hF,bK,oW,nK,o_w (by (simp;omega)),o_a hN,o_n (by simp),o_a hB,o_gt rfl (by assumption) (by intro h;cases h),o_l (Aal (e:=qw (gt A k).id (gt A k).kind (gt A k).x (gt A k).y (gt A k).vx (gt A k).vy 100 (gt A k).age (gt A k).owner) rfl rfl),o_gm rfl (AaV (by omega)) (by intro h;cases h),trivial⟩ ?_
  refine gg [.t (qk 0 (zx (zz zm (zx A k (qw (gt A k).id (gt A k).kind (gt A k).x (gt A k).y (gt A k).vx (gt A k).vy 100 (gt A k).age (gt A k).owner))) k (T.agg [ti (gt A k).id,ti (gt A k).kind,ti (gt A k).x,ti (gt A k).y,ti 0,ti (gt A k).vy,ti 100,ti (gt A k).age,ti (gt A k).owner]))) (qk 0 (zz zm (zx A k (qw (gt A k).id (gt A k).kind (gt A k).x (gt A k).y 0 (gt A k).vy 100 (gt A k).age (gt A k).owner)))),.g (zz zm (zx A k (qw (gt A k).id (gt A k).kind (gt A k).x (gt A k).y 0 (gt A k).vy 100 (gt A k).age (gt A k).owner))) k (zm (qw (gt A k).id (gt A k).kind (gt A k).x (gt A k).y 0 (gt A k).vy 100 (gt A k).age (gt A k).owner)),.t (qk 0 (zx (zz zm (zx A k (qw (gt A k).id (gt A k).kind (gt A k).x (gt A k).y 0 (gt A k).vy 100 (gt A k).age (gt A k).owner))) k (T.agg [ti (gt A k).id,ti (gt A k).kind,ti (gt A k).x,ti (gt A k).y,ti 0,ti 0,ti 100,ti (gt A k).age,ti (gt A k).owner]))) (qk 0 (zz zm (zx A k (qw (gt A k).id (gt A k).kind (gt A k).x (gt A k).y 0 0 100 (gt A k).age (gt A k).owner)))),.g (zz zm (zx A k (qw (gt A k).id (gt A k).kind (gt A k).x (gt A k).y 0 0 100 (gt A k).age (gt A k).owner))) k (zm (qw (gt A k).id (gt A k).kind (gt A k).x (gt A k).y 0 0 100 (gt A k).age (gt A k).owner)),.t (qk 0 (zx (zz zm (zx A k (qw (gt A k).id (gt A k).kind (gt A k).x (gt A k).y 0 0 100 (gt A k).age (gt A k).owner))) k (T.agg [ti (gt A k).id,ti (gt A k).kind,ti (gt A k).x,ti (gt A k).y,ti 0,ti 0,ti 100,ti 0,ti (gt A k).owner]))) (qk 0 (zz zm (zx A k (qw (gt A k).id (gt A k).kind (gt A k).x (gt A k).y 0 0 100 0 (gt A k).owner)))),.a _ _,.b (flats [ti (placeX c r f 1 (gt ids i)),ti (placeY c r f 2 (gt ids i))]) true,.g (zz zm (zx A k (qw (gt A k).id (gt A k).kind (gt A k).x (gt A k).y 0 0 100 0 (gt A k).owner))) k (zm (qw (gt A k).id (gt A k).kind (gt A k).x (gt A k).y 0 0 100 0 (gt A k).owner)),.t (qk 0 (zx (zz zm (zx A k (qw (gt A k).id (gt A k).kind (gt A k).x (gt A k).y 0 0 100 0 (gt A k).owner))) k (T.agg [ti (gt A k).id,ti (gt A k).kind,ti (placeX c r f 1 (gt ids i)),ti (gt A k).y,ti 0,ti 0,ti 100,ti 0,ti (gt A k).owner]))) (qk 0 (zz zm (zx A k (qw (gt A k).id (gt A k).kind (placeX c r f 1 (gt ids i)) (gt A k).y 0 0 100 0 (gt A k).owner)))),.g (zz zm (zx A k (qw (gt A k).id (gt A k).kind (placeX c r f 1 (gt ids i)) (gt A k).y 0 0 100 0 (gt A k).owner))) k (zm (qw (gt A k).id (gt A k).kind (placeX c r f 1 (gt ids i)) (gt A k).y 0 0 100 0 (gt A k).owner))] ⟨o_l (nm_eq (Aal (e:=qw (gt A k).id (gt A k).kind (gt A k).x (gt A k).y 0 (gt A k).vy 100 (gt A k).age (gt A k).owner) rfl rfl) (by simp)),o_gm rfl (AaV (by omega)) (by intro h;cases h),o_l (nm_eq (Aal (e:=qw (gt A k).id (gt A k).kind (gt A k).x (gt A k).y 0 0 100 (gt A k).age (gt A k).owner) rfl rfl) (by simp)),o_gm rfl (AaV (by omega)) (by intro h;cases h),o_l (nm_eq (Aal (e:=qw (gt A k).id (gt A k).kind (gt A k).x (gt A k).y 0 0 100 0 (gt A k).owner) rfl rfl) (by simp)),o_a hpl,bK,o_gm rfl (AaV (by omega)) (by intro h;cases h),o_l (nm_eq (Aal (e:=qw (gt A k).id (gt A k).kind (placeX c r f 1 (gt ids i)) (gt A k).y 0 0 100 0 (gt A k).owner) rfl rfl) (by simp)),o_gm rfl (AaV (by omega)) (by intro h;cases h),trivial⟩ ?_
  refine gg [.t (qk 0 (zx (zz zm (zx A k (qw (gt A k).id (gt A k).kind (placeX c r f 1 (gt ids i)) (gt A k).y 0 0 100 0 (gt A k).owner))) k (T.agg [ti (gt A k).id,ti (gt A k).kind,ti (placeX c r f 1 (gt ids i)),ti (placeY c r f 2 (gt ids i)),ti 0,ti 0,ti 100,ti 0,ti (gt A k).owner]))) (qk 0 (zz zm (zx A k (qw (gt A k).id (gt A k).kind (placeX c r f 1 (gt ids i)) (placeY c r f 2 (gt ids i)) 0 0 100 0 (gt A k).owner)))),.i zd ((i:Int)+1) ((↑(i+1):Int)),.a _ _] ⟨o_l (nm_eq (Aal (e:=qw (gt A k).id (gt A k).kind (placeX c r f 1 (gt ids i)) (placeY c r f 2 (gt ids i)) 0 0 100 0 (gt A k).owner) rfl rfl) (by simp)),oI,o_a ih1,trivial⟩ ?_
  exact ge
theorem Ai9 (c:Config) (r f made:Int) (ids:List Int) (hids:ids.length≤1000) (A:List Entity) (hA:A.length≤1000) (h0:0<ids.length) (hnr:0<(c.near r).length) (hP: ∀id∈ids,∃x∈A,x.id=id):
  Is cx (.loop 67 [0,1] 2 [.ptr 0 0 0,.all 2 none,vi ids.length,vi 0] [.one 10 (stepV c r f made (.all 1 none) (.fit 15 [])) false,.arr 9 (A.map zm) none false,.arr 1 (ids.map ti) none false])
   ⟨.exit 0,[.ptr 0 0 0,.all 2 none,vi ids.length,vi ids.length],[.one 10 (stepV c r f made (.all 1 none) (.all 3 none)) false,.arr 9 ((ids.foldl (fall1 c r f) ⟨A,made,[]⟩).l.map zm) none false,.arr 1 (ids.map ti) none false,.arr 15 ((ids.foldl (fall1 c r f) ⟨A,made,[]⟩).out.map zn) none false]⟩:=by
 have hd:=Aae h0
 rw [List.drop_zero] at hd
 have hx:=hP (gt ids 0) (Aa3 h0)
 obtain ⟨k,hk1,hk2,_⟩:=AbX hx
 have hns:= @Aa0 c r
 have hlenb:(blastsAt c r f (gt A k)).length≤9*1+9:=by simp [blastsAt];omega
 have ih1:=Ai4 c r f made ids hids (ids.length-1) 1 (A.set k (anewE c r f (gt ids 0) (gt A k))) (blastsAt c r f (gt A k)) (by omega) (by simpa using hA) hlenb fun id hid=>by
  have:=hP id (by rw [hd];exact List.mem_cons_of_mem _ hid)
  exact Ajx (Adg (e:=anewE c r f (gt ids 0) (gt A k)) hk2 rfl).symm this
 have e0:ids.foldl (fall1 c r f) ⟨A,made,[]⟩=(ids.drop 1).foldl (fall1 c r f) (fall1 c r f ⟨A,made,[]⟩ (gt ids 0)):=by
  conv=>lhs;rw [hd]
  rfl
 rw [e0]
 have e1:fall1 c r f ⟨A,made,[]⟩ (gt ids 0)=⟨A.set k (anewE c r f (gt ids 0) (gt A k)),made,blastsAt c r f (gt A k)⟩:=by simp [fall1,hk1]
 rw [e1]
 have hF:=Aa2 A (gt ids 0) (by unfold small;omega)
 rw [hk1] at hF
 have hN:=AbY c r
 have hB:=Ai5 c r f made A k (gt ids 0) ids (c.near r) 0 hk2 hA hids hns hnr
 change Is cx _ ⟨_,_,[_,_,_,.arr 15 ((blastsAt c r f (gt A k)).map zn) none false]⟩ at hB
 generalize blastsAt c r f (gt A k)=bl at*
 have hpl:=Abz c r f 1 2 (gt ids 0) ⟨A.set k {gt A k with health:=100,vx:=0,vy:=0,age:=0},made,bl⟩
 clear hP e1 hx hk1 hd hlenb e0
 unfold anewE at ih1⊢
 refine qq ?_
 refine gg [.b (decide (0<(↑(zq ids):Int))) true,.w (0≤(0:Int)),.l 0,.w ((0:Nat)<zq (zz ti ids)),.g (zz ti ids) 0 (ti (gt ids 0)),.a _ _,.b (flats [ti (k:Int)]) true,.w (0≤(k:Int)),.n (zy (k:Int)) k,.w (k<zq (zz zm A)),.a _ _,.n (zq (zz ti (z6 c r))) (zq (z6 c r)),.a _ _,.g (zz zm A) k (zm (gt A k)),.t (qk 0 (zx (zz zm A) k (T.agg [ti (gt A k).id,ti (gt A k).kind,ti (gt A k).x,ti (gt A k).y,ti (gt A k).vx,ti (gt A k).vy,ti 100,ti (gt A k).age,ti (gt A k).owner]))) (qk 0 (zz zm (zx A k (qw (gt A k).id (gt A k).kind (gt A k).x (gt A k).y (gt A k).vx (gt A k).vy 100 (gt A k).age (gt A k).owner)))),.g (zz zm (zx A k (qw (gt A k).id (gt A k).kind (gt A k).x (gt A k).y (gt A k).vx (gt A k).vy 100 (gt A k).age (gt A k).owner))) k (zm (qw (gt A k).id (gt A k).kind (gt A k).x (gt A k).y (gt A k).vx (gt A k).vy 100 (gt A k).age (gt A k).owner))] ⟨tP,oW,o_w (by (simp;omega)),o_gt rfl (by assumption) (by intro h;cases h),o_a hF,bK,oW,nK,o_w (by (simp;omega)),o_a hN,o_n (by simp),o_a hB,o_gt rfl (by assumption) (by intro h;cases h),o_l (Aal (e:=qw (gt A k).id (gt A k).kind (gt A k).x (gt A k).y (gt A k).vx (gt A k).vy 100 (gt A k).age (gt A k).owner) rfl rfl),o_gm rfl (AaV (by omega)) (by intro h;cases h),trivial⟩ ?_
 refine gg [.t (qk 0 (zx (zz zm (zx A k (qw (gt A k).id (gt A k).kind (gt A k).x (gt A k).y (gt A k).vx (gt A k).vy 100 (gt A k).age (gt A k).owner))) k (T.agg [ti (gt A k).id,ti (gt A k).kind,ti (gt A k).x,ti (gt A k).y,ti 0,ti (gt A k).vy,ti 100,ti (gt A k).age,ti (gt A k).owner]))) (qk 0 (zz zm (zx A k (qw (gt A k).id (gt A k).kind (gt A k).x (gt A k).y 0 (gt A k).vy 100 (gt A k).age (gt A k).owner)))),.g (zz zm (zx A k (qw (gt A k).id (gt A k).kind (gt A k).x (gt A k).y 0 (gt A k).vy 100 (gt A k).age (gt A k).owner))) k (zm (qw (gt A k).id (gt A k).kind (gt A k).x (gt A k).y 0 (gt A k).vy 100 (gt A k).age (gt A k).owner)),.t (qk 0 (zx (zz zm (zx A k (qw (gt A k).id (gt A k).kind (gt A k).x (gt A k).y 0 (gt A k).vy 100 (gt A k).age (gt A k).owner))) k (T.agg [ti (gt A k).id,ti (gt A k).kind,ti (gt A k).x,ti (gt A k).y,ti 0,ti 0,ti 100,ti (gt A k).age,ti (gt A k).owner]))) (qk 0 (zz zm (zx A k (qw (gt A k).id (gt A k).kind (gt A k).x (gt A k).y 0 0 100 (gt A k).age (gt A k).owner)))),.g (zz zm (zx A k (qw (gt A k).id (gt A k).kind (gt A k).x (gt A k).y 0 0 100 (gt A k).age (gt A k).owner))) k (zm (qw (gt A k).id (gt A k).kind (gt A k).x (gt A k).y 0 0 100 (gt A k).age (gt A k).owner)),.t (qk 0 (zx (zz zm (zx A k (qw (gt A k).id (gt A k).kind (gt A k).x (gt A k).y 0 0 100 (gt A k).age (gt A k).owner))) k (T.agg [ti (gt A k).id,ti (gt A k).kind,ti (gt A k).x,ti (gt A k).y,ti 0,ti 0,ti 100,ti 0,ti (gt A k).owner]))) (qk 0 (zz zm (zx A k (qw (gt A k).id (gt A k).kind (gt A k).x (gt A k).y 0 0 100 0 (gt A k).owner)))),.a _ _,.b (flats [ti (placeX c r f 1 (gt ids 0)),ti (placeY c r f 2 (gt ids 0))]) true,.g (zz zm (zx A k (qw (gt A k).id (gt A k).kind (gt A k).x (gt A k).y 0 0 100 0 (gt A k).owner))) k (zm (qw (gt A k).id (gt A k).kind (gt A k).x (gt A k).y 0 0 100 0 (gt A k).owner)),.t (qk 0 (zx (zz zm (zx A k (qw (gt A k).id (gt A k).kind (gt A k).x (gt A k).y 0 0 100 0 (gt A k).owner))) k (T.agg [ti (gt A k).id,ti (gt A k).kind,ti (placeX c r f 1 (gt ids 0)),ti (gt A k).y,ti 0,ti 0,ti 100,ti 0,ti (gt A k).owner]))) (qk 0 (zz zm (zx A k (qw (gt A k).id (gt A k).kind (placeX c r f 1 (gt ids 0)) (gt A k).y 0 0 100 0 (gt A k).owner)))),.g (zz zm (zx A k (qw (gt A k).id (gt A k).kind (placeX c r f 1 (gt ids 0)) (gt A k).y 0 0 100 0 (gt A k).owner))) k (zm (qw (gt A k).id (gt A k).kind (placeX c r f 1 (gt ids 0)) (gt A k).y 0 0 100 0 (gt A k).owner))] ⟨o_l (nm_eq (Aal (e:=qw (gt A k).id (gt A k).kind (gt A k).x (gt A k).y 0 (gt A k).vy 100 (gt A k).age (gt A k).owner) rfl rfl) (by simp)),o_gm rfl (AaV (by omega)) (by intro h;cases h),o_l (nm_eq (Aal (e:=qw (gt A k).id (gt A k).kind (gt A k).x (gt A k).y 0 0 100 (gt A k).age (gt A k).owner) rfl rfl) (by simp)),o_gm rfl (AaV (by omega)) (by intro h;cases h),o_l (nm_eq (Aal (e:=qw (gt A k).id (gt A k).kind (gt A k).x (gt A k).y 0 0 100 0 (gt A k).owner) rfl rfl) (by simp)),o_a hpl,bK,o_gm rfl (AaV (by omega)) (by intro h;cases h),o_l (nm_eq (Aal (e:=qw (gt A k).id (gt A k).kind (placeX c r f 1 (gt ids 0)) (gt A k).y 0 0 100 0 (gt A k).owner) rfl rfl) (by simp)),o_gm rfl (AaV (by omega)) (by intro h;cases h),trivial⟩ ?_
 refine gg [.t (qk 0 (zx (zz zm (zx A k (qw (gt A k).id (gt A k).kind (placeX c r f 1 (gt ids 0)) (gt A k).y 0 0 100 0 (gt A k).owner))) k (T.agg [ti (gt A k).id,ti (gt A k).kind,ti (placeX c r f 1 (gt ids 0)),ti (placeY c r f 2 (gt ids 0)),ti 0,ti 0,ti 100,ti 0,ti (gt A k).owner]))) (qk 0 (zz zm (zx A k (qw (gt A k).id (gt A k).kind (placeX c r f 1 (gt ids 0)) (placeY c r f 2 (gt ids 0)) 0 0 100 0 (gt A k).owner)))),.i zd 1 1,.a _ _] ⟨o_l (nm_eq (Aal (e:=qw (gt A k).id (gt A k).kind (placeX c r f 1 (gt ids 0)) (placeY c r f 2 (gt ids 0)) 0 0 100 0 (gt A k).owner) rfl rfl) (by simp)),oK,o_a ih1,trivial⟩ ?_
 exact ge
theorem Amy {L:List Entity}: ∀id∈fallenL L,∃x∈L,x.id=id:=by
 intro id h
 obtain ⟨x,h1,h2⟩:=List.mem_map.1 h
 exact ⟨x,(List.mem_filter.1 h1).1,h2⟩
theorem AiR {L:List Entity}:(fallenL L).length≤L.length:=by
 unfold fallenL;rw [List.length_map];exact List.length_filter_le ..
theorem AhC (c:Config) (r f made:Int) (L:List Entity) (hL:L.length≤1000) (h:fallenL L= []):
  Is cx (.call 67 [.ptr 0 0 0] [.one 10 (stepV c r f made (.all 1 none) (.fit 15 [])) false,.arr 9 (L.map zm) none false])
   ⟨.ret,[],[.one 10 (stepV c r f made (.all 1 none) (.fit 15 [])) false,.arr 9 (L.map zm) none false]⟩:=by
 have hF:=Ad8 L (by unfold small;omega)
 rw [h] at hF
 have hl:Is cx (.loop 67 [0,1] 2 [.ptr 0 0 0,.all 2 none,vi 0,vi 0] [.one 10 (stepV c r f made (.all 1 none) (.fit 15 [])) false,.arr 9 (L.map zm) none false,.arr 1 [] none false])
   ⟨.exit 0,[.ptr 0 0 0,.all 2 none,vi 0,vi 0],[.one 10 (stepV c r f made (.all 1 none) (.fit 15 [])) false,.arr 9 (L.map zm) none false,.arr 1 [] none false]⟩:=by
  refine qq ?_
  refine gg [.b (decide (0<0)) false] ⟨bK,trivial⟩ ?_
  exact ge
 refine qq ?_
 refine gg [.a _ _,.l 0,.a _ _] ⟨o_a hF,o_a hl,trivial⟩ ?_
 exact ge
theorem AhV (c:Config) (r f made:Int) (L:List Entity) (hL:L.length≤1000) (hnr:0<(c.near r).length) (h:fallenL L≠ []):
  Is cx (.call 67 [.ptr 0 0 0] [.one 10 (stepV c r f made (.all 1 none) (.fit 15 [])) false,.arr 9 (L.map zm) none false])
   ⟨.ret,[],[.one 10 (stepV c r f made (.all 1 none) (.all 2 none)) false,.arr 9 ((fallS c r f ⟨L,made,[]⟩).l.map zm) none false,.arr 15 ((fallS c r f ⟨L,made,[]⟩).out.map zn) none false]⟩:=by
 have hF:=Ad8 L (by unfold small;omega)
 have hlen:= @AiR L
 have hP:= @Amy L
 unfold fallS
 simp only
 have h0:0<(fallenL L).length:=List.length_pos_iff.2 h
 generalize fallenL L=ids at*
 have hl:=Ai9 c r f made ids (by omega) L hL h0 hnr hP
 clear hP h
 generalize ids.foldl (fall1 c r f) ⟨L,made,[]⟩=S at*
 obtain ⟨A,m2,o⟩:=S
 simp only at hl⊢
 refine qq ?_
 refine gg [.a _ _,.n (zq (zz ti ids)) (zq ids),.a _ _] ⟨o_a hF,o_n (by simp),o_a hl,trivial⟩ ?_
 exact ge
theorem Agf (c:Config) (r f made:Int) (L:List Entity) (o:List Cross) (hL:L.length≤1000): ∀(d i n:Nat),i+d=L.length→n≤i→
  Is cx (.loop 68 [0,1,0,1] 2 [.ptr 0 0 0,vi n,.all 1 none,vi L.length,vi i] [.one 10 (stepV c r f made (.all 1 none) (.fit 15 [])) false,.arr 9 (L.map zm) none false])
   ⟨.exit 0,[.ptr 0 0 0,vi (n+(L.drop i).countP fun e=>e.kind==3:Nat),.all 1 none,vi L.length,vi L.length],[.one 10 (stepV c r f made (.all 1 none) (.fit 15 [])) false,.arr 9 (L.map zm) none false]⟩:=by
 intro d
 induction d with
 |zero=>
  intro i n hi hm
  rw [Aac (by omega)]
  refine qq ?_
  refine gg [.b (decide ((i:Int)<(↑(zq L):Int))) false] ⟨fP,trivial⟩ ?_
  refine rT (a:=qz (qx 0) [V.ptr 0 0 0,vi (n:Int),qy 1 none,vi (↑(zq L):Int),vi (i:Int)] [qg 10 (V.agg [vi c.cols,vi c.rows,vi c.players,vi c.window,V.t (T.int zf c.seed),vi r,vi f,qy 1 none,vi made,V.fit 15 []]) false,qv 9 (zz zm L) none false]) ?_
  ((have hq:i=L.length:=by omega);subst hq;rfl)
 |succ d ih=>
  intro i n hi hm
  have hlt:i<L.length:=by omega
  have ih1:=ih (i+1) n (by omega) (by omega)
  have ih2:=ih (i+1) (n+1) (by omega) (by omega)
  clear ih
  rw [Ae2 _ hlt]
  refine qq ?_
  refine gg [.b (decide ((i:Int)<(↑(zq L):Int))) true,.w (0≤(i:Int)),.n (zy (i:Int)) i,.w (i<zq (zz zm L)),.g (zz zm L) i (zm (gt L i))] ⟨tP,oW,nK,o_w (by (simp;omega)),o_gt rfl (by assumption) (by intro h;cases h),trivial⟩ ?_
  refine bre (x:=(gt L i).kind) (y:=3) (by kernel_rfl) (fun h1=> ?_) (fun h1=> ?_)
  ·refine gg [.i zd ((n:Int)+1) ((↑(n+1):Int)),.i zd ((i:Int)+1) ((↑(i+1):Int)),.a _ _] ⟨oI,oI,o_a ih2,trivial⟩ ?_
   refine rT (a:=qz (qx 0) [V.ptr 0 0 0,vi (↑(n+1+List.countP (fun (e:Entity)↦e.kind==3) (zk (i+1) L)):Int),qy 1 none,vi (↑(zq L):Int),vi (↑(zq L):Int)] [qg 10 (V.agg [vi c.cols,vi c.rows,vi c.players,vi c.window,V.t (T.int zf c.seed),vi r,vi f,qy 1 none,vi made,V.fit 15 []]) false,qv 9 (zz zm L) none false]) ?_
   (simp_all;try omega)
  ·refine gg [.i zd ((i:Int)+1) ((↑(i+1):Int)),.a _ _] ⟨oI,o_a ih1,trivial⟩ ?_
   refine rT (a:=qz (qx 0) [V.ptr 0 0 0,vi (↑(n+List.countP (fun (e:Entity)↦e.kind==3) (zk (i+1) L)):Int),qy 1 none,vi (↑(zq L):Int),vi (↑(zq L):Int)] [qg 10 (V.agg [vi c.cols,vi c.rows,vi c.players,vi c.window,V.t (T.int zf c.seed),vi r,vi f,qy 1 none,vi made,V.fit 15 []]) false,qv 9 (zz zm L) none false]) ?_
   (simp_all;try omega)
theorem Aga (c:Config) (r f made:Int) (L:List Entity) (o:List Cross) (hL:L.length≤1000) (h:below 8 c.seed [3,f,r]≠0∨3≤(L.countP fun e=>e.kind==3)∨Stg.room ⟨L,made,[]⟩=false):
  Is cx (.call 68 [.ptr 0 0 0] [.one 10 (stepV c r f made (.all 1 none) (.fit 15 [])) false,.arr 9 (L.map zm) none false])
   ⟨.ret,[],[.one 10 (stepV c r f made (.all 1 none) (.fit 15 [])) false,.arr 9 (L.map zm) none false]⟩:=by
 have hl:=Agf c r f made L o hL L.length 0 0 (by omega) (by omega)
 rw [List.drop_zero,Nat.zero_add] at hl
 have hb:=AaG 8 c.seed [3,f,r] (by decide) (by simp [small])
 have hrm:=AaA c r f ⟨L,made,[]⟩ (by unfold small;simp only;omega)
 have hc:(L.countP fun e=>e.kind==3)≤L.length:=List.countP_le_length
 generalize (L.countP fun e=>e.kind==3)=n at*
 generalize below 8 c.seed [3,f,r]=b at*
 generalize Stg.room ⟨L,made,[]⟩=rm at*
 by_cases h1:b=0
 ·by_cases h2:3≤n
  ·refine qq ?_
   refine gg [.n (zq (zz zm L)) (zq L),.a _ _,.a _ _,.b (b !=0) false,.ff,.ff,.b (decide ((n:Int)≥3)) true,.tt,.tt,.tt,.tt] ⟨o_n (by simp),o_a hl,o_a hb,f_brn (by assumption),tP,trivial⟩ ?_
   exact ge
  ·have h3:rm=false:=by rcases h with h|h|h;exact absurd h1 h;exact absurd h h2;exact h
   subst h3
   refine qq ?_
   refine gg [.n (zq (zz zm L)) (zq L),.a _ _,.a _ _,.b (b !=0) false,.ff,.ff,.b (decide ((n:Int)≥3)) false,.ff,.a _ _,.b (flats [T.bool false]) true,.ff,.ff,.b (!false) true] ⟨o_n (by simp),o_a hl,o_a hb,f_brn (by assumption),fP,o_a hrm,bK,bK,trivial⟩ ?_
   exact ge
 ·refine qq ?_
  refine gg [.n (zq (zz zm L)) (zq L),.a _ _,.a _ _,.b (b !=0) true,.tt,.tt,.tt,.tt,.tt,.tt,.tt] ⟨o_n (by simp),o_a hl,o_a hb,t_brn (by assumption),trivial⟩ ?_
  exact ge
theorem Agq (c:Config) (r f made:Int) (L:List Entity) (o:List Cross) (hL:L.length≤1000): ∀(d i n:Nat),i+d=L.length→n≤i→
  Is cx (.loop 68 [0,1,0,1] 3 [.ptr 0 0 0,vi n,.all 1 none,vi L.length,vi i] [.one 10 (stepV c r f made (.all 1 none) (.all 2 none)) false,.arr 9 (L.map zm) none false,.arr 15 (o.map zn) none false])
   ⟨.exit 0,[.ptr 0 0 0,vi (n+(L.drop i).countP fun e=>e.kind==3:Nat),.all 1 none,vi L.length,vi L.length],[.one 10 (stepV c r f made (.all 1 none) (.all 2 none)) false,.arr 9 (L.map zm) none false,.arr 15 (o.map zn) none false]⟩:=by
 intro d
 induction d with
 |zero=>
  intro i n hi hm
  rw [Aac (by omega)]
  refine qq ?_
  refine gg [.b (decide ((i:Int)<(↑(zq L):Int))) false] ⟨fP,trivial⟩ ?_
  refine rT (a:=qz (qx 0) [V.ptr 0 0 0,vi (n:Int),qy 1 none,vi (↑(zq L):Int),vi (i:Int)] [qg 10 (V.agg [vi c.cols,vi c.rows,vi c.players,vi c.window,V.t (T.int zf c.seed),vi r,vi f,qy 1 none,vi made,qy 2 none]) false,qv 9 (zz zm L) none false,qv 15 (zz zn o) none false]) ?_
  ((have hq:i=L.length:=by omega);subst hq;rfl)
 |succ d ih=>
  intro i n hi hm
  have hlt:i<L.length:=by omega
  have ih1:=ih (i+1) n (by omega) (by omega)
  have ih2:=ih (i+1) (n+1) (by omega) (by omega)
  clear ih
  rw [Ae2 _ hlt]
  refine qq ?_
  refine gg [.b (decide ((i:Int)<(↑(zq L):Int))) true,.w (0≤(i:Int)),.n (zy (i:Int)) i,.w (i<zq (zz zm L)),.g (zz zm L) i (zm (gt L i))] ⟨tP,oW,nK,o_w (by (simp;omega)),o_gt rfl (by assumption) (by intro h;cases h),trivial⟩ ?_
  refine bre (x:=(gt L i).kind) (y:=3) (by kernel_rfl) (fun h1=> ?_) (fun h1=> ?_)
  ·refine gg [.i zd ((n:Int)+1) ((↑(n+1):Int)),.i zd ((i:Int)+1) ((↑(i+1):Int)),.a _ _] ⟨oI,oI,o_a ih2,trivial⟩ ?_
   refine rT (a:=qz (qx 0) [V.ptr 0 0 0,vi (↑(n+1+List.countP (fun (e:Entity)↦e.kind==3) (zk (i+1) L)):Int),qy 1 none,vi (↑(zq L):Int),vi (↑(zq L):Int)] [qg 10 (V.agg [vi c.cols,vi c.rows,vi c.players,vi c.window,V.t (T.int zf c.seed),vi r,vi f,qy 1 none,vi made,qy 2 none]) false,qv 9 (zz zm L) none false,qv 15 (zz zn o) none false]) ?_
   (simp_all;try omega)
  ·refine gg [.i zd ((i:Int)+1) ((↑(i+1):Int)),.a _ _] ⟨oI,o_a ih1,trivial⟩ ?_
   refine rT (a:=qz (qx 0) [V.ptr 0 0 0,vi (↑(n+List.countP (fun (e:Entity)↦e.kind==3) (zk (i+1) L)):Int),qy 1 none,vi (↑(zq L):Int),vi (↑(zq L):Int)] [qg 10 (V.agg [vi c.cols,vi c.rows,vi c.players,vi c.window,V.t (T.int zf c.seed),vi r,vi f,qy 1 none,vi made,qy 2 none]) false,qv 9 (zz zm L) none false,qv 15 (zz zn o) none false]) ?_
   (simp_all;try omega)
theorem AfY (c:Config) (r f made:Int) (L:List Entity) (o:List Cross) (hL:L.length≤1000) (h:below 8 c.seed [3,f,r]≠0∨3≤(L.countP fun e=>e.kind==3)∨Stg.room ⟨L,made,o⟩=false):
  Is cx (.call 68 [.ptr 0 0 0] [.one 10 (stepV c r f made (.all 1 none) (.all 2 none)) false,.arr 9 (L.map zm) none false,.arr 15 (o.map zn) none false])
   ⟨.ret,[],[.one 10 (stepV c r f made (.all 1 none) (.all 2 none)) false,.arr 9 (L.map zm) none false,.arr 15 (o.map zn) none false]⟩:=by
 have hl:=Agq c r f made L o hL L.length 0 0 (by omega) (by omega)
 rw [List.drop_zero,Nat.zero_add] at hl
 have hb:=AaG 8 c.seed [3,f,r] (by decide) (by simp [small])
 have hrm:=AaA c r f ⟨L,made,o⟩ (by unfold small;simp only;omega)
 have hc:(L.countP fun e=>e.kind==3)≤L.length:=List.countP_le_length
 generalize (L.countP fun e=>e.kind==3)=n at*
 generalize below 8 c.seed [3,f,r]=b at*
 generalize Stg.room ⟨L,made,o⟩=rm at*
 by_cases h1:b=0
 ·by_cases h2:3≤n
  ·refine qq ?_
   refine gg [.n (zq (zz zm L)) (zq L),.a _ _,.a _ _,.b (b !=0) false,.ff,.ff,.b (decide ((n:Int)≥3)) true,.tt,.tt,.tt,.tt] ⟨o_n (by simp),o_a hl,o_a hb,f_brn (by assumption),tP,trivial⟩ ?_
   exact ge
  ·have h3:rm=false:=by rcases h with h|h|h;exact absurd h1 h;exact absurd h h2;exact h
   subst h3
   refine qq ?_
   refine gg [.n (zq (zz zm L)) (zq L),.a _ _,.a _ _,.b (b !=0) false,.ff,.ff,.b (decide ((n:Int)≥3)) false,.ff,.a _ _,.b (flats [T.bool false]) true,.ff,.ff,.b (!false) true] ⟨o_n (by simp),o_a hl,o_a hb,f_brn (by assumption),fP,o_a hrm,bK,bK,trivial⟩ ?_
   exact ge
 ·refine qq ?_
  refine gg [.n (zq (zz zm L)) (zq L),.a _ _,.a _ _,.b (b !=0) true,.tt,.tt,.tt,.tt,.tt,.tt,.tt] ⟨o_n (by simp),o_a hl,o_a hb,t_brn (by assumption),trivial⟩ ?_
  exact ge
theorem Afv (c:Config) (r f made:Int) (L:List Entity) (hL:L.length≤1000) (hr:0≤r∧r≤16) (hf:0≤f∧f≤10000) (hm:0≤made∧made≤1000) (h: ¬(below 8 c.seed [3,f,r]≠0∨3≤(L.countP fun e=>e.kind==3)∨Stg.room ⟨L,made,[]⟩=false)):
  Is cx (.call 68 [.ptr 0 0 0] [.one 10 (stepV c r f made (.all 1 none) (.fit 15 [])) false,.arr 9 (L.map zm) none false])
   ⟨.ret,[],[.one 10 (stepV c r f (made+1) (.all 2 none) (.fit 15 [])) false,.arr 9 (L.map zm) none true,.arr 9 ((put1 L (gemE c r f made)).map zm) none false]⟩:=by
 have hl:=Agf c r f made L [] hL L.length 0 0 (by omega) (by omega)
 rw [List.drop_zero,Nat.zero_add] at hl
 have hb:=AaG 8 c.seed [3,f,r] (by decide) (by simp [small])
 have hrm:=AaA c r f ⟨L,made,[]⟩ (by unfold small;simp only;omega)
 have hc:(L.countP fun e=>e.kind==3)≤L.length:=List.countP_le_length
 have hpl:=Abz c r f 4 5 r ⟨L,made,[]⟩
 have hnum:=Abt c r f made L [] hr hf hm
 have hput:=Aba L [gemE c r f made] (by omega) (by simp)
 change Is cx _ ⟨_,_,[.arr 9 ((put1 L (gemE c r f made)).map zm) none false]⟩ at hput
 unfold gemE at*
 generalize (L.countP fun e=>e.kind==3)=n at*
 generalize below 8 c.seed [3,f,r]=b at*
 generalize Stg.room ⟨L,made,[]⟩=rm at*
 generalize numI c r f made=nn at*
 have h1:b=0:=by
  by_cases q:b=0
  ·exact q
  ·exact absurd (Or.inl q) h
 have h2: ¬3≤n:=fun q=>h (.inr (.inl q))
 have h3:rm=true:=by
  cases rm with
  |true=>rfl
  |false=>exact absurd (Or.inr (Or.inr rfl)) h
 subst h1 h3
 clear h
 refine qq ?_
 refine gg [.n (zq (zz zm L)) (zq L),.a _ _,.a _ _,.b (0 !=0) false,.ff,.ff,.b (decide ((n:Int)≥3)) false,.ff,.a _ _,.b (flats [T.bool true]) true,.ff,.ff,.b (!true) false,.a _ _,.b (flats [ti (placeX c r f 4 r),ti (placeY c r f 5 r)]) true] ⟨o_n (by simp),o_a hl,o_a hb,bK,fP,o_a hrm,bK,bK,o_a hpl,bK,trivial⟩ ?_
 refine bO ?_ ?_
 all_goals
  refine gg [.a _ _,.a _ _] ⟨o_a hnum,o_a hput,trivial⟩ ?_
  exact ge
theorem Af6 (c:Config) (r f made:Int) (L:List Entity) (o:List Cross) (hL:L.length≤1000) (hr:0≤r∧r≤16) (hf:0≤f∧f≤10000) (hm:0≤made∧made≤1000) (h: ¬(below 8 c.seed [3,f,r]≠0∨3≤(L.countP fun e=>e.kind==3)∨Stg.room ⟨L,made,o⟩=false)):
  Is cx (.call 68 [.ptr 0 0 0] [.one 10 (stepV c r f made (.all 1 none) (.all 2 none)) false,.arr 9 (L.map zm) none false,.arr 15 (o.map zn) none false])
   ⟨.ret,[],[.one 10 (stepV c r f (made+1) (.all 3 none) (.all 2 none)) false,.arr 9 (L.map zm) none true,.arr 15 (o.map zn) none false,.arr 9 ((put1 L (gemE c r f made)).map zm) none false]⟩:=by
 have hl:=Agq c r f made L o hL L.length 0 0 (by omega) (by omega)
 rw [List.drop_zero,Nat.zero_add] at hl
 have hb:=AaG 8 c.seed [3,f,r] (by decide) (by simp [small])
 have hrm:=AaA c r f ⟨L,made,o⟩ (by unfold small;simp only;omega)
 have hc:(L.countP fun e=>e.kind==3)≤L.length:=List.countP_le_length
 have hpl:=Abz c r f 4 5 r ⟨L,made,o⟩
 have hnum:=Ag6 c r f made L o hr hf hm
 have hput:=Aba L [gemE c r f made] (by omega) (by simp)
 change Is cx _ ⟨_,_,[.arr 9 ((put1 L (gemE c r f made)).map zm) none false]⟩ at hput
 unfold gemE at*
 generalize (L.countP fun e=>e.kind==3)=n at*
 generalize below 8 c.seed [3,f,r]=b at*
 generalize Stg.room ⟨L,made,o⟩=rm at*
 generalize numI c r f made=nn at*
 have h1:b=0:=by
  by_cases q:b=0
  ·exact q
  ·exact absurd (Or.inl q) h
 have h2: ¬3≤n:=fun q=>h (.inr (.inl q))
 have h3:rm=true:=by
  cases rm with
  |true=>rfl
  |false=>exact absurd (Or.inr (Or.inr rfl)) h
 subst h1 h3
 clear h
 refine qq ?_
 refine gg [.n (zq (zz zm L)) (zq L),.a _ _,.a _ _,.b (0 !=0) false,.ff,.ff,.b (decide ((n:Int)≥3)) false,.ff,.a _ _,.b (flats [T.bool true]) true,.ff,.ff,.b (!true) false,.a _ _,.b (flats [ti (placeX c r f 4 r),ti (placeY c r f 5 r)]) true] ⟨o_n (by simp),o_a hl,o_a hb,bK,fP,o_a hrm,bK,bK,o_a hpl,bK,trivial⟩ ?_
 refine bO ?_ ?_
 all_goals
  refine gg [.a _ _,.a _ _] ⟨o_a hnum,o_a hput,trivial⟩ ?_
  exact ge
theorem AhM (c:Config) (r f made:Int) (L:List Entity) (hL:L.length≤1000): ∀(d i:Nat) (A:List Entity) (o:List Cross),i+d=L.length→A.length≤i→o.length≤50000+i→
  Is cx (.loop 69 [0,1,0,1] 2 [.ptr 0 0 0,.all 2 none,.all 1 none,vi L.length,vi i] [.one 10 (stepV c r f made (.all 1 none) (.all 3 none)) false,.arr 9 (L.map zm) none false,.arr 9 (A.map zm) none false,.arr 15 (o.map zn) none false])
   ⟨.exit 0,[.ptr 0 0 0,.all 2 none,.all 1 none,vi L.length,vi L.length],[.one 10 (stepV c r f made (.all 1 none) (.all 3 none)) false,.arr 9 (L.map zm) none false,.arr 9 ((A++(L.drop i).filter fun e=>decide (c.of e.x e.y=r)).map zm) none false,.arr 15 ((o++((L.drop i).filter fun e=> !decide (c.of e.x e.y=r)).map (handE c r f)).map zn) none false]⟩:=by
 intro d
 induction d with
 |zero=>
  intro i A o hi hA ho
  rw [Aac (by omega)]
  refine qq ?_
  refine gg [.b (decide ((i:Int)<(↑(zq L):Int))) false] ⟨fP,trivial⟩ ?_
  refine rT (a:=qz (qx 0) [V.ptr 0 0 0,qy 2 none,qy 1 none,vi (↑(zq L):Int),vi (i:Int)] [qg 10 (V.agg [vi c.cols,vi c.rows,vi c.players,vi c.window,V.t (T.int zf c.seed),vi r,vi f,qy 1 none,vi made,qy 3 none]) false,qv 9 (zz zm L) none false,qv 9 (zz zm A) none false,qv 15 (zz zn o) none false]) ?_
  ((have hq:i=L.length:=by omega);subst hq;simp)
 |succ d ih=>
  intro i A o hi hA ho
  have hlt:i<L.length:=by omega
  have hO:=AcU c (gt L i).x (gt L i).y
  rw [Aae hlt,List.filter_cons,List.filter_cons]
  by_cases h:c.of (gt L i).x (gt L i).y=r
  ·rw [if_pos (by simpa using h),if_neg (by simpa using h),List.append_cons]
   have ih1:=ih (i+1) (A++ [gt L i]) o (by omega) (by simp;omega) (by omega)
   clear ih
   refine qq ?_
   refine gg [.b (decide ((i:Int)<(↑(zq L):Int))) true,.w (0≤(i:Int)),.n (zy (i:Int)) i,.w (i<zq (zz zm L)),.g (zz zm L) i (zm (gt L i)),.a _ _,.b (Config.of c (gt L i).x (gt L i).y !=r) false,.w ((0:Nat)<(72:Nat)),.t (qk 0 [zm (gt L i)]) (qk 0 (zz zm [gt L i])),.t (qk 0 (zz zm A++zz zm [gt L i])) (qk 0 (zz zm (A++ [gt L i]))),.w (room (zq (zz zm (A++ [gt L i]))) (72:Nat)),.i zd ((i:Int)+1) ((↑(i+1):Int)),.a _ _] ⟨tP,oW,nK,o_w (by (simp [room,appendMax];omega)),o_gt rfl (by assumption) (by intro h;cases h),o_a hO,f_brn (by assumption),oW,o_l (Aaf rfl Aap),o_l (Aam rfl rfl),o_w (by (simp [room,appendMax];omega)),o_i (w64 (by (simp [room,appendMax];omega))),o_a ih1,trivial⟩ ?_
   exact ge
  ·rw [if_neg (by simpa using h),if_pos (by simpa using h),List.map_cons,List.append_cons]
   have ih1:=ih (i+1) A (o++ [handE c r f (gt L i)]) (by omega) (by omega) (by simp;omega)
   have hs:=Abf c r f made L o ⟨1,0,c.of (gt L i).x (gt L i).y,0,gt L i,0,0⟩ (by omega)
   clear ih
   unfold handE at ih1⊢
   refine qq ?_
   refine gg [.b (decide ((i:Int)<(↑(zq L):Int))) true,.w (0≤(i:Int)),.n (zy (i:Int)) i,.w (i<zq (zz zm L)),.g (zz zm L) i (zm (gt L i)),.a _ _,.b (Config.of c (gt L i).x (gt L i).y !=r) true,.a _ _,.i zd ((i:Int)+1) ((↑(i+1):Int)),.a _ _] ⟨tP,oW,nK,o_w (by (simp;omega)),o_gt rfl (by assumption) (by intro h;cases h),o_a hO,t_brn (by assumption),o_a hs,oI,o_a ih1,trivial⟩ ?_
   exact ge
theorem AhF (c:Config) (r f made:Int) (L:List Entity) (hL:L.length≤1000): ∀(d i:Nat) (A:List Entity) (o:List Cross),i+d=L.length→A.length≤i→o.length≤50000+i→
  Is cx (.loop 69 [0,1,0,1] 3 [.ptr 0 0 0,.all 3 none,.all 1 none,vi L.length,vi i] [.one 10 (stepV c r f made (.all 1 none) (.all 4 none)) false,.arr 9 (L.map zm) none false,.dead,.arr 9 (A.map zm) none false,.arr 15 (o.map zn) none false])
   ⟨.exit 0,[.ptr 0 0 0,.all 3 none,.all 1 none,vi L.length,vi L.length],[.one 10 (stepV c r f made (.all 1 none) (.all 4 none)) false,.arr 9 (L.map zm) none false,.dead,.arr 9 ((A++(L.drop i).filter fun e=>decide (c.of e.x e.y=r)).map zm) none false,.arr 15 ((o++((L.drop i).filter fun e=> !decide (c.of e.x e.y=r)).map (handE c r f)).map zn) none false]⟩:=by
 intro d
 induction d with
 |zero=>
  intro i A o hi hA ho
  rw [Aac (by omega)]
  refine qq ?_
  refine gg [.b (decide ((i:Int)<(↑(zq L):Int))) false] ⟨fP,trivial⟩ ?_
  refine rT (a:=qz (qx 0) [V.ptr 0 0 0,qy 3 none,qy 1 none,vi (↑(zq L):Int),vi (i:Int)] [qg 10 (V.agg [vi c.cols,vi c.rows,vi c.players,vi c.window,V.t (T.int zf c.seed),vi r,vi f,qy 1 none,vi made,qy 4 none]) false,qv 9 (zz zm L) none false,Ob.dead,qv 9 (zz zm A) none false,qv 15 (zz zn o) none false]) ?_
  ((have hq:i=L.length:=by omega);subst hq;simp)
 |succ d ih=>
  intro i A o hi hA ho
  have hlt:i<L.length:=by omega
  have hO:=AcU c (gt L i).x (gt L i).y
  rw [Aae hlt,List.filter_cons,List.filter_cons]
  by_cases h:c.of (gt L i).x (gt L i).y=r
  ·rw [if_pos (by simpa using h),if_neg (by simpa using h),List.append_cons]
   have ih1:=ih (i+1) (A++ [gt L i]) o (by omega) (by simp;omega) (by omega)
   clear ih
   refine qq ?_
   refine gg [.b (decide ((i:Int)<(↑(zq L):Int))) true,.w (0≤(i:Int)),.n (zy (i:Int)) i,.w (i<zq (zz zm L)),.g (zz zm L) i (zm (gt L i)),.a _ _,.b (Config.of c (gt L i).x (gt L i).y !=r) false,.w ((0:Nat)<(72:Nat)),.t (qk 0 [zm (gt L i)]) (qk 0 (zz zm [gt L i])),.t (qk 0 (zz zm A++zz zm [gt L i])) (qk 0 (zz zm (A++ [gt L i]))),.w (room (zq (zz zm (A++ [gt L i]))) (72:Nat)),.i zd ((i:Int)+1) ((↑(i+1):Int)),.a _ _] ⟨tP,oW,nK,o_w (by (simp [room,appendMax];omega)),o_gt rfl (by assumption) (by intro h;cases h),o_a hO,f_brn (by assumption),oW,o_l (Aaf rfl Aap),o_l (Aam rfl rfl),o_w (by (simp [room,appendMax];omega)),o_i (w64 (by (simp [room,appendMax];omega))),o_a ih1,trivial⟩ ?_
   exact ge
  ·rw [if_neg (by simpa using h),if_pos (by simpa using h),List.map_cons,List.append_cons]
   have ih1:=ih (i+1) A (o++ [handE c r f (gt L i)]) (by omega) (by omega) (by simp;omega)
   have hs:=Abf c r f made L o ⟨1,0,c.of (gt L i).x (gt L i).y,0,gt L i,0,0⟩ (by omega)
   clear ih
   unfold handE at ih1⊢
   refine qq ?_
   refine gg [.b (decide ((i:Int)<(↑(zq L):Int))) true,.w (0≤(i:Int)),.n (zy (i:Int)) i,.w (i<zq (zz zm L)),.g (zz zm L) i (zm (gt L i)),.a _ _,.b (Config.of c (gt L i).x (gt L i).y !=r) true,.a _ _,.i zd ((i:Int)+1) ((↑(i+1):Int)),.a _ _] ⟨tP,oW,nK,o_w (by (simp;omega)),o_gt rfl (by assumption) (by intro h;cases h),o_a hO,t_brn (by assumption),o_a hs,oI,o_a ih1,trivial⟩ ?_
   exact ge
theorem AhX (c:Config) (r f made:Int) (L:List Entity) (hL:L.length≤1000): ∀(d i:Nat) (A:List Entity),i+d=L.length→A.length≤i→
  Is cx (.loop 69 [0,1,0,1] 2 [.ptr 0 0 0,.all 2 none,.all 1 none,vi L.length,vi i] [.one 10 (stepV c r f made (.all 1 none) (.fit 15 [])) false,.arr 9 (L.map zm) none false,.arr 9 (A.map zm) none false])
   (if ((L.drop i).filter fun e=> !decide (c.of e.x e.y=r))= [] then
    ⟨.exit 0,[.ptr 0 0 0,.all 2 none,.all 1 none,vi L.length,vi L.length],[.one 10 (stepV c r f made (.all 1 none) (.fit 15 [])) false,.arr 9 (L.map zm) none false,.arr 9 ((A++(L.drop i).filter fun e=>decide (c.of e.x e.y=r)).map zm) none false]⟩
   else ⟨.exit 0,[.ptr 0 0 0,.all 2 none,.all 1 none,vi L.length,vi L.length],[.one 10 (stepV c r f made (.all 1 none) (.all 3 none)) false,.arr 9 (L.map zm) none false,.arr 9 ((A++(L.drop i).filter fun e=>decide (c.of e.x e.y=r)).map zm) none false,.arr 15 ((((L.drop i).filter fun e=> !decide (c.of e.x e.y=r)).map (handE c r f)).map zn) none false]⟩):=by
 intro d
 induction d with
 |zero=>
  intro i A hi hA
  rw [Aac (by omega),List.filter_nil,List.filter_nil,if_pos rfl]
  refine qq ?_
  refine gg [.b (decide ((i:Int)<(↑(zq L):Int))) false] ⟨fP,trivial⟩ ?_
  refine rT (a:=qz (qx 0) [V.ptr 0 0 0,qy 2 none,qy 1 none,vi (↑(zq L):Int),vi (i:Int)] [qg 10 (V.agg [vi c.cols,vi c.rows,vi c.players,vi c.window,V.t (T.int zf c.seed),vi r,vi f,qy 1 none,vi made,V.fit 15 []]) false,qv 9 (zz zm L) none false,qv 9 (zz zm A) none false]) ?_
  ((have hq:i=L.length:=by omega);subst hq;simp)
 |succ d ih=>
  intro i A hi hA
  have hlt:i<L.length:=by omega
  have hO:=AcU c (gt L i).x (gt L i).y
  rw [Aae hlt,List.filter_cons,List.filter_cons]
  by_cases h:c.of (gt L i).x (gt L i).y=r
  ·rw [if_pos (c:=decide (c.of (gt L i).x (gt L i).y=r)=true) (by simpa using h),if_neg (c:=(!decide (c.of (gt L i).x (gt L i).y=r))=true) (by simpa using h),List.append_cons]
   have ih1:=ih (i+1) (A++ [gt L i]) (by omega) (by simp;omega)
   clear ih
   split at ih1
   ·rename_i hq
    rw [if_pos hq]
    refine qq ?_
    refine gg [.b (decide ((i:Int)<(↑(zq L):Int))) true,.w (0≤(i:Int)),.n (zy (i:Int)) i,.w (i<zq (zz zm L)),.g (zz zm L) i (zm (gt L i)),.a _ _,.b (Config.of c (gt L i).x (gt L i).y !=r) false,.w ((0:Nat)<(72:Nat)),.t (qk 0 [zm (gt L i)]) (qk 0 (zz zm [gt L i])),.t (qk 0 (zz zm A++zz zm [gt L i])) (qk 0 (zz zm (A++ [gt L i]))),.w (room (zq (zz zm (A++ [gt L i]))) (72:Nat)),.i zd ((i:Int)+1) ((↑(i+1):Int)),.a _ _] ⟨tP,oW,nK,o_w (by (simp [room,appendMax];omega)),o_gt rfl (by assumption) (by intro h;cases h),o_a hO,f_brn (by assumption),oW,o_l (Aaf rfl Aap),o_l (Aam rfl rfl),o_w (by (simp [room,appendMax];omega)),o_i (w64 (by (simp [room,appendMax];omega))),o_a ih1,trivial⟩ ?_
    exact ge
   ·rename_i hq
    rw [if_neg hq]
    refine qq ?_
    refine gg [.b (decide ((i:Int)<(↑(zq L):Int))) true,.w (0≤(i:Int)),.n (zy (i:Int)) i,.w (i<zq (zz zm L)),.g (zz zm L) i (zm (gt L i)),.a _ _,.b (Config.of c (gt L i).x (gt L i).y !=r) false,.w ((0:Nat)<(72:Nat)),.t (qk 0 [zm (gt L i)]) (qk 0 (zz zm [gt L i])),.t (qk 0 (zz zm A++zz zm [gt L i])) (qk 0 (zz zm (A++ [gt L i]))),.w (room (zq (zz zm (A++ [gt L i]))) (72:Nat)),.i zd ((i:Int)+1) ((↑(i+1):Int)),.a _ _] ⟨tP,oW,nK,o_w (by (simp [room,appendMax];omega)),o_gt rfl (by assumption) (by intro h;cases h),o_a hO,f_brn (by assumption),oW,o_l (Aaf rfl Aap),o_l (Aam rfl rfl),o_w (by (simp [room,appendMax];omega)),o_i (w64 (by (simp [room,appendMax];omega))),o_a ih1,trivial⟩ ?_
    exact ge
  ·rw [if_neg (c:=decide (c.of (gt L i).x (gt L i).y=r)=true) (by simpa using h),if_pos (c:=(!decide (c.of (gt L i).x (gt L i).y=r))=true) (by simpa using h),if_neg (by simp),List.map_cons]
   have ih1:=AhM c r f made L hL d (i+1) A [handE c r f (gt L i)] (by omega) (by omega) (by simp;omega)
   have hs:=Aeq c r f made L ⟨1,0,c.of (gt L i).x (gt L i).y,0,gt L i,0,0⟩
   clear ih
   unfold handE at ih1⊢
   refine qq ?_
   refine gg [.b (decide ((i:Int)<(↑(zq L):Int))) true,.w (0≤(i:Int)),.n (zy (i:Int)) i,.w (i<zq (zz zm L)),.g (zz zm L) i (zm (gt L i)),.a _ _,.b (Config.of c (gt L i).x (gt L i).y !=r) true,.a _ _,.i zd ((i:Int)+1) ((↑(i+1):Int)),.a _ _] ⟨tP,oW,nK,o_w (by (simp;omega)),o_gt rfl (by assumption) (by intro h;cases h),o_a hO,t_brn (by assumption),o_a hs,oI,o_a ih1,trivial⟩ ?_
   exact ge
theorem AhA (c:Config) (r f made:Int) (L:List Entity) (hL:L.length≤1000) (o:List Cross) (ho:o.length≤50000): ∀(d i:Nat) (A:List Entity),i+d=L.length→A.length≤i→
  Is cx (.loop 69 [0,1,0,1] 3 [.ptr 0 0 0,.all 3 none,.all 1 none,vi L.length,vi i] [.one 10 (stepV c r f made (.all 1 none) (.all 2 none)) false,.arr 9 (L.map zm) none false,.arr 15 (o.map zn) none false,.arr 9 (A.map zm) none false])
   (if ((L.drop i).filter fun e=> !decide (c.of e.x e.y=r))= [] then
    ⟨.exit 0,[.ptr 0 0 0,.all 3 none,.all 1 none,vi L.length,vi L.length],[.one 10 (stepV c r f made (.all 1 none) (.all 2 none)) false,.arr 9 (L.map zm) none false,.arr 15 (o.map zn) none false,.arr 9 ((A++(L.drop i).filter fun e=>decide (c.of e.x e.y=r)).map zm) none false]⟩
   else ⟨.exit 0,[.ptr 0 0 0,.all 3 none,.all 1 none,vi L.length,vi L.length],[.one 10 (stepV c r f made (.all 1 none) (.all 4 none)) false,.arr 9 (L.map zm) none false,.dead,.arr 9 ((A++(L.drop i).filter fun e=>decide (c.of e.x e.y=r)).map zm) none false,.arr 15 ((o++((L.drop i).filter fun e=> !decide (c.of e.x e.y=r)).map (handE c r f)).map zn) none false]⟩):=by
 intro d
 induction d with
 |zero=>
  intro i A hi hA
  rw [Aac (by omega),List.filter_nil,List.filter_nil,if_pos rfl]
  refine qq ?_
  refine gg [.b (decide ((i:Int)<(↑(zq L):Int))) false] ⟨fP,trivial⟩ ?_
  refine rT (a:=qz (qx 0) [V.ptr 0 0 0,qy 3 none,qy 1 none,vi (↑(zq L):Int),vi (i:Int)] [qg 10 (V.agg [vi c.cols,vi c.rows,vi c.players,vi c.window,V.t (T.int zf c.seed),vi r,vi f,qy 1 none,vi made,qy 2 none]) false,qv 9 (zz zm L) none false,qv 15 (zz zn o) none false,qv 9 (zz zm A) none false]) ?_
  ((have hq:i=L.length:=by omega);subst hq;simp)
 |succ d ih=>
  intro i A hi hA
  have hlt:i<L.length:=by omega
  have hO:=AcU c (gt L i).x (gt L i).y
  rw [Aae hlt,List.filter_cons,List.filter_cons]
  by_cases h:c.of (gt L i).x (gt L i).y=r
  ·rw [if_pos (c:=decide (c.of (gt L i).x (gt L i).y=r)=true) (by simpa using h),if_neg (c:=(!decide (c.of (gt L i).x (gt L i).y=r))=true) (by simpa using h),List.append_cons]
   have ih1:=ih (i+1) (A++ [gt L i]) (by omega) (by simp;omega)
   clear ih
   split at ih1
   ·rename_i hq
    rw [if_pos hq]
    refine qq ?_
    refine gg [.b (decide ((i:Int)<(↑(zq L):Int))) true,.w (0≤(i:Int)),.n (zy (i:Int)) i,.w (i<zq (zz zm L)),.g (zz zm L) i (zm (gt L i)),.a _ _,.b (Config.of c (gt L i).x (gt L i).y !=r) false,.w ((0:Nat)<(72:Nat)),.t (qk 0 [zm (gt L i)]) (qk 0 (zz zm [gt L i])),.t (qk 0 (zz zm A++zz zm [gt L i])) (qk 0 (zz zm (A++ [gt L i]))),.w (room (zq (zz zm (A++ [gt L i]))) (72:Nat)),.i zd ((i:Int)+1) ((↑(i+1):Int)),.a _ _] ⟨tP,oW,nK,o_w (by (simp [room,appendMax];omega)),o_gt rfl (by assumption) (by intro h;cases h),o_a hO,f_brn (by assumption),oW,o_l (Aaf rfl Aap),o_l (Aam rfl rfl),o_w (by (simp [room,appendMax];omega)),o_i (w64 (by (simp [room,appendMax];omega))),o_a ih1,trivial⟩ ?_
    exact ge
   ·rename_i hq
    rw [if_neg hq]
    refine qq ?_
    refine gg [.b (decide ((i:Int)<(↑(zq L):Int))) true,.w (0≤(i:Int)),.n (zy (i:Int)) i,.w (i<zq (zz zm L)),.g (zz zm L) i (zm (gt L i)),.a _ _,.b (Config.of c (gt L i).x (gt L i).y !=r) false,.w ((0:Nat)<(72:Nat)),.t (qk 0 [zm (gt L i)]) (qk 0 (zz zm [gt L i])),.t (qk 0 (zz zm A++zz zm [gt L i])) (qk 0 (zz zm (A++ [gt L i]))),.w (room (zq (zz zm (A++ [gt L i]))) (72:Nat)),.i zd ((i:Int)+1) ((↑(i+1):Int)),.a _ _] ⟨tP,oW,nK,o_w (by (simp [room,appendMax];omega)),o_gt rfl (by assumption) (by intro h;cases h),o_a hO,f_brn (by assumption),oW,o_l (Aaf rfl Aap),o_l (Aam rfl rfl),o_w (by (simp [room,appendMax];omega)),o_i (w64 (by (simp [room,appendMax];omega))),o_a ih1,trivial⟩ ?_
    exact ge
  ·rw [if_neg (c:=decide (c.of (gt L i).x (gt L i).y=r)=true) (by simpa using h),if_pos (c:=(!decide (c.of (gt L i).x (gt L i).y=r))=true) (by simpa using h),if_neg (by simp),List.map_cons,List.append_cons]
   have ih1:=AhF c r f made L hL d (i+1) A (o++ [handE c r f (gt L i)]) (by omega) (by omega) (by simp;omega)
   have hs:=Abf c r f made L o ⟨1,0,c.of (gt L i).x (gt L i).y,0,gt L i,0,0⟩ (by omega)
   clear ih
   unfold handE at ih1⊢
   refine qq ?_
   refine gg [.b (decide ((i:Int)<(↑(zq L):Int))) true,.w (0≤(i:Int)),.n (zy (i:Int)) i,.w (i<zq (zz zm L)),.g (zz zm L) i (zm (gt L i)),.a _ _,.b (Config.of c (gt L i).x (gt L i).y !=r) true,.a _ _,.i zd ((i:Int)+1) ((↑(i+1):Int)),.a _ _] ⟨tP,oW,nK,o_w (by (simp;omega)),o_gt rfl (by assumption) (by intro h;cases h),o_a hO,t_brn (by assumption),o_a hs,oI,o_a ih1,trivial⟩ ?_
   exact ge
theorem AdG (c:Config) (r f made:Int) (L:List Entity) (hL:L.length≤1000):
  Is cx (.call 69 [.ptr 0 0 0] [.one 10 (stepV c r f made (.all 1 none) (.fit 15 [])) false,.arr 9 (L.map zm) none false])
   (if (leaveS c r f ⟨L,made,[]⟩).out= [] then ⟨.ret,[],[.one 10 (stepV c r f made (.all 2 none) (.fit 15 [])) false,.arr 9 (L.map zm) none false,.arr 9 ((leaveS c r f ⟨L,made,[]⟩).l.map zm) none false]⟩
    else ⟨.ret,[],[.one 10 (stepV c r f made (.all 2 none) (.all 3 none)) false,.arr 9 (L.map zm) none false,.arr 9 ((leaveS c r f ⟨L,made,[]⟩).l.map zm) none false,.arr 15 ((leaveS c r f ⟨L,made,[]⟩).out.map zn) none false]⟩):=by
 have h:=AhX c r f made L hL L.length 0 [] (by omega) (by simp)
 simp only [List.drop_zero,List.nil_append] at h
 unfold leaveS
 simp only [List.nil_append,List.map_eq_nil_iff]
 generalize (L.filter fun e=>decide (c.of e.x e.y=r))=X at*
 generalize (L.filter fun e=> !decide (c.of e.x e.y=r))=Y at*
 generalize Y.map (handE c r f)=Z at*
 split at h
 ·rename_i hq
  rw [if_pos hq]
  refine qq ?_
  refine gg [.n (zq (zz zm L)) (zq L),.a _ _] ⟨o_n (by simp),o_a h,trivial⟩ ?_
  exact ge
 ·rename_i hq
  rw [if_neg hq]
  refine qq ?_
  refine gg [.n (zq (zz zm L)) (zq L),.a _ _] ⟨o_n (by simp),o_a h,trivial⟩ ?_
  exact ge
theorem AdF (c:Config) (r f made:Int) (L:List Entity) (o:List Cross) (hL:L.length≤1000) (ho:o.length≤50000):
  Is cx (.call 69 [.ptr 0 0 0] [.one 10 (stepV c r f made (.all 1 none) (.all 2 none)) false,.arr 9 (L.map zm) none false,.arr 15 (o.map zn) none false])
   (if (L.filter fun e=> !decide (c.of e.x e.y=r))= [] then ⟨.ret,[],[.one 10 (stepV c r f made (.all 3 none) (.all 2 none)) false,.arr 9 (L.map zm) none false,.arr 15 (o.map zn) none false,.arr 9 ((leaveS c r f ⟨L,made,o⟩).l.map zm) none false]⟩
    else ⟨.ret,[],[.one 10 (stepV c r f made (.all 3 none) (.all 4 none)) false,.arr 9 (L.map zm) none false,.dead,.arr 9 ((leaveS c r f ⟨L,made,o⟩).l.map zm) none false,.arr 15 ((leaveS c r f ⟨L,made,o⟩).out.map zn) none false]⟩):=by
 have h:=AhA c r f made L hL o ho L.length 0 [] (by omega) (by simp)
 simp only [List.drop_zero,List.nil_append] at h
 unfold leaveS
 simp only
 generalize (L.filter fun e=>decide (c.of e.x e.y=r))=X at*
 generalize (L.filter fun e=> !decide (c.of e.x e.y=r))=Y at*
 generalize o++Y.map (handE c r f)=Z at*
 split at h
 ·rename_i hq
  rw [if_pos hq]
  refine qq ?_
  refine gg [.n (zq (zz zm L)) (zq L),.a _ _] ⟨o_n (by simp),o_a h,trivial⟩ ?_
  exact ge
 ·rename_i hq
  rw [if_neg hq]
  refine qq ?_
  refine gg [.n (zq (zz zm L)) (zq L),.a _ _] ⟨o_n (by simp),o_a h,trivial⟩ ?_
  exact ge
end Go.Eva.S4
namespace Go.Eva.S4
theorem Aht (c:Config) (r:Int) (s:Region) (ins:List Input) (inbox:List Cross) (hn:small s.ents) (hi:small ins) (hb:small inbox) (h:askedE c r s ins inbox≠0):
  Is cx (.call 23 [.t c.enc,vi r,.t s.enc,.t (.sl 3 (ins.map zr)),.t (.sl 15 (inbox.map zn))] []) ⟨.ret,[.t Region.zero.enc,.t (.sl 15 []),vi (askedE c r s ins inbox)],[]⟩:=by
 have ha:=Afj c r s ins inbox hn hi hb
 generalize askedE c r s ins inbox=e at*
 obtain ⟨f,l⟩:=s
 refine qq ?_
 refine gg [.a _ _,.b (e !=0) true] ⟨o_a ha,t_brn (by assumption),trivial⟩ ?_
 exact ge
theorem Adf (c:Config) (r:Int) (s:Region) (ins:List Input) (inbox:List Cross) (hn:s.ents.length≤100000) (hi:small ins) (hb:inbox.length≤100000) (h:askedE c r s ins inbox=0):
  Is cx (.call 23 [.t c.enc,vi r,.t s.enc,.t (.sl 3 (ins.map zr)),.t (.sl 15 (inbox.map zn))] []) ⟨.ret,[.t (zt ⟨s.frame+1,(stepS c r s ins inbox).l⟩),.t (.sl 15 ((sortS z7 (stepS c r s ins inbox).out).map zn)),vi 0],[]⟩:=by
 have hfine:=Agz h
 have hrc:=Config.is_right hfine.is
 have ha:=Afj c r s ins inbox (by unfold small;omega) hi (by unfold small;omega)
 rw [h] at ha
 have hA:=Ah4 c r s inbox hn hb
 have hsane:=hfine.sane
 obtain ⟨hst1,hst2⟩:=AfI hfine
 have hr:=Config.is_le hfine.is
 have hreg:= @Config.regions_le c
 have hf:=hfine.frame
 have hst:=Ai1 c r s.frame ins (arriveL s.ents inbox) hi (by omega) (by omega) (Nat.le_trans (hsane.len hrc) (by omega)) fun p hp=>by
  have hpr:=(hsane.ents p hp).1
  refine ⟨?_,fun hk=> ?_⟩
  ·have:=AfQ hpr;omega
  ·have:=Entity.right_player hpr hk
   have:=hfine.len
   omega
 unfold stepS restS
 have hnear:=Aol hfine.is
 generalize steerS c r s.frame ins ⟨arriveL s.ents inbox,0,[]⟩=S at*
 generalize arriveL s.ents inbox=L at*
 obtain ⟨A,made,o⟩:=S
 simp only at hst hst1 hst2⊢
 subst hst2
 have hmade:=hst1.made
 simp only at hmade
 have hAs:=hst1.sane
 simp only at hAs
 have hAl:=hAs.len hrc
 have hmv:=Aj7 c r s.frame made A (by unfold small;omega) fun e he=>by have:=AfQ (hAs.ents e he).1;omega
 obtain ⟨hM,hMr⟩:=AcK hAs
 have hMl:=hM.len hrc
 have hHm:=(AcE (inbox:=inbox) hM).1
 have hHl:=hHm.len hrc
 have hsh:=AhS (moveL c A) (by unfold small;omega)
 have h1l:(shotsL (moveL c A)).length≤30:=by
  have:=(AeF (l:=moveL c A) fun e he _=>Af8 (hMr e he)).moved hM
  exact this.len hrc
 have hge:=Ai8 (shotsL (moveL c A)) (by unfold small;omega)
 have h2l:(gemsL (shotsL (moveL c A))).length≤30:=by
  have k1:=AeF (l:=moveL c A) fun e he _=>Af8 (hMr e he)
  have:=(Ajt (l:=shotsL (moveL c A)) k1.low).moved (k1.moved hM)
  exact this.len hrc
 have hbl:=Ahp (gemsL (shotsL (moveL c A))) inbox (by unfold small;omega) (by unfold small;omega)
 clear hHm hM hMr hst1 hsane hfine h hAs
 generalize blastsL (gemsL (shotsL (moveL c A))) inbox=H at*
 generalize gemsL (shotsL (moveL c A))=M2 at*
 generalize shotsL (moveL c A)=M1 at*
 generalize moveL c A=M at*
 obtain ⟨f,l⟩:=s
 simp only at*
 by_cases hfl:fallenL H= []
 ·have hfa:=AhC c r f made H (by omega) hfl
  have e1:fallS c r f ⟨H,made,[]⟩=⟨H,made,[]⟩:=by unfold fallS;simp only;rw [hfl];rfl
  rw [e1]
  by_cases hg:below 8 c.seed [3,f,r]≠0∨3≤(H.countP fun e=>e.kind==3)∨Stg.room ⟨H,made,[]⟩=false
  ·have hgr:=Aga c r f made H [] (by omega) hg
   have e2:growS c r f ⟨H,made,[]⟩=⟨H,made,[]⟩:=by unfold growS;rw [if_pos hg]
   rw [e2]
   clear e1 e2 hg hfl
   have hlv:=AdG c r f made H (by omega)
   have hso:=AaH (leaveS c r f ⟨H,made,[]⟩).out (by have:= @Acl c r f ⟨H,made,[]⟩;unfold small;simp only [List.length_nil] at this;omega)
   split at hlv
   ·rename_i hq
    rw [hq] at hso⊢
    change Is cx _ ⟨_,[_,.t (.sl 15 []),_],_⟩
    replace hso:=AaH [] (by simp [small])
    clear hq
    generalize (leaveS c r f ⟨H,made,[]⟩).l=Z at*
    rcases hst with hst|⟨X,hst⟩
    ·refine qq ?_
     refine gg [.a _ _,.b (0 !=0) false,.a _ _,.a _ _,.a _ _,.a _ _,.a _ _,.a _ _,.a _ _,.a _ _,.a _ _] ⟨o_a ha,bK,o_a hA,o_a hst,o_a hmv,o_a hsh,o_a hge,o_a hbl,o_a hfa,o_a hgr,o_a hlv,trivial⟩ ?_
     refine gg [.i zd (f+1) (f+1),.a _ _] ⟨oI,o_a hso,trivial⟩ ?_
     exact ge
    ·refine qq ?_
     refine gg [.a _ _,.b (0 !=0) false,.a _ _,.a _ _,.a _ _,.a _ _,.a _ _,.a _ _,.a _ _,.a _ _,.a _ _] ⟨o_a ha,bK,o_a hA,o_a hst,o_a hmv,o_a hsh,o_a hge,o_a hbl,o_a hfa,o_a hgr,o_a hlv,trivial⟩ ?_
     refine gg [.i zd (f+1) (f+1),.a _ _] ⟨oI,o_a hso,trivial⟩ ?_
     exact ge
   ·rename_i hq
    clear hq
    generalize (leaveS c r f ⟨H,made,[]⟩).l=Z at*
    generalize hoo:(leaveS c r f ⟨H,made,[]⟩).out=oo at*
    generalize sortS z7 oo=so at*
    rcases hst with hst|⟨X,hst⟩
    ·refine qq ?_
     refine gg [.a _ _,.b (0 !=0) false,.a _ _,.a _ _,.a _ _,.a _ _,.a _ _,.a _ _,.a _ _,.a _ _,.a _ _] ⟨o_a ha,bK,o_a hA,o_a hst,o_a hmv,o_a hsh,o_a hge,o_a hbl,o_a hfa,o_a hgr,o_a hlv,trivial⟩ ?_
     refine gg [.i zd (f+1) (f+1),.s (qk 15 (zz zn oo)),.a _ _] ⟨oI,o_a hso,trivial⟩ ?_
     exact ge
    ·refine qq ?_
     refine gg [.a _ _,.b (0 !=0) false,.a _ _,.a _ _,.a _ _,.a _ _,.a _ _,.a _ _,.a _ _,.a _ _,.a _ _] ⟨o_a ha,bK,o_a hA,o_a hst,o_a hmv,o_a hsh,o_a hge,o_a hbl,o_a hfa,o_a hgr,o_a hlv,trivial⟩ ?_
     refine gg [.i zd (f+1) (f+1),.s (qk 15 (zz zn oo)),.a _ _] ⟨oI,o_a hso,trivial⟩ ?_
     exact ge
  ·have hgr:=Afv c r f made H (by omega) (by omega) (by omega) (by omega) hg
   have e2:growS c r f ⟨H,made,[]⟩=⟨put1 H (gemE c r f made),made+1,[]⟩:=by unfold growS;rw [if_neg hg]
   rw [e2]
   clear e1 e2 hg hfl
   have hpl:=(@Abl H (gemE c r f made)).2
   generalize put1 H (gemE c r f made)=G at*
   have hlv:=AdG c r f (made+1) G (by omega)
   have hso:=AaH (leaveS c r f ⟨G,made+1,[]⟩).out (by have:= @Acl c r f ⟨G,made+1,[]⟩;unfold small;simp only [List.length_nil] at this;omega)
   split at hlv
   ·rename_i hq
    rw [hq] at hso⊢
    change Is cx _ ⟨_,[_,.t (.sl 15 []),_],_⟩
    replace hso:=AaH [] (by simp [small])
    clear hq
    generalize (leaveS c r f ⟨G,made+1,[]⟩).l=Z at*
    rcases hst with hst|⟨X,hst⟩
    ·refine qq ?_
     refine gg [.a _ _,.b (0 !=0) false,.a _ _,.a _ _,.a _ _,.a _ _,.a _ _,.a _ _,.a _ _,.a _ _,.a _ _] ⟨o_a ha,bK,o_a hA,o_a hst,o_a hmv,o_a hsh,o_a hge,o_a hbl,o_a hfa,o_a hgr,o_a hlv,trivial⟩ ?_
     refine gg [.i zd (f+1) (f+1),.a _ _] ⟨oI,o_a hso,trivial⟩ ?_
     exact ge
    ·refine qq ?_
     refine gg [.a _ _,.b (0 !=0) false,.a _ _,.a _ _,.a _ _,.a _ _,.a _ _,.a _ _,.a _ _,.a _ _,.a _ _] ⟨o_a ha,bK,o_a hA,o_a hst,o_a hmv,o_a hsh,o_a hge,o_a hbl,o_a hfa,o_a hgr,o_a hlv,trivial⟩ ?_
     refine gg [.i zd (f+1) (f+1),.a _ _] ⟨oI,o_a hso,trivial⟩ ?_
     exact ge
   ·rename_i hq
    clear hq
    generalize (leaveS c r f ⟨G,made+1,[]⟩).l=Z at*
    generalize hoo:(leaveS c r f ⟨G,made+1,[]⟩).out=oo at*
    generalize sortS z7 oo=so at*
    rcases hst with hst|⟨X,hst⟩
    ·refine qq ?_
     refine gg [.a _ _,.b (0 !=0) false,.a _ _,.a _ _,.a _ _,.a _ _,.a _ _,.a _ _,.a _ _,.a _ _,.a _ _] ⟨o_a ha,bK,o_a hA,o_a hst,o_a hmv,o_a hsh,o_a hge,o_a hbl,o_a hfa,o_a hgr,o_a hlv,trivial⟩ ?_
     refine gg [.i zd (f+1) (f+1),.s (qk 15 (zz zn oo)),.a _ _] ⟨oI,o_a hso,trivial⟩ ?_
     exact ge
    ·refine qq ?_
     refine gg [.a _ _,.b (0 !=0) false,.a _ _,.a _ _,.a _ _,.a _ _,.a _ _,.a _ _,.a _ _,.a _ _,.a _ _] ⟨o_a ha,bK,o_a hA,o_a hst,o_a hmv,o_a hsh,o_a hge,o_a hbl,o_a hfa,o_a hgr,o_a hlv,trivial⟩ ?_
     refine gg [.i zd (f+1) (f+1),.s (qk 15 (zz zn oo)),.a _ _] ⟨oI,o_a hso,trivial⟩ ?_
     exact ge
 ·have hfa:=AhV c r f made H (by omega) hnear hfl
  have hlen:(fallS c r f ⟨H,made,[]⟩).l.length=H.length∧(fallS c r f ⟨H,made,[]⟩).made=made∧(fallS c r f ⟨H,made,[]⟩).out.length≤1000:=by
   obtain ⟨k1,k2,k3⟩:= @AfP c r f (fallenL H) ⟨H,made,[]⟩
   refine ⟨k1,k2,?_⟩
   change ((fallenL H).foldl (fall1 c r f) ⟨H,made,[]⟩).out.length≤1000
   rw [k3]
   have hfn:= @AiR H
   have hns:= @Aa0 c r
   have:=Nat.mul_le_mul (Nat.le_trans hfn hHl) hns
   simp only [List.length_nil]
   omega
  generalize fallS c r f ⟨H,made,[]⟩=F at*
  obtain ⟨FL,fm,o⟩:=F
  simp only at hlen hfa⊢
  obtain ⟨hl1,rfl,hl3⟩:=hlen
  by_cases hg:below 8 c.seed [3,f,r]≠0∨3≤(FL.countP fun e=>e.kind==3)∨Stg.room ⟨FL,fm,o⟩=false
  ·have hgr:=AfY c r f fm FL o (by omega) hg
   have e2:growS c r f ⟨FL,fm,o⟩=⟨FL,fm,o⟩:=by unfold growS;rw [if_pos hg]
   rw [e2]
   clear e2 hg hfl
   have hlv:=AdF c r f fm FL o (by omega) (by omega)
   have hso:=AaH (leaveS c r f ⟨FL,fm,o⟩).out (by have:= @Acl c r f ⟨FL,fm,o⟩;unfold small;simp only at this;omega)
   split at hlv
   ·rename_i hq
    rw [show (leaveS c r f ⟨FL,fm,o⟩).out=o from Ajj hq] at hso⊢
    clear hq
    generalize (leaveS c r f ⟨FL,fm,o⟩).l=Z at*
    generalize sortS z7 o=so at*
    rcases hst with hst|⟨X,hst⟩
    ·refine qq ?_
     refine gg [.a _ _,.b (0 !=0) false,.a _ _,.a _ _,.a _ _,.a _ _,.a _ _,.a _ _,.a _ _,.a _ _,.a _ _] ⟨o_a ha,bK,o_a hA,o_a hst,o_a hmv,o_a hsh,o_a hge,o_a hbl,o_a hfa,o_a hgr,o_a hlv,trivial⟩ ?_
     refine gg [.i zd (f+1) (f+1),.s (qk 15 (zz zn o)),.a _ _] ⟨oI,o_a hso,trivial⟩ ?_
     exact ge
    ·refine qq ?_
     refine gg [.a _ _,.b (0 !=0) false,.a _ _,.a _ _,.a _ _,.a _ _,.a _ _,.a _ _,.a _ _,.a _ _,.a _ _] ⟨o_a ha,bK,o_a hA,o_a hst,o_a hmv,o_a hsh,o_a hge,o_a hbl,o_a hfa,o_a hgr,o_a hlv,trivial⟩ ?_
     refine gg [.i zd (f+1) (f+1),.s (qk 15 (zz zn o)),.a _ _] ⟨oI,o_a hso,trivial⟩ ?_
     exact ge
   ·rename_i hq
    clear hq
    generalize (leaveS c r f ⟨FL,fm,o⟩).l=Z at*
    generalize hoo:(leaveS c r f ⟨FL,fm,o⟩).out=oo at*
    generalize sortS z7 oo=so at*
    rcases hst with hst|⟨X,hst⟩
    ·refine qq ?_
     refine gg [.a _ _,.b (0 !=0) false,.a _ _,.a _ _,.a _ _,.a _ _,.a _ _,.a _ _,.a _ _,.a _ _,.a _ _] ⟨o_a ha,bK,o_a hA,o_a hst,o_a hmv,o_a hsh,o_a hge,o_a hbl,o_a hfa,o_a hgr,o_a hlv,trivial⟩ ?_
     refine gg [.i zd (f+1) (f+1),.s (qk 15 (zz zn oo)),.a _ _] ⟨oI,o_a hso,trivial⟩ ?_
     exact ge
    ·refine qq ?_
     refine gg [.a _ _,.b (0 !=0) false,.a _ _,.a _ _,.a _ _,.a _ _,.a _ _,.a _ _,.a _ _,.a _ _,.a _ _] ⟨o_a ha,bK,o_a hA,o_a hst,o_a hmv,o_a hsh,o_a hge,o_a hbl,o_a hfa,o_a hgr,o_a hlv,trivial⟩ ?_
     refine gg [.i zd (f+1) (f+1),.s (qk 15 (zz zn oo)),.a _ _] ⟨oI,o_a hso,trivial⟩ ?_
     exact ge
  ·have hgr:=Af6 c r f fm FL o (by omega) (by omega) (by omega) (by omega) hg
   have e2:growS c r f ⟨FL,fm,o⟩=⟨put1 FL (gemE c r f fm),fm+1,o⟩:=by unfold growS;rw [if_neg hg]
   rw [e2]
   clear e2 hg hfl
   have hpl:=(@Abl FL (gemE c r f fm)).2
   generalize put1 FL (gemE c r f fm)=G at*
   have hlv:=AdF c r f (fm+1) G o (by omega) (by omega)
   have hso:=AaH (leaveS c r f ⟨G,fm+1,o⟩).out (by have:= @Acl c r f ⟨G,fm+1,o⟩;unfold small;simp only at this;omega)
   split at hlv
   ·rename_i hq
    rw [show (leaveS c r f ⟨G,fm+1,o⟩).out=o from Ajj hq] at hso⊢
    clear hq
    generalize (leaveS c r f ⟨G,fm+1,o⟩).l=Z at*
    generalize sortS z7 o=so at*
    rcases hst with hst|⟨X,hst⟩
    ·refine qq ?_
     refine gg [.a _ _,.b (0 !=0) false,.a _ _,.a _ _,.a _ _,.a _ _,.a _ _,.a _ _,.a _ _,.a _ _,.a _ _] ⟨o_a ha,bK,o_a hA,o_a hst,o_a hmv,o_a hsh,o_a hge,o_a hbl,o_a hfa,o_a hgr,o_a hlv,trivial⟩ ?_
     refine gg [.i zd (f+1) (f+1),.s (qk 15 (zz zn o)),.a _ _] ⟨oI,o_a hso,trivial⟩ ?_
     exact ge
    ·refine qq ?_
     refine gg [.a _ _,.b (0 !=0) false,.a _ _,.a _ _,.a _ _,.a _ _,.a _ _,.a _ _,.a _ _,.a _ _,.a _ _] ⟨o_a ha,bK,o_a hA,o_a hst,o_a hmv,o_a hsh,o_a hge,o_a hbl,o_a hfa,o_a hgr,o_a hlv,trivial⟩ ?_
     refine gg [.i zd (f+1) (f+1),.s (qk 15 (zz zn o)),.a _ _] ⟨oI,o_a hso,trivial⟩ ?_
     exact ge
   ·rename_i hq
    clear hq
    generalize (leaveS c r f ⟨G,fm+1,o⟩).l=Z at*
    generalize hoo:(leaveS c r f ⟨G,fm+1,o⟩).out=oo at*
    generalize sortS z7 oo=so at*
    rcases hst with hst|⟨X,hst⟩
    ·refine qq ?_
     refine gg [.a _ _,.b (0 !=0) false,.a _ _,.a _ _,.a _ _,.a _ _,.a _ _,.a _ _,.a _ _,.a _ _,.a _ _] ⟨o_a ha,bK,o_a hA,o_a hst,o_a hmv,o_a hsh,o_a hge,o_a hbl,o_a hfa,o_a hgr,o_a hlv,trivial⟩ ?_
     refine gg [.i zd (f+1) (f+1),.s (qk 15 (zz zn oo)),.a _ _] ⟨oI,o_a hso,trivial⟩ ?_
     exact ge
    ·refine qq ?_
     refine gg [.a _ _,.b (0 !=0) false,.a _ _,.a _ _,.a _ _,.a _ _,.a _ _,.a _ _,.a _ _,.a _ _,.a _ _] ⟨o_a ha,bK,o_a hA,o_a hst,o_a hmv,o_a hsh,o_a hge,o_a hbl,o_a hfa,o_a hgr,o_a hlv,trivial⟩ ?_
     refine gg [.i zd (f+1) (f+1),.s (qk 15 (zz zn oo)),.a _ _] ⟨oI,o_a hso,trivial⟩ ?_
     exact ge
theorem Ajv (c:Config) (r:Int) (s:Region) (ins:List Input) (inbox:List Cross) (hn:s.ents.length≤100000) (hi:small ins) (hb:inbox.length≤100000):
  Is cx (.call 23 [.t c.enc,vi r,.t s.enc,.t (.sl 3 (ins.map zr)),.t (.sl 15 (inbox.map zn))] []) ⟨.ret,[.t (stepP c r s ins inbox).1.enc,.t (.sl 15 ((stepP c r s ins inbox).2.1.map zn)),vi (stepP c r s ins inbox).2.2],[]⟩:=by
 unfold stepP
 by_cases h:askedE c r s ins inbox=0
 ·rw [if_neg (by simp [h])]
  exact Adf c r s ins inbox hn hi hb h
 ·rw [if_pos h]
  exact Aht c r s ins inbox (by unfold small;omega) hi (by unfold small;omega) h
end Go.Eva.S4