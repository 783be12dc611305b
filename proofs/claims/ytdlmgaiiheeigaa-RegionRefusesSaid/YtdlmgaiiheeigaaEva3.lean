/- A reading of the program, proved sound against the model, and what its functions answer by it: part 3. -/
import Derived.Test.YtdlmgaiiheeigaaEva2
set_option linter.unusedSimpArgs false
set_option linter.unusedVariables false
open List renaming length → zq, map → zz, replicate → zj, set → zx, take → zw, drop → zk
open Int renaming toNat → zy, tmod → zg, fdiv → zh
open Go.IntKind renaming i64 → zd, u64 → zf, wrap → zp
open BitVec renaming ofInt → zb
open Go.Eva.Entity renaming enc → zm, less → z8, right → z9, mk → qw
open Go.Eva.Cross renaming enc → zn, less → z7
open Go.Eva.Input renaming enc → zr
open Go.Eva.Region renaming enc → zt
open Go.Eva.Config renaming regions → z0, near → z6
open Go.Eva.Wp renaming ev → qq
open Go.Eva.Res renaming mk → qz
open Go.Eva.Ex renaming ret → qj, exit → qx
open Go.Eva.Ob renaming arr → qv, one → qg
open Go.Eva.T renaming sl → qk
open Go.Eva.V renaming all → qy
namespace Go.Eva.S2
theorem AbT (A0 A1 A2 A3:List Cross) (a m b mid s:Nat) (hmid:(a+b)/2=mid) (hc:m≤mid)
  (h1:a+1<m) (h2:m+1<b) (hb:b≤A0.length) (hn:small A0) (hs:a≤s∧s≤m)
  (hbs:Is cx (.loop 111 [0,0,1,1,1,1,1,1,1] 1 [.all 0 none,vi a,vi m,vi b,.t (.clo 80 []),vi mid,vi (mid+m:Nat),vi a,vi m,vi (mid+m-1:Nat)] [.arr 15 (A0.map zn) none false])
   ⟨.exit 8,[.all 0 none,vi a,vi m,vi b,.t (.clo 80 []),vi mid,vi (mid+m:Nat),vi s,vi s,vi (mid+m-1:Nat)],[.arr 15 (A0.map zn) none false]⟩)
  (k1:s<m→s<mid→Is cx (.call 114 [.all 0 none,vi s,vi m,vi (mid+m-s:Nat),.t (.clo 80 [])] [.arr 15 (A0.map zn) none false]) ⟨.ret,[],[.arr 15 (A1.map zn) none false]⟩)
  (k1': ¬(s<m∧s<mid)→A0=A1)
  (k2:a<s→s<mid→Is cx (.call 111 [.all 0 none,vi a,vi s,vi mid,.t (.clo 80 [])] [.arr 15 (A1.map zn) none false]) ⟨.ret,[],[.arr 15 (A2.map zn) none false]⟩)
  (k2': ¬(a<s∧s<mid)→A1=A2)
  (k3:s<m→mid+m<b+s→Is cx (.call 111 [.all 0 none,vi mid,vi (mid+m-s:Nat),vi b,.t (.clo 80 [])] [.arr 15 (A2.map zn) none false]) ⟨.ret,[],[.arr 15 (A3.map zn) none false]⟩)
  (k3': ¬(s<m∧mid+m<b+s)→A2=A3):
  Is cx (.call 111 [.all 0 none,vi a,vi m,vi b,.t (.clo 80 [])] [.arr 15 (A0.map zn) none false])
  ⟨.ret,[],[.arr 15 (A3.map zn) none false]⟩:=by
 have hf:zh ((a+b:Nat):Int) 2=(mid:Nat):=by rw [Int.fdiv_eq_ediv_of_nonneg _ (by omega)];omega
 have hmm:a<mid∧mid<b:=by omega
 unfold small at hn
 have e1:((mid+m:Nat):Int)-1=(mid+m-1:Nat):=by omega
 have e2:((mid+m:Nat):Int)-s=(mid+m-s:Nat):=by omega
 by_cases c1:s<m∧s<mid
 ·have j1:=k1 c1.1 c1.2
  by_cases c2:a<s
  ·have j2:=k2 c2 c1.2
   by_cases c3:mid+m<b+s
   ·have j3:=k3 c1.1 c3
    clear k1' k2' k3' k1 k2 k3
    refine qq ?_
    refine gg [.i zd ((m:Int)-(a:Int)) ((m:Int)-(a:Int)),.b ((m:Int)-(a:Int)==1) false,.i zd ((b:Int)-(m:Int)) ((b:Int)-(m:Int)),.b ((b:Int)-(m:Int)==1) false,.i zd ((a:Int)+(b:Int)) ((↑(a+b):Int)),.i zf ((↑(a+b):Int)) ((↑(a+b):Int)),.w (0≤(1:Int)),.t (T.int zf (zh (↑(a+b):Int) 2)) (T.int zf (mid:Int)),.i zd (mid:Int) (mid:Int),.i zd ((mid:Int)+(m:Int)) ((↑(mid+m):Int)),.b (decide ((m:Int)>(mid:Int))) false,.i zd ((↑(mid+m):Int)-1) ((↑(mid+m-1):Int)),.a _ _,.i zd ((↑(mid+m):Int)-(s:Int)) ((↑(mid+m-s):Int)),.b (decide ((s:Int)<(m:Int))) true,.tt] ⟨oI,fE,oI,fE,oI,oU,oW,o_t (by rw [hf]),oI,oI,fP,oI,o_a hbs,oI,tP,trivial⟩ ?_
    refine gg [.tt,.tt,.b (decide ((m:Int)<(↑(mid+m-s):Int))) true,.a _ _,.b (decide ((a:Int)<(s:Int))) true,.tt,.tt,.tt,.b (decide ((s:Int)<(mid:Int))) true,.a _ _,.b (decide ((mid:Int)<(↑(mid+m-s):Int))) true,.tt,.tt,.tt,.b (decide ((↑(mid+m-s):Int)<(b:Int))) true,.a _ _] ⟨tP,o_a j1,tP,tP,o_a j2,tP,tP,o_a j3,trivial⟩ ?_
    exact ge
   ·obtain rfl:=k3' (fun h=>c3 h.2)
    clear k1' k2' k3' k1 k2 k3
    omega
  ·obtain rfl:=k2' (fun h=>c2 h.1)
   by_cases c3:mid+m<b+s
   ·have j3:=k3 c1.1 c3
    clear k1' k2' k3' k1 k2 k3
    refine qq ?_
    refine gg [.i zd ((m:Int)-(a:Int)) ((m:Int)-(a:Int)),.b ((m:Int)-(a:Int)==1) false,.i zd ((b:Int)-(m:Int)) ((b:Int)-(m:Int)),.b ((b:Int)-(m:Int)==1) false,.i zd ((a:Int)+(b:Int)) ((↑(a+b):Int)),.i zf ((↑(a+b):Int)) ((↑(a+b):Int)),.w (0≤(1:Int)),.t (T.int zf (zh (↑(a+b):Int) 2)) (T.int zf (mid:Int)),.i zd (mid:Int) (mid:Int),.i zd ((mid:Int)+(m:Int)) ((↑(mid+m):Int)),.b (decide ((m:Int)>(mid:Int))) false,.i zd ((↑(mid+m):Int)-1) ((↑(mid+m-1):Int)),.a _ _,.i zd ((↑(mid+m):Int)-(s:Int)) ((↑(mid+m-s):Int)),.b (decide ((s:Int)<(m:Int))) true,.tt] ⟨oI,fE,oI,fE,oI,oU,oW,o_t (by rw [hf]),oI,oI,fP,oI,o_a hbs,oI,tP,trivial⟩ ?_
    refine gg [.tt,.tt,.b (decide ((m:Int)<(↑(mid+m-s):Int))) true,.a _ _,.b (decide ((a:Int)<(s:Int))) false,.ff,.ff,.ff,.ff,.b (decide ((mid:Int)<(↑(mid+m-s):Int))) true,.tt,.tt,.tt,.b (decide ((↑(mid+m-s):Int)<(b:Int))) true,.a _ _] ⟨tP,o_a j1,fP,tP,tP,o_a j3,trivial⟩ ?_
    exact ge
   ·obtain rfl:=k3' (fun h=>c3 h.2)
    clear k1' k2' k3' k1 k2 k3
    refine qq ?_
    refine gg [.i zd ((m:Int)-(a:Int)) ((m:Int)-(a:Int)),.b ((m:Int)-(a:Int)==1) false,.i zd ((b:Int)-(m:Int)) ((b:Int)-(m:Int)),.b ((b:Int)-(m:Int)==1) false,.i zd ((a:Int)+(b:Int)) ((↑(a+b):Int)),.i zf ((↑(a+b):Int)) ((↑(a+b):Int)),.w (0≤(1:Int)),.t (T.int zf (zh (↑(a+b):Int) 2)) (T.int zf (mid:Int)),.i zd (mid:Int) (mid:Int),.i zd ((mid:Int)+(m:Int)) ((↑(mid+m):Int)),.b (decide ((m:Int)>(mid:Int))) false,.i zd ((↑(mid+m):Int)-1) ((↑(mid+m-1):Int)),.a _ _,.i zd ((↑(mid+m):Int)-(s:Int)) ((↑(mid+m-s):Int)),.b (decide ((s:Int)<(m:Int))) true,.tt] ⟨oI,fE,oI,fE,oI,oU,oW,o_t (by rw [hf]),oI,oI,fP,oI,o_a hbs,oI,tP,trivial⟩ ?_
    refine gg [.tt,.tt,.b (decide ((m:Int)<(↑(mid+m-s):Int))) true,.a _ _,.b (decide ((a:Int)<(s:Int))) false,.ff,.ff,.ff,.ff,.b (decide ((mid:Int)<(↑(mid+m-s):Int))) true,.tt,.tt,.tt,.b (decide ((↑(mid+m-s):Int)<(b:Int))) false] ⟨tP,o_a j1,fP,tP,fP,trivial⟩ ?_
    exact ge
 ·obtain rfl:=k1' c1
  by_cases c0:s<m
  ·have c4: ¬s<mid:=fun h=>c1 ⟨c0,h⟩
   obtain rfl:=k2' (fun h=>c4 h.2)
   by_cases c3:mid+m<b+s
   ·have j3:=k3 c0 c3
    clear k1' k2' k3' k1 k2 k3
    by_cases c2:a<s
    ·omega
    ·omega
   ·obtain rfl:=k3' (fun h=>c3 h.2)
    clear k1' k2' k3' k1 k2 k3
    by_cases c2:a<s
    ·omega
    ·omega
  ·obtain rfl:=k3' (fun h=>c0 h.1)
   by_cases c4:s<mid
   ·have j2:=k2 (by omega) c4
    clear k1' k2' k3' k1 k2 k3
    refine qq ?_
    refine gg [.i zd ((m:Int)-(a:Int)) ((m:Int)-(a:Int)),.b ((m:Int)-(a:Int)==1) false,.i zd ((b:Int)-(m:Int)) ((b:Int)-(m:Int)),.b ((b:Int)-(m:Int)==1) false,.i zd ((a:Int)+(b:Int)) ((↑(a+b):Int)),.i zf ((↑(a+b):Int)) ((↑(a+b):Int)),.w (0≤(1:Int)),.t (T.int zf (zh (↑(a+b):Int) 2)) (T.int zf (mid:Int)),.i zd (mid:Int) (mid:Int),.i zd ((mid:Int)+(m:Int)) ((↑(mid+m):Int)),.b (decide ((m:Int)>(mid:Int))) false,.i zd ((↑(mid+m):Int)-1) ((↑(mid+m-1):Int)),.a _ _,.i zd ((↑(mid+m):Int)-(s:Int)) ((↑(mid+m-s):Int)),.b (decide ((s:Int)<(m:Int))) false,.ff] ⟨oI,fE,oI,fE,oI,oU,oW,o_t (by rw [hf]),oI,oI,fP,oI,o_a hbs,oI,fP,trivial⟩ ?_
    refine gg [.ff,.ff,.ff,.b (decide ((a:Int)<(s:Int))) true,.tt,.tt,.tt,.b (decide ((s:Int)<(mid:Int))) true,.a _ _,.b (decide ((mid:Int)<(↑(mid+m-s):Int))) false,.ff,.ff,.ff,.ff] ⟨tP,tP,o_a j2,fP,trivial⟩ ?_
    exact ge
   ·obtain rfl:=k2' (fun h=>c4 h.2)
    clear k1' k2' k3' k1 k2 k3
    by_cases c2:a<s
    ·refine qq ?_
     refine gg [.i zd ((m:Int)-(a:Int)) ((m:Int)-(a:Int)),.b ((m:Int)-(a:Int)==1) false,.i zd ((b:Int)-(m:Int)) ((b:Int)-(m:Int)),.b ((b:Int)-(m:Int)==1) false,.i zd ((a:Int)+(b:Int)) ((↑(a+b):Int)),.i zf ((↑(a+b):Int)) ((↑(a+b):Int)),.w (0≤(1:Int)),.t (T.int zf (zh (↑(a+b):Int) 2)) (T.int zf (mid:Int)),.i zd (mid:Int) (mid:Int),.i zd ((mid:Int)+(m:Int)) ((↑(mid+m):Int)),.b (decide ((m:Int)>(mid:Int))) false,.i zd ((↑(mid+m):Int)-1) ((↑(mid+m-1):Int)),.a _ _,.i zd ((↑(mid+m):Int)-(s:Int)) ((↑(mid+m-s):Int)),.b (decide ((s:Int)<(m:Int))) false,.ff] ⟨oI,fE,oI,fE,oI,oU,oW,o_t (by rw [hf]),oI,oI,fP,oI,o_a hbs,oI,fP,trivial⟩ ?_
     refine gg [.ff,.ff,.ff,.b (decide ((a:Int)<(s:Int))) true,.tt,.tt,.tt,.b (decide ((s:Int)<(mid:Int))) false,.b (decide ((mid:Int)<(↑(mid+m-s):Int))) false,.ff,.ff,.ff,.ff] ⟨tP,fP,fP,trivial⟩ ?_
     exact ge
    ·omega
theorem AbF (A0 A1 A2 A3:List Cross) (a m b mid s:Nat) (hmid:(a+b)/2=mid) (hc:mid<m)
  (h1:a+1<m) (h2:m+1<b) (hb:b≤A0.length) (hn:small A0) (hs:mid+m-b≤s∧s≤mid)
  (hbs:Is cx (.loop 111 [0,0,1,1,1,1,1,1,1] 1 [.all 0 none,vi a,vi m,vi b,.t (.clo 80 []),vi mid,vi (mid+m:Nat),vi (mid+m-b:Nat),vi mid,vi (mid+m-1:Nat)] [.arr 15 (A0.map zn) none false])
   ⟨.exit 8,[.all 0 none,vi a,vi m,vi b,.t (.clo 80 []),vi mid,vi (mid+m:Nat),vi s,vi s,vi (mid+m-1:Nat)],[.arr 15 (A0.map zn) none false]⟩)
  (k1:s<m→s<mid→Is cx (.call 114 [.all 0 none,vi s,vi m,vi (mid+m-s:Nat),.t (.clo 80 [])] [.arr 15 (A0.map zn) none false]) ⟨.ret,[],[.arr 15 (A1.map zn) none false]⟩)
  (k1': ¬(s<m∧s<mid)→A0=A1)
  (k2:a<s→s<mid→Is cx (.call 111 [.all 0 none,vi a,vi s,vi mid,.t (.clo 80 [])] [.arr 15 (A1.map zn) none false]) ⟨.ret,[],[.arr 15 (A2.map zn) none false]⟩)
  (k2': ¬(a<s∧s<mid)→A1=A2)
  (k3:s<m→mid+m<b+s→Is cx (.call 111 [.all 0 none,vi mid,vi (mid+m-s:Nat),vi b,.t (.clo 80 [])] [.arr 15 (A2.map zn) none false]) ⟨.ret,[],[.arr 15 (A3.map zn) none false]⟩)
  (k3': ¬(s<m∧mid+m<b+s)→A2=A3):
  Is cx (.call 111 [.all 0 none,vi a,vi m,vi b,.t (.clo 80 [])] [.arr 15 (A0.map zn) none false])
  ⟨.ret,[],[.arr 15 (A3.map zn) none false]⟩:=by
 have hf:zh ((a+b:Nat):Int) 2=(mid:Nat):=by rw [Int.fdiv_eq_ediv_of_nonneg _ (by omega)];omega
 have hmm:a<mid∧mid<b:=by omega
 unfold small at hn
 have e1:((mid+m:Nat):Int)-1=(mid+m-1:Nat):=by omega
 have e2:((mid+m:Nat):Int)-s=(mid+m-s:Nat):=by omega
 have e3:((mid+m:Nat):Int)-b=(mid+m-b:Nat):=by omega
 by_cases c1:s<m∧s<mid
 ·have j1:=k1 c1.1 c1.2
  by_cases c2:a<s
  ·have j2:=k2 c2 c1.2
   by_cases c3:mid+m<b+s
   ·have j3:=k3 c1.1 c3
    clear k1' k2' k3' k1 k2 k3
    refine qq ?_
    refine gg [.i zd ((m:Int)-(a:Int)) ((m:Int)-(a:Int)),.b ((m:Int)-(a:Int)==1) false,.i zd ((b:Int)-(m:Int)) ((b:Int)-(m:Int)),.b ((b:Int)-(m:Int)==1) false,.i zd ((a:Int)+(b:Int)) ((↑(a+b):Int)),.i zf ((↑(a+b):Int)) ((↑(a+b):Int)),.w (0≤(1:Int)),.t (T.int zf (zh (↑(a+b):Int) 2)) (T.int zf (mid:Int)),.i zd (mid:Int) (mid:Int),.i zd ((mid:Int)+(m:Int)) ((↑(mid+m):Int)),.b (decide ((m:Int)>(mid:Int))) true,.i zd ((↑(mid+m):Int)-(b:Int)) ((↑(mid+m-b):Int)),.i zd ((↑(mid+m):Int)-1) ((↑(mid+m-1):Int)),.a _ _,.i zd ((↑(mid+m):Int)-(s:Int)) ((↑(mid+m-s):Int)),.b (decide ((s:Int)<(m:Int))) true] ⟨oI,fE,oI,fE,oI,oU,oW,o_t (by rw [hf]),oI,oI,tP,oI,oI,o_a hbs,oI,tP,trivial⟩ ?_
    refine gg [.tt,.tt,.tt,.b (decide ((m:Int)<(↑(mid+m-s):Int))) true,.a _ _,.b (decide ((a:Int)<(s:Int))) true,.tt,.tt,.tt,.b (decide ((s:Int)<(mid:Int))) true,.a _ _,.b (decide ((mid:Int)<(↑(mid+m-s):Int))) true,.tt,.tt,.tt,.b (decide ((↑(mid+m-s):Int)<(b:Int))) true] ⟨tP,o_a j1,tP,tP,o_a j2,tP,tP,trivial⟩ ?_
    refine gg [.a _ _] ⟨o_a j3,trivial⟩ ?_
    exact ge
   ·obtain rfl:=k3' (fun h=>c3 h.2)
    clear k1' k2' k3' k1 k2 k3
    refine qq ?_
    refine gg [.i zd ((m:Int)-(a:Int)) ((m:Int)-(a:Int)),.b ((m:Int)-(a:Int)==1) false,.i zd ((b:Int)-(m:Int)) ((b:Int)-(m:Int)),.b ((b:Int)-(m:Int)==1) false,.i zd ((a:Int)+(b:Int)) ((↑(a+b):Int)),.i zf ((↑(a+b):Int)) ((↑(a+b):Int)),.w (0≤(1:Int)),.t (T.int zf (zh (↑(a+b):Int) 2)) (T.int zf (mid:Int)),.i zd (mid:Int) (mid:Int),.i zd ((mid:Int)+(m:Int)) ((↑(mid+m):Int)),.b (decide ((m:Int)>(mid:Int))) true,.i zd ((↑(mid+m):Int)-(b:Int)) ((↑(mid+m-b):Int)),.i zd ((↑(mid+m):Int)-1) ((↑(mid+m-1):Int)),.a _ _,.i zd ((↑(mid+m):Int)-(s:Int)) ((↑(mid+m-s):Int)),.b (decide ((s:Int)<(m:Int))) true] ⟨oI,fE,oI,fE,oI,oU,oW,o_t (by rw [hf]),oI,oI,tP,oI,oI,o_a hbs,oI,tP,trivial⟩ ?_
    refine gg [.tt,.tt,.tt,.b (decide ((m:Int)<(↑(mid+m-s):Int))) true,.a _ _,.b (decide ((a:Int)<(s:Int))) true,.tt,.tt,.tt,.b (decide ((s:Int)<(mid:Int))) true,.a _ _,.b (decide ((mid:Int)<(↑(mid+m-s):Int))) true,.tt,.tt,.tt,.b (decide ((↑(mid+m-s):Int)<(b:Int))) false] ⟨tP,o_a j1,tP,tP,o_a j2,tP,fP,trivial⟩ ?_
    exact ge
  ·obtain rfl:=k2' (fun h=>c2 h.1)
   by_cases c3:mid+m<b+s
   ·have j3:=k3 c1.1 c3
    clear k1' k2' k3' k1 k2 k3
    omega
   ·obtain rfl:=k3' (fun h=>c3 h.2)
    clear k1' k2' k3' k1 k2 k3
    refine qq ?_
    refine gg [.i zd ((m:Int)-(a:Int)) ((m:Int)-(a:Int)),.b ((m:Int)-(a:Int)==1) false,.i zd ((b:Int)-(m:Int)) ((b:Int)-(m:Int)),.b ((b:Int)-(m:Int)==1) false,.i zd ((a:Int)+(b:Int)) ((↑(a+b):Int)),.i zf ((↑(a+b):Int)) ((↑(a+b):Int)),.w (0≤(1:Int)),.t (T.int zf (zh (↑(a+b):Int) 2)) (T.int zf (mid:Int)),.i zd (mid:Int) (mid:Int),.i zd ((mid:Int)+(m:Int)) ((↑(mid+m):Int)),.b (decide ((m:Int)>(mid:Int))) true,.i zd ((↑(mid+m):Int)-(b:Int)) ((↑(mid+m-b):Int)),.i zd ((↑(mid+m):Int)-1) ((↑(mid+m-1):Int)),.a _ _,.i zd ((↑(mid+m):Int)-(s:Int)) ((↑(mid+m-s):Int)),.b (decide ((s:Int)<(m:Int))) true] ⟨oI,fE,oI,fE,oI,oU,oW,o_t (by rw [hf]),oI,oI,tP,oI,oI,o_a hbs,oI,tP,trivial⟩ ?_
    refine gg [.tt,.tt,.tt,.b (decide ((m:Int)<(↑(mid+m-s):Int))) true,.a _ _,.b (decide ((a:Int)<(s:Int))) false,.ff,.ff,.ff,.ff,.b (decide ((mid:Int)<(↑(mid+m-s):Int))) true,.tt,.tt,.tt,.b (decide ((↑(mid+m-s):Int)<(b:Int))) false] ⟨tP,o_a j1,fP,tP,fP,trivial⟩ ?_
    exact ge
 ·obtain rfl:=k1' c1
  by_cases c0:s<m
  ·have c4: ¬s<mid:=fun h=>c1 ⟨c0,h⟩
   obtain rfl:=k2' (fun h=>c4 h.2)
   by_cases c3:mid+m<b+s
   ·have j3:=k3 c0 c3
    clear k1' k2' k3' k1 k2 k3
    by_cases c2:a<s
    ·refine qq ?_
     refine gg [.i zd ((m:Int)-(a:Int)) ((m:Int)-(a:Int)),.b ((m:Int)-(a:Int)==1) false,.i zd ((b:Int)-(m:Int)) ((b:Int)-(m:Int)),.b ((b:Int)-(m:Int)==1) false,.i zd ((a:Int)+(b:Int)) ((↑(a+b):Int)),.i zf ((↑(a+b):Int)) ((↑(a+b):Int)),.w (0≤(1:Int)),.t (T.int zf (zh (↑(a+b):Int) 2)) (T.int zf (mid:Int)),.i zd (mid:Int) (mid:Int),.i zd ((mid:Int)+(m:Int)) ((↑(mid+m):Int)),.b (decide ((m:Int)>(mid:Int))) true,.i zd ((↑(mid+m):Int)-(b:Int)) ((↑(mid+m-b):Int)),.i zd ((↑(mid+m):Int)-1) ((↑(mid+m-1):Int)),.a _ _,.i zd ((↑(mid+m):Int)-(s:Int)) ((↑(mid+m-s):Int)),.b (decide ((s:Int)<(m:Int))) true] ⟨oI,fE,oI,fE,oI,oU,oW,o_t (by rw [hf]),oI,oI,tP,oI,oI,o_a hbs,oI,tP,trivial⟩ ?_
     refine gg [.tt,.tt,.tt,.b (decide ((m:Int)<(↑(mid+m-s):Int))) false,.b (decide ((a:Int)<(s:Int))) true,.tt,.tt,.tt,.b (decide ((s:Int)<(mid:Int))) false,.b (decide ((mid:Int)<(↑(mid+m-s):Int))) true,.tt,.tt,.tt,.b (decide ((↑(mid+m-s):Int)<(b:Int))) true,.a _ _] ⟨fP,tP,fP,tP,tP,o_a j3,trivial⟩ ?_
     exact ge
    ·omega
   ·obtain rfl:=k3' (fun h=>c3 h.2)
    clear k1' k2' k3' k1 k2 k3
    by_cases c2:a<s
    ·omega
    ·omega
  ·obtain rfl:=k3' (fun h=>c0 h.1)
   by_cases c4:s<mid
   ·have j2:=k2 (by omega) c4
    clear k1' k2' k3' k1 k2 k3
    omega
   ·obtain rfl:=k2' (fun h=>c4 h.2)
    clear k1' k2' k3' k1 k2 k3
    by_cases c2:a<s
    ·omega
    ·omega
theorem Ab6: ∀(n:Nat) (P U V Q:List Cross) (a m b:Nat),U.length+V.length≤n→a=P.length→m=a+U.length→b=m+V.length→0<U.length→0<V.length→Sd z7 U→Sd z7 V→small (P++U++V++Q)→
  Is cx (.call 111 [.all 0 none,vi a,vi m,vi b,.t (.clo 80 [])] [.arr 15 ((P++U++V++Q).map zn) none false])
  ⟨.ret,[],[.arr 15 ((P++sortS z7 (U++V)++Q).map zn) none false]⟩:=by
 intro n
 induction n with
 |zero=>intros;omega
 |succ n ih=>
  intro P U V Q a m b hl ha hm hb hu hv hU hV hn
  by_cases hu1:U.length=1
  ·obtain ⟨x,rfl⟩:=List.length_eq_one_iff.1 hu1
   exact AbA P V Q x a m b ha (by simpa using hm) hb hv hV hn
  ·by_cases hv1:V.length=1
   ·obtain ⟨y,rfl⟩:=List.length_eq_one_iff.1 hv1
    exact AbS P U Q y a m b ha hm (by simpa using hb) (by omega) hU hn
   ·obtain ⟨mid,hmid⟩: ∃mid,(a+b)/2=mid:=⟨_,rfl⟩
    obtain ⟨s0,r0,hs0⟩: ∃s0 r0,m≤mid∧s0=a∧r0=m∨mid<m∧s0=mid+m-b∧r0=mid:=by
     by_cases h:m≤mid
     ·exact ⟨a,m,.inl ⟨h,rfl,rfl⟩⟩
     ·exact ⟨mid+m-b,mid,.inr ⟨by omega,rfl,rfl⟩⟩
    have hlen:(P++U++V++Q).length=b+Q.length:=by simp;omega
    have hbs:=Ach (P++U++V++Q) a m b mid (mid+m) (mid+m-1) hn (r0-s0) s0 r0 (by omega) (by omega) (by omega) (by omega) (by omega)
    have hp:(fun c=> !z7 (gt (P++U++V++Q) (mid+m-1-c)) (gt (P++U++V++Q) c))=fun c=> !z7 (gt (P++U++V++Q) (mid+m-1-c)) (gt (P++U++V++Q) c):=rfl
    obtain ⟨k1,k2,U1,U2,V1,V2,e1,e2,l1,l2,e3,u1,u2,v1,v2⟩:=Ahx Aag (Q:=Q) ha hm hb hU hV hu hv hmid hs0 (d:=r0-s0) (by omega) rfl
    generalize bs _ (r0-s0) s0 r0=s at*
    subst e1 e2
    simp only [List.length_append] at hl hm hb hu hv hlen hu1 hv1
    have hsm: ∀ {X Y:List Cross},X.length=Y.length→small Y→small X:=fun h k=>by unfold small at*;rw [h];exact k
    have g1:s<m→s<mid→Is cx (.call 114 [.all 0 none,vi s,vi m,vi (mid+m-s:Nat),.t (.clo 80 [])] [.arr 15 ((P++(U1++U2)++(V1++V2)++Q).map zn) none false]) ⟨.ret,[],[.arr 15 ((P++U1++V1++(U2++V2++Q)).map zn) none false]⟩:=by
     intro c1 c2
     have:=Ae0 (P++(U1++U2)++(V1++V2)++Q) s m (mid+m-s) c1 (by omega) (by simp;omega) hn
     have e:(P++(U1++U2)++(V1++V2)++Q).take s++seg (P++(U1++U2)++(V1++V2)++Q) m (mid+m-s)++seg (P++(U1++U2)++(V1++V2)++Q) s m++(P++(U1++U2)++(V1++V2)++Q).drop (mid+m-s)=P++U1++V1++(U2++V2++Q):=by
      have f1:P++(U1++U2)++(V1++V2)++Q=(P++U1)++(U2++(V1++(V2++Q))):=by simp
      have f2:P++(U1++U2)++(V1++V2)++Q=(P++U1++U2)++(V1++(V2++Q)):=by simp
      have f3:P++(U1++U2)++(V1++V2)++Q=(P++U1++U2++V1)++(V2++Q):=by simp
      have g1:(P++(U1++U2)++(V1++V2)++Q).take s=P++U1:=by rw [f1,List.take_left' (by simp;omega)]
      have g2:seg (P++(U1++U2)++(V1++V2)++Q) m (mid+m-s)=V1:=by unfold seg;rw [f2,List.drop_left' (by simp;omega),List.take_left' (by omega)]
      have g3:seg (P++(U1++U2)++(V1++V2)++Q) s m=U2:=by unfold seg;rw [f1,List.drop_left' (by simp;omega),List.take_left' (by omega)]
      have g4:(P++(U1++U2)++(V1++V2)++Q).drop (mid+m-s)=V2++Q:=by rw [f3,List.drop_left' (by simp;omega)]
      rw [g1,g2,g3,g4];simp
     rw [e] at this
     exact this
    have g1': ¬(s<m∧s<mid)→(P++(U1++U2)++(V1++V2)++Q)=(P++U1++V1++(U2++V2++Q)):=by
     intro c
     have:U2= []∨V1= []:=by
      by_cases h:s<m
      ·right;exact List.eq_nil_of_length_eq_zero (by omega)
      ·left;exact List.eq_nil_of_length_eq_zero (by omega)
     rcases this with rfl|rfl<;>simp
    have g2:a<s→s<mid→Is cx (.call 111 [.all 0 none,vi a,vi s,vi mid,.t (.clo 80 [])] [.arr 15 ((P++U1++V1++(U2++V2++Q)).map zn) none false]) ⟨.ret,[],[.arr 15 ((P++sortS z7 (U1++V1)++(U2++V2++Q)).map zn) none false]⟩:=by
     intro c1 c2
     exact ih P U1 V1 (U2++V2++Q) a s mid (by omega) ha (by omega) (by omega) (by omega) (by omega) u1 v1 (hsm (by simp;omega) hn)
    have g2': ¬(a<s∧s<mid)→(P++U1++V1++(U2++V2++Q))=(P++sortS z7 (U1++V1)++(U2++V2++Q)):=by
     intro c
     have:U1= []∨V1= []:=by
      by_cases h:a<s
      ·right;exact List.eq_nil_of_length_eq_zero (by omega)
      ·left;exact List.eq_nil_of_length_eq_zero (by omega)
     rcases this with rfl|rfl
     ·simp [Aa1 Aag v1]
     ·simp [Aa1 Aag u1]
    have g3:s<m→mid+m<b+s→Is cx (.call 111 [.all 0 none,vi mid,vi (mid+m-s:Nat),vi b,.t (.clo 80 [])] [.arr 15 ((P++sortS z7 (U1++V1)++(U2++V2++Q)).map zn) none false]) ⟨.ret,[],[.arr 15 ((P++sortS z7 ((U1++U2)++(V1++V2))++Q).map zn) none false]⟩:=by
     intro c1 c2
     have hL:(sortS z7 (U1++V1)).length=U1.length+V1.length:=by rw [Abt Aag];simp
     have:=ih (P++sortS z7 (U1++V1)) U2 V2 Q mid (mid+m-s) b (by omega) (by simp;omega) (by omega) (by omega) (by omega) (by omega) u2 v2 (hsm (by simp;omega) hn)
     rw [←e3]
     simpa using this
    have g3': ¬(s<m∧mid+m<b+s)→(P++sortS z7 (U1++V1)++(U2++V2++Q))=(P++sortS z7 ((U1++U2)++(V1++V2))++Q):=by
     intro c
     have:U2= []∨V2= []:=by
      by_cases h:s<m
      ·right;exact List.eq_nil_of_length_eq_zero (by omega)
      ·left;exact List.eq_nil_of_length_eq_zero (by omega)
     rw [←e3]
     rcases this with rfl|rfl
     ·simp [Aa1 Aag v2]
     ·simp [Aa1 Aag u2]
    rcases hs0 with ⟨hc,rfl,rfl⟩|⟨hc,rfl,rfl⟩
    ·exact AbT _ _ _ _ s0 r0 b mid s hmid hc (by omega) (by omega) (by simp;omega) hn ⟨k1,k2⟩ hbs g1 g1' g2 g2' g3 g3'
    ·exact AbF _ _ _ _ a m b r0 s hmid hc (by omega) (by omega) (by simp;omega) hn ⟨k1,k2⟩ hbs g1 g1' g2 g2' g3 g3'
end Go.Eva.S2
namespace Go.Eva.S2
theorem Acc (n:Nat) (hn:n≤1000000): ∀(d:Nat) (P R:List Cross) (a:Nat),a=P.length→R.length≤d→(P++R).length=n→Full z7 20 P→
  ∃(P' R':List Cross),Is cx (.loop 101 [0,0,1,1] 1 [.all 0 none,vi n,.t (.clo 80 []),vi 20,vi a,vi (a+20:Nat)] [.arr 15 ((P++R).map zn) none false])
   ⟨.exit 0,[.all 0 none,vi n,.t (.clo 80 []),vi 20,vi P'.length,vi (P'.length+20:Nat)],[.arr 15 ((P'++R').map zn) none false]⟩∧
   Full z7 20 P'∧R'.length<20∧StEq z7 (P'++R') (P++R)∧(P'++R').length=n:=by
 intro d
 induction d with
 |zero=>
  intro P R a ha hR hl hP
  refine ⟨P,R,?_,hP,by omega,.refl _,hl⟩
  rw [List.length_append] at hl
  subst ha
  refine qq ?_
  refine gg [.b (decide ((↑(zq P+20):Int)≤(n:Int))) false] ⟨fP,trivial⟩ ?_
  exact ge
 |succ d ih=>
  intro P R a ha hR hl hP
  by_cases h:20≤R.length
  ·obtain ⟨S,R,rfl,hS⟩:=Ai2 R h
   rw [List.length_append] at hR
   have hs:(sortS z7 S).length=20:=by rw [Abt Aag,hS]
   have hl':((P++sortS z7 S)++R).length=n:=by rw [←hl];simp;omega
   obtain ⟨P',R',h1,h2,h3,h4,h5⟩:=ih (P++sortS z7 S) R (a+20) (by simp;omega) (by omega) hl' (.snoc hP hs (AaM Aag S))
   refine ⟨P',R',?_,h2,h3,?_,h5⟩
   ·clear ih
    have hA:(P++(S++R)).length=n:=hl
    have hi:=AaH (P++(S++R)) a (a+20) (by omega) (by simp;omega) (by unfold small;omega)
    rw [show srt z7 (P++(S++R)) a (a+20)=P++sortS z7 S++R by rw [←List.append_assoc];exact Aih P S R ha (by omega)] at hi
    simp only [List.length_append] at hA
    generalize P++(S++R)=A at*
    generalize P++sortS z7 S++R=B at*
    refine qq ?_
    refine gg [.b (decide ((↑(a+20):Int)≤(n:Int))) true,.a _ _,.i zd ((↑(a+20):Int)+20) ((↑(a+20+20):Int)),.a _ _] ⟨tP,o_a hi,oI,o_a h1,trivial⟩ ?_
    exact ge
   ·refine h4.trans ?_
    have:=StEq.mid (P:=P) (Q:=R) (AaE Aag S)
    simpa using this
  ·refine ⟨P,R,?_,hP,by omega,.refl _,hl⟩
   rw [List.length_append] at hl
   subst ha
   clear ih
   refine qq ?_
   refine gg [.b (decide ((↑(zq P+20):Int)≤(n:Int))) false] ⟨fP,trivial⟩ ?_
   exact ge
theorem Acj (n bs:Nat) (hn:n≤1000000) (hb:20≤bs) (hbs:bs≤n): ∀(d:Nat) (P R:List Cross) (a:Nat),a=P.length→R.length≤d→(P++R).length=n→Full z7 (2*bs) P→Blks z7 bs R→
  ∃(P' R':List Cross),Is cx (.loop 101 [0,0,1,0,1,0,0,1,1,1,1] 1 [.all 0 none,vi n,.t (.clo 80 []),vi bs,vi a,vi (a+2*bs:Nat)] [.arr 15 ((P++R).map zn) none false])
   ⟨.exit 4,[.all 0 none,vi n,.t (.clo 80 []),vi bs,vi P'.length,vi (P'.length+2*bs:Nat)],[.arr 15 ((P'++R').map zn) none false]⟩∧
   Full z7 (2*bs) P'∧Blks z7 bs R'∧R'.length<2*bs∧StEq z7 (P'++R') (P++R)∧(P'++R').length=n:=by
 intro d
 induction d with
 |zero=>
  intro P R a ha hR hl hP hB
  refine ⟨P,R,?_,hP,hB,by omega,.refl _,hl⟩
  rw [List.length_append] at hl
  subst ha
  refine qq ?_
  refine gg [.b (decide ((↑(zq P+2*bs):Int)≤(n:Int))) false] ⟨fP,trivial⟩ ?_
  exact ge
 |succ d ih=>
  intro P R a ha hR hl hP hB
  by_cases h:2*bs≤R.length
  ·obtain ⟨S1,S2,R,rfl,l1,l2,s1,s2,hB⟩:=hB.two (by omega) h
   simp only [List.length_append] at hR h
   have hs:(sortS z7 (S1++S2)).length=2*bs:=by rw [Abt Aag];simp;omega
   have hl':((P++sortS z7 (S1++S2))++R).length=n:=by rw [←hl];simp;omega
   obtain ⟨P',R',h1,h2,h3,h4,h5,h6⟩:=ih (P++sortS z7 (S1++S2)) R (a+2*bs) (by simp;omega) (by omega) hl' (.snoc hP hs (AaM Aag _)) hB
   refine ⟨P',R',?_,h2,h3,h4,?_,h6⟩
   ·clear ih
    have hA:(P++(S1++S2++R)).length=n:=hl
    have hi:=Ab6 (S1.length+S2.length) P S1 S2 R a (a+bs) (a+2*bs) (Nat.le_refl _) ha (by omega) (by omega) (by omega) (by omega) s1 s2 (by unfold small;simp at hA⊢;omega)
    rw [show P++S1++S2++R=P++(S1++S2++R) by simp] at hi
    simp only [List.length_append] at hA
    generalize P++(S1++S2++R)=A at*
    generalize P++sortS z7 (S1++S2)++R=B at*
    refine qq ?_
    refine gg [.b (decide ((↑(a+2*bs):Int)≤(n:Int))) true,.i zd ((a:Int)+(bs:Int)) ((↑(a+bs):Int)),.a _ _,.i zd (2*(bs:Int)) ((↑(2*bs):Int)),.i zd ((↑(a+2*bs):Int)+(↑(2*bs):Int)) ((↑(a+2*bs+2*bs):Int)),.a _ _] ⟨tP,oI,o_a hi,oI,oI,o_a h1,trivial⟩ ?_
    exact ge
   ·refine h5.trans ?_
    have:=StEq.mid (P:=P) (Q:=R) (AaE Aag (S1++S2))
    simpa using this
  ·refine ⟨P,R,?_,hP,hB,by omega,.refl _,hl⟩
   rw [List.length_append] at hl
   subst ha
   clear ih
   refine qq ?_
   refine gg [.b (decide ((↑(zq P+2*bs):Int)≤(n:Int))) false] ⟨fP,trivial⟩ ?_
   exact ge
theorem Acg (n:Nat) (hn:n≤1000000): ∀(d bs:Nat) (A:List Cross),n≤bs+d→20≤bs→bs≤2000000→A.length=n→Blks z7 bs A→
  ∃(bs':Nat) (B:List Cross),Is cx (.loop 101 [0,1,1,1,1] 1 [.all 0 none,vi n,.t (.clo 80 []),vi bs] [.arr 15 (A.map zn) none false])
   ⟨.exit 2,[.all 0 none,vi n,.t (.clo 80 []),vi bs'],[.arr 15 (B.map zn) none false]⟩∧Sd z7 B∧StEq z7 B A:=by
 intro d
 induction d with
 |zero=>
  intro bs A h1 h2 h3 hl hB
  refine ⟨bs,A,?_,hB.sd (by omega),.refl _⟩
  refine qq ?_
  refine gg [.b (decide ((bs:Int)<(n:Int))) false] ⟨fP,trivial⟩ ?_
  exact ge
 |succ d ih=>
  intro bs A h1 h2 h3 hl hB
  by_cases h:bs<n
  ·obtain ⟨P,R,k1,k2,k3,k4,k5,k6⟩:=Acj n bs hn h2 (by omega) A.length [] A 0 rfl (Nat.le_refl _) (by simpa using hl) .nil hB
   rw [List.nil_append,Nat.zero_add] at k1
   rw [List.nil_append] at k5
   by_cases hr:bs<R.length
   ·obtain ⟨S1,S2,rfl,l1,s1,s2,l2⟩:=k3.one hr k4
    have hm:=Ab6 (S1.length+S2.length) P S1 S2 [] P.length (P.length+bs) n (Nat.le_refl _) rfl (by omega) (by simp at k6;omega) (by omega) l2 s1 s2 (by unfold small;simp at k6⊢;omega)
    simp only [List.append_nil] at hm
    rw [List.append_assoc] at hm
    simp only [List.length_append] at k4 k6 hr
    have hs:(sortS z7 (S1++S2)).length=S1.length+S2.length:=by rw [Abt Aag];simp
    obtain ⟨bs',B,j1,j2,j3⟩:=ih (bs*2) (P++sortS z7 (S1++S2)) (by omega) (by omega) (by omega) (by simp;omega) (by rw [Nat.mul_comm];exact k2.blks (.last (by omega) (AaM Aag _)))
    refine ⟨bs',B,?_,j2,j3.trans (StEq.trans ?_ k5)⟩
    ·clear ih j2 j3 k2 k3 k5
     have e1:(P++(S1++S2)).length=n:=by simp;omega
     have e2:(P++sortS z7 (S1++S2)).length=n:=by simp;omega
     generalize P++(S1++S2)=X at*
     generalize P++sortS z7 (S1++S2)=Y at*
     refine qq ?_
     refine gg [.b (decide ((bs:Int)<(n:Int))) true,.i zd (2*(bs:Int)) ((↑(2*bs):Int)),.a _ _,.i zd ((↑(zq P):Int)+(bs:Int)) ((↑(zq P+bs):Int)),.b (decide ((↑(zq P+bs):Int)<(n:Int))) true,.a _ _,.i zd ((bs:Int)*2) ((↑(bs*2):Int)),.a _ _] ⟨tP,oI,o_a k1,oI,tP,o_a hm,oI,o_a j1,trivial⟩ ?_
     exact ge
    ·exact (StEq.refl _).append (AaE Aag _)
   ·obtain ⟨bs',B,j1,j2,j3⟩:=ih (bs*2) (P++R) (by omega) (by omega) (by omega) k6 (by rw [Nat.mul_comm];exact k2.blks (.last (by omega) (k3.sd (by omega))))
    refine ⟨bs',B,?_,j2,j3.trans k5⟩
    clear ih j2 j3 k2 k3 k5
    rw [List.length_append] at k6
    generalize P++R=X at*
    refine qq ?_
    refine gg [.b (decide ((bs:Int)<(n:Int))) true,.i zd (2*(bs:Int)) ((↑(2*bs):Int)),.a _ _,.i zd ((↑(zq P):Int)+(bs:Int)) ((↑(zq P+bs):Int)),.b (decide ((↑(zq P+bs):Int)<(n:Int))) false,.i zd ((bs:Int)*2) ((↑(bs*2):Int)),.a _ _] ⟨tP,oI,o_a k1,oI,fP,oI,o_a j1,trivial⟩ ?_
    exact ge
  ·refine ⟨bs,A,?_,hB.sd (by omega),.refl _⟩
   clear ih
   refine qq ?_
   refine gg [.b (decide ((bs:Int)<(n:Int))) false] ⟨fP,trivial⟩ ?_
   exact ge
theorem AbN (A:List Cross) (hn:small A):Is cx (.call 101 [.all 0 none,vi A.length,.t (.clo 80 [])] [.arr 15 (A.map zn) none false])
  ⟨.ret,[],[.arr 15 ((sortS z7 A).map zn) none false]⟩:=by
 unfold small at hn
 obtain ⟨P,R,k1,k2,k3,k4,k5⟩:=Acc A.length hn A.length [] A 0 rfl (Nat.le_refl _) (by simp) .nil
 rw [List.nil_append,Nat.zero_add] at k1
 rw [List.nil_append] at k4
 rw [List.length_append] at k5
 have hi:=AaH (P++R) P.length A.length (by omega) (by simp;omega) (by unfold small;simp;omega)
 rw [show srt z7 (P++R) P.length A.length=P++sortS z7 R by have:=Aih (lt:=z7) P R [] rfl k5.symm;simpa using this] at hi
 have hs:(sortS z7 R).length=R.length:=Abt Aag R
 obtain ⟨bs,B,j1,j2,j3⟩:=Acg A.length hn A.length 20 (P++sortS z7 R) (by omega) (by omega) (by omega) (by simp;omega) (k2.blks (.last (by omega) (AaM Aag _)))
 rw [AdI Aag j2 (j3.trans (((StEq.refl _).append (AaE Aag _)).trans k4))] at j1
 clear j2 j3 k2 k4
 have e1:(P++R).length=A.length:=by simp;omega
 have e2:(P++sortS z7 R).length=A.length:=by simp;omega
 generalize P++R=X at*
 generalize P++sortS z7 R=Y at*
 refine qq ?_
 refine gg [.a _ _,.a _ _,.a _ _] ⟨o_a k1,o_a hi,o_a j1,trivial⟩ ?_
 exact ge
theorem AbE (A:List Cross) (hn:small A):Is cx (.call 79 [.all 0 none,.t (.clo 80 [])] [.arr 15 (A.map zn) none false])
  ⟨.ret,[],[.arr 15 ((sortS z7 A).map zn) none false]⟩:=by
 have h:=AbN A hn
 unfold small at hn
 refine qq ?_
 refine gg [.n (zq (zz zn A)) (zq A),.a _ _] ⟨o_n (by simp),o_a h,trivial⟩ ?_
 exact ge
end Go.Eva.S2
namespace Go.Eva.S2
theorem Afh (n:Nat) (hn:n≤1000000):Is cx (.call 100 [.fit 15 [],vi n] []) ⟨.ret,[.all 0 none],[.arr 15 [] none false]⟩:=by
 refine qq ?_
 refine gg [.b (decide ((n:Int)<0)) false,.l 0,.l 0,.i zd 0 0,.i zd ((n:Int)-0) ((n:Int)-0)] ⟨bK,oK,o_i (w64 (by (simp [room,appendMax];omega))),trivial⟩ ?_
 refine brp (p:=(n:Int)-0>0) (by kernel_rfl) (fun h1=> ?_) (fun h1=> ?_)
 ·refine gg [.l 0,.w (0≤(0:Int)),.l 0,.w ((0:Nat)≤(0:Nat)∧(0:Nat)≤(0:Nat)),.b (decide (0=0)) true,.s (qk 15 []),.w (0≤(n:Int)-(0:Int)∧room (zy ((n:Int)-(0:Int))) (120:Nat)),.n (zy ((n:Int)-0)) n,.s (qk 0 (zj n (T.agg [ti 0,ti 0,ti 0,ti 0,ti 0,ti 0,ti 0,ti 0,ti 0,ti 0,ti 0,ti 0,ti 0,ti 0,ti 0]))),.w (room (zq (zj n (T.agg [ti (0:Int),ti (0:Int),ti (0:Int),ti (0:Int),ti (0:Int),ti (0:Int),ti (0:Int),ti (0:Int),ti (0:Int),ti (0:Int),ti (0:Int),ti (0:Int),ti (0:Int),ti (0:Int),ti (0:Int)]))) (120:Nat)),.l 0,.w (0≤(0:Int)),.l 0,.w ((0:Nat)≤(0:Nat)∧(0:Nat)≤zq (zj n (T.agg [ti (0:Int),ti (0:Int),ti (0:Int),ti (0:Int),ti (0:Int),ti (0:Int),ti (0:Int),ti (0:Int),ti (0:Int),ti (0:Int),ti (0:Int),ti (0:Int),ti (0:Int),ti (0:Int),ti (0:Int)]))),.l 0,.l 0] ⟨oW,o_w ⟨(Nat.le_of_ble_eq_true (by kernel_rfl)),(Nat.le_of_ble_eq_true (by kernel_rfl))⟩,bK,o_w ⟨(by omega),(by (simp [room,appendMax];omega))⟩,nK,o_w (by (simp [room,appendMax];omega)),oW,o_w ⟨(Nat.le_of_ble_eq_true (by kernel_rfl)),(by omega)⟩,trivial⟩ ?_
  refine gg [.s (qk 0 [])] trivial ?_
  refine rT (a:=qz qj [qy 0 none] [qv 15 [] none false]) ?_
  simp
 ·refine rT (a:=qz qj [qy 0 none] [qv 15 [] none false]) ?_
  simp
theorem AbI (ls:List (List Cross)) (hl:ls.length≤1000) (ht:total ls≤1000000): ∀(d i s:Nat),i+d=ls.length→s+total (ls.drop i)=total ls→
  Is cx (.loop 78 [0,1,0,1,1] 0 [.t (.sl 1 (ls.map encL)),vi s,.t (.sl 1 (ls.map encL)),vi ls.length,vi i] [])
   ⟨.exit 0,[.t (.sl 1 (ls.map encL)),vi (total ls),.t (.sl 1 (ls.map encL)),vi ls.length,vi ls.length],[]⟩:=by
 intro d
 induction d with
 |zero=>
  intro i s hi hs
  rw [Aiw (by omega)] at hs
  refine qq ?_
  refine gg [.b (decide ((i:Int)<(↑(zq ls):Int))) false] ⟨fP,trivial⟩ ?_
  refine rT (a:=qz (qx 0) [V.t (qk 1 (zz encL ls)),vi (s:Int),V.t (qk 1 (zz encL ls)),vi (↑(zq ls):Int),vi (i:Int)] []) ?_
  ((have hq:i=ls.length:=by omega);subst hq;(have hq2:s=total ls:=by omega);subst hq2;rfl)
 |succ d ih=>
  intro i s hi hs
  have hlt:i<ls.length:=by omega
  rw [AgH hlt] at hs
  have ih1:=ih (i+1) (s+(gt ls i).length) (by omega) (by omega)
  clear ih
  refine qq ?_
  refine gg [.b (decide ((i:Int)<(↑(zq ls):Int))) true,.w (0≤(i:Int)),.n (zy (i:Int)) i,.g (zz encL ls) i (encL (gt ls i)),.n (zq (zz zn (gt ls i))) (zq (gt ls i)),.i zd ((s:Int)+(↑(zq (gt ls i)):Int)) ((↑(s+zq (gt ls i)):Int)),.b (decide ((↑(s+zq (gt ls i)):Int)<0)) false,.i zd ((i:Int)+1) ((↑(i+1):Int)),.a _ _] ⟨tP,oW,nK,o_gt rfl (by assumption) (by intro h;cases h),o_n (by simp),oI,bK,oI,o_a ih1,trivial⟩ ?_
  exact ge
theorem Acz (ls:List (List Cross)) (hl:ls.length≤1000) (ht:total ls≤1000000): ∀(d i:Nat) (A:List Cross),i+d=ls.length→A.length+total (ls.drop i)=total ls→
  Is cx (.loop 78 [0,1,0,1,1,1,1] 0 [.all 0 none,.t (.sl 1 (ls.map encL)),vi ls.length,vi i] [.arr 15 (A.map zn) none false])
   ⟨.exit 2,[.all 0 none,.t (.sl 1 (ls.map encL)),vi ls.length,vi ls.length],[.arr 15 ((A++(ls.drop i).flatten).map zn) none false]⟩:=by
 intro d
 induction d with
 |zero=>
  intro i A hi hs
  rw [Aaf (by omega)]
  refine qq ?_
  refine gg [.b (decide ((i:Int)<(↑(zq ls):Int))) false] ⟨fP,trivial⟩ ?_
  refine rT (a:=qz (qx 2) [qy 0 none,V.t (qk 1 (zz encL ls)),vi (↑(zq ls):Int),vi (i:Int)] [qv 15 (zz zn A) none false]) ?_
  ((have hq:i=ls.length:=by omega);subst hq;simp)
 |succ d ih=>
  intro i A hi hs
  have hlt:i<ls.length:=by omega
  rw [AgH hlt] at hs
  have ih1:=ih (i+1) (A++gt ls i) (by omega) (by simp;omega)
  clear ih
  rw [Aj1 hlt]
  refine qq ?_
  refine gg [.b (decide ((i:Int)<(↑(zq ls):Int))) true,.w (0≤(i:Int)),.n (zy (i:Int)) i,.g (zz encL ls) i (encL (gt ls i)),.w ((0:Nat)<(120:Nat)),.s (qk 0 (zz zn (gt ls i))),.t (qk 0 (zz zn A++zz zn (gt ls i))) (qk 0 (zz zn (A++gt ls i))),.w (room (zq (zz zn (A++gt ls i))) (120:Nat)),.i zd ((i:Int)+1) ((↑(i+1):Int)),.a _ _] ⟨tP,oW,nK,o_gt rfl (by assumption) (by intro h;cases h),oW,o_l (Aa6 rfl rfl),o_w (by (simp [room,appendMax];omega)),o_i (w64 (by (simp [room,appendMax];omega))),o_a ih1,trivial⟩ ?_
  refine rT (a:=qz (qx 2) [qy 0 none,V.t (qk 1 (zz encL ls)),vi (↑(zq ls):Int),vi (↑(zq ls):Int)] [qv 15 (zz zn (A++gt ls i++List.flatten (zk (i+1) ls))) none false]) ?_
  simp
theorem Aer (ls:List (List Cross)) (hl:ls.length≤1000) (ht:total ls≤1000000):
  Is cx (.call 78 [.t (.sl 1 (ls.map encL))] []) ⟨.ret,[.all 0 none],[.arr 15 (ls.flatten.map zn) none false]⟩:=by
 have h1:=AbI ls hl ht ls.length 0 0 (by omega) (by simp)
 have h2:=Acz ls hl ht ls.length 0 [] (by omega) (by simp)
 rw [List.drop_zero,List.nil_append] at h2
 have h3:=Afh (total ls) ht
 refine qq ?_
 refine gg [.n (zq (zz encL ls)) (zq ls),.a _ _,.a _ _,.n (zq (zz encL ls)) (zq ls),.a _ _] ⟨o_n (by simp),o_a h1,o_a h3,o_n (by simp),o_a h2,trivial⟩ ?_
 exact ge
theorem AfI (ls:List (List Cross)) (hl:ls.length≤1000) (ht:total ls≤1000000):
  Is cx (.call 35 [.t (.sl 1 (ls.map encL))] []) ⟨.ret,[.all 0 none],[.arr 15 ((sortS z7 ls.flatten).map zn) none false]⟩:=by
 have h1:=Aer ls hl ht
 have h2:=AbE ls.flatten (by unfold small;rw [Ai3];exact ht)
 refine qq ?_
 refine gg [.a _ _,.a _ _] ⟨o_a h1,o_a h2,trivial⟩ ?_
 exact ge
theorem Aay (l:List Cross) (h:small l):Is cx (.call 35 [.t (.sl 1 [.sl 15 (l.map zn)])] []) ⟨.ret,[.all 0 none],[.arr 15 ((sortS z7 l).map zn) none false]⟩:=by
 have:=AfI [l] (by simp) (by unfold small at h;simpa [total] using h)
 rw [show [l].flatten=l by simp] at this
 exact this
end Go.Eva.S2
namespace Go.Eva
theorem Ahp {l:List Entity} {g:Entity→Entity} (h: ∀e∈l,(g e).kind=e.kind):things (l.map g)=things l:=by
 unfold things
 rw [List.countP_map]
 congr 1
 refine List.countP_congr fun e he=> ?_
 simp [h e he]
theorem Ahn {c:Config} {r:Int} {A:List Entity} (h:Sane c r A):Moved c r (moveL c A)∧ ∀e∈moveL c A,e.right c=true:=by
 have hmem: ∀e∈moveL c A,∃x∈A,(goE c x).2=true∧e=(goE c x).1:=by
  intro e he
  unfold moveL at he
  obtain ⟨x,hx,rfl⟩:=List.mem_map.1 he
  obtain ⟨h1,h2⟩:=List.mem_filter.1 hx
  exact ⟨x,h1,h2,rfl⟩
 have hr: ∀e∈moveL c A,e.right c=true:=by
  intro e he
  obtain ⟨x,hx,hg,rfl⟩:=hmem e he
  exact (Agr hg).1
 refine ⟨⟨?_,?_,fun e he=>⟨(Ae6 (hr e he)).1,?_⟩⟩,hr⟩
 ·unfold moveL
  rw [Srt,List.pairwise_map]
  refine List.Pairwise.imp_of_mem ?_ (AeP h.srt)
  intro a b ha hb hab
  have h1:=(AhP (List.mem_filter.1 ha).2).1
  have h2:=(AhP (List.mem_filter.1 hb).2).1
  omega
 ·unfold moveL
  rw [Ahp fun e he=>(AhP (List.mem_filter.1 he).2).2.1]
  have:=AeL (List.filter_sublist (p:=fun e=>(goE c e).2) (l:=A))
  have:=h.things
  omega
 ·obtain ⟨x,hx,hg,rfl⟩:=hmem e he
  obtain ⟨g1,g2,g3,g4⟩:=Agr hg
  obtain ⟨hxr,hxo⟩:=h.ents x hx
  obtain ⟨hc,p1,p2⟩:=Acy hxr
  obtain ⟨_,q1,q2⟩:=Acy g1
  have:=AhQ hc p1 p2 q1 q2 g3 g4
  rwa [hxo] at this
theorem Moved.len {c:Config} {r:Int} {l:List Entity} (h:Moved c r l) (hc:c.right=true):l.length≤30:=by
 have h3:=Config.right_iff.1 hc
 have h1:=Ajh (n:=c.players) h.srt (fun x hx hk=>by
  have:=Entity.right_player (h.ents x hx).1.1 hk
  exact this) (by omega)
 have h2:=h.things
 omega
theorem Af4 {c:Config} {e:Entity} (h:e.right c=true):e.health≤100:=(Ae6 h).1.2.1
theorem Aho {c:Config} {r:Int} {M:List Entity} {inbox:List Cross} (h:Moved c r M):Moved c r (blastsL (gemsL (shotsL M)) inbox)∧((blastsL (gemsL (shotsL M)) inbox).filter fun e=>decide (e.kind=1)).map Entity.id=(M.filter fun e=>decide (e.kind=1)).map Entity.id:=by
 have l0: ∀e∈M,e.kind=1→e.health≤100:=fun e he _=>(h.ents e he).1.2.1
 have h1:=Aed l0
 have m1:=h1.moved h
 have h2:=Agu (l:=shotsL M) h1.low
 have m2:=h2.moved m1
 obtain ⟨b1,b2⟩:=AfT (bs:=inbox) (l:=gemsL (shotsL M)) h2.low
 refine ⟨Ahe b1 m2 b2,?_⟩
 rw [Ajg b1,h2.players,h1.players]
theorem AiE {c:Config} {r f:Int}: ∀ {ids:List Int} {s:Stg},(ids.foldl (fall1 c r f) s).l.length=s.l.length∧(ids.foldl (fall1 c r f) s).made=s.made∧(ids.foldl (fall1 c r f) s).out.length=s.out.length+ids.length*(c.near r).length:=by
 intro ids
 induction ids with
 |nil=>intro s;simp
 |cons id ids ih=>
  intro s
  obtain ⟨h1,h2,h3⟩:= @ih (fall1 c r f s id)
  rw [List.foldl_cons]
  refine ⟨by rw [h1];simp [fall1],by rw [h2];rfl,?_⟩
  rw [h3]
  simp only [fall1,blastsAt,List.length_append,List.length_map,List.length_cons]
  rw [Nat.add_mul];omega
theorem AiT {c:Config} {r:Int} (h:c.is r=true):0<(c.near r).length:=by
 have:=Ah1 h
 cases hn:c.near r with
 |nil=>rw [hn] at this;simp [has] at this
 |cons a l=>simp
structure Still2 (c:Config) (r:Int) (l:List Entity):Prop where
 srt:Srt l
 things:things l≤24
 ents: ∀e∈l,e.right c=true∧has (c.near r) (c.of e.x e.y)=true
theorem AfA {c:Config} {e:Entity} (h:e.right c=true):0≤e.age∧e.age≤12:=by
 simp only [z9,Bool.and_eq_true] at h
 have h2:=h.2
 by_cases k1:e.kind=1
 ·rw [if_pos k1] at h2
  simp only [Bool.and_eq_true,Aad,decide_eq_true_eq] at h2
  omega
 ·rw [if_neg k1] at h2
  by_cases k2:e.kind=2
  ·rw [if_pos k2] at h2
   simp only [Bool.and_eq_true,Aad] at h2
   omega
  ·rw [if_neg k2] at h2
   by_cases k3:e.kind=3
   ·rw [if_pos k3] at h2
    simp only [Bool.and_eq_true,decide_eq_true_eq] at h2
    omega
   ·rw [if_neg k3] at h2;contradiction
theorem AcP {c:Config} {r f:Int} {s:Stg}:(leaveS c r f s).out.length≤s.out.length+s.l.length:=by
 simp only [leaveS,List.length_append,List.length_map]
 have:=List.length_filter_le (fun e=> !decide (c.of e.x e.y=r)) s.l
 omega
theorem Ae8 {c:Config} {r f:Int} {s:Stg} (h:(s.l.filter fun e=> !decide (c.of e.x e.y=r))= []):(leaveS c r f s).out=s.out:=by
 simp [leaveS,h]
end Go.Eva
namespace Go.Eva.S2
theorem Aan (c:Config) (r:Int) (s:Region) (ins:List Input) (inbox:List Cross) (hn:small s.ents) (hi:small ins) (hb:small inbox) (h:askedE c r s ins inbox≠0):
  Is cx (.call 12 [.t c.enc,vi r,.t s.enc,.t (.sl 3 (ins.map zr)),.t (.sl 15 (inbox.map zn))] []) ⟨.ret,[.t Region.zero.enc,.t (.sl 15 []),vi (askedE c r s ins inbox)],[]⟩:=by
 have ha:=Acm c r s ins inbox hn hi hb
 generalize askedE c r s ins inbox=e at*
 obtain ⟨f,l⟩:=s
 refine qq ?_
 refine gg [.a _ _,.b (e !=0) true] ⟨o_a ha,t_brn (by assumption),trivial⟩ ?_
 exact ge
theorem Abs (c:Config) (r:Int) (s:Region) (ins:List Input) (inbox:List Cross) (hn:s.ents.length≤100000) (hi:small ins) (hb:inbox.length≤100000) (h:askedE c r s ins inbox=0):
  Is cx (.call 12 [.t c.enc,vi r,.t s.enc,.t (.sl 3 (ins.map zr)),.t (.sl 15 (inbox.map zn))] []) ⟨.ret,[.t (zt ⟨s.frame+1,(stepS c r s ins inbox).l⟩),.t (.sl 15 ((sortS z7 (stepS c r s ins inbox).out).map zn)),vi 0],[]⟩:=by
 have hfine:=Ahq h
 have hrc:=Config.is_right hfine.is
 have ha:=Acm c r s ins inbox (by unfold small;omega) hi (by unfold small;omega)
 rw [h] at ha
 have hA:=AdV c r s inbox hn hb
 have hsane:=hfine.sane
 obtain ⟨hst1,hst2⟩:=AiO hfine
 have hr:=Config.is_le hfine.is
 have hreg:= @Config.regions_le c
 have hf:=hfine.frame
 have hst:=Ae2 c r s.frame ins (arriveL s.ents inbox) hi (by omega) (by omega) (Nat.le_trans (hsane.len hrc) (by omega)) fun p hp=>by
  have hpr:=(hsane.ents p hp).1
  refine ⟨?_,fun hk=> ?_⟩
  ·have:=AfA hpr;omega
  ·have:=Entity.right_player hpr hk
   have:=hfine.len
   omega
 unfold stepS restS
 have hnear:=AiT hfine.is
 generalize steerS c r s.frame ins ⟨arriveL s.ents inbox,0,[]⟩=S at*
 generalize arriveL s.ents inbox=L at*
 obtain ⟨A,made,o⟩:=S
 simp only at hst hst1 hst2⊢
 subst hst2
 have hmade:=hst1.made
 simp only at hmade
 have hAs:=hst1.sane
 simp only at hAs
 have hAl:=hAs.len hrc
 have hmv:=Afj c r s.frame made A (by unfold small;omega) fun e he=>by have:=AfA (hAs.ents e he).1;omega
 obtain ⟨hM,hMr⟩:=Ahn hAs
 have hMl:=hM.len hrc
 have hHm:=(Aho (inbox:=inbox) hM).1
 have hHl:=hHm.len hrc
 have hsh:=AdZ (moveL c A) (by unfold small;omega)
 have h1l:(shotsL (moveL c A)).length≤30:=by
  have:=(Aed (l:=moveL c A) fun e he _=>Af4 (hMr e he)).moved hM
  exact this.len hrc
 have hge:=Aex (shotsL (moveL c A)) (by unfold small;omega)
 have h2l:(gemsL (shotsL (moveL c A))).length≤30:=by
  have k1:=Aed (l:=moveL c A) fun e he _=>Af4 (hMr e he)
  have:=(Agu (l:=shotsL (moveL c A)) k1.low).moved (k1.moved hM)
  exact this.len hrc
 have hbl:=Ad7 (gemsL (shotsL (moveL c A))) inbox (by unfold small;omega) (by unfold small;omega)
 clear hHm hM hMr hst1 hsane hfine h hAs
 generalize blastsL (gemsL (shotsL (moveL c A))) inbox=H at*
 generalize gemsL (shotsL (moveL c A))=M2 at*
 generalize shotsL (moveL c A)=M1 at*
 generalize moveL c A=M at*
 obtain ⟨f,l⟩:=s
 simp only at*
 by_cases hfl:fallenL H= []
 ·have hfa:=AdQ c r f made H (by omega) hfl
  have e1:fallS c r f ⟨H,made,[]⟩=⟨H,made,[]⟩:=by unfold fallS;simp only;rw [hfl];rfl
  rw [e1]
  by_cases hg:below 8 c.seed [3,f,r]≠0∨3≤(H.countP fun e=>e.kind==3)∨Stg.room ⟨H,made,[]⟩=false
  ·have hgr:=AcI c r f made H [] (by omega) hg
   have e2:growS c r f ⟨H,made,[]⟩=⟨H,made,[]⟩:=by unfold growS;rw [if_pos hg]
   rw [e2]
   clear e1 e2 hg hfl
   have hlv:=Ab9 c r f made H (by omega)
   have hso:=Aay (leaveS c r f ⟨H,made,[]⟩).out (by have:= @AcP c r f ⟨H,made,[]⟩;unfold small;simp only [List.length_nil] at this;omega)
   split at hlv
   ·rename_i hq
    rw [hq] at hso⊢
    change Is cx _ ⟨_,[_,.t (.sl 15 []),_],_⟩
    replace hso:=Aay [] (by simp [small])
    clear hq
    generalize (leaveS c r f ⟨H,made,[]⟩).l=Z at*
    rcases hst with hst|⟨X,hst⟩
    ·refine qq ?_
     refine gg [.a _ _,.b (0 !=0) false,.a _ _,.a _ _,.a _ _,.a _ _,.a _ _,.a _ _,.a _ _,.a _ _,.a _ _] ⟨o_a ha,bK,o_a hA,o_a hst,o_a hmv,o_a hsh,o_a hge,o_a hbl,o_a hfa,o_a hgr,o_a hlv,trivial⟩ ?_
     refine gg [.i zd (f+1) (f+1),.a _ _] ⟨oI,o_a hso,trivial⟩ ?_
     exact ge
    ·refine qq ?_
     refine gg [.a _ _,.b (0 !=0) false,.a _ _,.a _ _,.a _ _,.a _ _,.a _ _,.a _ _,.a _ _,.a _ _,.a _ _] ⟨o_a ha,bK,o_a hA,o_a hst,o_a hmv,o_a hsh,o_a hge,o_a hbl,o_a hfa,o_a hgr,o_a hlv,trivial⟩ ?_
     refine gg [.i zd (f+1) (f+1),.a _ _] ⟨oI,o_a hso,trivial⟩ ?_
     exact ge
   ·rename_i hq
    clear hq
    generalize (leaveS c r f ⟨H,made,[]⟩).l=Z at*
    generalize hoo:(leaveS c r f ⟨H,made,[]⟩).out=oo at*
    generalize sortS z7 oo=so at*
    rcases hst with hst|⟨X,hst⟩
    ·refine qq ?_
     refine gg [.a _ _,.b (0 !=0) false,.a _ _,.a _ _,.a _ _,.a _ _,.a _ _,.a _ _,.a _ _,.a _ _,.a _ _] ⟨o_a ha,bK,o_a hA,o_a hst,o_a hmv,o_a hsh,o_a hge,o_a hbl,o_a hfa,o_a hgr,o_a hlv,trivial⟩ ?_
     refine gg [.i zd (f+1) (f+1),.s (qk 15 (zz zn oo)),.a _ _] ⟨oI,o_a hso,trivial⟩ ?_
     exact ge
    ·refine qq ?_
     refine gg [.a _ _,.b (0 !=0) false,.a _ _,.a _ _,.a _ _,.a _ _,.a _ _,.a _ _,.a _ _,.a _ _,.a _ _] ⟨o_a ha,bK,o_a hA,o_a hst,o_a hmv,o_a hsh,o_a hge,o_a hbl,o_a hfa,o_a hgr,o_a hlv,trivial⟩ ?_
     refine gg [.i zd (f+1) (f+1),.s (qk 15 (zz zn oo)),.a _ _] ⟨oI,o_a hso,trivial⟩ ?_
     exact ge
  ·have hgr:=Ac3 c r f made H (by omega) (by omega) (by omega) (by omega) hg
   have e2:growS c r f ⟨H,made,[]⟩=⟨put1 H (gemE c r f made),made+1,[]⟩:=by unfold growS;rw [if_neg hg]
   rw [e2]
   clear e1 e2 hg hfl
   have hpl:=(@AbY H (gemE c r f made)).2
   generalize put1 H (gemE c r f made)=G at*
   have hlv:=Ab9 c r f (made+1) G (by omega)
   have hso:=Aay (leaveS c r f ⟨G,made+1,[]⟩).out (by have:= @AcP c r f ⟨G,made+1,[]⟩;unfold small;simp only [List.length_nil] at this;omega)
   split at hlv
   ·rename_i hq
    rw [hq] at hso⊢
    change Is cx _ ⟨_,[_,.t (.sl 15 []),_],_⟩
    replace hso:=Aay [] (by simp [small])
    clear hq
    generalize (leaveS c r f ⟨G,made+1,[]⟩).l=Z at*
    rcases hst with hst|⟨X,hst⟩
    ·refine qq ?_
     refine gg [.a _ _,.b (0 !=0) false,.a _ _,.a _ _,.a _ _,.a _ _,.a _ _,.a _ _,.a _ _,.a _ _,.a _ _] ⟨o_a ha,bK,o_a hA,o_a hst,o_a hmv,o_a hsh,o_a hge,o_a hbl,o_a hfa,o_a hgr,o_a hlv,trivial⟩ ?_
     refine gg [.i zd (f+1) (f+1),.a _ _] ⟨oI,o_a hso,trivial⟩ ?_
     exact ge
    ·refine qq ?_
     refine gg [.a _ _,.b (0 !=0) false,.a _ _,.a _ _,.a _ _,.a _ _,.a _ _,.a _ _,.a _ _,.a _ _,.a _ _] ⟨o_a ha,bK,o_a hA,o_a hst,o_a hmv,o_a hsh,o_a hge,o_a hbl,o_a hfa,o_a hgr,o_a hlv,trivial⟩ ?_
     refine gg [.i zd (f+1) (f+1),.a _ _] ⟨oI,o_a hso,trivial⟩ ?_
     exact ge
   ·rename_i hq
    clear hq
    generalize (leaveS c r f ⟨G,made+1,[]⟩).l=Z at*
    generalize hoo:(leaveS c r f ⟨G,made+1,[]⟩).out=oo at*
    generalize sortS z7 oo=so at*
    rcases hst with hst|⟨X,hst⟩
    ·refine qq ?_
     refine gg [.a _ _,.b (0 !=0) false,.a _ _,.a _ _,.a _ _,.a _ _,.a _ _,.a _ _,.a _ _,.a _ _,.a _ _] ⟨o_a ha,bK,o_a hA,o_a hst,o_a hmv,o_a hsh,o_a hge,o_a hbl,o_a hfa,o_a hgr,o_a hlv,trivial⟩ ?_
     refine gg [.i zd (f+1) (f+1),.s (qk 15 (zz zn oo)),.a _ _] ⟨oI,o_a hso,trivial⟩ ?_
     exact ge
    ·refine qq ?_
     refine gg [.a _ _,.b (0 !=0) false,.a _ _,.a _ _,.a _ _,.a _ _,.a _ _,.a _ _,.a _ _,.a _ _,.a _ _] ⟨o_a ha,bK,o_a hA,o_a hst,o_a hmv,o_a hsh,o_a hge,o_a hbl,o_a hfa,o_a hgr,o_a hlv,trivial⟩ ?_
     refine gg [.i zd (f+1) (f+1),.s (qk 15 (zz zn oo)),.a _ _] ⟨oI,o_a hso,trivial⟩ ?_
     exact ge
 ·have hfa:=AdY c r f made H (by omega) hnear hfl
  have hlen:(fallS c r f ⟨H,made,[]⟩).l.length=H.length∧(fallS c r f ⟨H,made,[]⟩).made=made∧(fallS c r f ⟨H,made,[]⟩).out.length≤1000:=by
   obtain ⟨k1,k2,k3⟩:= @AiE c r f (fallenL H) ⟨H,made,[]⟩
   refine ⟨k1,k2,?_⟩
   change ((fallenL H).foldl (fall1 c r f) ⟨H,made,[]⟩).out.length≤1000
   rw [k3]
   have hfn:= @AeV H
   have hns:= @AbX c r
   have:=Nat.mul_le_mul (Nat.le_trans hfn hHl) hns
   simp only [List.length_nil]
   omega
  generalize fallS c r f ⟨H,made,[]⟩=F at*
  obtain ⟨FL,fm,o⟩:=F
  simp only at hlen hfa⊢
  obtain ⟨hl1,rfl,hl3⟩:=hlen
  by_cases hg:below 8 c.seed [3,f,r]≠0∨3≤(FL.countP fun e=>e.kind==3)∨Stg.room ⟨FL,fm,o⟩=false
  ·have hgr:=AcD c r f fm FL o (by omega) hg
   have e2:growS c r f ⟨FL,fm,o⟩=⟨FL,fm,o⟩:=by unfold growS;rw [if_pos hg]
   rw [e2]
   clear e2 hg hfl
   have hlv:=Ab5 c r f fm FL o (by omega) (by omega)
   have hso:=Aay (leaveS c r f ⟨FL,fm,o⟩).out (by have:= @AcP c r f ⟨FL,fm,o⟩;unfold small;simp only at this;omega)
   split at hlv
   ·rename_i hq
    rw [show (leaveS c r f ⟨FL,fm,o⟩).out=o from Ae8 hq] at hso⊢
    clear hq
    generalize (leaveS c r f ⟨FL,fm,o⟩).l=Z at*
    generalize sortS z7 o=so at*
    rcases hst with hst|⟨X,hst⟩
    ·refine qq ?_
     refine gg [.a _ _,.b (0 !=0) false,.a _ _,.a _ _,.a _ _,.a _ _,.a _ _,.a _ _,.a _ _,.a _ _,.a _ _] ⟨o_a ha,bK,o_a hA,o_a hst,o_a hmv,o_a hsh,o_a hge,o_a hbl,o_a hfa,o_a hgr,o_a hlv,trivial⟩ ?_
     refine gg [.i zd (f+1) (f+1),.s (qk 15 (zz zn o)),.a _ _] ⟨oI,o_a hso,trivial⟩ ?_
     exact ge
    ·refine qq ?_
     refine gg [.a _ _,.b (0 !=0) false,.a _ _,.a _ _,.a _ _,.a _ _,.a _ _,.a _ _,.a _ _,.a _ _,.a _ _] ⟨o_a ha,bK,o_a hA,o_a hst,o_a hmv,o_a hsh,o_a hge,o_a hbl,o_a hfa,o_a hgr,o_a hlv,trivial⟩ ?_
     refine gg [.i zd (f+1) (f+1),.s (qk 15 (zz zn o)),.a _ _] ⟨oI,o_a hso,trivial⟩ ?_
     exact ge
   ·rename_i hq
    clear hq
    generalize (leaveS c r f ⟨FL,fm,o⟩).l=Z at*
    generalize hoo:(leaveS c r f ⟨FL,fm,o⟩).out=oo at*
    generalize sortS z7 oo=so at*
    rcases hst with hst|⟨X,hst⟩
    ·refine qq ?_
     refine gg [.a _ _,.b (0 !=0) false,.a _ _,.a _ _,.a _ _,.a _ _,.a _ _,.a _ _,.a _ _,.a _ _,.a _ _] ⟨o_a ha,bK,o_a hA,o_a hst,o_a hmv,o_a hsh,o_a hge,o_a hbl,o_a hfa,o_a hgr,o_a hlv,trivial⟩ ?_
     refine gg [.i zd (f+1) (f+1),.s (qk 15 (zz zn oo)),.a _ _] ⟨oI,o_a hso,trivial⟩ ?_
     exact ge
    ·refine qq ?_
     refine gg [.a _ _,.b (0 !=0) false,.a _ _,.a _ _,.a _ _,.a _ _,.a _ _,.a _ _,.a _ _,.a _ _,.a _ _] ⟨o_a ha,bK,o_a hA,o_a hst,o_a hmv,o_a hsh,o_a hge,o_a hbl,o_a hfa,o_a hgr,o_a hlv,trivial⟩ ?_
     refine gg [.i zd (f+1) (f+1),.s (qk 15 (zz zn oo)),.a _ _] ⟨oI,o_a hso,trivial⟩ ?_
     exact ge
  ·have hgr:=Acx c r f fm FL o (by omega) (by omega) (by omega) (by omega) hg
   have e2:growS c r f ⟨FL,fm,o⟩=⟨put1 FL (gemE c r f fm),fm+1,o⟩:=by unfold growS;rw [if_neg hg]
   rw [e2]
   clear e2 hg hfl
   have hpl:=(@AbY FL (gemE c r f fm)).2
   generalize put1 FL (gemE c r f fm)=G at*
   have hlv:=Ab5 c r f (fm+1) G o (by omega) (by omega)
   have hso:=Aay (leaveS c r f ⟨G,fm+1,o⟩).out (by have:= @AcP c r f ⟨G,fm+1,o⟩;unfold small;simp only at this;omega)
   split at hlv
   ·rename_i hq
    rw [show (leaveS c r f ⟨G,fm+1,o⟩).out=o from Ae8 hq] at hso⊢
    clear hq
    generalize (leaveS c r f ⟨G,fm+1,o⟩).l=Z at*
    generalize sortS z7 o=so at*
    rcases hst with hst|⟨X,hst⟩
    ·refine qq ?_
     refine gg [.a _ _,.b (0 !=0) false,.a _ _,.a _ _,.a _ _,.a _ _,.a _ _,.a _ _,.a _ _,.a _ _,.a _ _] ⟨o_a ha,bK,o_a hA,o_a hst,o_a hmv,o_a hsh,o_a hge,o_a hbl,o_a hfa,o_a hgr,o_a hlv,trivial⟩ ?_
     refine gg [.i zd (f+1) (f+1),.s (qk 15 (zz zn o)),.a _ _] ⟨oI,o_a hso,trivial⟩ ?_
     exact ge
    ·refine qq ?_
     refine gg [.a _ _,.b (0 !=0) false,.a _ _,.a _ _,.a _ _,.a _ _,.a _ _,.a _ _,.a _ _,.a _ _,.a _ _] ⟨o_a ha,bK,o_a hA,o_a hst,o_a hmv,o_a hsh,o_a hge,o_a hbl,o_a hfa,o_a hgr,o_a hlv,trivial⟩ ?_
     refine gg [.i zd (f+1) (f+1),.s (qk 15 (zz zn o)),.a _ _] ⟨oI,o_a hso,trivial⟩ ?_
     exact ge
   ·rename_i hq
    clear hq
    generalize (leaveS c r f ⟨G,fm+1,o⟩).l=Z at*
    generalize hoo:(leaveS c r f ⟨G,fm+1,o⟩).out=oo at*
    generalize sortS z7 oo=so at*
    rcases hst with hst|⟨X,hst⟩
    ·refine qq ?_
     refine gg [.a _ _,.b (0 !=0) false,.a _ _,.a _ _,.a _ _,.a _ _,.a _ _,.a _ _,.a _ _,.a _ _,.a _ _] ⟨o_a ha,bK,o_a hA,o_a hst,o_a hmv,o_a hsh,o_a hge,o_a hbl,o_a hfa,o_a hgr,o_a hlv,trivial⟩ ?_
     refine gg [.i zd (f+1) (f+1),.s (qk 15 (zz zn oo)),.a _ _] ⟨oI,o_a hso,trivial⟩ ?_
     exact ge
    ·refine qq ?_
     refine gg [.a _ _,.b (0 !=0) false,.a _ _,.a _ _,.a _ _,.a _ _,.a _ _,.a _ _,.a _ _,.a _ _,.a _ _] ⟨o_a ha,bK,o_a hA,o_a hst,o_a hmv,o_a hsh,o_a hge,o_a hbl,o_a hfa,o_a hgr,o_a hlv,trivial⟩ ?_
     refine gg [.i zd (f+1) (f+1),.s (qk 15 (zz zn oo)),.a _ _] ⟨oI,o_a hso,trivial⟩ ?_
     exact ge
end Go.Eva.S2
namespace Go.Eva
end Go.Eva
namespace Go.Eva.S2
def c111:Config:=⟨1,1,1,1,0⟩
theorem AcH:Fn cx 13 [] (.bool true):=by
 have hN:=AeF c111
 rw [show c111.grid=c111 from Config.grid_of (by decide),show c111.err=0 from Config.err_of (by decide)] at hN
 have hS:=Abs c111 0 ⟨3,[]⟩ [Input.zero] [] (by simp) (by simp [small]) (by simp) (by decide)
 have hR:=Acp c111 0 ⟨0,[]⟩ (by simp [small])
 rw [show regionRight c111 0 ⟨0,[]⟩=true by decide] at hR
 simp only [c111,Input.zero] at hN hS hR
 generalize (stepS _ _ _ _ _).l=X at*
 generalize sortS z7 (stepS _ _ _ _ _).out=Y at*
 refine qq ?_
 refine gg [.a _ _] ⟨o_a hN,trivial⟩ ?_
 refine bO ?_ ?_
 ·refine gg [.w (0≤(1:Int)∧(1:Int)≤(1:Int)∧room (1:Nat) (24:Nat)),.l 1,.l 1] ⟨o_w ⟨(by omega),⟨(by omega),(by (simp [room,appendMax]))⟩⟩,trivial⟩ ?_
  refine bO ?_ ?_
  all_goals
   refine gg [.s (qk 3 [T.agg [ti 0,ti 0,T.bool false]]),.a _ _,.b (flats [zt (Region.mk 4 X),qk 15 (zz zn Y),ti 0]) false,.b (0==0) true,.tt,.tt,.tt,.b (4==4) true,.tt,.tt,.a _ _,.tt] ⟨o_a hS,bK,bK,bK,o_a hR,trivial⟩ ?_
   exact ge
 ·refine gg [.w (0≤(1:Int)∧(1:Int)≤(1:Int)∧room (1:Nat) (24:Nat)),.l 1,.l 1,.s (qk 3 [T.agg [ti 0,ti 0,T.bool false]]),.a _ _,.b (flats [zt (Region.mk 4 X),qk 15 (zz zn Y),ti 0]) false,.b (0==0) true,.tt,.tt,.tt,.b (4==4) true,.tt,.tt,.a _ _,.tt] ⟨o_w ⟨(by omega),⟨(by omega),(by (simp [room,appendMax]))⟩⟩,o_a hS,bK,bK,bK,o_a hR,trivial⟩ ?_
  exact ge
end Go.Eva.S2
namespace Go.Eva.S2
def c212:Config:=⟨2,1,2,1,0⟩
def b54 (f:Int):Cross:=⟨2,1,0,f,Entity.zero,5,0⟩
theorem Abc (what:Int):Fn cx 4 [ti what] (.bool true):=by
 have ha:=AcH
 have hN:=AeF c212
 rw [show c212.grid=c212 from Config.grid_of (by decide),show c212.err=0 from Config.err_of (by decide)] at hN
 have hm:=AiL (n:=what) (k:=8) (by decide)
 have s1: ∀l:List Entity,l.length≤1→small l:=fun l h=>by unfold small;omega
 have s2: ∀l:List Input,l.length≤2→small l:=fun l h=>by unfold small;omega
 have s3: ∀l:List Cross,l.length≤1→small l:=fun l h=>by unfold small;omega
 have hc:(IntKind.u64.wrap what).tmod 8=0∨(IntKind.u64.wrap what).tmod 8=1∨(IntKind.u64.wrap what).tmod 8=2∨(IntKind.u64.wrap what).tmod 8=3∨(IntKind.u64.wrap what).tmod 8=4∨(IntKind.u64.wrap what).tmod 8=5∨(IntKind.u64.wrap what).tmod 8=6∨(IntKind.u64.wrap what).tmod 8=7:=by omega
 rcases hc with hm|hm|hm|hm|hm|hm|hm|hm
 ·have hS:=Aan c212 2 ⟨5,[]⟩ [Input.zero,Input.zero] [b54 4] (s1 _ (by decide)) (s2 _ (by decide)) (s3 _ (by decide)) (by decide)
  rw [show askedE c212 2 ⟨5,[]⟩ [Input.zero,Input.zero] [b54 4]=13 by decide] at hS
  simp only [c212,Input.zero,b54,Entity.zero] at hN hS
  refine qq ?_
  refine gg [.a _ _,.w (0≤(2:Int)∧(2:Int)≤(2:Int)∧room (2:Nat) (24:Nat)),.l 2,.l 2,.i zf what (zp zf what),.w ((8:Int)≠(0:Int)),.t (T.int zf (zg (zp zf what) 8)) (T.int zf 0),.b (0==0) true,.s (qk 3 [T.agg [ti 0,ti 0,T.bool false],T.agg [ti 0,ti 0,T.bool false]]),.a _ _,.b (flats [zt Region.zero,qk 15 [],ti 13]) false,.a _ _,.tt,.tt,.tt,.tt] ⟨o_a hN,o_w ⟨(by omega),⟨(by omega),(by (simp [room,appendMax]))⟩⟩,o_i rfl,o_w (by intro h;cases h),o_t (by rw [hm]),bK,o_a hS,bK,o_a ha,trivial⟩ ?_
  refine gg [.b (13==13) true,.tt,.tt,.b (13==0) false,.ff,.ff,.ff,.b (0==0) true,.tt,.tt,.l 0,.tt,.ff,.tt,.ff,.b (0==0) true] ⟨bK,bK,bK,bK,trivial⟩ ?_
  refine gg [.tt,.l 0,.tt,.ff,.tt,.tt,.ff,.tt] trivial ?_
  exact ge
 ·have hS:=Aan c212 0 ⟨-1,[]⟩ [Input.zero,Input.zero] [b54 4] (s1 _ (by decide)) (s2 _ (by decide)) (s3 _ (by decide)) (by decide)
  rw [show askedE c212 0 ⟨-1,[]⟩ [Input.zero,Input.zero] [b54 4]=4 by decide] at hS
  simp only [c212,Input.zero,b54,Entity.zero] at hN hS
  refine qq ?_
  refine gg [.a _ _,.w (0≤(2:Int)∧(2:Int)≤(2:Int)∧room (2:Nat) (24:Nat)),.l 2,.l 2,.i zf what (zp zf what),.w ((8:Int)≠(0:Int)),.t (T.int zf (zg (zp zf what) 8)) (T.int zf 1),.b (1==0) false,.b (1==1) true,.s (qk 3 [T.agg [ti 0,ti 0,T.bool false],T.agg [ti 0,ti 0,T.bool false]]),.a _ _,.b (flats [zt Region.zero,qk 15 [],ti 4]) false,.a _ _,.tt,.tt,.tt] ⟨o_a hN,o_w ⟨(by omega),⟨(by omega),(by (simp [room,appendMax]))⟩⟩,o_i rfl,o_w (by intro h;cases h),o_t (by rw [hm]),bK,bK,o_a hS,bK,o_a ha,trivial⟩ ?_
  refine gg [.tt,.b (4==4) true,.tt,.tt,.b (4==0) false,.ff,.ff,.ff,.b (0==0) true,.tt,.tt,.l 0,.tt,.ff,.tt,.ff] ⟨bK,bK,bK,trivial⟩ ?_
  refine gg [.b (0==0) true,.tt,.l 0,.tt,.ff,.tt,.tt,.ff,.tt] ⟨bK,trivial⟩ ?_
  exact ge
 ·have hS:=Aan c212 0 ⟨5,[⟨1,0,0,0,0,0,0,0,0⟩]⟩ [Input.zero,Input.zero] [b54 4] (s1 _ (by decide)) (s2 _ (by decide)) (s3 _ (by decide)) (by decide)
  rw [show askedE c212 0 ⟨5,[⟨1,0,0,0,0,0,0,0,0⟩]⟩ [Input.zero,Input.zero] [b54 4]=4 by decide] at hS
  simp only [c212,Input.zero,b54,Entity.zero] at hN hS
  refine qq ?_
  refine gg [.a _ _,.w (0≤(2:Int)∧(2:Int)≤(2:Int)∧room (2:Nat) (24:Nat)),.l 2,.l 2,.i zf what (zp zf what),.w ((8:Int)≠(0:Int)),.t (T.int zf (zg (zp zf what) 8)) (T.int zf 2),.b (2==0) false,.b (2==1) false,.b (2==2) true,.s (qk 3 [T.agg [ti 0,ti 0,T.bool false],T.agg [ti 0,ti 0,T.bool false]]),.a _ _,.b (flats [zt Region.zero,qk 15 [],ti 4]) false,.a _ _,.tt,.tt] ⟨o_a hN,o_w ⟨(by omega),⟨(by omega),(by (simp [room,appendMax]))⟩⟩,o_i rfl,o_w (by intro h;cases h),o_t (by rw [hm]),bK,bK,bK,o_a hS,bK,o_a ha,trivial⟩ ?_
  refine gg [.tt,.tt,.b (4==4) true,.tt,.tt,.b (4==0) false,.ff,.ff,.ff,.b (0==0) true,.tt,.tt,.l 0,.tt,.ff,.tt] ⟨bK,bK,bK,trivial⟩ ?_
  refine gg [.ff,.b (0==0) true,.tt,.l 0,.tt,.ff,.tt,.tt,.ff,.tt] ⟨bK,trivial⟩ ?_
  exact ge
 ·have hS:=Aan c212 0 ⟨5,[]⟩ [Input.zero] [b54 4] (s1 _ (by decide)) (s2 _ (by decide)) (s3 _ (by decide)) (by decide)
  rw [show askedE c212 0 ⟨5,[]⟩ [Input.zero] [b54 4]=11 by decide] at hS
  simp only [c212,Input.zero,b54,Entity.zero] at hN hS
  refine qq ?_
  refine gg [.a _ _,.w (0≤(2:Int)∧(2:Int)≤(2:Int)∧room (2:Nat) (24:Nat)),.l 2,.l 2,.i zf what (zp zf what),.w ((8:Int)≠(0:Int)),.t (T.int zf (zg (zp zf what) 8)) (T.int zf 3),.b (3==0) false,.b (3==1) false,.b (3==2) false,.b (3==3) true,.w (0≤(1:Int)),.l 1,.b (decide (0=0)) true,.w ((0:Nat)≤(1:Nat)∧(1:Nat)≤(2:Nat)),.l 0] ⟨o_a hN,o_w ⟨(by omega),⟨(by omega),(by (simp [room,appendMax]))⟩⟩,o_i rfl,o_w (by intro h;cases h),o_t (by rw [hm]),bK,bK,bK,bK,oW,bK,o_w ⟨(Nat.le_of_ble_eq_true (by kernel_rfl)),(Nat.le_of_ble_eq_true (by kernel_rfl))⟩,trivial⟩ ?_
  refine gg [.l 1,.s (qk 3 [T.agg [ti 0,ti 0,T.bool false]]),.a _ _,.b (flats [zt Region.zero,qk 15 [],ti 11]) false,.a _ _,.tt,.tt,.tt,.tt,.b (11==11) true,.tt,.tt,.b (11==0) false,.ff,.ff,.ff] ⟨o_a hS,bK,o_a ha,bK,bK,trivial⟩ ?_
  refine gg [.b (0==0) true,.tt,.tt,.l 0,.tt,.ff,.tt,.ff,.b (0==0) true,.tt,.l 0,.tt,.ff,.tt,.tt,.ff] ⟨bK,bK,trivial⟩ ?_
  refine gg [.tt] trivial ?_
  exact ge
 ·have hS:=Aan c212 0 ⟨5,[]⟩ [Input.zero,⟨3,0,false⟩] [b54 4] (s1 _ (by decide)) (s2 _ (by decide)) (s3 _ (by decide)) (by decide)
  rw [show askedE c212 0 ⟨5,[]⟩ [Input.zero,⟨3,0,false⟩] [b54 4]=11 by decide] at hS
  simp only [c212,Input.zero,b54,Entity.zero] at hN hS
  refine qq ?_
  refine gg [.a _ _,.w (0≤(2:Int)∧(2:Int)≤(2:Int)∧room (2:Nat) (24:Nat)),.l 2,.l 2,.i zf what (zp zf what),.w ((8:Int)≠(0:Int)),.t (T.int zf (zg (zp zf what) 8)) (T.int zf 4),.b (4==0) false,.b (4==1) false,.b (4==2) false,.b (4==3) false,.b (4==4) true,.w (0≤(1:Int)),.l 1,.w ((1:Nat)<(2:Nat)),.l 1] ⟨o_a hN,o_w ⟨(by omega),⟨(by omega),(by (simp [room,appendMax]))⟩⟩,o_i rfl,o_w (by intro h;cases h),o_t (by rw [hm]),bK,bK,bK,bK,bK,oW,oW,trivial⟩ ?_
  refine gg [.g ([T.agg [ti 0,ti 0,T.bool false],T.agg [ti 0,ti 0,T.bool false]]) 1 (T.agg [ti 0,ti 0,T.bool false]),.s (qk 0 [T.agg [ti 0,ti 0,T.bool false],T.agg [ti 3,ti 0,T.bool false]]),.s (qk 3 [T.agg [ti 0,ti 0,T.bool false],T.agg [ti 3,ti 0,T.bool false]]),.a _ _,.b (flats [zt Region.zero,qk 15 [],ti 11]) false,.a _ _,.tt,.tt,.tt,.tt,.b (11==11) true,.tt,.tt,.b (11==0) false,.ff,.ff] ⟨oG,o_a hS,bK,o_a ha,bK,bK,trivial⟩ ?_
  refine gg [.ff,.b (0==0) true,.tt,.tt,.l 0,.tt,.ff,.tt,.ff,.b (0==0) true,.tt,.l 0,.tt,.ff,.tt,.tt] ⟨bK,bK,trivial⟩ ?_
  refine gg [.ff,.tt] trivial ?_
  exact ge
 ·have hS:=Aan c212 0 ⟨5,[]⟩ [Input.zero,Input.zero] [b54 5] (s1 _ (by decide)) (s2 _ (by decide)) (s3 _ (by decide)) (by decide)
  rw [show askedE c212 0 ⟨5,[]⟩ [Input.zero,Input.zero] [b54 5]=1 by decide] at hS
  simp only [c212,Input.zero,b54,Entity.zero] at hN hS
  refine qq ?_
  refine gg [.a _ _,.w (0≤(2:Int)∧(2:Int)≤(2:Int)∧room (2:Nat) (24:Nat)),.l 2,.l 2,.i zf what (zp zf what),.w ((8:Int)≠(0:Int)),.t (T.int zf (zg (zp zf what) 8)) (T.int zf 5),.b (5==0) false,.b (5==1) false,.b (5==2) false,.b (5==3) false,.b (5==4) false,.b (5==5) true,.w (0≤(0:Int)),.l 0,.w ((0:Nat)<(1:Nat))] ⟨o_a hN,o_w ⟨(by omega),⟨(by omega),(by (simp [room,appendMax]))⟩⟩,o_i rfl,o_w (by intro h;cases h),o_t (by rw [hm]),bK,bK,bK,bK,bK,bK,oW,oW,trivial⟩ ?_
  refine gg [.g ([T.agg [ti 2,ti 1,ti 0,ti 4,ti 0,ti 0,ti 0,ti 0,ti 0,ti 0,ti 0,ti 0,ti 0,ti 5,ti 0]]) 0 (T.agg [ti 2,ti 1,ti 0,ti 4,ti 0,ti 0,ti 0,ti 0,ti 0,ti 0,ti 0,ti 0,ti 0,ti 5,ti 0]),.s (qk 0 [T.agg [ti 2,ti 1,ti 0,ti 5,ti 0,ti 0,ti 0,ti 0,ti 0,ti 0,ti 0,ti 0,ti 0,ti 5,ti 0]]),.s (qk 3 [T.agg [ti 0,ti 0,T.bool false],T.agg [ti 0,ti 0,T.bool false]]),.a _ _,.b (flats [zt Region.zero,qk 15 [],ti 1]) false,.a _ _,.tt,.tt,.tt,.tt,.b (1==1) true,.tt,.tt,.b (1==0) false,.ff,.ff] ⟨oG,o_a hS,bK,o_a ha,bK,bK,trivial⟩ ?_
  refine gg [.ff,.b (0==0) true,.tt,.tt,.l 0,.tt,.ff,.tt,.ff,.b (0==0) true,.tt,.l 0,.tt,.ff,.tt,.tt] ⟨bK,bK,trivial⟩ ?_
  refine gg [.ff,.tt] trivial ?_
  exact ge
 ·have hS:=Aan c212 0 ⟨10000,[]⟩ [Input.zero,Input.zero] [] (s1 _ (by decide)) (s2 _ (by decide)) (s3 _ (by decide)) (by decide)
  rw [show askedE c212 0 ⟨10000,[]⟩ [Input.zero,Input.zero] []=16 by decide] at hS
  simp only [c212,Input.zero,b54,Entity.zero] at hN hS
  refine qq ?_
  refine gg [.a _ _,.w (0≤(2:Int)∧(2:Int)≤(2:Int)∧room (2:Nat) (24:Nat)),.l 2,.l 2,.i zf what (zp zf what),.w ((8:Int)≠(0:Int)),.t (T.int zf (zg (zp zf what) 8)) (T.int zf 6),.b (6==0) false,.b (6==1) false,.b (6==2) false,.b (6==3) false,.b (6==4) false,.b (6==5) false,.b (6==6) true,.s (qk 3 [T.agg [ti 0,ti 0,T.bool false],T.agg [ti 0,ti 0,T.bool false]]),.a _ _] ⟨o_a hN,o_w ⟨(by omega),⟨(by omega),(by (simp [room,appendMax]))⟩⟩,o_i rfl,o_w (by intro h;cases h),o_t (by rw [hm]),bK,bK,bK,bK,bK,bK,bK,o_a hS,trivial⟩ ?_
  refine gg [.b (flats [zt Region.zero,qk 15 [],ti 16]) false,.a _ _,.tt,.tt,.tt,.tt,.b (16==16) true,.tt,.tt,.b (16==0) false,.ff,.ff,.ff,.b (0==0) true,.tt,.tt] ⟨bK,o_a ha,bK,bK,bK,trivial⟩ ?_
  refine gg [.l 0,.tt,.ff,.tt,.ff,.b (0==0) true,.tt,.l 0,.tt,.ff,.tt,.tt,.ff,.tt] ⟨bK,trivial⟩ ?_
  exact ge
 ·have hS:=Abs c212 0 ⟨5,[]⟩ [Input.zero,Input.zero] [b54 4] (by simp) (s2 _ (by decide)) (by simp) (by decide)
  simp only [c212,Input.zero,b54,Entity.zero] at hN hS
  generalize (stepS _ _ _ _ _).l=X at*
  generalize sortS z7 (stepS _ _ _ _ _).out=Y at*
  refine qq ?_
  refine gg [.a _ _,.w (0≤(2:Int)∧(2:Int)≤(2:Int)∧room (2:Nat) (24:Nat)),.l 2,.l 2,.i zf what (zp zf what),.w ((8:Int)≠(0:Int)),.t (T.int zf (zg (zp zf what) 8)) (T.int zf 7),.b (7==0) false,.b (7==1) false,.b (7==2) false,.b (7==3) false,.b (7==4) false,.b (7==5) false,.b (7==6) false,.s (qk 3 [T.agg [ti 0,ti 0,T.bool false],T.agg [ti 0,ti 0,T.bool false]]),.a _ _] ⟨o_a hN,o_w ⟨(by omega),⟨(by omega),(by (simp [room,appendMax]))⟩⟩,o_i rfl,o_w (by intro h;cases h),o_t (by rw [hm]),bK,bK,bK,bK,bK,bK,bK,o_a hS,trivial⟩ ?_
  refine gg [.b (flats [zt (Region.mk 6 X),qk 15 (zz zn Y),ti 0]) false,.a _ _,.tt,.tt,.tt,.tt,.b (0==0) true,.tt,.tt,.b (0==0) true,.tt,.tt,.tt,.tt,.tt,.tt] ⟨bK,o_a ha,bK,bK,trivial⟩ ?_
  refine gg [.tt,.tt,.tt] trivial ?_
  exact ge
end Go.Eva.S2
namespace Go.Eva.S2
open Go.Proofs
theorem cxTy:CxTy Try.prog cx:=Ajy (by decide+kernel) (by decide+kernel) (⟨⟨Try.f86,by kernel_rfl,by decide+kernel,by kernel_rfl,by kernel_rfl,by kernel_rfl,by kernel_rfl,37,by kernel_rfl⟩,trivial⟩)
theorem ok4:FnOK Try.prog cx 4 fi4 Try.f4:=mkOk
theorem ok11:FnOK Try.prog cx 11 fi11 Try.f11:=mkOk
theorem ok12:FnOK Try.prog cx 12 fi12 Try.f12:=mkOk
theorem ok13:FnOK Try.prog cx 13 fi13 Try.f13:=mkOk
theorem ok14:FnOK Try.prog cx 14 fi14 Try.f14:=mkOk
theorem ok15:FnOK Try.prog cx 15 fi15 Try.f15:=mkOk
theorem ok19:FnOK Try.prog cx 19 fi19 Try.f19:=mkOk
theorem ok20:FnOK Try.prog cx 20 fi20 Try.f20:=mkOk
theorem ok23:FnOK Try.prog cx 23 fi23 Try.f23:=mkOk
theorem ok24:FnOK Try.prog cx 24 fi24 Try.f24:=mkOk
theorem ok25:FnOK Try.prog cx 25 fi25 Try.f25:=mkOk
theorem ok26:FnOK Try.prog cx 26 fi26 Try.f26:=mkOk
theorem ok27:FnOK Try.prog cx 27 fi27 Try.f27:=mkOk
theorem ok28:FnOK Try.prog cx 28 fi28 Try.f28:=mkOk
theorem ok29:FnOK Try.prog cx 29 fi29 Try.f29:=mkOk
theorem ok30:FnOK Try.prog cx 30 fi30 Try.f30:=mkOk
theorem ok31:FnOK Try.prog cx 31 fi31 Try.f31:=mkOk
theorem ok32:FnOK Try.prog cx 32 fi32 Try.f32:=mkOk
theorem ok33:FnOK Try.prog cx 33 fi33 Try.f33:=mkOk
theorem ok34:FnOK Try.prog cx 34 fi34 Try.f34:=mkOk
theorem ok35:FnOK Try.prog cx 35 fi35 Try.f35:=mkOk
theorem ok36:FnOK Try.prog cx 36 fi36 Try.f36:=mkOk
theorem ok37:FnOK Try.prog cx 37 fi37 Try.f37:=mkOk
theorem ok38:FnOK Try.prog cx 38 fi38 Try.f38:=mkOk
theorem ok39:FnOK Try.prog cx 39 fi39 Try.f39:=mkOk
theorem ok40:FnOK Try.prog cx 40 fi40 Try.f40:=mkOk
theorem ok43:FnOK Try.prog cx 43 fi43 Try.f43:=mkOk
theorem ok44:FnOK Try.prog cx 44 fi44 Try.f44:=mkOk
theorem ok45:FnOK Try.prog cx 45 fi45 Try.f45:=mkOk
theorem ok46:FnOK Try.prog cx 46 fi46 Try.f46:=mkOk
theorem ok47:FnOK Try.prog cx 47 fi47 Try.f47:=mkOk
theorem ok48:FnOK Try.prog cx 48 fi48 Try.f48:=mkOk
theorem ok50:FnOK Try.prog cx 50 fi50 Try.f50:=mkOk
theorem ok51:FnOK Try.prog cx 51 fi51 Try.f51:=mkOk
theorem ok52:FnOK Try.prog cx 52 fi52 Try.f52:=mkOk
theorem ok53:FnOK Try.prog cx 53 fi53 Try.f53:=mkOk
theorem ok54:FnOK Try.prog cx 54 fi54 Try.f54:=mkOk
theorem ok55:FnOK Try.prog cx 55 fi55 Try.f55:=mkOk
theorem ok56:FnOK Try.prog cx 56 fi56 Try.f56:=mkOk
theorem ok57:FnOK Try.prog cx 57 fi57 Try.f57:=mkOk
theorem ok58:FnOK Try.prog cx 58 fi58 Try.f58:=mkOk
theorem ok59:FnOK Try.prog cx 59 fi59 Try.f59:=mkOk
theorem ok60:FnOK Try.prog cx 60 fi60 Try.f60:=mkOk
theorem ok61:FnOK Try.prog cx 61 fi61 Try.f61:=mkOk
theorem ok62:FnOK Try.prog cx 62 fi62 Try.f62:=mkOk
theorem ok63:FnOK Try.prog cx 63 fi63 Try.f63:=mkOk
theorem ok64:FnOK Try.prog cx 64 fi64 Try.f64:=mkOk
theorem ok65:FnOK Try.prog cx 65 fi65 Try.f65:=mkOk
theorem ok66:FnOK Try.prog cx 66 fi66 Try.f66:=mkOk
theorem ok67:FnOK Try.prog cx 67 fi67 Try.f67:=mkOk
theorem ok68:FnOK Try.prog cx 68 fi68 Try.f68:=mkOk
theorem ok69:FnOK Try.prog cx 69 fi69 Try.f69:=mkOk
theorem ok70:FnOK Try.prog cx 70 fi70 Try.f70:=mkOk
theorem ok71:FnOK Try.prog cx 71 fi71 Try.f71:=mkOk
theorem ok72:FnOK Try.prog cx 72 fi72 Try.f72:=mkOk
theorem ok73:FnOK Try.prog cx 73 fi73 Try.f73:=mkOk
theorem ok74:FnOK Try.prog cx 74 fi74 Try.f74:=mkOk
theorem ok75:FnOK Try.prog cx 75 fi75 Try.f75:=mkOk
theorem ok76:FnOK Try.prog cx 76 fi76 Try.f76:=mkOk
theorem ok77:FnOK Try.prog cx 77 fi77 Try.f77:=mkOk
theorem ok78:FnOK Try.prog cx 78 fi78 Try.f78:=mkOk
theorem ok79:FnOK Try.prog cx 79 fi79 Try.f79:=mkOk
theorem ok80:FnOK Try.prog cx 80 fi80 Try.f80:=mkOk
theorem ok81:FnOK Try.prog cx 81 fi81 Try.f81:=mkOk
theorem ok82:FnOK Try.prog cx 82 fi82 Try.f82:=mkOk
theorem ok83:FnOK Try.prog cx 83 fi83 Try.f83:=mkOk
theorem ok84:FnOK Try.prog cx 84 fi84 Try.f84:=mkOk
theorem ok85:FnOK Try.prog cx 85 fi85 Try.f85:=mkOk
theorem ok87:FnOK Try.prog cx 87 fi87 Try.f87:=mkOk
theorem ok90:FnOK Try.prog cx 90 fi90 Try.f90:=mkOk
theorem ok91:FnOK Try.prog cx 91 fi91 Try.f91:=mkOk
theorem ok92:FnOK Try.prog cx 92 fi92 Try.f92:=mkOk
theorem ok93:FnOK Try.prog cx 93 fi93 Try.f93:=mkOk
theorem ok94:FnOK Try.prog cx 94 fi94 Try.f94:=mkOk
theorem ok95:FnOK Try.prog cx 95 fi95 Try.f95:=mkOk
theorem ok96:FnOK Try.prog cx 96 fi96 Try.f96:=mkOk
theorem ok97:FnOK Try.prog cx 97 fi97 Try.f97:=mkOk
theorem ok98:FnOK Try.prog cx 98 fi98 Try.f98:=mkOk
theorem ok99:FnOK Try.prog cx 99 fi99 Try.f99:=mkOk
theorem ok100:FnOK Try.prog cx 100 fi100 Try.f100:=mkOk
theorem ok101:FnOK Try.prog cx 101 fi101 Try.f101:=mkOk
theorem ok102:FnOK Try.prog cx 102 fi102 Try.f102:=mkOk
theorem ok103:FnOK Try.prog cx 103 fi103 Try.f103:=mkOk
theorem ok104:FnOK Try.prog cx 104 fi104 Try.f104:=mkOk
theorem ok105:FnOK Try.prog cx 105 fi105 Try.f105:=mkOk
theorem ok107:FnOK Try.prog cx 107 fi107 Try.f107:=mkOk
theorem ok108:FnOK Try.prog cx 108 fi108 Try.f108:=mkOk
theorem ok109:FnOK Try.prog cx 109 fi109 Try.f109:=mkOk
theorem ok110:FnOK Try.prog cx 110 fi110 Try.f110:=mkOk
theorem ok111:FnOK Try.prog cx 111 fi111 Try.f111:=mkOk
theorem ok112:FnOK Try.prog cx 112 fi112 Try.f112:=mkOk
theorem ok114:FnOK Try.prog cx 114 fi114 Try.f114:=mkOk
theorem ok115:FnOK Try.prog cx 115 fi115 Try.f115:=mkOk
theorem fnsOK:FnsOK Try.prog cx:=AiC (⟨Aae _,⟨Aae _,⟨Aae _,⟨Aae _,⟨Aab ok15,⟨Aab ok31,⟨Aab ok63,⟨Aae _,trivial,trivial⟩,trivial⟩,⟨Aab ok95,trivial,trivial⟩⟩,⟨Aab ok47,⟨Aab ok79,trivial,trivial⟩,⟨Aab ok111,trivial,trivial⟩⟩⟩,⟨Aab ok23,⟨Aab ok39,⟨Aab ok71,trivial,trivial⟩,⟨Aab ok103,trivial,trivial⟩⟩,⟨Aab ok55,⟨Aab ok87,trivial,trivial⟩,⟨Aae _,trivial,trivial⟩⟩⟩⟩,⟨Aab ok11,⟨Aab ok19,⟨Aab ok35,⟨Aab ok67,⟨Aae _,trivial,trivial⟩,trivial⟩,⟨Aab ok99,trivial,trivial⟩⟩,⟨Aab ok51,⟨Aab ok83,trivial,trivial⟩,⟨Aab ok115,trivial,trivial⟩⟩⟩,⟨Aab ok27,⟨Aab ok43,⟨Aab ok75,trivial,trivial⟩,⟨Aab ok107,trivial,trivial⟩⟩,⟨Aab ok59,⟨Aab ok91,trivial,trivial⟩,⟨Aae _,trivial,trivial⟩⟩⟩⟩⟩,⟨Aae _,⟨Aae _,⟨Aae _,⟨Aab ok33,⟨Aab ok65,⟨Aae _,trivial,trivial⟩,trivial⟩,⟨Aab ok97,trivial,trivial⟩⟩,⟨Aae _,⟨Aab ok81,trivial,trivial⟩,⟨Aae _,trivial,trivial⟩⟩⟩,⟨Aab ok25,⟨Aae _,⟨Aab ok73,trivial,trivial⟩,⟨Aab ok105,trivial,trivial⟩⟩,⟨Aab ok57,⟨Aae _,trivial,trivial⟩,⟨Aae _,trivial,trivial⟩⟩⟩⟩,⟨Aab ok13,⟨Aae _,⟨Aab ok37,⟨Aab ok69,trivial,trivial⟩,⟨Aab ok101,trivial,trivial⟩⟩,⟨Aab ok53,⟨Aab ok85,trivial,trivial⟩,⟨Aae _,trivial,trivial⟩⟩⟩,⟨Aab ok29,⟨Aab ok45,⟨Aab ok77,trivial,trivial⟩,⟨Aab ok109,trivial,trivial⟩⟩,⟨Aab ok61,⟨Aab ok93,trivial,trivial⟩,⟨Aae _,trivial,trivial⟩⟩⟩⟩⟩⟩,⟨Aae _,⟨Aab ok4,⟨Aae _,⟨Aae _,⟨Aab ok32,⟨Aab ok64,⟨Aae _,trivial,trivial⟩,trivial⟩,⟨Aab ok96,trivial,trivial⟩⟩,⟨Aab ok48,⟨Aab ok80,trivial,trivial⟩,⟨Aab ok112,trivial,trivial⟩⟩⟩,⟨Aab ok24,⟨Aab ok40,⟨Aab ok72,trivial,trivial⟩,⟨Aab ok104,trivial,trivial⟩⟩,⟨Aab ok56,⟨Aae _,trivial,trivial⟩,⟨Aae _,trivial,trivial⟩⟩⟩⟩,⟨Aab ok12,⟨Aab ok20,⟨Aab ok36,⟨Aab ok68,trivial,trivial⟩,⟨Aab ok100,trivial,trivial⟩⟩,⟨Aab ok52,⟨Aab ok84,trivial,trivial⟩,⟨Aae _,trivial,trivial⟩⟩⟩,⟨Aab ok28,⟨Aab ok44,⟨Aab ok76,trivial,trivial⟩,⟨Aab ok108,trivial,trivial⟩⟩,⟨Aab ok60,⟨Aab ok92,trivial,trivial⟩,⟨Aae _,trivial,trivial⟩⟩⟩⟩⟩,⟨Aae _,⟨Aae _,⟨Aae _,⟨Aab ok34,⟨Aab ok66,⟨Aae _,trivial,trivial⟩,trivial⟩,⟨Aab ok98,trivial,trivial⟩⟩,⟨Aab ok50,⟨Aab ok82,trivial,trivial⟩,⟨Aab ok114,trivial,trivial⟩⟩⟩,⟨Aab ok26,⟨Aae _,⟨Aab ok74,trivial,trivial⟩,⟨Aae _,trivial,trivial⟩⟩,⟨Aab ok58,⟨Aab ok90,trivial,trivial⟩,⟨Aae _,trivial,trivial⟩⟩⟩⟩,⟨Aab ok14,⟨Aae _,⟨Aab ok38,⟨Aab ok70,trivial,trivial⟩,⟨Aab ok102,trivial,trivial⟩⟩,⟨Aab ok54,⟨Aae _,trivial,trivial⟩,⟨Aae _,trivial,trivial⟩⟩⟩,⟨Aab ok30,⟨Aab ok46,⟨Aab ok78,trivial,trivial⟩,⟨Aab ok110,trivial,trivial⟩⟩,⟨Aab ok62,⟨Aab ok94,trivial,trivial⟩,⟨Aae _,trivial,trivial⟩⟩⟩⟩⟩⟩⟩)
end Go.Eva.S2
namespace Go.Eva
section
variable {cx:Cx} {t m:Nat} {ts:List T} {i:TI}
theorem AiB (hti:cx.ti.get t=some i) (hk:i.ty= .int .i64) (h:Conf cx m t ts): ∃n,ts= [ti n]∧i64 n:=by
 cases m with
 |zero=>exact h.elim
 |succ m=>
  simp only [Conf,hti,hk] at h
  obtain ⟨n,rfl,hw⟩:=h
  refine ⟨n,rfl,?_⟩
  simp [Lit.wf,IntKind.min,IntKind.max,IntKind.signed,IntKind.bits] at hw
  exact ⟨by omega,by omega⟩
def Entity.ok (e:Entity):Prop:=i64 e.id∧i64 e.kind∧i64 e.x∧i64 e.y∧i64 e.vx∧i64 e.vy∧i64 e.health∧i64 e.age∧i64 e.owner
def Input.ok (e:Input):Prop:=i64 e.dx∧i64 e.dy
def Cross.ok (c:Cross):Prop:=i64 c.kind∧i64 c.frm∧i64 c.to∧i64 c.frame∧c.ent.ok∧i64 c.x∧i64 c.y
theorem Ahr (hti:cx.ti.get t=some i) (h: ∀fs,i.ty≠ .struct fs):isStruct cx t=false:=by
 unfold isStruct
 rw [hti]
 cases i with
 |mk ty s b q=>cases ty<;>simp_all
theorem Aj0 (hti:cx.ti.get t=some i) (hk:i.ty= .int .i64) {x:T} (h:Arg cx m t x): ∃n,x=ti n∧i64 n:=by
 obtain ⟨h1,h2,h3,h4⟩:=h
 obtain ⟨n,h5,h6⟩:=AiB hti hk h4
 rw [h3 (Ahr hti (by rw [hk];simp))] at h5
 exact ⟨n,by simpa using h5,h6⟩
end
end Go.Eva