/- A reading of the program, proved sound against the model, and what its functions answer by it: part 3. -/
import Derived.Test.YtdlmgaiiheeigaaGreatEva2
set_option linter.unusedSimpArgs false
set_option linter.unusedVariables false
open List renaming length → zq, map → zz, replicate → zj, set → zx, take → zw, drop → zk
open Int renaming toNat → zy, tmod → zg, fdiv → zh
open Go.IntKind renaming i64 → zd, u64 → zf, wrap → zp
open BitVec renaming ofInt → zb
open Go.Eva.Entity renaming enc → zm, less → z8, right → z9, mk → qw
open Go.Eva.Cross renaming enc → zn, less → z7
open Go.Eva.Input renaming enc → zr
open Go.Eva.Region renaming enc → zt
open Go.Eva.Config renaming regions → z0, near → z6
open Go.Eva.Wp renaming ev → qq
open Go.Eva.Res renaming mk → qz
open Go.Eva.Ex renaming ret → qj, exit → qx
open Go.Eva.Ob renaming arr → qv, one → qg
open Go.Eva.T renaming sl → qk
open Go.Eva.V renaming all → qy
namespace Go.Eva.S4
theorem AgX (x:Int):Fn cx 185 [.int .u64 x] (.int .u64 (mix x)):=by
 refine qq ?_
 refine gg [.w (0≤(33:Int)),.s (T.int zf (zh x 8589934592)),.i zf ((↑(BitVec.toNat (zb 64 x^^^zb 64 (zh x 8589934592))):Int)) (zp zf (↑(BitVec.toNat (zb 64 x^^^zb 64 (zh x 8589934592))):Int)),.i zf (zp zf (↑(BitVec.toNat (zb 64 x^^^zb 64 (zh x 8589934592))):Int)*18397679294719823053) (zp zf (zp zf (↑(BitVec.toNat (zb 64 x^^^zb 64 (zh x 8589934592))):Int)*18397679294719823053)),.w (0≤(33:Int)),.s (T.int zf (zh (zp zf (zp zf (↑(BitVec.toNat (zb 64 x^^^zb 64 (zh x 8589934592))):Int)*18397679294719823053)) 8589934592)),.i zf ((↑(BitVec.toNat (zb 64 (zp zf (zp zf (↑(BitVec.toNat (zb 64 x^^^zb 64 (zh x 8589934592))):Int)*18397679294719823053))^^^zb 64 (zh (zp zf (zp zf (↑(BitVec.toNat (zb 64 x^^^zb 64 (zh x 8589934592))):Int)*18397679294719823053)) 8589934592))):Int)) (zp zf (↑(BitVec.toNat (zb 64 (zp zf (zp zf (↑(BitVec.toNat (zb 64 x^^^zb 64 (zh x 8589934592))):Int)*18397679294719823053))^^^zb 64 (zh (zp zf (zp zf (↑(BitVec.toNat (zb 64 x^^^zb 64 (zh x 8589934592))):Int)*18397679294719823053)) 8589934592))):Int)),.i zf (zp zf (↑(BitVec.toNat (zb 64 (zp zf (zp zf (↑(BitVec.toNat (zb 64 x^^^zb 64 (zh x 8589934592))):Int)*18397679294719823053))^^^zb 64 (zh (zp zf (zp zf (↑(BitVec.toNat (zb 64 x^^^zb 64 (zh x 8589934592))):Int)*18397679294719823053)) 8589934592))):Int)*14181476777654086739) (zp zf (zp zf (↑(BitVec.toNat (zb 64 (zp zf (zp zf (↑(BitVec.toNat (zb 64 x^^^zb 64 (zh x 8589934592))):Int)*18397679294719823053))^^^zb 64 (zh (zp zf (zp zf (↑(BitVec.toNat (zb 64 x^^^zb 64 (zh x 8589934592))):Int)*18397679294719823053)) 8589934592))):Int)*14181476777654086739)),.w (0≤(33:Int)),.s (T.int zf (zh (zp zf (zp zf (↑(BitVec.toNat (zb 64 (zp zf (zp zf (↑(BitVec.toNat (zb 64 x^^^zb 64 (zh x 8589934592))):Int)*18397679294719823053))^^^zb 64 (zh (zp zf (zp zf (↑(BitVec.toNat (zb 64 x^^^zb 64 (zh x 8589934592))):Int)*18397679294719823053)) 8589934592))):Int)*14181476777654086739)) 8589934592))] ⟨oW,o_i rfl,o_i rfl,oW,o_i rfl,o_i rfl,oW,trivial⟩ ?_
 refine gg [.i zf ((↑(BitVec.toNat (zb 64 (zp zf (zp zf (↑(BitVec.toNat (zb 64 (zp zf (zp zf (↑(BitVec.toNat (zb 64 x^^^zb 64 (zh x 8589934592))):Int)*18397679294719823053))^^^zb 64 (zh (zp zf (zp zf (↑(BitVec.toNat (zb 64 x^^^zb 64 (zh x 8589934592))):Int)*18397679294719823053)) 8589934592))):Int)*14181476777654086739))^^^zb 64 (zh (zp zf (zp zf (↑(BitVec.toNat (zb 64 (zp zf (zp zf (↑(BitVec.toNat (zb 64 x^^^zb 64 (zh x 8589934592))):Int)*18397679294719823053))^^^zb 64 (zh (zp zf (zp zf (↑(BitVec.toNat (zb 64 x^^^zb 64 (zh x 8589934592))):Int)*18397679294719823053)) 8589934592))):Int)*14181476777654086739)) 8589934592))):Int)) (zp zf (↑(BitVec.toNat (zb 64 (zp zf (zp zf (↑(BitVec.toNat (zb 64 (zp zf (zp zf (↑(BitVec.toNat (zb 64 x^^^zb 64 (zh x 8589934592))):Int)*18397679294719823053))^^^zb 64 (zh (zp zf (zp zf (↑(BitVec.toNat (zb 64 x^^^zb 64 (zh x 8589934592))):Int)*18397679294719823053)) 8589934592))):Int)*14181476777654086739))^^^zb 64 (zh (zp zf (zp zf (↑(BitVec.toNat (zb 64 (zp zf (zp zf (↑(BitVec.toNat (zb 64 x^^^zb 64 (zh x 8589934592))):Int)*18397679294719823053))^^^zb 64 (zh (zp zf (zp zf (↑(BitVec.toNat (zb 64 x^^^zb 64 (zh x 8589934592))):Int)*18397679294719823053)) 8589934592))):Int)*14181476777654086739)) 8589934592))):Int))] ⟨o_i rfl,trivial⟩ ?_
 exact ge
theorem AdC (x:Int):Fn cx 191 [.int .u64 x] (.int .u64 (mix x)):=by
 refine qq ?_
 refine gg [.w (0≤(33:Int)),.s (T.int zf (zh x 8589934592)),.i zf ((↑(BitVec.toNat (zb 64 x^^^zb 64 (zh x 8589934592))):Int)) (zp zf (↑(BitVec.toNat (zb 64 x^^^zb 64 (zh x 8589934592))):Int)),.i zf (zp zf (↑(BitVec.toNat (zb 64 x^^^zb 64 (zh x 8589934592))):Int)*18397679294719823053) (zp zf (zp zf (↑(BitVec.toNat (zb 64 x^^^zb 64 (zh x 8589934592))):Int)*18397679294719823053)),.w (0≤(33:Int)),.s (T.int zf (zh (zp zf (zp zf (↑(BitVec.toNat (zb 64 x^^^zb 64 (zh x 8589934592))):Int)*18397679294719823053)) 8589934592)),.i zf ((↑(BitVec.toNat (zb 64 (zp zf (zp zf (↑(BitVec.toNat (zb 64 x^^^zb 64 (zh x 8589934592))):Int)*18397679294719823053))^^^zb 64 (zh (zp zf (zp zf (↑(BitVec.toNat (zb 64 x^^^zb 64 (zh x 8589934592))):Int)*18397679294719823053)) 8589934592))):Int)) (zp zf (↑(BitVec.toNat (zb 64 (zp zf (zp zf (↑(BitVec.toNat (zb 64 x^^^zb 64 (zh x 8589934592))):Int)*18397679294719823053))^^^zb 64 (zh (zp zf (zp zf (↑(BitVec.toNat (zb 64 x^^^zb 64 (zh x 8589934592))):Int)*18397679294719823053)) 8589934592))):Int)),.i zf (zp zf (↑(BitVec.toNat (zb 64 (zp zf (zp zf (↑(BitVec.toNat (zb 64 x^^^zb 64 (zh x 8589934592))):Int)*18397679294719823053))^^^zb 64 (zh (zp zf (zp zf (↑(BitVec.toNat (zb 64 x^^^zb 64 (zh x 8589934592))):Int)*18397679294719823053)) 8589934592))):Int)*14181476777654086739) (zp zf (zp zf (↑(BitVec.toNat (zb 64 (zp zf (zp zf (↑(BitVec.toNat (zb 64 x^^^zb 64 (zh x 8589934592))):Int)*18397679294719823053))^^^zb 64 (zh (zp zf (zp zf (↑(BitVec.toNat (zb 64 x^^^zb 64 (zh x 8589934592))):Int)*18397679294719823053)) 8589934592))):Int)*14181476777654086739)),.w (0≤(33:Int)),.s (T.int zf (zh (zp zf (zp zf (↑(BitVec.toNat (zb 64 (zp zf (zp zf (↑(BitVec.toNat (zb 64 x^^^zb 64 (zh x 8589934592))):Int)*18397679294719823053))^^^zb 64 (zh (zp zf (zp zf (↑(BitVec.toNat (zb 64 x^^^zb 64 (zh x 8589934592))):Int)*18397679294719823053)) 8589934592))):Int)*14181476777654086739)) 8589934592))] ⟨oW,o_i rfl,o_i rfl,oW,o_i rfl,o_i rfl,oW,trivial⟩ ?_
 refine gg [.i zf ((↑(BitVec.toNat (zb 64 (zp zf (zp zf (↑(BitVec.toNat (zb 64 (zp zf (zp zf (↑(BitVec.toNat (zb 64 x^^^zb 64 (zh x 8589934592))):Int)*18397679294719823053))^^^zb 64 (zh (zp zf (zp zf (↑(BitVec.toNat (zb 64 x^^^zb 64 (zh x 8589934592))):Int)*18397679294719823053)) 8589934592))):Int)*14181476777654086739))^^^zb 64 (zh (zp zf (zp zf (↑(BitVec.toNat (zb 64 (zp zf (zp zf (↑(BitVec.toNat (zb 64 x^^^zb 64 (zh x 8589934592))):Int)*18397679294719823053))^^^zb 64 (zh (zp zf (zp zf (↑(BitVec.toNat (zb 64 x^^^zb 64 (zh x 8589934592))):Int)*18397679294719823053)) 8589934592))):Int)*14181476777654086739)) 8589934592))):Int)) (zp zf (↑(BitVec.toNat (zb 64 (zp zf (zp zf (↑(BitVec.toNat (zb 64 (zp zf (zp zf (↑(BitVec.toNat (zb 64 x^^^zb 64 (zh x 8589934592))):Int)*18397679294719823053))^^^zb 64 (zh (zp zf (zp zf (↑(BitVec.toNat (zb 64 x^^^zb 64 (zh x 8589934592))):Int)*18397679294719823053)) 8589934592))):Int)*14181476777654086739))^^^zb 64 (zh (zp zf (zp zf (↑(BitVec.toNat (zb 64 (zp zf (zp zf (↑(BitVec.toNat (zb 64 x^^^zb 64 (zh x 8589934592))):Int)*18397679294719823053))^^^zb 64 (zh (zp zf (zp zf (↑(BitVec.toNat (zb 64 x^^^zb 64 (zh x 8589934592))):Int)*18397679294719823053)) 8589934592))):Int)*14181476777654086739)) 8589934592))):Int))] ⟨o_i rfl,trivial⟩ ?_
 exact ge
theorem Ahf (l:List Int) (hn:small l): ∀(d i:Nat) (h:Int),i+d=l.length→
  Is cx (.loop 170 [0,1,0,1,1] 0 [.t (.int .u64 h),.t (.sl 1 (l.map ti)),vi l.length,vi i] [])
   ⟨.exit 0,[.t (.int .u64 ((l.drop i).foldl atStep h)),.t (.sl 1 (l.map ti)),vi l.length,vi l.length],[]⟩:=by
 unfold small at hn
 intro d
 induction d with
 |zero=>
  intro i h hi
  rw [Aac (by omega)]
  refine qq ?_
  refine gg [.b (decide ((i:Int)<(↑(zq l):Int))) false] ⟨fP,trivial⟩ ?_
  refine rT (a:=qz (qx 0) [V.t (T.int zf h),V.t (qk 1 (zz ti l)),vi (↑(zq l):Int),vi (i:Int)] []) ?_
  ((have hq:i=l.length:=by omega);subst hq;rfl)
 |succ d ih=>
  intro i h hi
  have hlt:i<l.length:=by omega
  have ih1:=ih (i+1) (atStep h (gt l i)) (by omega)
  clear ih
  rw [Aae hlt,List.foldl_cons]
  unfold atStep at ih1⊢
  refine qq ?_
  refine gg [.b (decide ((i:Int)<(↑(zq l):Int))) true,.w (0≤(i:Int)),.n (zy (i:Int)) i,.g (zz ti l) i (ti (gt l i)),.i zf (gt l i) (zp zf (gt l i)),.i zf (h+zp zf (gt l i)) (zp zf (h+zp zf (gt l i))),.i zf (zp zf (h+zp zf (gt l i))+11400714819323198485) (zp zf (zp zf (h+zp zf (gt l i))+11400714819323198485)),.a _ _,.i zd ((i:Int)+1) ((↑(i+1):Int)),.a _ _] ⟨tP,oW,nK,o_gt rfl (by assumption) (by intro h;cases h),o_i rfl,o_i rfl,o_i rfl,o_a (AgX (zp zf (zp zf (h+zp zf (gt l i))+11400714819323198485))),oI,o_a ih1,trivial⟩ ?_
  exact ge
theorem AkB (seed:Int) (l:List Int) (hn:small l):Fn cx 170 [.int .u64 seed,.sl 1 (l.map ti)] (.int .u64 (chanceAt seed l)):=by
 have h:=Ahf l hn l.length 0 (mix seed) (by omega)
 rw [List.drop_zero] at h
 refine qq ?_
 refine gg [.a _ _,.n (zq (zz ti l)) (zq l),.a _ _] ⟨o_a (AgX seed),o_n (by simp),o_a h,trivial⟩ ?_
 exact ge
theorem AeW (l:List Int) (hn:small l): ∀(d i:Nat) (h:Int),i+d=l.length→
  Is cx (.loop 178 [0,1,0,1,1] 0 [.t (.sl 1 (l.map ti)),.t (.int .u64 h),vi i] [])
   ⟨.exit 0,[.t (.sl 1 (l.map ti)),.t (.int .u64 ((l.drop i).foldl atStep h)),vi l.length],[]⟩:=by
 unfold small at hn
 intro d
 induction d with
 |zero=>
  intro i h hi
  rw [Aac (by omega)]
  refine qq ?_
  refine gg [.n (zq (zz ti l)) (zq l),.b (decide ((i:Int)<(↑(zq l):Int))) false] ⟨o_n (by simp),fP,trivial⟩ ?_
  refine rT (a:=qz (qx 0) [V.t (qk 1 (zz ti l)),V.t (T.int zf h),vi (i:Int)] []) ?_
  ((have hq:i=l.length:=by omega);subst hq;rfl)
 |succ d ih=>
  intro i h hi
  have hlt:i<l.length:=by omega
  have ih1:=ih (i+1) (atStep h (gt l i)) (by omega)
  clear ih
  rw [Aae hlt,List.foldl_cons]
  unfold atStep at ih1⊢
  refine qq ?_
  refine gg [.n (zq (zz ti l)) (zq l),.b (decide ((i:Int)<(↑(zq l):Int))) true,.w (0≤(i:Int)),.n (zy (i:Int)) i,.g (zz ti l) i (ti (gt l i)),.i zf (gt l i) (zp zf (gt l i)),.i zf (h+zp zf (gt l i)) (zp zf (h+zp zf (gt l i))),.i zf (zp zf (h+zp zf (gt l i))+11400714819323198485) (zp zf (zp zf (h+zp zf (gt l i))+11400714819323198485)),.a _ _,.i zd ((i:Int)+1) ((↑(i+1):Int)),.a _ _] ⟨o_n (by simp),tP,oW,nK,o_gt rfl (by assumption) (by intro h;cases h),o_i rfl,o_i rfl,o_i rfl,o_a (AdC (zp zf (zp zf (h+zp zf (gt l i))+11400714819323198485))),oI,o_a ih1,trivial⟩ ?_
  exact ge
theorem Aiv (seed:Int) (l:List Int) (hn:small l):Fn cx 178 [.int .u64 seed,.sl 1 (l.map ti)] (.int .u64 (chanceAt seed l)):=by
 have h:=AeW l hn l.length 0 (mix seed) (by omega)
 rw [List.drop_zero] at h
 refine qq ?_
 refine gg [.a _ _,.a _ _] ⟨o_a (AdC seed),o_a h,trivial⟩ ?_
 exact ge
theorem AaG (n seed:Int) (l:List Int) (hn:n≤1000000) (hl:small l):Fn cx 126 [ti n,.int .u64 seed,.sl 1 (l.map ti)] (ti (below n seed l)):=by
 by_cases h:n<1
 ·have e:below n seed l=0:=by simp [below,h]
  rw [e]
  refine qq ?_
  refine gg [.b (decide (n<1)) true] ⟨t_brp (by assumption),trivial⟩ ?_
  exact ge
 ·have e:below n seed l=(chanceAt seed l).tmod n:=by simp [below,h]
  have hle:= @Acr n seed l (by omega)
  rw [e] at hle⊢
  refine qq ?_
  refine gg [.b (decide (n<1)) false,.a _ _,.i zf n n,.w (n≠(0:Int)),.s (T.int zf (zg (chanceAt seed l) n)),.i zd (zg (chanceAt seed l) n) (zg (chanceAt seed l) n)] ⟨f_brp (by assumption),o_a (AkB seed l (by assumption)),oU,oW,oI,trivial⟩ ?_
  exact ge
theorem Abc (n seed:Int) (l:List Int) (hn:n≤1000000) (hl:small l):Fn cx 144 [ti n,.int .u64 seed,.sl 1 (l.map ti)] (ti (below n seed l)):=by
 by_cases h:n<1
 ·have e:below n seed l=0:=by simp [below,h]
  rw [e]
  refine qq ?_
  refine gg [.b (decide (n<1)) true] ⟨t_brp (by assumption),trivial⟩ ?_
  exact ge
 ·have e:below n seed l=(chanceAt seed l).tmod n:=by simp [below,h]
  have hle:= @Acr n seed l (by omega)
  rw [e] at hle⊢
  refine qq ?_
  refine gg [.b (decide (n<1)) false,.a _ _,.i zf n n,.w (n≠(0:Int)),.s (T.int zf (zg (chanceAt seed l) n)),.i zd (zg (chanceAt seed l) n) (zg (chanceAt seed l) n)] ⟨f_brp (by assumption),o_a (Aiv seed l (by assumption)),oU,oW,oI,trivial⟩ ?_
  exact ge
theorem Ab7 (v:Int):Fn cx 168 [ti v] (ti (held v)):=by
 refine qq ?_
 refine gg [.a _ _] ⟨o_a (Aa8 v (-2147483647) 2147483647),trivial⟩ ?_
 exact ge
theorem Aan (v:Int):Fn cx 176 [ti v] (ti (held v)):=by
 refine qq ?_
 refine gg [.s (ti (minI v 2147483647)),.s (ti (maxI (-2147483647) (minI v 2147483647)))] trivial ?_
 refine rT (a:=qz qj [vi (maxI (-2147483647) (minI v 2147483647))] []) ?_
 (congr 3;unfold held clamp maxI minI;split<;>split<;>(try split)<;>omega)
theorem Ad2 (a b:Int):Fn cx 116 [ti a,ti b] (ti (subH a b)):=by
 have h1:= @Abe a
 have h2:= @Abe b
 refine qq ?_
 refine gg [.a _ _,.a _ _,.i zd (held a-held b) (held a-held b),.a _ _] ⟨o_a (Ab7 a),o_a (Ab7 b),oI,o_a (Ab7 (held a-held b)),trivial⟩ ?_
 exact ge
theorem AdA (a b:Int):Fn cx 189 [ti a,ti b] (ti (subH a b)):=by
 have h1:= @Abe a
 have h2:= @Abe b
 refine qq ?_
 refine gg [.a _ _,.a _ _,.i zd (held a-held b) (held a-held b),.a _ _] ⟨o_a (Aan a),o_a (Aan b),oI,o_a (Aan (held a-held b)),trivial⟩ ?_
 exact ge
theorem AgR (v:Int) (h: -2147483647≤v∧v≤2147483647):Fn cx 184 [ti v] (ti (sizeI v)):=by
 refine qq ?_
 refine gg [.i zd (0-v) (0-v),.s (ti (maxI v (0-v)))] ⟨oI,trivial⟩ ?_
 exact ge
theorem Adb (v:Int) (h: -2147483647≤v∧v≤2147483647):Fn cx 188 [ti v] (ti (sizeI v)):=by
 refine qq ?_
 refine gg [.i zd (0-v) (0-v),.s (ti (maxI v (0-v)))] ⟨oI,trivial⟩ ?_
 exact ge
theorem AkJ (ax ay bx y:Int):Fn cx 167 [ti ax,ti ay,ti bx,ti y] (ti (farI ax ay bx y)):=by
 have h1: -2147483647≤subH ax bx∧subH ax bx≤2147483647:=Abe
 have h2: -2147483647≤subH ay y∧subH ay y≤2147483647:=Abe
 refine qq ?_
 refine gg [.a _ _,.a _ _,.a _ _,.a _ _,.s (ti (maxI (sizeI (subH ax bx)) (sizeI (subH ay y))))] ⟨o_a (Ad2 ax bx),o_a (AgR (subH ax bx) ⟨(by omega),(by omega)⟩),o_a (Ad2 ay y),o_a (AgR (subH ay y) ⟨(by omega),(by omega)⟩),trivial⟩ ?_
 exact ge
theorem AdD (ax ay bx y:Int):Fn cx 175 [ti ax,ti ay,ti bx,ti y] (ti (farI ax ay bx y)):=by
 have h1: -2147483647≤subH ax bx∧subH ax bx≤2147483647:=Abe
 have h2: -2147483647≤subH ay y∧subH ay y≤2147483647:=Abe
 refine qq ?_
 refine gg [.a _ _,.a _ _,.a _ _,.a _ _,.s (ti (maxI (sizeI (subH ax bx)) (sizeI (subH ay y))))] ⟨o_a (AdA ax bx),o_a (Adb (subH ax bx) ⟨(by omega),(by omega)⟩),o_a (AdA ay y),o_a (Adb (subH ay y) ⟨(by omega),(by omega)⟩),trivial⟩ ?_
 exact ge
theorem Ahk (l:List Int) (hn:small l): ∀(d i:Nat) (s:Int),i+d=l.length→ -2147483647≤s∧s≤2147483647→
  Is cx (.loop 120 [0,1,0,1,1] 0 [vi s,.t (.sl 1 (l.map ti)),vi l.length,vi i] [])
   ⟨.exit 0,[vi ((l.drop i).foldl sumStep s),.t (.sl 1 (l.map ti)),vi l.length,vi l.length],[]⟩:=by
 unfold small at hn
 intro d
 induction d with
 |zero=>
  intro i s hi hs
  rw [Aac (by omega)]
  refine qq ?_
  refine gg [.b (decide ((i:Int)<(↑(zq l):Int))) false] ⟨fP,trivial⟩ ?_
  refine rT (a:=qz (qx 0) [vi s,V.t (qk 1 (zz ti l)),vi (↑(zq l):Int),vi (i:Int)] []) ?_
  ((have hq:i=l.length:=by omega);subst hq;rfl)
 |succ d ih=>
  intro i s hi hs
  have hlt:i<l.length:=by omega
  have ih1:=ih (i+1) (sumStep s (gt l i)) (by omega) Abe
  clear ih
  rw [Aae hlt,List.foldl_cons]
  unfold sumStep at ih1⊢
  have h2:= @Abe (gt l i)
  refine qq ?_
  refine gg [.b (decide ((i:Int)<(↑(zq l):Int))) true,.w (0≤(i:Int)),.n (zy (i:Int)) i,.g (zz ti l) i (ti (gt l i)),.a _ _,.i zd (s+held (gt l i)) (s+held (gt l i)),.a _ _,.i zd ((i:Int)+1) ((↑(i+1):Int)),.a _ _] ⟨tP,oW,nK,o_gt rfl (by assumption) (by intro h;cases h),o_a (Ab7 (gt l i)),oI,o_a (Ab7 (s+held (gt l i))),oI,o_a ih1,trivial⟩ ?_
  exact ge
theorem Air (l:List Int) (hn:small l):Fn cx 120 [.sl 1 (l.map ti)] (ti (sumH l)):=by
 have h:=Ahk l hn l.length 0 0 (by omega) (by omega)
 rw [List.drop_zero] at h
 refine qq ?_
 refine gg [.n (zq (zz ti l)) (zq l),.a _ _] ⟨o_n (by simp),o_a h,trivial⟩ ?_
 exact ge
theorem AfD (i:Input):Fn cx 104 [i.enc] (.bool i.right):=by
 refine qq ?_
 refine brp (p:=i.dx≥ -2) (by kernel_rfl) (fun h1=> ?_) (fun h1=> ?_)
 ·refine gg [.tt,.tt,.tt] trivial ?_
  refine brp (p:=i.dx≤2) (by kernel_rfl) (fun h2=> ?_) (fun h2=> ?_)
  ·refine gg [.tt,.tt,.tt] trivial ?_
   refine brp (p:=i.dy≥ -2) (by kernel_rfl) (fun h3=> ?_) (fun h3=> ?_)
   ·refine gg [.tt,.tt,.tt] trivial ?_
    refine rT (a:=qz qj [vb (decide (i.dy≤2))] []) ?_
    (simp_all [Input.right,within];(try (rw [Bool.eq_iff_iff];simp only [decide_eq_true_eq,Bool.and_eq_true];omega));(try (intros;omega)))
   ·refine gg [.ff,.ff,.ff] trivial ?_
    refine rT (a:=qz qj [vb false] []) ?_
    (simp_all [Input.right,within];(try (rw [Bool.eq_iff_iff];simp only [decide_eq_true_eq,Bool.and_eq_true];omega));(try (intros;omega)))
  ·refine gg [.ff,.ff,.ff,.ff,.ff,.ff,.ff] trivial ?_
   refine rT (a:=qz qj [vb false] []) ?_
   (simp_all [Input.right,within];(try (rw [Bool.eq_iff_iff];simp only [decide_eq_true_eq,Bool.and_eq_true];omega));(try (intros;omega)))
 ·refine gg [.ff,.ff,.ff,.ff,.ff,.ff,.ff,.ff,.ff,.ff,.ff] trivial ?_
  refine rT (a:=qz qj [vb false] []) ?_
  (simp_all [Input.right,within];(try (rw [Bool.eq_iff_iff];simp only [decide_eq_true_eq,Bool.and_eq_true];omega));(try (intros;omega)))
theorem Abn (i:Input):Fn cx 101 [i.enc] (.bool i.right):=by
 refine qq ?_
 refine brp (p:=i.dx≥ -2) (by kernel_rfl) (fun h1=> ?_) (fun h1=> ?_)
 ·refine gg [.tt,.tt,.tt] trivial ?_
  refine brp (p:=i.dx≤2) (by kernel_rfl) (fun h2=> ?_) (fun h2=> ?_)
  ·refine gg [.tt,.tt,.tt] trivial ?_
   refine brp (p:=i.dy≥ -2) (by kernel_rfl) (fun h3=> ?_) (fun h3=> ?_)
   ·refine gg [.tt,.tt,.tt] trivial ?_
    refine rT (a:=qz qj [vb (decide (i.dy≤2))] []) ?_
    (simp_all [Input.right,within];(try (rw [Bool.eq_iff_iff];simp only [decide_eq_true_eq,Bool.and_eq_true];omega));(try (intros;omega)))
   ·refine gg [.ff,.ff,.ff] trivial ?_
    refine rT (a:=qz qj [vb false] []) ?_
    (simp_all [Input.right,within];(try (rw [Bool.eq_iff_iff];simp only [decide_eq_true_eq,Bool.and_eq_true];omega));(try (intros;omega)))
  ·refine gg [.ff,.ff,.ff,.ff,.ff,.ff,.ff] trivial ?_
   refine rT (a:=qz qj [vb false] []) ?_
   (simp_all [Input.right,within];(try (rw [Bool.eq_iff_iff];simp only [decide_eq_true_eq,Bool.and_eq_true];omega));(try (intros;omega)))
 ·refine gg [.ff,.ff,.ff,.ff,.ff,.ff,.ff,.ff,.ff,.ff,.ff] trivial ?_
  refine rT (a:=qz qj [vb false] []) ?_
  (simp_all [Input.right,within];(try (rw [Bool.eq_iff_iff];simp only [decide_eq_true_eq,Bool.and_eq_true];omega));(try (intros;omega)))
theorem Afn (e:Entity) (i:Input) (he: -1000000≤e.age∧e.age≤1000000):Is cx (.call 109 [.t e.enc,.t i.enc] []) ⟨.ret,[.t (steerE e i).1.enc,vb (steerE e i).2],[]⟩:=by
 have hR:=AfD i
 have hm:= @AhB e.age 1
 have hm2:= @AhB 1 e.age
 have hmm:maxI 1 e.age=maxI e.age 1:=by unfold maxI;split<;>split<;>omega
 by_cases hk:e.kind=1
 ·cases hr:i.right with
  |true=>
   rw [hr] at hR
   have hi:=hr
   simp only [Input.right,Bool.and_eq_true,Aad] at hi
   cases hf:i.fire with
   |true=>
    by_cases ha:e.age=0
    ·have e1:steerE e i=({e with vx:=i.dx*32,vy:=i.dy*32,age:=6},true):=by simp [steerE,hk,hr,hf,ha]
     rw [e1]
     refine qq ?_
     refine gg [.b (e.kind !=1) false,.ff,.a _ _,.ff,.ff,.b (!true) false,.i zd (i.dx*32) (i.dx*32)] ⟨f_brn (by assumption),o_a hR,bK,oI,trivial⟩ ?_
     refine bO ?_ ?_
     all_goals
      refine gg [.i zd (i.dy*32) (i.dy*32),.b i.fire true,.tt,.tt,.tt,.b (e.age==0) true] ⟨oI,tB,t_bre (by assumption),trivial⟩ ?_
      exact ge
    ·have e1:steerE e i=({e with vx:=i.dx*32,vy:=i.dy*32,age:=maxI e.age 1-1},false):=by simp [steerE,hk,hr,ha]
     rw [e1]
     refine qq ?_
     refine gg [.b (e.kind !=1) false,.ff,.a _ _,.ff,.ff,.b (!true) false,.i zd (i.dx*32) (i.dx*32)] ⟨f_brn (by assumption),o_a hR,bK,oI,trivial⟩ ?_
     refine bO ?_ ?_
     all_goals
      refine gg [.i zd (i.dy*32) (i.dy*32),.b i.fire true,.tt,.tt,.tt,.b (e.age==0) false,.s (ti (maxI e.age 1)),.i zd (maxI e.age 1-1) (maxI e.age 1-1)] ⟨oI,tB,f_bre (by assumption),oI,trivial⟩ ?_
      refine rT (a:=qz qj [V.t (T.agg [ti e.id,ti e.kind,ti e.x,ti e.y,ti (i.dx*32),ti (i.dy*32),ti e.health,ti (maxI e.age 1-1),ti e.owner]),vb false] []) ?_
      (first|rfl|(simp [zm,hmm];done))
   |false=>
    have e1:steerE e i=({e with vx:=i.dx*32,vy:=i.dy*32,age:=maxI e.age 1-1},false):=by simp [steerE,hk,hr,hf]
    rw [e1]
    refine qq ?_
    refine gg [.b (e.kind !=1) false,.ff,.a _ _,.ff,.ff,.b (!true) false,.i zd (i.dx*32) (i.dx*32)] ⟨f_brn (by assumption),o_a hR,bK,oI,trivial⟩ ?_
    refine bO ?_ ?_
    all_goals
     refine gg [.i zd (i.dy*32) (i.dy*32),.b i.fire false,.ff,.ff,.ff,.ff,.s (ti (maxI e.age 1)),.i zd (maxI e.age 1-1) (maxI e.age 1-1)] ⟨oI,fB,oI,trivial⟩ ?_
     refine rT (a:=qz qj [V.t (T.agg [ti e.id,ti e.kind,ti e.x,ti e.y,ti (i.dx*32),ti (i.dy*32),ti e.health,ti (maxI e.age 1-1),ti e.owner]),vb false] []) ?_
     (first|rfl|(simp [zm,hmm];done))
  |false=>
   rw [hr] at hR
   have e1:steerE e i=(e,false):=by simp [steerE,hr]
   rw [e1]
   refine qq ?_
   refine gg [.b (e.kind !=1) false,.ff,.a _ _,.ff,.ff,.b (!false) true] ⟨f_brn (by assumption),o_a hR,bK,trivial⟩ ?_
   exact ge
 ·have e1:steerE e i=(e,false):=by simp [steerE,hk]
  rw [e1]
  refine qq ?_
  refine gg [.b (e.kind !=1) true,.tt,.tt,.tt,.tt] ⟨t_brn (by assumption),trivial⟩ ?_
  exact ge
theorem Agl (e:Entity) (i:Input) (he: -1000000≤e.age∧e.age≤1000000):Is cx (.call 134 [.t e.enc,.t i.enc] []) ⟨.ret,[.t (steerE e i).1.enc,vb (steerE e i).2],[]⟩:=by
 have hR:=Abn i
 have hm:= @AhB e.age 1
 have hm2:= @AhB 1 e.age
 have hmm:maxI 1 e.age=maxI e.age 1:=by unfold maxI;split<;>split<;>omega
 by_cases hk:e.kind=1
 ·cases hr:i.right with
  |true=>
   rw [hr] at hR
   have hi:=hr
   simp only [Input.right,Bool.and_eq_true,Aad] at hi
   cases hf:i.fire with
   |true=>
    by_cases ha:e.age=0
    ·have e1:steerE e i=({e with vx:=i.dx*32,vy:=i.dy*32,age:=6},true):=by simp [steerE,hk,hr,hf,ha]
     rw [e1]
     refine qq ?_
     refine gg [.b (e.kind !=1) false,.ff,.a _ _,.ff,.ff,.b (!true) false,.i zd (i.dx*32) (i.dx*32)] ⟨f_brn (by assumption),o_a hR,bK,oI,trivial⟩ ?_
     refine bO ?_ ?_
     all_goals
      refine gg [.i zd (i.dy*32) (i.dy*32),.b i.fire true,.tt,.tt,.tt,.b (e.age==0) true] ⟨oI,tB,t_bre (by assumption),trivial⟩ ?_
      exact ge
    ·have e1:steerE e i=({e with vx:=i.dx*32,vy:=i.dy*32,age:=maxI e.age 1-1},false):=by simp [steerE,hk,hr,ha]
     rw [e1]
     refine qq ?_
     refine gg [.b (e.kind !=1) false,.ff,.a _ _,.ff,.ff,.b (!true) false,.i zd (i.dx*32) (i.dx*32)] ⟨f_brn (by assumption),o_a hR,bK,oI,trivial⟩ ?_
     refine bO ?_ ?_
     all_goals
      refine gg [.i zd (i.dy*32) (i.dy*32),.b i.fire true,.tt,.tt,.tt,.b (e.age==0) false,.t (ti (maxI 1 e.age)) (ti (maxI e.age 1)),.i zd (maxI e.age 1-1) (maxI e.age 1-1)] ⟨oI,tB,f_bre (by assumption),o_t (by rw [hmm]),oI,trivial⟩ ?_
      refine rT (a:=qz qj [V.t (T.agg [ti e.id,ti e.kind,ti e.x,ti e.y,ti (i.dx*32),ti (i.dy*32),ti e.health,ti (maxI e.age 1-1),ti e.owner]),vb false] []) ?_
      (first|rfl|(simp [zm,hmm];done))
   |false=>
    have e1:steerE e i=({e with vx:=i.dx*32,vy:=i.dy*32,age:=maxI e.age 1-1},false):=by simp [steerE,hk,hr,hf]
    rw [e1]
    refine qq ?_
    refine gg [.b (e.kind !=1) false,.ff,.a _ _,.ff,.ff,.b (!true) false,.i zd (i.dx*32) (i.dx*32)] ⟨f_brn (by assumption),o_a hR,bK,oI,trivial⟩ ?_
    refine bO ?_ ?_
    all_goals
     refine gg [.i zd (i.dy*32) (i.dy*32),.b i.fire false,.ff,.ff,.ff,.ff,.t (ti (maxI 1 e.age)) (ti (maxI e.age 1)),.i zd (maxI e.age 1-1) (maxI e.age 1-1)] ⟨oI,fB,o_t (by rw [hmm]),oI,trivial⟩ ?_
     refine rT (a:=qz qj [V.t (T.agg [ti e.id,ti e.kind,ti e.x,ti e.y,ti (i.dx*32),ti (i.dy*32),ti e.health,ti (maxI e.age 1-1),ti e.owner]),vb false] []) ?_
     (first|rfl|(simp [zm,hmm];done))
  |false=>
   rw [hr] at hR
   have e1:steerE e i=(e,false):=by simp [steerE,hr]
   rw [e1]
   refine qq ?_
   refine gg [.b (e.kind !=1) false,.ff,.a _ _,.ff,.ff,.b (!false) true] ⟨f_brn (by assumption),o_a hR,bK,trivial⟩ ?_
   exact ge
 ·have e1:steerE e i=(e,false):=by simp [steerE,hk]
  rw [e1]
  refine qq ?_
  refine gg [.b (e.kind !=1) true,.tt,.tt,.tt,.tt] ⟨t_brn (by assumption),trivial⟩ ?_
  exact ge
theorem AbN (d:Int):Fn cx 164 [ti d] (ti (paceD d)):=by
 have h:= @Acz d (-1) 1 (by decide)
 refine qq ?_
 refine gg [.a _ _,.i zd (clamp d (-1) 1*160) (clamp d (-1) 1*160)] ⟨o_a (Aa8 d (-1) 1),oI,trivial⟩ ?_
 exact ge
theorem Afi (e:Entity) (i:Input) (id:Int):Fn cx 111 [e.enc,i.enc,ti id] ((shootE e i id).enc):=by
 refine qq ?_
 refine bO ?_ ?_
 ·refine gg [.a _ _] ⟨o_a (AbN i.dx),trivial⟩ ?_
  refine bO ?_ ?_
  all_goals
   refine gg [.a _ _] ⟨o_a (AbN i.dy),trivial⟩ ?_
   refine bre (x:=paceD i.dx) (y:=0) (by kernel_rfl) (fun h1=> ?_) (fun h1=> ?_)
   ·refine gg [.tt,.tt,.tt] trivial ?_
    refine bre (x:=paceD i.dy) (y:=0) (by kernel_rfl) (fun h2=> ?_) (fun h2=> ?_)
    ·refine rT (a:=qz qj [V.t (T.agg [ti id,ti 2,ti e.x,ti e.y,ti 160,ti (paceD i.dy),ti 1,ti 0,ti e.id])] []) ?_
     (unfold shootE;first|(rw [if_pos (by simp_all)];rfl)|(rw [if_neg (by simp_all)];rfl))
    ·refine rT (a:=qz qj [V.t (T.agg [ti id,ti 2,ti e.x,ti e.y,ti (paceD i.dx),ti (paceD i.dy),ti 1,ti 0,ti e.id])] []) ?_
     (unfold shootE;first|(rw [if_pos (by simp_all)];rfl)|(rw [if_neg (by simp_all)];rfl))
   ·refine gg [.ff,.ff,.ff,.ff] trivial ?_
    refine rT (a:=qz qj [V.t (T.agg [ti id,ti 2,ti e.x,ti e.y,ti (paceD i.dx),ti (paceD i.dy),ti 1,ti 0,ti e.id])] []) ?_
    (unfold shootE;first|(rw [if_pos (by simp_all)];rfl)|(rw [if_neg (by simp_all)];rfl))
 ·refine gg [.a _ _,.a _ _] ⟨o_a (AbN i.dx),o_a (AbN i.dy),trivial⟩ ?_
  refine bre (x:=paceD i.dx) (y:=0) (by kernel_rfl) (fun h1=> ?_) (fun h1=> ?_)
  ·refine gg [.tt,.tt,.tt] trivial ?_
   refine bre (x:=paceD i.dy) (y:=0) (by kernel_rfl) (fun h2=> ?_) (fun h2=> ?_)
   ·refine rT (a:=qz qj [V.t (T.agg [ti id,ti 2,ti e.x,ti e.y,ti 160,ti (paceD i.dy),ti 1,ti 0,ti e.id])] []) ?_
    (unfold shootE;first|(rw [if_pos (by simp_all)];rfl)|(rw [if_neg (by simp_all)];rfl))
   ·refine rT (a:=qz qj [V.t (T.agg [ti id,ti 2,ti e.x,ti e.y,ti (paceD i.dx),ti (paceD i.dy),ti 1,ti 0,ti e.id])] []) ?_
    (unfold shootE;first|(rw [if_pos (by simp_all)];rfl)|(rw [if_neg (by simp_all)];rfl))
  ·refine gg [.ff,.ff,.ff,.ff] trivial ?_
   refine rT (a:=qz qj [V.t (T.agg [ti id,ti 2,ti e.x,ti e.y,ti (paceD i.dx),ti (paceD i.dy),ti 1,ti 0,ti e.id])] []) ?_
   (unfold shootE;first|(rw [if_pos (by simp_all)];rfl)|(rw [if_neg (by simp_all)];rfl))
theorem Ahc (l:List Int) (hn:small l):Fn cx 166 [.sl 1 (l.map ti)] (ti (sumH l)):=by
 refine qq ?_
 refine gg [.a _ _] ⟨o_a (Air l (by assumption)),trivial⟩ ?_
 exact ge
theorem AkO (c:Config) (e:Entity) (he: -1000000≤e.age∧e.age≤1000000):Is cx (.call 114 [.t c.enc,.t e.enc] []) ⟨.ret,[.t (goE c e).1.enc,vb (goE c e).2],[]⟩:=by
 have hR:=Ac6 c e
 cases hr:e.right c with
 |false=>
  rw [hr] at hR
  have e1:goE c e=(Entity.zero,false):=by simp [goE,hr]
  rw [e1]
  refine qq ?_
  refine gg [.a _ _,.b (!false) true] ⟨o_a hR,bK,trivial⟩ ?_
  exact ge
 |true=>
  rw [hr] at hR
  have h1:= @Config.width_le c
  have h2:= @Config.height_le c
  have hx:=Ahc [e.x,e.vx] (by simp [small])
  have hy:=Ahc [e.y,e.vy] (by simp [small])
  have hI:=Adn c (sumH [e.x,e.vx]) (sumH [e.y,e.vy])
  by_cases hk:e.kind=2
  ·by_cases ha:e.age+1>12
   ·have e1:goE c e=(Entity.zero,false):=by simp [goE,hr,hk,ha]
    rw [e1]
    refine qq ?_
    refine gg [.a _ _,.b (!true) false] ⟨o_a hR,bK,trivial⟩ ?_
    refine bO (bO ?_ ?_) ?_
    all_goals
     refine gg [.a _ _,.a _ _,.b (e.kind==2) true,.i zd (e.age+1) (e.age+1),.b (decide (e.age+1>12)) true,.tt,.tt,.tt,.tt,.tt,.tt] ⟨o_a hx,o_a hy,t_bre (by assumption),oI,t_brp (by assumption),trivial⟩ ?_
     exact ge
   ·cases hi:c.inside (sumH [e.x,e.vx]) (sumH [e.y,e.vy]) with
    |true=>
     rw [hi] at hI
     have e1:goE c e=({e with x:=clamp (sumH [e.x,e.vx]) 0 (c.width-1),y:=clamp (sumH [e.y,e.vy]) 0 (c.height-1),age:=e.age+1},true):=by simp [goE,hr,hk,ha,hi]
     rw [e1]
     refine qq ?_
     refine gg [.a _ _,.b (!true) false] ⟨o_a hR,bK,trivial⟩ ?_
     refine bO (bO ?_ ?_) ?_
     all_goals
      refine gg [.a _ _,.a _ _,.b (e.kind==2) true,.i zd (e.age+1) (e.age+1),.b (decide (e.age+1>12)) false,.ff,.ff,.ff,.a _ _,.ff,.ff,.b (!true) false,.a _ _,.i zd (Config.width c-1) (Config.width c-1),.a _ _,.a _ _] ⟨o_a hx,o_a hy,t_bre (by assumption),oI,f_brp (by assumption),o_a hI,bK,o_a (Ac0 c),oI,o_a (Aa8 (sumH [e.x,e.vx]) 0 (Config.width c-1)),o_a (AbJ c),trivial⟩ ?_
      refine gg [.i zd (Config.height c-1) (Config.height c-1),.a _ _] ⟨oI,o_a (Aa8 (sumH [e.y,e.vy]) 0 (Config.height c-1)),trivial⟩ ?_
      exact ge
    |false=>
     rw [hi] at hI
     have e1:goE c e=(Entity.zero,false):=by simp [goE,hr,hk,hi]
     rw [e1]
     refine qq ?_
     refine gg [.a _ _,.b (!true) false] ⟨o_a hR,bK,trivial⟩ ?_
     refine bO (bO ?_ ?_) ?_
     all_goals
      refine gg [.a _ _,.a _ _,.b (e.kind==2) true,.i zd (e.age+1) (e.age+1),.b (decide (e.age+1>12)) false,.ff,.ff,.ff,.a _ _,.ff,.ff,.b (!false) true] ⟨o_a hx,o_a hy,t_bre (by assumption),oI,f_brp (by assumption),o_a hI,bK,trivial⟩ ?_
      exact ge
  ·have e1:goE c e=({e with x:=clamp (sumH [e.x,e.vx]) 0 (c.width-1),y:=clamp (sumH [e.y,e.vy]) 0 (c.height-1)},true):=by simp [goE,hr,hk]
   rw [e1]
   refine qq ?_
   refine gg [.a _ _,.b (!true) false] ⟨o_a hR,bK,trivial⟩ ?_
   refine bO (bO ?_ ?_) ?_
   all_goals
    refine gg [.a _ _,.a _ _,.b (e.kind==2) false,.a _ _,.i zd (Config.width c-1) (Config.width c-1),.a _ _,.a _ _,.i zd (Config.height c-1) (Config.height c-1),.a _ _] ⟨o_a hx,o_a hy,f_bre (by assumption),o_a (Ac0 c),oI,o_a (Aa8 (sumH [e.x,e.vx]) 0 (Config.width c-1)),o_a (AbJ c),oI,o_a (Aa8 (sumH [e.y,e.vy]) 0 (Config.height c-1)),trivial⟩ ?_
    exact ge
end Go.Eva.S4
namespace Go.Eva.S4
theorem Afl (e:Entity) (x y far:Int):Fn cx 115 [e.enc,ti x,ti y,ti far] (.bool (nearE e x y far)):=by
 refine qq ?_
 refine gg [.a _ _] ⟨o_a (AkJ e.x e.y x y),trivial⟩ ?_
 exact ge
theorem Ahw (t p:Entity) (g:Nat) (other:Entity→Entity→Bool) (far:Int) (hb:isFnB cx g=true) (hg:Fn cx g [t.enc,p.enc] (.bool (other t p))):
  Fn cx 169 [p.enc,.ip 1 (.clo g []) 0,.ip 9 t.enc 0,.ip 1 (ti far) 0] (.bool (meetP far other t p)):=by
 have hn:=Afl p t.x t.y far
 by_cases hk:p.kind=1
 ·cases ho:other t p with
  |true=>
   rw [ho] at hg
   refine qq ?_
   refine gg [.b (p.kind==1) true,.tt,.tt,.tt,.w (isFnB cx g=true),.a _ _,.tt,.tt,.tt,.tt,.tt,.tt,.tt,.tt,.a _ _,.tt] ⟨t_bre (by assumption),oA,o_a hg,o_a hn,trivial⟩ ?_
   refine rT (a:=qz qj [vb (nearE p t.x t.y far)] []) ?_
   simp [meetP,hk,ho]
  |false=>
   rw [ho] at hg
   refine qq ?_
   refine gg [.b (p.kind==1) true,.tt,.tt,.tt,.w (isFnB cx g=true),.a _ _,.tt,.ff,.ff,.ff,.ff,.ff,.ff,.ff,.ff] ⟨t_bre (by assumption),oA,o_a hg,trivial⟩ ?_
   refine rT (a:=qz qj [vb false] []) ?_
   simp [meetP,hk,ho]
 ·refine qq ?_
  refine gg [.b (p.kind==1) false,.ff,.ff,.ff,.ff,.ff,.ff,.ff,.ff,.ff,.ff,.ff,.ff] ⟨f_bre (by assumption),trivial⟩ ?_
  refine rT (a:=qz qj [vb false] []) ?_
  simp [meetP,hk]
theorem AeP (kind far:Int) (g h:Nat) (other:Entity→Entity→Bool) (turn:Int→Int) (n:Nat) (hn:n≤1000000) (hb:isFnB cx g=true) (hb2:isFnB cx h=true)
  (hg: ∀t p:Entity,Fn cx g [t.enc,p.enc] (.bool (other t p))) (hh: ∀v:Int,Fn cx h [ti v] (ti (turn v))): ∀(d i:Nat) (out:List Entity) (gone:List Bool),i+d=n→out.length=n→gone.length=n→
  Is cx (.loop 117 [0,1,0,1,1,1] 0 [vi kind,.t (.clo h []),.ptr 0 0 0,.ptr 1 0 0,.all 2 none,.all 3 none,.all 2 none,vi n,vi i] [.one 1 (.t (ti far)) false,.one 1 (.t (.clo g [])) false,.arr 9 (out.map zm) none false,.arr 1 (gone.map T.bool) (some 0) false])
   ⟨.exit 0,[vi kind,.t (.clo h []),.ptr 0 0 0,.ptr 1 0 0,.all 2 none,.all 3 none,.all 2 none,vi n,vi n],[.one 1 (.t (ti far)) false,.one 1 (.t (.clo g [])) false,.arr 9 ((meetN kind far other turn d i out gone).1.map zm) none false,.arr 1 ((meetN kind far other turn d i out gone).2.map T.bool) (some 0) false]⟩:=by
 intro d
 induction d with
 |zero=>
  intro i out gone hi ho hgo
  unfold meetN
  refine qq ?_
  refine gg [.b (decide ((i:Int)<(n:Int))) false] ⟨fP,trivial⟩ ?_
  refine rT (a:=qz (qx 0) [vi kind,V.t (T.clo h []),V.ptr 0 0 0,V.ptr 1 0 0,qy 2 none,qy 3 none,qy 2 none,vi (n:Int),vi (i:Int)] [qg 1 (vi far) false,qg 1 (V.t (T.clo g [])) false,qv 9 (zz zm out) none false,qv 1 (zz T.bool gone) (some 0) false]) ?_
  ((have hq:i=n:=by omega);subst hq;rfl)
 |succ d ih=>
  intro i out gone hi ho hgo
  rw [meetN]
  have hlt:i<out.length:=by omega
  by_cases hk:(gt out i).kind=kind
  ·have hI:=Aav out 169 [.ip 1 (.clo g []) 0,.ip 9 (gt out i).enc 0,.ip 1 (ti far) 0] (meetP far other (gt out i)) (by kernel_rfl) (by unfold small;omega) (fun p _=>Ahw (gt out i) p g other far hb (hg _ _))
   cases hq:out.findIdx? (meetP far other (gt out i)) with
   |some k=>
    have e1:meet1 kind far other turn out gone i=(out.set k {gt out k with health:=turn (gt out k).health},gone.set i true):=by simp [meet1,hk,hq]
    rw [e1]
    rw [AbK hq] at hI
    have hkl:=(List.findIdx?_eq_some_iff_getElem.1 hq).1
    have ht:=hh (gt out k).health
    have ih1:=ih (i+1) (out.set k {gt out k with health:=turn (gt out k).health}) (gone.set i true) (by omega) (by simpa using ho) (by simpa using hgo)
    clear ih hg hh hq e1
    refine qq ?_
    refine gg [.b (decide ((i:Int)<(n:Int))) true,.w (0≤(i:Int)),.n (zy (i:Int)) i,.w (i<zq (zz zm out)),.g (zz zm out) i (zm (gt out i)),.b ((gt out i).kind !=kind) false,.a _ _,.b (flats [ti (k:Int)]) true,.b (decide ((k:Int)≥0)) true,.w (0≤(k:Int)),.n (zy (k:Int)) k,.w (k<zq (zz zm out)),.g (zz zm out) k (zm (gt out k)),.w (isFnB cx h=true),.a _ _,.w (0≤(k:Int))] ⟨tP,oW,nK,o_w (by (simp;omega)),o_gt rfl (by assumption) (by intro h;cases h),f_brn (by assumption),o_a hI,bK,bK,oW,nK,o_w (by (simp;omega)),o_gt rfl (by assumption) (by intro h;cases h),oA,o_a ht,oW,trivial⟩ ?_
    refine gg [.n (zy (k:Int)) k,.w (k<zq (zz zm out)),.g (zz zm out) k (zm (gt out k)),.t (qk 0 (zx (zz zm out) k (T.agg [ti (gt out k).id,ti (gt out k).kind,ti (gt out k).x,ti (gt out k).y,ti (gt out k).vx,ti (gt out k).vy,ti (turn (gt out k).health),ti (gt out k).age,ti (gt out k).owner]))) (qk 0 (zz zm (zx out k (qw (gt out k).id (gt out k).kind (gt out k).x (gt out k).y (gt out k).vx (gt out k).vy (turn (gt out k).health) (gt out k).age (gt out k).owner)))),.w (0≤(i:Int)),.n (zy (i:Int)) i,.w (i<zq (zz T.bool gone)),.g (zz T.bool gone) i (T.bool (gt gone i)),.t (qk 0 (zx (zz T.bool gone) i (T.bool true))) (qk 0 (zz T.bool (zx gone i true))),.i zd ((i:Int)+1) ((↑(i+1):Int)),.a _ _] ⟨nK,o_w (by (simp;omega)),o_gt rfl (by assumption) (by intro h;cases h),o_l (Aal (e:=qw (gt out k).id (gt out k).kind (gt out k).x (gt out k).y (gt out k).vx (gt out k).vy (turn (gt out k).health) (gt out k).age (gt out k).owner) rfl rfl),oW,nK,o_w (by (simp;omega)),oT,o_l (Aal rfl rfl),oI,o_a ih1,trivial⟩ ?_
    exact ge
   |none=>
    have e1:meet1 kind far other turn out gone i=(out,gone):=by simp [meet1,hk,hq]
    rw [e1]
    rw [Ac2 hq] at hI
    have ih1:=ih (i+1) out gone (by omega) ho hgo
    clear ih hg hh hq e1
    refine qq ?_
    refine gg [.b (decide ((i:Int)<(n:Int))) true,.w (0≤(i:Int)),.n (zy (i:Int)) i,.w (i<zq (zz zm out)),.g (zz zm out) i (zm (gt out i)),.b ((gt out i).kind !=kind) false,.a _ _,.b (flats [ti (-1)]) true,.b (decide (-1≥0)) false,.i zd ((i:Int)+1) ((↑(i+1):Int)),.a _ _] ⟨tP,oW,nK,o_w (by (simp;omega)),o_gt rfl (by assumption) (by intro h;cases h),f_brn (by assumption),o_a hI,bK,bK,oI,o_a ih1,trivial⟩ ?_
    exact ge
  ·have e1:meet1 kind far other turn out gone i=(out,gone):=by simp [meet1,hk]
   rw [e1]
   have ih1:=ih (i+1) out gone (by omega) ho hgo
   clear ih hg hh e1
   refine qq ?_
   refine gg [.b (decide ((i:Int)<(n:Int))) true,.w (0≤(i:Int)),.n (zy (i:Int)) i,.w (i<zq (zz zm out)),.g (zz zm out) i (zm (gt out i)),.b ((gt out i).kind !=kind) true,.i zd ((i:Int)+1) ((↑(i+1):Int)),.a _ _] ⟨tP,oW,nK,o_w (by (simp;omega)),o_gt rfl (by assumption) (by intro h;cases h),t_brn (by assumption),oI,o_a ih1,trivial⟩ ?_
   exact ge
theorem Afg (out:List Entity) (gone:List Bool) (hn:small out) (hgo:gone.length=out.length): ∀(d i:Nat) (A:List Entity),i+d=out.length→A.length≤i→
  Is cx (.loop 117 [0,1,0,1,1,1,1,1] 0 [.all 0 none,.all 1 none,.all 2 none,vi out.length,vi i] [.arr 1 (gone.map T.bool) (some 0) false,.arr 9 (A.map zm) none false,.arr 9 (out.map zm) none false])
   ⟨.exit 2,[.all 0 none,.all 1 none,.all 2 none,vi out.length,vi out.length],[.arr 1 (gone.map T.bool) (some 0) false,.arr 9 ((A++keepL (out.drop i) (gone.drop i)).map zm) none false,.arr 9 (out.map zm) none false]⟩:=by
 unfold small at hn
 intro d
 induction d with
 |zero=>
  intro i A hi hA
  rw [Aac (l:=out) (by omega)]
  refine qq ?_
  refine gg [.b (decide ((i:Int)<(↑(zq out):Int))) false] ⟨fP,trivial⟩ ?_
  refine rT (a:=qz (qx 2) [qy 0 none,qy 1 none,qy 2 none,vi (↑(zq out):Int),vi (i:Int)] [qv 1 (zz T.bool gone) (some 0) false,qv 9 (zz zm A) none false,qv 9 (zz zm out) none false]) ?_
  ((have hq:i=out.length:=by omega);subst hq;simp [keepL])
 |succ d ih=>
  intro i A hi hA
  have hlt:i<out.length:=by omega
  have hlt2:i<gone.length:=by omega
  have ih1:=ih (i+1) A (by omega) (by omega)
  have ih2:=ih (i+1) (A++ [gt out i]) (by omega) (by simp;omega)
  clear ih
  rw [Aae hlt,Aae hlt2,keepL]
  cases hg:gt gone i with
  |true=>
   have hx:(gone.map T.bool)[i]?=some (T.bool true):=by rw [List.getElem?_map,AcJ hlt2,hg];rfl
   simp only [if_true,List.nil_append]
   clear ih2
   refine qq ?_
   refine gg [.b (decide ((i:Int)<(↑(zq out):Int))) true,.w (0≤(i:Int)),.n (zy (i:Int)) i,.w (i<zq (zz zm out)),.g (zz zm out) i (zm (gt out i)),.w (0≤(i:Int)),.n (zy (i:Int)) i,.w (i<zq (zz T.bool gone)),.g (zz T.bool gone) i (T.bool (gt gone i)),.b (!gt gone i) false,.i zd ((i:Int)+1) ((↑(i+1):Int)),.a _ _] ⟨tP,oW,nK,o_w (by (simp;omega)),o_gt rfl (by assumption) (by intro h;cases h),oW,nK,o_w (by (simp;omega)),o_gt rfl (by assumption) (by intro h;cases h),AhJ (by assumption),oI,o_a ih1,trivial⟩ ?_
   exact ge
  |false=>
   have hx:(gone.map T.bool)[i]?=some (T.bool false):=by rw [List.getElem?_map,AcJ hlt2,hg];rfl
   simp only [Bool.false_eq_true,if_false]
   rw [←List.append_assoc]
   clear ih1
   refine qq ?_
   refine gg [.b (decide ((i:Int)<(↑(zq out):Int))) true,.w (0≤(i:Int)),.n (zy (i:Int)) i,.w (i<zq (zz zm out)),.g (zz zm out) i (zm (gt out i)),.w (0≤(i:Int)),.n (zy (i:Int)) i,.w (i<zq (zz T.bool gone)),.g (zz T.bool gone) i (T.bool (gt gone i)),.b (!gt gone i) true,.w ((0:Nat)<(72:Nat)),.t (qk 0 [zm (gt out i)]) (qk 0 (zz zm [gt out i])),.t (qk 0 (zz zm A++zz zm [gt out i])) (qk 0 (zz zm (A++ [gt out i]))),.w (room (zq (zz zm (A++ [gt out i]))) (72:Nat)),.i zd ((i:Int)+1) ((↑(i+1):Int)),.a _ _] ⟨tP,oW,nK,o_w (by (simp [room,appendMax];omega)),o_gt rfl (by assumption) (by intro h;cases h),oW,nK,o_w (by (simp [room,appendMax];omega)),o_gt rfl (by assumption) (by intro h;cases h),AhL (by assumption),oW,o_l (Aaf rfl Aap),o_l (Aam rfl rfl),o_w (by (simp [room,appendMax];omega)),o_i (w64 (by (simp [room,appendMax];omega))),o_a ih2,trivial⟩ ?_
   exact ge
theorem Afm (l:List Entity) (kind far:Int) (g h:Nat) (other:Entity→Entity→Bool) (turn:Int→Int) (hn:small l) (hb:isFnB cx g=true) (hb2:isFnB cx h=true)
  (hg: ∀t p:Entity,Fn cx g [t.enc,p.enc] (.bool (other t p))) (hh: ∀v:Int,Fn cx h [ti v] (ti (turn v))):
  Is cx (.call 117 [.t (.sl 9 (l.map zm)),vi kind,vi far,.t (.clo g []),.t (.clo h [])] []) ⟨.ret,[.all 0 none],[.arr 9 ((meetL kind far other turn l).map zm) none false]⟩:=by
 have hn':l.length≤1000000:=hn
 have h0:=AeP kind far g h other turn l.length hn hb hb2 hg hh l.length 0 l (zj l.length false) (by omega) rfl (by simp)
 unfold meetL
 have hlen: ∀(d i:Nat) (out:List Entity) (gone:List Bool),(meetN kind far other turn d i out gone).1.length=out.length∧(meetN kind far other turn d i out gone).2.length=gone.length:=by
  intro d
  induction d with
  |zero=>intros;exact ⟨rfl,rfl⟩
  |succ d ih=>
   intro i out gone
   rw [meetN]
   obtain ⟨h1,h2⟩:=ih (i+1) (meet1 kind far other turn out gone i).1 (meet1 kind far other turn out gone i).2
   rw [h1,h2]
   unfold meet1
   split
   ·split<;>simp
   ·exact ⟨rfl,rfl⟩
 obtain ⟨l1,l2⟩:=hlen l.length 0 l (zj l.length false)
 simp only [List.length_replicate] at l2
 rw [List.map_replicate] at h0
 generalize (meetN kind far other turn l.length 0 l (zj l.length false)).1=X at*
 generalize (meetN kind far other turn l.length 0 l (zj l.length false)).2=Y at*
 have h1:=Afg X Y (by unfold small;omega) (by omega) X.length 0 [] (by omega) (by simp)
 rw [List.drop_zero,List.drop_zero,List.nil_append] at h1
 clear hlen hg hh
 refine qq ?_
 refine gg [.a _ _,.n (zq (zz zm l)) (zq l),.w (0≤(↑(zq l):Int)∧(↑(zq l):Int)≤(↑(zq l):Int)∧room (zy (↑(zq l):Int)) (1:Nat)),.n (zy (↑(zq l):Int)) (zq l),.n (zq (zz zm l)) (zq l),.a _ _,.n (zq (zz zm X)) (zq X),.a _ _] ⟨o_a (Aa7 l (by assumption)),o_n (by simp),o_w ⟨(by omega),⟨(by omega),(by (simp [room,appendMax];omega))⟩⟩,nK,o_n (by simp),o_a h0,o_n (by simp),o_a h1,trivial⟩ ?_
 exact ge
theorem AgM (t p:Entity):Fn cx 121 [t.enc,p.enc] (.bool (decide (p.id≠t.owner))):=by
 refine qq ?_
 refine rT (a:=qz qj [vb (p.id !=t.owner)] []) ?_
 simp [bned]
theorem AgD (v:Int):Fn cx 122 [ti v] (ti (subH v 20)):=by
 refine qq ?_
 refine gg [.a _ _] ⟨o_a (Ad2 v 20),trivial⟩ ?_
 exact ge
theorem Ahs (t p:Entity):Fn cx 118 [t.enc,p.enc] (.bool true):=by
 refine qq ?_
 exact ge
theorem Aho (v:Int):Fn cx 119 [ti v] (ti (minI (sumH [v,25]) 100)):=by
 have h:=Air [v,25] (by simp [small])
 refine qq ?_
 refine gg [.a _ _,.s (ti (minI (sumH [v,25]) 100))] ⟨o_a h,trivial⟩ ?_
 exact ge
theorem AhS (l:List Entity) (hn:small l):Is cx (.call 66 [.t (.sl 9 (l.map zm))] []) ⟨.ret,[.all 0 none],[.arr 9 ((shotsL l).map zm) none false]⟩:=by
 have h:=Afm l 2 24 121 122 (fun s p=>decide (p.id≠s.owner)) (fun h=>subH h 20) hn (by kernel_rfl) (by kernel_rfl) (fun t p=>AgM t p) (fun v=>AgD v)
 change Is cx _ ⟨_,_,[.arr 9 ((shotsL l).map zm) none false]⟩ at h
 generalize shotsL l=X at*
 refine qq ?_
 refine gg [.a _ _] ⟨o_a h,trivial⟩ ?_
 exact ge
theorem Ai8 (l:List Entity) (hn:small l):Is cx (.call 65 [.t (.sl 9 (l.map zm))] []) ⟨.ret,[.all 0 none],[.arr 9 ((gemsL l).map zm) none false]⟩:=by
 have h:=Afm l 3 32 118 119 (fun _ _=>true) (fun h=>minI (sumH [h,25]) 100) hn (by kernel_rfl) (by kernel_rfl) (fun t p=>Ahs t p) (fun v=>Aho v)
 change Is cx _ ⟨_,_,[.arr 9 ((gemsL l).map zm) none false]⟩ at h
 generalize gemsL l=X at*
 refine qq ?_
 refine gg [.a _ _] ⟨o_a h,trivial⟩ ?_
 exact ge
theorem Als {b:Cross} {A:List Entity} {j:Nat} (h:j<A.length):(A.set j (hurtE b (gt A j))).take (j+1)++((A.set j (hurtE b (gt A j))).drop (j+1)).map (hurtE b)=A.take j++(A.drop j).map (hurtE b):=by
 rw [Aae h,List.map_cons,List.drop_set_of_lt (by omega),List.take_add_one,List.take_set_of_le (by omega)]
 simp [h]
theorem AdK (b:Cross) (bl:List Cross) (i:Nat): ∀(d j:Nat) (A:List Entity),j+d=A.length→small A→
  Is cx (.loop 64 [0,1,1,0,0,1,1,0,0,1,0,1,1] 0 [.all 0 none,.ptr 1 0 0,.t (.sl 15 (bl.map zn)),vi bl.length,vi i,vi A.length,vi j] [.arr 9 (A.map zm) none false,.one 15 (.t b.enc) false])
   ⟨.exit 2,[.all 0 none,.ptr 1 0 0,.t (.sl 15 (bl.map zn)),vi bl.length,vi i,vi A.length,vi A.length],[.arr 9 ((A.take j++(A.drop j).map (hurtE b)).map zm) none false,.one 15 (.t b.enc) false]⟩:=by
 intro d
 induction d with
 |zero=>
  intro j A hj hn
  unfold small at hn
  rw [Aac (by omega),List.take_of_length_le (by omega)]
  refine qq ?_
  refine gg [.b (decide ((j:Int)<(↑(zq A):Int))) false] ⟨fP,trivial⟩ ?_
  refine rT (a:=qz (qx 2) [qy 0 none,V.ptr 1 0 0,V.t (qk 15 (zz zn bl)),vi (↑(zq bl):Int),vi (i:Int),vi (↑(zq A):Int),vi (j:Int)] [qv 9 (zz zm A) none false,qg 15 (V.t (zn b)) false]) ?_
  ((have hq:j=A.length:=by omega);subst hq;simp)
 |succ d ih=>
  intro j A hj hn
  have hlt:j<A.length:=by omega
  have ih1:=ih (j+1) (A.set j (hurtE b (gt A j))) (by simp;omega) (by unfold small at*;simpa using hn)
  rw [Als hlt,List.length_set] at ih1
  clear ih
  unfold small at hn
  have hN:=Afl (gt A j) b.x b.y 128
  have hS:=Ad2 (gt A j).health 10
  by_cases hk:b.kind=2
  ·by_cases hp:(gt A j).kind=1
   ·cases hq:nearE (gt A j) b.x b.y 128 with
    |true=>
     rw [hq] at hN
     have e:hurtE b (gt A j)= {gt A j with health:=subH (gt A j).health 10}:=by simp [hurtE,hk,hp,hq]
     rw [e] at ih1
     refine qq ?_
     refine gg [.b (decide ((j:Int)<(↑(zq A):Int))) true,.w (0≤(j:Int)),.n (zy (j:Int)) j,.w (j<zq (zz zm A)),.b (b.kind==2) true,.tt,.tt,.tt,.g (zz zm A) j (zm (gt A j)),.tt,.tt,.b ((gt A j).kind==1) true,.tt,.tt,.tt,.tt] ⟨tP,oW,nK,o_w (by (simp;omega)),t_bre (by assumption),o_gt rfl (by assumption) (by intro h;cases h),t_bre (by assumption),trivial⟩ ?_
     refine gg [.g (zz zm A) j (zm (gt A j)),.tt,.tt,.tt,.a _ _,.tt,.tt,.g (zz zm A) j (zm (gt A j)),.a _ _,.g (zz zm A) j (zm (gt A j)),.t (qk 0 (zx (zz zm A) j (T.agg [ti (gt A j).id,ti (gt A j).kind,ti (gt A j).x,ti (gt A j).y,ti (gt A j).vx,ti (gt A j).vy,ti (subH (gt A j).health 10),ti (gt A j).age,ti (gt A j).owner]))) (qk 0 (zz zm (zx A j (qw (gt A j).id (gt A j).kind (gt A j).x (gt A j).y (gt A j).vx (gt A j).vy (subH (gt A j).health 10) (gt A j).age (gt A j).owner)))),.i zd ((j:Int)+1) ((↑(j+1):Int)),.a _ _] ⟨o_gt rfl (by assumption) (by intro h;cases h),o_a hN,o_gt rfl (by assumption) (by intro h;cases h),o_a hS,o_gt rfl (by assumption) (by intro h;cases h),o_l (Aal (e:=qw (gt A j).id (gt A j).kind (gt A j).x (gt A j).y (gt A j).vx (gt A j).vy (subH (gt A j).health 10) (gt A j).age (gt A j).owner) rfl rfl),oI,o_a ih1,trivial⟩ ?_
     exact ge
    |false=>
     rw [hq] at hN
     have e:hurtE b (gt A j)=gt A j:=by simp [hurtE,hq]
     rw [e,AgC hlt] at ih1
     refine qq ?_
     refine gg [.b (decide ((j:Int)<(↑(zq A):Int))) true,.w (0≤(j:Int)),.n (zy (j:Int)) j,.w (j<zq (zz zm A)),.b (b.kind==2) true,.tt,.tt,.tt,.g (zz zm A) j (zm (gt A j)),.tt,.tt,.b ((gt A j).kind==1) true,.tt,.tt,.tt,.tt] ⟨tP,oW,nK,o_w (by (simp;omega)),t_bre (by assumption),o_gt rfl (by assumption) (by intro h;cases h),t_bre (by assumption),trivial⟩ ?_
     refine gg [.g (zz zm A) j (zm (gt A j)),.tt,.tt,.tt,.a _ _,.tt,.ff,.i zd ((j:Int)+1) ((↑(j+1):Int)),.a _ _] ⟨o_gt rfl (by assumption) (by intro h;cases h),o_a hN,oI,o_a ih1,trivial⟩ ?_
     exact ge
   ·have e:hurtE b (gt A j)=gt A j:=by simp [hurtE,hp]
    rw [e,AgC hlt] at ih1
    refine qq ?_
    refine gg [.b (decide ((j:Int)<(↑(zq A):Int))) true,.w (0≤(j:Int)),.n (zy (j:Int)) j,.w (j<zq (zz zm A)),.b (b.kind==2) true,.tt,.tt,.tt,.g (zz zm A) j (zm (gt A j)),.tt,.tt,.b ((gt A j).kind==1) false,.ff,.ff,.ff,.ff] ⟨tP,oW,nK,o_w (by (simp;omega)),t_bre (by assumption),o_gt rfl (by assumption) (by intro h;cases h),f_bre (by assumption),trivial⟩ ?_
    refine gg [.ff,.ff,.ff,.ff,.ff,.i zd ((j:Int)+1) ((↑(j+1):Int)),.a _ _] ⟨oI,o_a ih1,trivial⟩ ?_
    exact ge
  ·have e:hurtE b (gt A j)=gt A j:=by simp [hurtE,hk]
   rw [e,AgC hlt] at ih1
   refine qq ?_
   refine gg [.b (decide ((j:Int)<(↑(zq A):Int))) true,.w (0≤(j:Int)),.n (zy (j:Int)) j,.w (j<zq (zz zm A)),.b (b.kind==2) false,.ff,.ff,.ff,.ff,.ff,.ff,.ff,.ff,.ff,.ff,.ff] ⟨tP,oW,nK,o_w (by (simp;omega)),f_bre (by assumption),trivial⟩ ?_
   refine gg [.ff,.ff,.ff,.ff,.i zd ((j:Int)+1) ((↑(j+1):Int)),.a _ _] ⟨oI,o_a ih1,trivial⟩ ?_
   exact ge
theorem AdX (bl:List Cross) (hb:small bl): ∀(d i:Nat) (A:List Entity),i+d=bl.length→small A→
  Is cx (.loop 64 [0,1,0,1,1] 0 [.all 0 none,.t (.sl 15 (bl.map zn)),vi bl.length,vi i] [.arr 9 (A.map zm) none false])
   ⟨.exit 0,[.all 0 none,.t (.sl 15 (bl.map zn)),vi bl.length,vi bl.length],[.arr 9 ((blastsL A (bl.drop i)).map zm) none false]⟩:=by
 unfold small at hb
 intro d
 induction d with
 |zero=>
  intro i A hi hn
  rw [Aac (by omega)]
  refine qq ?_
  refine gg [.b (decide ((i:Int)<(↑(zq bl):Int))) false] ⟨fP,trivial⟩ ?_
  refine rT (a:=qz (qx 0) [qy 0 none,V.t (qk 15 (zz zn bl)),vi (↑(zq bl):Int),vi (i:Int)] [qv 9 (zz zm A) none false]) ?_
  ((have hq:i=bl.length:=by omega);subst hq;rfl)
 |succ d ih=>
  intro i A hi hn
  have hlt:i<bl.length:=by omega
  have ih1:=ih (i+1) (A.map (hurtE (gt bl i))) (by omega) (by unfold small at*;simpa using hn)
  have h1:=AdK (gt bl i) bl i A.length 0 A (by omega) hn
  rw [List.take_zero,List.drop_zero,List.nil_append] at h1
  clear ih
  unfold small at hn
  rw [Aae hlt]
  change Is cx _ ⟨_,_,[.arr 9 ((blastsL (A.map (hurtE (gt bl i))) (bl.drop (i+1))).map zm) none false]⟩
  generalize A.map (hurtE (gt bl i))=B at*
  refine qq ?_
  refine gg [.b (decide ((i:Int)<(↑(zq bl):Int))) true,.w (0≤(i:Int)),.n (zy (i:Int)) i,.g (zz zn bl) i (zn (gt bl i)),.n (zq (zz zm A)) (zq A),.a _ _,.i zd ((i:Int)+1) ((↑(i+1):Int)),.a _ _] ⟨tP,oW,nK,o_gt rfl (by assumption) (by intro h;cases h),o_n (by simp),o_a h1,oI,o_a ih1,trivial⟩ ?_
  exact ge
theorem Ahp (l:List Entity) (bl:List Cross) (hn:small l) (hb:small bl):Is cx (.call 64 [.t (.sl 9 (l.map zm)),.t (.sl 15 (bl.map zn))] []) ⟨.ret,[.all 0 none],[.arr 9 ((blastsL l bl).map zm) none false]⟩:=by
 have h:=AdX bl hb bl.length 0 l (by omega) hn
 rw [List.drop_zero] at h
 refine qq ?_
 refine gg [.a _ _,.n (zq (zz zn bl)) (zq bl),.a _ _] ⟨o_a (Aa7 l (by assumption)),o_n (by simp),o_a h,trivial⟩ ?_
 exact ge
theorem Aem (l:List Entity) (hn:small l): ∀(d i:Nat) (A:List Int),i+d=l.length→A.length≤i→
  Is cx (.loop 123 [0,1,0,1,1] 1 [.all 1 none,.all 0 none,vi l.length,vi i] [.arr 9 (l.map zm) none false,.arr 1 (A.map ti) none false])
   ⟨.exit 0,[.all 1 none,.all 0 none,vi l.length,vi l.length],[.arr 9 (l.map zm) none false,.arr 1 ((A++fallenL (l.drop i)).map ti) none false]⟩:=by
 unfold small at hn
 intro d
 induction d with
 |zero=>
  intro i A hi hA
  rw [Aac (by omega)]
  refine qq ?_
  refine gg [.b (decide ((i:Int)<(↑(zq l):Int))) false] ⟨fP,trivial⟩ ?_
  refine rT (a:=qz (qx 0) [qy 1 none,qy 0 none,vi (↑(zq l):Int),vi (i:Int)] [qv 9 (zz zm l) none false,qv 1 (zz ti A) none false]) ?_
  ((have hq:i=l.length:=by omega);subst hq;simp [fallenL])
 |succ d ih=>
  intro i A hi hA
  have hlt:i<l.length:=by omega
  have ih1:=ih (i+1) A (by omega) (by omega)
  have ih2:=ih (i+1) (A++ [(gt l i).id]) (by omega) (by simp;omega)
  clear ih
  unfold fallenL at*
  rw [Ae9 _ hlt]
  refine qq ?_
  refine gg [.b (decide ((i:Int)<(↑(zq l):Int))) true,.w (0≤(i:Int)),.n (zy (i:Int)) i,.w (i<zq (zz zm l)),.g (zz zm l) i (zm (gt l i))] ⟨tP,oW,nK,o_w (by (simp [room,appendMax];omega)),o_gt rfl (by assumption) (by intro h;cases h),trivial⟩ ?_
  refine bre (x:=(gt l i).kind) (y:=1) (by kernel_rfl) (fun h1=> ?_) (fun h1=> ?_)
  ·refine gg [.tt,.tt,.tt] trivial ?_
   refine brp (p:=(gt l i).health≤0) (by kernel_rfl) (fun h2=> ?_) (fun h2=> ?_)
   ·refine gg [.w ((0:Nat)<(8:Nat)),.t (qk 0 [ti (gt l i).id]) (qk 0 (zz (T.int zd) [(gt l i).id])),.t (qk 0 (zz ti A++zz (T.int zd) [(gt l i).id])) (qk 0 (zz ti (A++ [(gt l i).id]))),.w (room (zq (zz ti (A++ [(gt l i).id]))) (8:Nat)),.i zd ((i:Int)+1) ((↑(i+1):Int)),.a _ _] ⟨oW,o_l (Aaf rfl Aap),o_l (Aam rfl rfl),o_w (by (simp [room,appendMax];omega)),o_i (w64 (by (simp [room,appendMax];omega))),o_a ih2,trivial⟩ ?_
    refine rT (a:=qz (qx 0) [qy 1 none,qy 0 none,vi (↑(zq l):Int),vi (↑(zq l):Int)] [qv 9 (zz zm l) none false,qv 1 (zz ti (A++ [(gt l i).id]++zz Entity.id (List.filter fallenP (zk (i+1) l)))) none false]) ?_
    (simp_all [fallenP];try omega)
   ·refine gg [.i zd ((i:Int)+1) ((↑(i+1):Int)),.a _ _] ⟨o_i (w64 (by (simp [room,appendMax];omega))),o_a ih1,trivial⟩ ?_
    refine rT (a:=qz (qx 0) [qy 1 none,qy 0 none,vi (↑(zq l):Int),vi (↑(zq l):Int)] [qv 9 (zz zm l) none false,qv 1 (zz ti (A++zz Entity.id (List.filter fallenP (zk (i+1) l)))) none false]) ?_
    (simp_all [fallenP];try omega)
  ·refine gg [.ff,.ff,.ff,.ff,.i zd ((i:Int)+1) ((↑(i+1):Int)),.a _ _] ⟨o_i (w64 (by (simp [room,appendMax];omega))),o_a ih1,trivial⟩ ?_
   refine rT (a:=qz (qx 0) [qy 1 none,qy 0 none,vi (↑(zq l):Int),vi (↑(zq l):Int)] [qv 9 (zz zm l) none false,qv 1 (zz ti (A++zz Entity.id (List.filter fallenP (zk (i+1) l)))) none false]) ?_
   (simp_all [fallenP];try omega)
theorem Ad8 (l:List Entity) (hn:small l):Is cx (.call 123 [.all 0 none] [.arr 9 (l.map zm) none false]) ⟨.ret,[.all 1 none],[.arr 9 (l.map zm) none false,.arr 1 ((fallenL l).map ti) none false]⟩:=by
 have h:=Aem l hn l.length 0 [] (by omega) (by simp)
 rw [List.drop_zero,List.nil_append] at h
 generalize fallenL l=X at*
 refine qq ?_
 refine gg [.n (zq (zz zm l)) (zq l),.a _ _] ⟨o_n (by simp),o_a h,trivial⟩ ?_
 exact ge
end Go.Eva.S4
namespace Go.Eva.S4
theorem Ac3 (bl:List Cross) (i:Nat) (hi:i<bl.length): ∀(d j:Nat) (A:List Entity),j+d=A.length→small A→
  Is cx (.loop 139 [0,1,0,0,1,0,0,1,0,1,1] 0 [.t (.sl 15 (bl.map zn)),.all 0 none,vi i,vi j] [.arr 9 (A.map zm) none false])
   ⟨.exit 2,[.t (.sl 15 (bl.map zn)),.all 0 none,vi i,vi A.length],[.arr 9 ((A.take j++(A.drop j).map (hurtE (gt bl i))).map zm) none false]⟩:=by
 intro d
 induction d with
 |zero=>
  intro j A hj hn
  unfold small at hn
  rw [Aac (by omega),List.take_of_length_le (by omega)]
  refine qq ?_
  refine gg [.n (zq (zz zm A)) (zq A),.b (decide ((j:Int)<(↑(zq A):Int))) false] ⟨o_n (by simp),fP,trivial⟩ ?_
  refine rT (a:=qz (qx 2) [V.t (qk 15 (zz zn bl)),qy 0 none,vi (i:Int),vi (j:Int)] [qv 9 (zz zm A) none false]) ?_
  ((have hq:j=A.length:=by omega);subst hq;simp)
 |succ d ih=>
  intro j A hj hn
  have hlt:j<A.length:=by omega
  have ih1:=ih (j+1) (A.set j (hurtE (gt bl i) (gt A j))) (by simp;omega) (by unfold small at*;simpa using hn)
  rw [Als hlt,List.length_set] at ih1
  clear ih
  unfold small at hn
  have hN:=AdD (gt A j).x (gt A j).y (gt bl i).x (gt bl i).y
  have hS:=Aan (gt A j).health
  have hS2:=Aan (held (gt A j).health-10)
  have hh:= @Abe (gt A j).health
  have e0:subH (gt A j).health 10=held (held (gt A j).health-10):=by unfold subH;rw [Aen (v:=10) (by omega)]
  by_cases hk:(gt bl i).kind=2
  ·by_cases hp:(gt A j).kind=1
   ·by_cases hq:farI (gt A j).x (gt A j).y (gt bl i).x (gt bl i).y≤128
    ·have e:hurtE (gt bl i) (gt A j)= {gt A j with health:=held (held (gt A j).health-10)}:=by rw [←e0];simp [hurtE,hk,hp,nearE,hq]
     rw [e] at ih1
     refine qq ?_
     refine gg [.n (zq (zz zm A)) (zq A),.b (decide ((j:Int)<(↑(zq A):Int))) true,.w (0≤(i:Int)),.n (zy (i:Int)) i,.g (zz zn bl) i (zn (gt bl i)),.b ((gt bl i).kind==2) true,.tt,.tt,.w (0≤(j:Int)),.n (zy (j:Int)) j,.w (j<zq (zz zm A)),.tt,.tt,.g (zz zm A) j (zm (gt A j)),.tt,.tt] ⟨o_n (by simp),tP,oW,nK,o_gt rfl (by assumption) (by intro h;cases h),t_bre (by assumption),oW,nK,o_w (by (simp;omega)),o_gt rfl (by assumption) (by intro h;cases h),trivial⟩ ?_
     refine gg [.b ((gt A j).kind==1) true,.tt,.tt,.w (0≤(j:Int)),.n (zy (j:Int)) j,.w (j<zq (zz zm A)),.tt,.tt,.tt,.tt,.w (0≤(j:Int)),.n (zy (j:Int)) j,.w (j<zq (zz zm A)),.tt,.tt,.tt] ⟨t_bre (by assumption),oW,nK,o_w (by (simp;omega)),oW,nK,o_w (by (simp;omega)),trivial⟩ ?_
     refine gg [.tt,.w (0≤(i:Int)),.n (zy (i:Int)) i,.g (zz zn bl) i (zn (gt bl i)),.tt,.tt,.tt,.tt,.w (0≤(i:Int)),.n (zy (i:Int)) i,.g (zz zn bl) i (zn (gt bl i)),.tt,.tt,.g (zz zm A) j (zm (gt A j)),.tt,.g (zz zm A) j (zm (gt A j))] ⟨oW,nK,o_gt rfl (by assumption) (by intro h;cases h),oW,nK,o_gt rfl (by assumption) (by intro h;cases h),o_gt rfl (by assumption) (by intro h;cases h),o_gt rfl (by assumption) (by intro h;cases h),trivial⟩ ?_
     refine gg [.tt,.tt,.tt,.a _ _,.tt,.tt,.b (decide (farI (gt A j).x (gt A j).y (gt bl i).x (gt bl i).y≤128)) true,.w (0≤(j:Int)),.n (zy (j:Int)) j,.w (j<zq (zz zm A)),.g (zz zm A) j (zm (gt A j)),.a _ _,.i zd (held (gt A j).health-10) (held (gt A j).health-10),.a _ _,.w (0≤(j:Int)),.n (zy (j:Int)) j] ⟨o_a hN,t_brp (by assumption),oW,nK,o_w (by (simp;omega)),o_gt rfl (by assumption) (by intro h;cases h),o_a hS,oI,o_a hS2,oW,nK,trivial⟩ ?_
     refine gg [.w (j<zq (zz zm A)),.g (zz zm A) j (zm (gt A j)),.t (qk 0 (zx (zz zm A) j (T.agg [ti (gt A j).id,ti (gt A j).kind,ti (gt A j).x,ti (gt A j).y,ti (gt A j).vx,ti (gt A j).vy,ti (held (held (gt A j).health-10)),ti (gt A j).age,ti (gt A j).owner]))) (qk 0 (zz zm (zx A j (qw (gt A j).id (gt A j).kind (gt A j).x (gt A j).y (gt A j).vx (gt A j).vy (held (held (gt A j).health-10)) (gt A j).age (gt A j).owner)))),.i zd ((j:Int)+1) ((↑(j+1):Int)),.a _ _] ⟨o_w (by (simp;omega)),o_gt rfl (by assumption) (by intro h;cases h),o_l (Aal (e:=qw (gt A j).id (gt A j).kind (gt A j).x (gt A j).y (gt A j).vx (gt A j).vy (held (held (gt A j).health-10)) (gt A j).age (gt A j).owner) rfl rfl),oI,o_a ih1,trivial⟩ ?_
     exact ge
    ·have e:hurtE (gt bl i) (gt A j)=gt A j:=by simp [hurtE,nearE,hq]
     rw [e,AgC hlt] at ih1
     refine qq ?_
     refine gg [.n (zq (zz zm A)) (zq A),.b (decide ((j:Int)<(↑(zq A):Int))) true,.w (0≤(i:Int)),.n (zy (i:Int)) i,.g (zz zn bl) i (zn (gt bl i)),.b ((gt bl i).kind==2) true,.tt,.tt,.w (0≤(j:Int)),.n (zy (j:Int)) j,.w (j<zq (zz zm A)),.tt,.tt,.g (zz zm A) j (zm (gt A j)),.tt,.tt] ⟨o_n (by simp),tP,oW,nK,o_gt rfl (by assumption) (by intro h;cases h),t_bre (by assumption),oW,nK,o_w (by (simp;omega)),o_gt rfl (by assumption) (by intro h;cases h),trivial⟩ ?_
     refine gg [.b ((gt A j).kind==1) true,.tt,.tt,.w (0≤(j:Int)),.n (zy (j:Int)) j,.w (j<zq (zz zm A)),.tt,.tt,.tt,.tt,.w (0≤(j:Int)),.n (zy (j:Int)) j,.w (j<zq (zz zm A)),.tt,.tt,.tt] ⟨t_bre (by assumption),oW,nK,o_w (by (simp;omega)),oW,nK,o_w (by (simp;omega)),trivial⟩ ?_
     refine gg [.tt,.w (0≤(i:Int)),.n (zy (i:Int)) i,.g (zz zn bl) i (zn (gt bl i)),.tt,.tt,.tt,.tt,.w (0≤(i:Int)),.n (zy (i:Int)) i,.g (zz zn bl) i (zn (gt bl i)),.tt,.tt,.g (zz zm A) j (zm (gt A j)),.tt,.g (zz zm A) j (zm (gt A j))] ⟨oW,nK,o_gt rfl (by assumption) (by intro h;cases h),oW,nK,o_gt rfl (by assumption) (by intro h;cases h),o_gt rfl (by assumption) (by intro h;cases h),o_gt rfl (by assumption) (by intro h;cases h),trivial⟩ ?_
     refine gg [.tt,.tt,.tt,.a _ _,.tt,.tt,.b (decide (farI (gt A j).x (gt A j).y (gt bl i).x (gt bl i).y≤128)) false,.i zd ((j:Int)+1) ((↑(j+1):Int)),.a _ _] ⟨o_a hN,f_brp (by assumption),oI,o_a ih1,trivial⟩ ?_
     exact ge
   ·have e:hurtE (gt bl i) (gt A j)=gt A j:=by simp [hurtE,hp]
    rw [e,AgC hlt] at ih1
    refine qq ?_
    refine gg [.n (zq (zz zm A)) (zq A),.b (decide ((j:Int)<(↑(zq A):Int))) true,.w (0≤(i:Int)),.n (zy (i:Int)) i,.g (zz zn bl) i (zn (gt bl i)),.b ((gt bl i).kind==2) true,.tt,.tt,.w (0≤(j:Int)),.n (zy (j:Int)) j,.w (j<zq (zz zm A)),.tt,.tt,.g (zz zm A) j (zm (gt A j)),.tt,.tt] ⟨o_n (by simp),tP,oW,nK,o_gt rfl (by assumption) (by intro h;cases h),t_bre (by assumption),oW,nK,o_w (by (simp;omega)),o_gt rfl (by assumption) (by intro h;cases h),trivial⟩ ?_
    refine gg [.b ((gt A j).kind==1) false,.ff,.ff,.ff,.ff,.ff,.ff,.ff,.ff,.ff,.ff,.ff,.ff,.ff,.ff,.ff] ⟨f_bre (by assumption),trivial⟩ ?_
    refine gg [.ff,.ff,.ff,.ff,.ff,.ff,.ff,.ff,.i zd ((j:Int)+1) ((↑(j+1):Int)),.a _ _] ⟨oI,o_a ih1,trivial⟩ ?_
    exact ge
  ·have e:hurtE (gt bl i) (gt A j)=gt A j:=by simp [hurtE,hk]
   rw [e,AgC hlt] at ih1
   refine qq ?_
   refine gg [.n (zq (zz zm A)) (zq A),.b (decide ((j:Int)<(↑(zq A):Int))) true,.w (0≤(i:Int)),.n (zy (i:Int)) i,.g (zz zn bl) i (zn (gt bl i)),.b ((gt bl i).kind==2) false,.ff,.ff,.ff,.ff,.ff,.ff,.ff,.ff,.ff,.ff] ⟨o_n (by simp),tP,oW,nK,o_gt rfl (by assumption) (by intro h;cases h),f_bre (by assumption),trivial⟩ ?_
   refine gg [.ff,.ff,.ff,.ff,.ff,.ff,.ff,.ff,.ff,.ff,.ff,.ff,.ff,.ff,.ff,.ff] trivial ?_
   refine gg [.ff,.ff,.ff,.ff,.i zd ((j:Int)+1) ((↑(j+1):Int)),.a _ _] ⟨oI,o_a ih1,trivial⟩ ?_
   exact ge
theorem Ac5 (bl:List Cross) (hb:small bl): ∀(d i:Nat) (A:List Entity),i+d=bl.length→small A→
  Is cx (.loop 139 [0,1,0,1,1] 0 [.t (.sl 15 (bl.map zn)),.all 0 none,vi i] [.arr 9 (A.map zm) none false])
   ⟨.exit 0,[.t (.sl 15 (bl.map zn)),.all 0 none,vi bl.length],[.arr 9 ((blastsL A (bl.drop i)).map zm) none false]⟩:=by
 unfold small at hb
 intro d
 induction d with
 |zero=>
  intro i A hi hn
  rw [Aac (by omega)]
  refine qq ?_
  refine gg [.n (zq (zz zn bl)) (zq bl),.b (decide ((i:Int)<(↑(zq bl):Int))) false] ⟨o_n (by simp),fP,trivial⟩ ?_
  refine rT (a:=qz (qx 0) [V.t (qk 15 (zz zn bl)),qy 0 none,vi (i:Int)] [qv 9 (zz zm A) none false]) ?_
  ((have hq:i=bl.length:=by omega);subst hq;rfl)
 |succ d ih=>
  intro i A hi hn
  have hlt:i<bl.length:=by omega
  have ih1:=ih (i+1) (A.map (hurtE (gt bl i))) (by omega) (by unfold small at*;simpa using hn)
  have h1:=Ac3 bl i hlt A.length 0 A (by omega) hn
  rw [List.take_zero,List.drop_zero,List.nil_append] at h1
  clear ih
  unfold small at hn
  rw [Aae hlt]
  change Is cx _ ⟨_,_,[.arr 9 ((blastsL (A.map (hurtE (gt bl i))) (bl.drop (i+1))).map zm) none false]⟩
  generalize A.map (hurtE (gt bl i))=B at*
  refine qq ?_
  refine gg [.n (zq (zz zn bl)) (zq bl),.b (decide ((i:Int)<(↑(zq bl):Int))) true,.a _ _,.i zd ((i:Int)+1) ((↑(i+1):Int)),.a _ _] ⟨o_n (by simp),tP,o_a h1,oI,o_a ih1,trivial⟩ ?_
  exact ge
theorem Afu (l:List Entity) (bl:List Cross) (hn:small l) (hb:small bl):Is cx (.call 139 [.t (.sl 9 (l.map zm)),.t (.sl 15 (bl.map zn))] []) ⟨.ret,[.all 0 none],[.arr 9 ((blastsL l bl).map zm) none false]⟩:=by
 have h:=Ac5 bl hb bl.length 0 l (by omega) hn
 rw [List.drop_zero] at h
 unfold small at hn
 refine qq ?_
 refine gg [.w ((0:Nat)<(72:Nat)),.s (qk 0 (zz zm l)),.s (qk 0 (zz zm l)),.w (room (zq (zz zm l)) (72:Nat)),.a _ _] ⟨oW,o_w (by (simp [room,appendMax];omega)),o_a h,trivial⟩ ?_
 exact ge
end Go.Eva.S4
namespace Go.Eva
end Go.Eva
namespace Go.Eva
end Go.Eva
namespace Go.Eva
def cat {α:Type}:Nat→(Nat→List α)→List α
 |0,_=> []
 |n+1,g=>cat n g++g n
section
variable {α β:Type}
end
end Go.Eva
namespace Go.Eva
structure Once (c:Config) (w:World) (f:Int):Prop where
 nodup:(cat w.regions.length fun r=>(gt w.regions r).ents.map Entity.id++(handed (gt w.outs r)).map Entity.id).Nodup
 pl:(cat w.regions.length fun r=>plI (gt w.regions r).ents++plI (handed (gt w.outs r))).Perm ((List.range c.players.toNat).map fun k:Nat=>(k:Int)+1)
 low: ∀r,r<w.regions.length→ ∀i∈(gt w.regions r).ents.map Entity.id++(handed (gt w.outs r)).map Entity.id,i<1000+f*c.regions*8
end Go.Eva
namespace Go.Eva
def hitP (e:Entity) (far but:Int) (p:Entity):Bool:=decide (p.kind=1)&&((!decide (e.kind=2)|| !decide (p.id=but))&&decide (farI p.x p.y e.x e.y≤far))
theorem AmB {e p:Entity} {far:Int} (h:e.kind=2):hitP e far e.owner p=meetP far (fun s p=>decide (p.id≠s.owner)) e p:=by
 simp [hitP,meetP,nearE,h]
theorem AnN {e p:Entity} {far but:Int} (h:e.kind=3):hitP e far but p=meetP far (fun _ _=>true) e p:=by
 simp [hitP,meetP,nearE,h]
def idxs:List Bool→Nat→List Int
 | [],_=> []
 |b::g,i=>(if b=true then [(i:Int)] else [])++idxs g (i+1)
theorem Aiq {g:List Bool}: ∀ {i:Nat},(∀b∈g,b=false)→idxs g i= []:=by
 induction g with
 |nil=>intro i _;rfl
 |cons b g ih=>
  intro i h
  rw [idxs,h b (List.mem_cons_self ..),ih fun b hb=>h b (List.mem_cons_of_mem _ hb)]
  rfl
theorem AoS {g:List Bool}: ∀ {i:Nat},∀x∈idxs g i,(i:Int)≤x:=by
 induction g with
 |nil=>intro i x h;simp [idxs] at h
 |cons b g ih=>
  intro i x h
  rw [idxs,List.mem_append] at h
  rcases h with h|h
  ·split at h
   ·simp at h;omega
   ·simp at h
  ·have:=ih x h;omega
theorem Aoj {g:List Bool}: ∀ {i:Nat},(idxs g i).length≤g.length:=by
 induction g with
 |nil=>intro i;simp [idxs]
 |cons b g ih=>
  intro i
  have:= @ih (i+1)
  rw [idxs,List.length_append,List.length_cons]
  split<;>simp<;>omega
theorem Aow {g:List Bool}: ∀ {i k:Nat},k<g.length→(∀b∈g.drop k,b=false)→idxs (g.set k true) i=idxs g i++ [((i+k:Nat):Int)]:=by
 induction g with
 |nil=>intro i k h;simp at h
 |cons b g ih=>
  intro i k h hb
  cases k with
  |zero=>
   have h1:b=false:=hb b (by simp)
   have h2: ∀b∈g,b=false:=fun b h=>hb b (by simp [h])
   subst h1
   rw [List.set_cons_zero,idxs,idxs,Aiq h2]
   simp
  |succ k=>
   rw [List.set_cons_succ,idxs,idxs,ih (by simpa using h) (by simpa using hb),List.append_assoc]
   congr 4
   omega
def tchN (kind far:Int) (other:Entity→Entity→Bool) (turn:Int→Int):Nat→Nat→List Entity→List Int→List Entity×List Int
 |0,_,out,G=>(out,G)
 |d+1,i,out,G=>if (gt out i).kind=kind then (match out.findIdx? (meetP far other (gt out i)) with
   |some k=>tchN kind far other turn d (i+1) (out.set k {gt out k with health:=turn (gt out k).health}) (G++ [(i:Int)])
   |none=>tchN kind far other turn d (i+1) out G)
  else tchN kind far other turn d (i+1) out G
theorem Aln {kind far:Int} {other:Entity→Entity→Bool} {turn:Int→Int}: ∀ {d i:Nat} {out:List Entity} {g:List Bool},i+d=g.length→(∀b∈g.drop i,b=false)→
  tchN kind far other turn d i out (idxs g 0)=((meetN kind far other turn d i out g).1,idxs (meetN kind far other turn d i out g).2 0):=by
 intro d
 induction d with
 |zero=>intro i out g _ _;rfl
 |succ d ih=>
  intro i out g hi hb
  have hlt:i<g.length:=by omega
  have hb1: ∀b∈g.drop (i+1),b=false:=fun b h=>hb b (by rw [Aae hlt];exact List.mem_cons_of_mem _ h)
  rw [tchN,meetN]
  unfold meet1
  by_cases hk:(gt out i).kind=kind
  ·rw [if_pos hk,if_pos hk]
   cases hq:out.findIdx? (meetP far other (gt out i)) with
   |some k=>
    have e:= @Aow g 0 i hlt hb
    rw [Nat.zero_add] at e
    simp only
    rw [←e]
    refine ih (by rw [List.length_set];omega) ?_
    rw [List.drop_set,if_pos (by omega)]
    exact hb1
   |none=>exact ih (by omega) hb1
  ·rw [if_neg hk,if_neg hk]
   exact ih (by omega) hb1
theorem AiQ {kind far:Int} {other:Entity→Entity→Bool} {turn:Int→Int}: ∀ {d i:Nat} {out:List Entity} {g:List Bool},(meetN kind far other turn d i out g).2.length=g.length∧(meetN kind far other turn d i out g).1.length=out.length:=by
 intro d
 induction d with
 |zero=>intro i out g;exact ⟨rfl,rfl⟩
 |succ d ih=>
  intro i out g
  rw [meetN,ih.1,ih.2,meet1]
  split
  ·split<;>simp
  ·exact ⟨rfl,rfl⟩
theorem Anh {g:List Bool} {i:Nat} (h:i<g.length):idxs (g.drop i) i=(if gt g i=true then [(i:Int)] else [])++idxs (g.drop (i+1)) (i+1):=by
 rw [Aae h,idxs]
theorem Amv {l:List Entity} {g:List Bool} {i:Nat} (h:i<l.length) (hg:i<g.length):keepL (l.drop i) (g.drop i)=(if gt g i=true then [] else [gt l i])++keepL (l.drop (i+1)) (g.drop (i+1)):=by
 rw [Aae h,Aae hg,keepL]
theorem AmK {h k:Int} (hk: -2147483647≤k∧k≤2147483647):subH h k=held (held h-k):=by unfold subH;rw [Aen hk]
theorem AnM {h k:Int} (hk: -2147483647≤k∧k≤2147483647):sumH [h,k]=held (held h+k):=by
 simp only [sumH,sumStep,List.foldl_cons,List.foldl_nil]
 rw [Aen hk,Int.zero_add,Aen (v:=held h) Abe]
abbrev otherS:Entity→Entity→Bool:=fun s p=>decide (p.id≠s.owner)
abbrev otherG:Entity→Entity→Bool:=fun _ _=>true
def turnS (h:Int):Int:=subH h 20
def turnG (h:Int):Int:=minI (sumH [h,25]) 100
def butS (e:Entity):Int:=e.owner
def butG (_:Entity):Int:=0
theorem hitPS {e:Entity} {far:Int} (h:e.kind=2):hitP e far (butS e)=meetP far otherS e:=funext fun _=>AmB h
theorem hitPG {e:Entity} {far:Int} (h:e.kind=3):hitP e far (butG e)=meetP far otherG e:=funext fun _=>AnN h
theorem AnV {h:Int}:turnS h=held (held h-20):=AmK (by decide)
theorem AnT {h:Int}:turnG h=minI 100 (held (held h+25)):=by
 unfold turnG
 rw [AnM (by decide)]
 unfold minI
 split<;>split<;>omega
theorem Aoq {l:List Entity}:shotsL l=meetL 2 24 otherS turnS l:=rfl
theorem Apg {l:List Entity}:gemsL l=meetL 3 32 otherG turnG l:=rfl
end Go.Eva
namespace Go.Eva.S4
theorem AeJ (l:List Entity) (e:Entity) (far but:Int) (hn:small l): ∀(d i:Nat),i+d=l.length→
  Is cx (.loop 190 [0,1,0,1] 0 [.t (.sl 9 (l.map zm)),vi far,vi but,.ptr 0 0 0,vi 0,vi i] [.one 9 (.t e.enc) false])
   (match (l.drop i).findIdx? (hitP e far but) with
    |some j=>⟨.ret,[.t (.sl 9 (l.map zm)),vi far,vi but,.ptr 0 0 0,vi (i+j:Nat),vi (i+j:Nat)],[.one 9 (.t e.enc) false]⟩
    |none=>⟨.exit 0,[.t (.sl 9 (l.map zm)),vi far,vi but,.ptr 0 0 0,vi 0,vi l.length],[.one 9 (.t e.enc) false]⟩):=by
 unfold small at hn
 intro d
 induction d with
 |zero=>
  intro i hi
  refine qq ?_
  refine gg [.n (zq (zz zm l)) (zq l),.b (decide ((i:Int)<(↑(zq l):Int))) false] ⟨o_n (by simp),fP,trivial⟩ ?_
  refine rT (a:=qz (qx 0) [V.t (qk 9 (zz zm l)),vi far,vi but,V.ptr 0 0 0,vi 0,vi (i:Int)] [qg 9 (V.t (zm e)) false]) ?_
  ((have:i=l.length:=by omega);subst this;rw [Aac (Nat.le_refl _)];rfl)
 |succ d ih=>
  intro i hi
  have hlt:i<l.length:=by omega
  have ih1:=ih (i+1) (by omega)
  clear ih
  have hF:=AdD (gt l i).x (gt l i).y e.x e.y
  rw [Aae hlt,List.findIdx?_cons]
  cases hp:hitP e far but (gt l i) with
  |true=>
   rw [if_pos rfl]
   simp only [hitP,Bool.and_eq_true,Bool.or_eq_true,Bool.not_eq_true',decide_eq_true_eq,decide_eq_false_iff_not] at hp
   obtain ⟨p1,p2,p3⟩:=hp
   clear ih1
   by_cases q:e.kind=2
   ·have p4: ¬(gt l i).id=but:=p2.elim (fun h=>absurd q h) id
    refine qq ?_
    refine gg [.n (zq (zz zm l)) (zq l),.b (decide ((i:Int)<(↑(zq l):Int))) true,.w (0≤(i:Int)),.n (zy (i:Int)) i,.g (zz zm l) i (zm (gt l i)),.b ((gt l i).kind==1) true,.tt,.tt,.tt,.b (e.kind !=2) false,.ff,.ff,.w (0≤(i:Int)),.n (zy (i:Int)) i,.g (zz zm l) i (zm (gt l i)),.ff] ⟨o_n (by simp),tP,oW,nK,o_gt rfl (by assumption) (by intro h;cases h),t_bre (by assumption),f_brn (by assumption),oW,nK,o_gt rfl (by assumption) (by intro h;cases h),trivial⟩ ?_
    refine gg [.ff,.ff,.ff,.tt,.ff,.tt,.b ((gt l i).id !=but) true,.tt,.tt,.w (0≤(i:Int)),.n (zy (i:Int)) i,.g (zz zm l) i (zm (gt l i)),.tt,.tt,.tt,.tt] ⟨t_brn (by assumption),oW,nK,o_gt rfl (by assumption) (by intro h;cases h),trivial⟩ ?_
    refine gg [.w (0≤(i:Int)),.n (zy (i:Int)) i,.g (zz zm l) i (zm (gt l i)),.tt,.tt,.tt,.tt,.tt,.tt,.tt,.tt,.tt,.a _ _,.tt,.tt,.b (decide (farI (gt l i).x (gt l i).y e.x e.y≤far)) true] ⟨oW,nK,o_gt rfl (by assumption) (by intro h;cases h),o_a hF,t_brp (by assumption),trivial⟩ ?_
    exact ge
   ·refine qq ?_
    refine gg [.n (zq (zz zm l)) (zq l),.b (decide ((i:Int)<(↑(zq l):Int))) true,.w (0≤(i:Int)),.n (zy (i:Int)) i,.g (zz zm l) i (zm (gt l i)),.b ((gt l i).kind==1) true,.tt,.tt,.tt,.b (e.kind !=2) true,.tt,.tt,.tt,.tt,.tt,.tt] ⟨o_n (by simp),tP,oW,nK,o_gt rfl (by assumption) (by intro h;cases h),t_bre (by assumption),t_brn (by assumption),trivial⟩ ?_
    refine gg [.tt,.tt,.tt,.tt,.tt,.tt,.w (0≤(i:Int)),.n (zy (i:Int)) i,.g (zz zm l) i (zm (gt l i)),.tt,.tt,.tt,.tt,.w (0≤(i:Int)),.n (zy (i:Int)) i,.g (zz zm l) i (zm (gt l i))] ⟨oW,nK,o_gt rfl (by assumption) (by intro h;cases h),oW,nK,o_gt rfl (by assumption) (by intro h;cases h),trivial⟩ ?_
    refine gg [.tt,.tt,.tt,.tt,.tt,.tt,.tt,.tt,.tt,.a _ _,.tt,.tt,.b (decide (farI (gt l i).x (gt l i).y e.x e.y≤far)) true] ⟨o_a hF,t_brp (by assumption),trivial⟩ ?_
    exact ge
  |false=>
   rw [if_neg (by simp)]
   have hp2: ¬((gt l i).kind=1∧(e.kind≠2∨(gt l i).id≠but)∧farI (gt l i).x (gt l i).y e.x e.y≤far):=fun h=>by
    have:hitP e far but (gt l i)=true:=by simp [hitP,h]
    rw [hp] at this;contradiction
   clear hp
   cases hq:(l.drop (i+1)).findIdx? (hitP e far but) with
   |none=>
    rw [hq] at ih1
    by_cases p1:(gt l i).kind=1
    ·by_cases q:e.kind=2
     ·by_cases p2:(gt l i).id=but
      ·refine qq ?_
       refine gg [.n (zq (zz zm l)) (zq l),.b (decide ((i:Int)<(↑(zq l):Int))) true,.w (0≤(i:Int)),.n (zy (i:Int)) i,.g (zz zm l) i (zm (gt l i)),.b ((gt l i).kind==1) true,.tt,.tt,.tt,.b (e.kind !=2) false,.ff,.ff,.w (0≤(i:Int)),.n (zy (i:Int)) i,.g (zz zm l) i (zm (gt l i)),.ff] ⟨o_n (by simp),tP,oW,nK,o_gt rfl (by assumption) (by intro h;cases h),t_bre (by assumption),f_brn (by assumption),oW,nK,o_gt rfl (by assumption) (by intro h;cases h),trivial⟩ ?_
       refine gg [.ff,.ff,.ff,.tt,.ff,.tt,.b ((gt l i).id !=but) false,.ff,.ff,.ff,.ff,.ff,.ff,.ff,.ff,.ff] ⟨f_brn (by assumption),trivial⟩ ?_
       refine gg [.ff,.ff,.ff,.ff,.ff,.ff,.ff,.ff,.ff,.i zd ((i:Int)+1) ((↑(i+1):Int)),.a _ _] ⟨oI,o_a ih1,trivial⟩ ?_
       exact ge
      ·have p3: ¬farI (gt l i).x (gt l i).y e.x e.y≤far:=fun h=>hp2 ⟨p1,.inr p2,h⟩
       refine qq ?_
       refine gg [.n (zq (zz zm l)) (zq l),.b (decide ((i:Int)<(↑(zq l):Int))) true,.w (0≤(i:Int)),.n (zy (i:Int)) i,.g (zz zm l) i (zm (gt l i)),.b ((gt l i).kind==1) true,.tt,.tt,.tt,.b (e.kind !=2) false,.ff,.ff,.w (0≤(i:Int)),.n (zy (i:Int)) i,.g (zz zm l) i (zm (gt l i)),.ff] ⟨o_n (by simp),tP,oW,nK,o_gt rfl (by assumption) (by intro h;cases h),t_bre (by assumption),f_brn (by assumption),oW,nK,o_gt rfl (by assumption) (by intro h;cases h),trivial⟩ ?_
       refine gg [.ff,.ff,.ff,.tt,.ff,.tt,.b ((gt l i).id !=but) true,.tt,.tt,.w (0≤(i:Int)),.n (zy (i:Int)) i,.g (zz zm l) i (zm (gt l i)),.tt,.tt,.tt,.tt] ⟨t_brn (by assumption),oW,nK,o_gt rfl (by assumption) (by intro h;cases h),trivial⟩ ?_
       refine gg [.w (0≤(i:Int)),.n (zy (i:Int)) i,.g (zz zm l) i (zm (gt l i)),.tt,.tt,.tt,.tt,.tt,.tt,.tt,.tt,.tt,.a _ _,.tt,.tt,.b (decide (farI (gt l i).x (gt l i).y e.x e.y≤far)) false] ⟨oW,nK,o_gt rfl (by assumption) (by intro h;cases h),o_a hF,f_brp (by assumption),trivial⟩ ?_
       refine gg [.i zd ((i:Int)+1) ((↑(i+1):Int)),.a _ _] ⟨oI,o_a ih1,trivial⟩ ?_
       exact ge
     ·have p3: ¬farI (gt l i).x (gt l i).y e.x e.y≤far:=fun h=>hp2 ⟨p1,.inl q,h⟩
      refine qq ?_
      refine gg [.n (zq (zz zm l)) (zq l),.b (decide ((i:Int)<(↑(zq l):Int))) true,.w (0≤(i:Int)),.n (zy (i:Int)) i,.g (zz zm l) i (zm (gt l i)),.b ((gt l i).kind==1) true,.tt,.tt,.tt,.b (e.kind !=2) true,.tt,.tt,.tt,.tt,.tt,.tt] ⟨o_n (by simp),tP,oW,nK,o_gt rfl (by assumption) (by intro h;cases h),t_bre (by assumption),t_brn (by assumption),trivial⟩ ?_
      refine gg [.tt,.tt,.tt,.tt,.tt,.tt,.w (0≤(i:Int)),.n (zy (i:Int)) i,.g (zz zm l) i (zm (gt l i)),.tt,.tt,.tt,.tt,.w (0≤(i:Int)),.n (zy (i:Int)) i,.g (zz zm l) i (zm (gt l i))] ⟨oW,nK,o_gt rfl (by assumption) (by intro h;cases h),oW,nK,o_gt rfl (by assumption) (by intro h;cases h),trivial⟩ ?_
      refine gg [.tt,.tt,.tt,.tt,.tt,.tt,.tt,.tt,.tt,.a _ _,.tt,.tt,.b (decide (farI (gt l i).x (gt l i).y e.x e.y≤far)) false,.i zd ((i:Int)+1) ((↑(i+1):Int)),.a _ _] ⟨o_a hF,f_brp (by assumption),oI,o_a ih1,trivial⟩ ?_
      exact ge
    ·refine qq ?_
     refine gg [.n (zq (zz zm l)) (zq l),.b (decide ((i:Int)<(↑(zq l):Int))) true,.w (0≤(i:Int)),.n (zy (i:Int)) i,.g (zz zm l) i (zm (gt l i)),.b ((gt l i).kind==1) false,.ff,.ff,.ff,.ff,.ff,.ff,.ff,.ff,.ff,.ff] ⟨o_n (by simp),tP,oW,nK,o_gt rfl (by assumption) (by intro h;cases h),f_bre (by assumption),trivial⟩ ?_
     refine gg [.ff,.ff,.ff,.ff,.ff,.ff,.ff,.ff,.ff,.ff,.ff,.ff,.ff,.ff,.i zd ((i:Int)+1) ((↑(i+1):Int)),.a _ _] ⟨oI,o_a ih1,trivial⟩ ?_
     exact ge
   |some j=>
    rw [hq] at ih1
    by_cases p1:(gt l i).kind=1
    ·by_cases q:e.kind=2
     ·by_cases p2:(gt l i).id=but
      ·refine qq ?_
       refine gg [.n (zq (zz zm l)) (zq l),.b (decide ((i:Int)<(↑(zq l):Int))) true,.w (0≤(i:Int)),.n (zy (i:Int)) i,.g (zz zm l) i (zm (gt l i)),.b ((gt l i).kind==1) true,.tt,.tt,.tt,.b (e.kind !=2) false,.ff,.ff,.w (0≤(i:Int)),.n (zy (i:Int)) i,.g (zz zm l) i (zm (gt l i)),.ff] ⟨o_n (by simp),tP,oW,nK,o_gt rfl (by assumption) (by intro h;cases h),t_bre (by assumption),f_brn (by assumption),oW,nK,o_gt rfl (by assumption) (by intro h;cases h),trivial⟩ ?_
       refine gg [.ff,.ff,.ff,.tt,.ff,.tt,.b ((gt l i).id !=but) false,.ff,.ff,.ff,.ff,.ff,.ff,.ff,.ff,.ff] ⟨f_brn (by assumption),trivial⟩ ?_
       refine gg [.ff,.ff,.ff,.ff,.ff,.ff,.ff,.ff,.ff,.i zd ((i:Int)+1) ((↑(i+1):Int)),.a _ _] ⟨oI,o_a ih1,trivial⟩ ?_
       refine rT (a:=qz qj [V.t (qk 9 (zz zm l)),vi far,vi but,V.ptr 0 0 0,vi (↑(i+1+j):Int),vi (↑(i+1+j):Int)] [qg 9 (V.t (zm e)) false]) ?_
       simp [Nat.add_assoc,Nat.add_comm 1 j]
      ·have p3: ¬farI (gt l i).x (gt l i).y e.x e.y≤far:=fun h=>hp2 ⟨p1,.inr p2,h⟩
       refine qq ?_
       refine gg [.n (zq (zz zm l)) (zq l),.b (decide ((i:Int)<(↑(zq l):Int))) true,.w (0≤(i:Int)),.n (zy (i:Int)) i,.g (zz zm l) i (zm (gt l i)),.b ((gt l i).kind==1) true,.tt,.tt,.tt,.b (e.kind !=2) false,.ff,.ff,.w (0≤(i:Int)),.n (zy (i:Int)) i,.g (zz zm l) i (zm (gt l i)),.ff] ⟨o_n (by simp),tP,oW,nK,o_gt rfl (by assumption) (by intro h;cases h),t_bre (by assumption),f_brn (by assumption),oW,nK,o_gt rfl (by assumption) (by intro h;cases h),trivial⟩ ?_
       refine gg [.ff,.ff,.ff,.tt,.ff,.tt,.b ((gt l i).id !=but) true,.tt,.tt,.w (0≤(i:Int)),.n (zy (i:Int)) i,.g (zz zm l) i (zm (gt l i)),.tt,.tt,.tt,.tt] ⟨t_brn (by assumption),oW,nK,o_gt rfl (by assumption) (by intro h;cases h),trivial⟩ ?_
       refine gg [.w (0≤(i:Int)),.n (zy (i:Int)) i,.g (zz zm l) i (zm (gt l i)),.tt,.tt,.tt,.tt,.tt,.tt,.tt,.tt,.tt,.a _ _,.tt,.tt,.b (decide (farI (gt l i).x (gt l i).y e.x e.y≤far)) false] ⟨oW,nK,o_gt rfl (by assumption) (by intro h;cases h),o_a hF,f_brp (by assumption),trivial⟩ ?_
       refine gg [.i zd ((i:Int)+1) ((↑(i+1):Int)),.a _ _] ⟨oI,o_a ih1,trivial⟩ ?_
       refine rT (a:=qz qj [V.t (qk 9 (zz zm l)),vi far,vi but,V.ptr 0 0 0,vi (↑(i+1+j):Int),vi (↑(i+1+j):Int)] [qg 9 (V.t (zm e)) false]) ?_
       simp [Nat.add_assoc,Nat.add_comm 1 j]
     ·have p3: ¬farI (gt l i).x (gt l i).y e.x e.y≤far:=fun h=>hp2 ⟨p1,.inl q,h⟩
      refine qq ?_
      refine gg [.n (zq (zz zm l)) (zq l),.b (decide ((i:Int)<(↑(zq l):Int))) true,.w (0≤(i:Int)),.n (zy (i:Int)) i,.g (zz zm l) i (zm (gt l i)),.b ((gt l i).kind==1) true,.tt,.tt,.tt,.b (e.kind !=2) true,.tt,.tt,.tt,.tt,.tt,.tt] ⟨o_n (by simp),tP,oW,nK,o_gt rfl (by assumption) (by intro h;cases h),t_bre (by assumption),t_brn (by assumption),trivial⟩ ?_
      refine gg [.tt,.tt,.tt,.tt,.tt,.tt,.w (0≤(i:Int)),.n (zy (i:Int)) i,.g (zz zm l) i (zm (gt l i)),.tt,.tt,.tt,.tt,.w (0≤(i:Int)),.n (zy (i:Int)) i,.g (zz zm l) i (zm (gt l i))] ⟨oW,nK,o_gt rfl (by assumption) (by intro h;cases h),oW,nK,o_gt rfl (by assumption) (by intro h;cases h),trivial⟩ ?_
      refine gg [.tt,.tt,.tt,.tt,.tt,.tt,.tt,.tt,.tt,.a _ _,.tt,.tt,.b (decide (farI (gt l i).x (gt l i).y e.x e.y≤far)) false,.i zd ((i:Int)+1) ((↑(i+1):Int)),.a _ _] ⟨o_a hF,f_brp (by assumption),oI,o_a ih1,trivial⟩ ?_
      refine rT (a:=qz qj [V.t (qk 9 (zz zm l)),vi far,vi but,V.ptr 0 0 0,vi (↑(i+1+j):Int),vi (↑(i+1+j):Int)] [qg 9 (V.t (zm e)) false]) ?_
      simp [Nat.add_assoc,Nat.add_comm 1 j]
    ·refine qq ?_
     refine gg [.n (zq (zz zm l)) (zq l),.b (decide ((i:Int)<(↑(zq l):Int))) true,.w (0≤(i:Int)),.n (zy (i:Int)) i,.g (zz zm l) i (zm (gt l i)),.b ((gt l i).kind==1) false,.ff,.ff,.ff,.ff,.ff,.ff,.ff,.ff,.ff,.ff] ⟨o_n (by simp),tP,oW,nK,o_gt rfl (by assumption) (by intro h;cases h),f_bre (by assumption),trivial⟩ ?_
     refine gg [.ff,.ff,.ff,.ff,.ff,.ff,.ff,.ff,.ff,.ff,.ff,.ff,.ff,.ff,.i zd ((i:Int)+1) ((↑(i+1):Int)),.a _ _] ⟨oI,o_a ih1,trivial⟩ ?_
     refine rT (a:=qz qj [V.t (qk 9 (zz zm l)),vi far,vi but,V.ptr 0 0 0,vi (↑(i+1+j):Int),vi (↑(i+1+j):Int)] [qg 9 (V.t (zm e)) false]) ?_
     simp [Nat.add_assoc,Nat.add_comm 1 j]
theorem AdE (l:List Entity) (e:Entity) (far but:Int) (hn:small l):Fn cx 190 [.sl 9 (l.map zm),e.enc,ti far,ti but] (ti (match l.findIdx? (hitP e far but) with|some j=>(j:Int)|none=> -1)):=by
 have h:=AeJ l e far but hn l.length 0 (by omega)
 rw [List.drop_zero] at h
 cases hq:l.findIdx? (hitP e far but) with
 |none=>
  rw [hq] at h
  refine qq ?_
  refine gg [.a _ _] ⟨o_a h,trivial⟩ ?_
  exact ge
 |some j=>
  rw [hq] at h
  simp only [Nat.zero_add] at h
  refine qq ?_
  refine gg [.a _ _] ⟨o_a h,trivial⟩ ?_
  exact ge
end Go.Eva.S4
namespace Go.Eva.S4
theorem Acj: ∀(d i:Nat) (out:List Entity) (G:List Int),i+d=out.length→G.length≤i→small out→
  Is cx (.loop 177 [0,1,0,1,1,1] 0 [vi 2,vi 24,.all 0 none,.all 1 none,vi i] [.arr 9 (out.map zm) none false,.arr 1 (G.map ti) none false])
   ⟨.exit 0,[vi 2,vi 24,.all 0 none,.all 1 none,vi out.length],[.arr 9 ((tchN 2 24 otherS turnS d i out G).1.map zm) none false,.arr 1 ((tchN 2 24 otherS turnS d i out G).2.map ti) none false]⟩:=by
 intro d
 induction d with
 |zero=>
  intro i out G hi hG hn
  unfold small at hn
  rw [tchN]
  refine qq ?_
  refine gg [.n (zq (zz zm out)) (zq out),.b (decide ((i:Int)<(↑(zq out):Int))) false] ⟨o_n (by simp),fP,trivial⟩ ?_
  refine rT (a:=qz (qx 0) [vi 2,vi 24,qy 0 none,qy 1 none,vi (i:Int)] [qv 9 (zz zm out) none false,qv 1 (zz ti G) none false]) ?_
  ((have hq:i=out.length:=by omega);subst hq;rfl)
 |succ d ih=>
  intro i out G hi hG hn
  have hlt:i<out.length:=by omega
  rw [tchN]
  by_cases hk:(gt out i).kind=2
  ·rw [if_pos hk]
   have hH:=AdE out (gt out i) 24 (butS (gt out i)) hn
   rw [hitPS hk] at hH
   unfold butS at hH
   cases hq:out.findIdx? (meetP 24 otherS (gt out i)) with
   |none=>
    rw [hq] at hH
    simp only at hH⊢
    have ih1:=ih (i+1) out G (by omega) (by omega) hn
    clear ih
    unfold small at hn
    generalize tchN 2 24 otherS turnS d (i+1) out G=Z at*
    refine qq ?_
    refine gg [.n (zq (zz zm out)) (zq out),.b (decide ((i:Int)<(↑(zq out):Int))) true,.w (0≤(i:Int)),.n (zy (i:Int)) i,.w (i<zq (zz zm out)),.g (zz zm out) i (zm (gt out i)),.b ((gt out i).kind !=2) false,.b (2==2) true,.w (0≤(i:Int)),.n (zy (i:Int)) i,.w (i<zq (zz zm out)),.g (zz zm out) i (zm (gt out i)),.w (0≤(i:Int)),.n (zy (i:Int)) i,.w (i<zq (zz zm out)),.g (zz zm out) i (zm (gt out i))] ⟨o_n (by simp),tP,oW,nK,o_w (by (simp;omega)),o_gt rfl (by assumption) (by intro h;cases h),f_brn (by assumption),bK,oW,nK,o_w (by (simp;omega)),o_gt rfl (by assumption) (by intro h;cases h),oW,nK,o_w (by (simp;omega)),o_gt rfl (by assumption) (by intro h;cases h),trivial⟩ ?_
    refine gg [.a _ _,.b (flats [ti (-1)]) true,.b (decide (-1<0)) true,.i zd ((i:Int)+1) ((↑(i+1):Int)),.a _ _] ⟨o_a hH,bK,bK,oI,o_a ih1,trivial⟩ ?_
    exact ge
   |some k=>
    rw [hq] at hH
    obtain ⟨hk2,_,_⟩:=List.findIdx?_eq_some_iff_getElem.1 hq
    simp only at hH⊢
    have hS:=Aan (gt out k).health
    have hS2:=Aan (held (gt out k).health-20)
    have hS3:=Aan (held (gt out k).health+25)
    have hh:= @Abe (gt out k).health
    have ih1:=ih (i+1) (out.set k {gt out k with health:=turnS (gt out k).health}) (G++ [(i:Int)]) (by simp;omega) (by simp;omega) (by unfold small at*;simpa using hn)
    rw [List.length_set] at ih1
    clear ih hq
    unfold small at hn
    generalize tchN 2 24 otherS turnS d (i+1) (out.set k {gt out k with health:=turnS (gt out k).health}) (G++ [(i:Int)])=Z at*
    rw [AnV] at ih1
    refine qq ?_
    refine gg [.n (zq (zz zm out)) (zq out),.b (decide ((i:Int)<(↑(zq out):Int))) true,.w (0≤(i:Int)),.n (zy (i:Int)) i,.w (i<zq (zz zm out)),.g (zz zm out) i (zm (gt out i)),.b ((gt out i).kind !=2) false,.b (2==2) true,.w (0≤(i:Int)),.n (zy (i:Int)) i,.w (i<zq (zz zm out)),.g (zz zm out) i (zm (gt out i)),.w (0≤(i:Int)),.n (zy (i:Int)) i,.w (i<zq (zz zm out)),.g (zz zm out) i (zm (gt out i))] ⟨o_n (by simp),tP,oW,nK,o_w (by (simp;omega)),o_gt rfl (by assumption) (by intro h;cases h),f_brn (by assumption),bK,oW,nK,o_w (by (simp;omega)),o_gt rfl (by assumption) (by intro h;cases h),oW,nK,o_w (by (simp;omega)),o_gt rfl (by assumption) (by intro h;cases h),trivial⟩ ?_
    refine gg [.a _ _,.b (flats [ti (k:Int)]) true,.b (decide ((k:Int)<0)) false,.w ((0:Nat)<(8:Nat)),.t (qk 0 [ti (i:Int)]) (qk 0 (zz (T.int zd) [(i:Int)])),.t (qk 0 (zz ti G++zz (T.int zd) [(i:Int)])) (qk 0 (zz ti (G++ [(i:Int)]))),.w (room (zq (zz ti (G++ [(i:Int)]))) (8:Nat)),.b (2==2) true,.w (0≤(k:Int)),.n (zy (k:Int)) k,.w (k<zq (zz zm out)),.g (zz zm out) k (zm (gt out k)),.a _ _,.i zd (held (gt out k).health-20) (held (gt out k).health-20),.a _ _,.w (0≤(k:Int))] ⟨o_a hH,bK,bK,oW,o_l (Aaf rfl Aap),o_l (Aam rfl rfl),o_w (by (simp [room,appendMax];omega)),bK,oW,nK,o_w (by (simp;omega)),o_gt rfl (by assumption) (by intro h;cases h),o_a hS,oI,o_a hS2,oW,trivial⟩ ?_
    refine gg [.n (zy (k:Int)) k,.w (k<zq (zz zm out)),.g (zz zm out) k (zm (gt out k)),.t (qk 0 (zx (zz zm out) k (T.agg [ti (gt out k).id,ti (gt out k).kind,ti (gt out k).x,ti (gt out k).y,ti (gt out k).vx,ti (gt out k).vy,ti (held (held (gt out k).health-20)),ti (gt out k).age,ti (gt out k).owner]))) (qk 0 (zz zm (zx out k (qw (gt out k).id (gt out k).kind (gt out k).x (gt out k).y (gt out k).vx (gt out k).vy (held (held (gt out k).health-20)) (gt out k).age (gt out k).owner)))),.i zd ((i:Int)+1) ((↑(i+1):Int)),.a _ _] ⟨nK,o_w (by (simp;omega)),o_gt rfl (by assumption) (by intro h;cases h),o_l (Aal (e:=qw (gt out k).id (gt out k).kind (gt out k).x (gt out k).y (gt out k).vx (gt out k).vy (held (held (gt out k).health-20)) (gt out k).age (gt out k).owner) rfl rfl),oI,o_a ih1,trivial⟩ ?_
    exact ge
  ·rw [if_neg hk]
   have ih1:=ih (i+1) out G (by omega) (by omega) hn
   clear ih
   unfold small at hn
   generalize tchN 2 24 otherS turnS d (i+1) out G=Z at*
   refine qq ?_
   refine gg [.n (zq (zz zm out)) (zq out),.b (decide ((i:Int)<(↑(zq out):Int))) true,.w (0≤(i:Int)),.n (zy (i:Int)) i,.w (i<zq (zz zm out)),.g (zz zm out) i (zm (gt out i)),.b ((gt out i).kind !=2) true,.i zd ((i:Int)+1) ((↑(i+1):Int)),.a _ _] ⟨o_n (by simp),tP,oW,nK,o_w (by (simp;omega)),o_gt rfl (by assumption) (by intro h;cases h),t_brn (by assumption),oI,o_a ih1,trivial⟩ ?_
   exact ge
theorem Aca: ∀(d i:Nat) (out:List Entity) (G:List Int),i+d=out.length→G.length≤i→small out→
  Is cx (.loop 177 [0,1,0,1,1,1] 0 [vi 3,vi 32,.all 0 none,.all 1 none,vi i] [.arr 9 (out.map zm) none false,.arr 1 (G.map ti) none false])
   ⟨.exit 0,[vi 3,vi 32,.all 0 none,.all 1 none,vi out.length],[.arr 9 ((tchN 3 32 otherG turnG d i out G).1.map zm) none false,.arr 1 ((tchN 3 32 otherG turnG d i out G).2.map ti) none false]⟩:=by
 intro d
 induction d with
 |zero=>
  intro i out G hi hG hn
  unfold small at hn
  rw [tchN]
  refine qq ?_
  refine gg [.n (zq (zz zm out)) (zq out),.b (decide ((i:Int)<(↑(zq out):Int))) false] ⟨o_n (by simp),fP,trivial⟩ ?_
  refine rT (a:=qz (qx 0) [vi 3,vi 32,qy 0 none,qy 1 none,vi (i:Int)] [qv 9 (zz zm out) none false,qv 1 (zz ti G) none false]) ?_
  ((have hq:i=out.length:=by omega);subst hq;rfl)
 |succ d ih=>
  intro i out G hi hG hn
  have hlt:i<out.length:=by omega
  rw [tchN]
  by_cases hk:(gt out i).kind=3
  ·rw [if_pos hk]
   have hH:=AdE out (gt out i) 32 (butG (gt out i)) hn
   rw [hitPG hk] at hH
   unfold butG at hH
   cases hq:out.findIdx? (meetP 32 otherG (gt out i)) with
   |none=>
    rw [hq] at hH
    simp only at hH⊢
    have ih1:=ih (i+1) out G (by omega) (by omega) hn
    clear ih
    unfold small at hn
    generalize tchN 3 32 otherG turnG d (i+1) out G=Z at*
    refine qq ?_
    refine gg [.n (zq (zz zm out)) (zq out),.b (decide ((i:Int)<(↑(zq out):Int))) true,.w (0≤(i:Int)),.n (zy (i:Int)) i,.w (i<zq (zz zm out)),.g (zz zm out) i (zm (gt out i)),.b ((gt out i).kind !=3) false,.b (3==2) false,.w (0≤(i:Int)),.n (zy (i:Int)) i,.w (i<zq (zz zm out)),.g (zz zm out) i (zm (gt out i)),.a _ _,.b (flats [ti (-1)]) true,.b (decide (-1<0)) true,.i zd ((i:Int)+1) ((↑(i+1):Int))] ⟨o_n (by simp),tP,oW,nK,o_w (by (simp;omega)),o_gt rfl (by assumption) (by intro h;cases h),f_brn (by assumption),bK,oW,nK,o_w (by (simp;omega)),o_gt rfl (by assumption) (by intro h;cases h),o_a hH,bK,bK,oI,trivial⟩ ?_
    refine gg [.a _ _] ⟨o_a ih1,trivial⟩ ?_
    exact ge
   |some k=>
    rw [hq] at hH
    obtain ⟨hk2,_,_⟩:=List.findIdx?_eq_some_iff_getElem.1 hq
    simp only at hH⊢
    have hS:=Aan (gt out k).health
    have hS2:=Aan (held (gt out k).health-20)
    have hS3:=Aan (held (gt out k).health+25)
    have hh:= @Abe (gt out k).health
    have ih1:=ih (i+1) (out.set k {gt out k with health:=turnG (gt out k).health}) (G++ [(i:Int)]) (by simp;omega) (by simp;omega) (by unfold small at*;simpa using hn)
    rw [List.length_set] at ih1
    clear ih hq
    unfold small at hn
    generalize tchN 3 32 otherG turnG d (i+1) (out.set k {gt out k with health:=turnG (gt out k).health}) (G++ [(i:Int)])=Z at*
    rw [AnT] at ih1
    refine qq ?_
    refine gg [.n (zq (zz zm out)) (zq out),.b (decide ((i:Int)<(↑(zq out):Int))) true,.w (0≤(i:Int)),.n (zy (i:Int)) i,.w (i<zq (zz zm out)),.g (zz zm out) i (zm (gt out i)),.b ((gt out i).kind !=3) false,.b (3==2) false,.w (0≤(i:Int)),.n (zy (i:Int)) i,.w (i<zq (zz zm out)),.g (zz zm out) i (zm (gt out i)),.a _ _,.b (flats [ti (k:Int)]) true,.b (decide ((k:Int)<0)) false,.w ((0:Nat)<(8:Nat))] ⟨o_n (by simp),tP,oW,nK,o_w (by (simp;omega)),o_gt rfl (by assumption) (by intro h;cases h),f_brn (by assumption),bK,oW,nK,o_w (by (simp;omega)),o_gt rfl (by assumption) (by intro h;cases h),o_a hH,bK,bK,oW,trivial⟩ ?_
    refine gg [.t (qk 0 [ti (i:Int)]) (qk 0 (zz (T.int zd) [(i:Int)])),.t (qk 0 (zz ti G++zz (T.int zd) [(i:Int)])) (qk 0 (zz ti (G++ [(i:Int)]))),.w (room (zq (zz ti (G++ [(i:Int)]))) (8:Nat)),.b (3==2) false,.w (0≤(k:Int)),.n (zy (k:Int)) k,.w (k<zq (zz zm out)),.g (zz zm out) k (zm (gt out k)),.a _ _,.i zd (held (gt out k).health+25) (held (gt out k).health+25),.a _ _,.s (ti (minI 100 (held (held (gt out k).health+25)))),.w (0≤(k:Int)),.n (zy (k:Int)) k,.w (k<zq (zz zm out)),.g (zz zm out) k (zm (gt out k))] ⟨o_l (Aaf rfl Aap),o_l (Aam rfl rfl),o_w (by (simp [room,appendMax];omega)),bK,oW,nK,o_w (by (simp;omega)),o_gt rfl (by assumption) (by intro h;cases h),o_a hS,oI,o_a hS3,oW,nK,o_w (by (simp;omega)),o_gt rfl (by assumption) (by intro h;cases h),trivial⟩ ?_
    refine gg [.t (qk 0 (zx (zz zm out) k (T.agg [ti (gt out k).id,ti (gt out k).kind,ti (gt out k).x,ti (gt out k).y,ti (gt out k).vx,ti (gt out k).vy,ti (minI 100 (held (held (gt out k).health+25))),ti (gt out k).age,ti (gt out k).owner]))) (qk 0 (zz zm (zx out k (qw (gt out k).id (gt out k).kind (gt out k).x (gt out k).y (gt out k).vx (gt out k).vy (minI 100 (held (held (gt out k).health+25))) (gt out k).age (gt out k).owner)))),.i zd ((i:Int)+1) ((↑(i+1):Int)),.a _ _] ⟨o_l (Aal (e:=qw (gt out k).id (gt out k).kind (gt out k).x (gt out k).y (gt out k).vx (gt out k).vy (minI 100 (held (held (gt out k).health+25))) (gt out k).age (gt out k).owner) rfl rfl),oI,o_a ih1,trivial⟩ ?_
    exact ge
  ·rw [if_neg hk]
   have ih1:=ih (i+1) out G (by omega) (by omega) hn
   clear ih
   unfold small at hn
   generalize tchN 3 32 otherG turnG d (i+1) out G=Z at*
   refine qq ?_
   refine gg [.n (zq (zz zm out)) (zq out),.b (decide ((i:Int)<(↑(zq out):Int))) true,.w (0≤(i:Int)),.n (zy (i:Int)) i,.w (i<zq (zz zm out)),.g (zz zm out) i (zm (gt out i)),.b ((gt out i).kind !=3) true,.i zd ((i:Int)+1) ((↑(i+1):Int)),.a _ _] ⟨o_n (by simp),tP,oW,nK,o_w (by (simp;omega)),o_gt rfl (by assumption) (by intro h;cases h),t_brn (by assumption),oI,o_a ih1,trivial⟩ ?_
   exact ge
theorem AaS (l:List Entity) (g:List Bool) (G:List Int) (hl:l.length=g.length) (hn:small l): ∀(d i:Nat) (P:List Int) (R:List Entity),i+d=l.length→P.length≤i→R.length≤i→G=P++idxs (g.drop i) i→
  Is cx (.loop 177 [0,1,0,1,1,1,1,1,1] 0 [.all 0 none,.all 1 none,.all 2 none,vi P.length,vi i] [.arr 9 (l.map zm) none false,.arr 1 (G.map ti) none false,.arr 9 (R.map zm) none false])
   ⟨.exit 2,[.all 0 none,.all 1 none,.all 2 none,vi G.length,vi l.length],[.arr 9 (l.map zm) none false,.arr 1 (G.map ti) none false,.arr 9 ((R++keepL (l.drop i) (g.drop i)).map zm) none false]⟩:=by
 unfold small at hn
 intro d
 induction d with
 |zero=>
  intro i P R hi hP hR hG
  have hq:i=l.length:=by omega
  subst hq
  rw [Aac (l:=l) (by omega)]
  rw [Aac (l:=g) (by omega)] at hG⊢
  have e:G=P:=by simpa [idxs] using hG
  subst e
  refine qq ?_
  refine gg [.n (zq (zz zm l)) (zq l),.b (decide ((↑(zq l):Int)<(↑(zq l):Int))) false] ⟨o_n (by simp),fP,trivial⟩ ?_
  refine rT (a:=qz (qx 2) [qy 0 none,qy 1 none,qy 2 none,vi (↑(zq G):Int),vi (↑(zq l):Int)] [qv 9 (zz zm l) none false,qv 1 (zz ti G) none false,qv 9 (zz zm R) none false]) ?_
  (simp [keepL])
 |succ d ih=>
  intro i P R hi hP hR hG
  have hlt:i<l.length:=by omega
  rw [Amv hlt (by omega)]
  rw [Anh (by omega)] at hG
  have hx:= @AoS (g.drop (i+1)) (i+1)
  have hGl:= @Aoj (g.drop (i+1)) (i+1)
  rw [List.length_drop] at hGl
  cases hb:gt g i with
  |true=>
   rw [hb,if_pos rfl] at hG
   rw [if_pos rfl,List.nil_append]
   have ih1:=ih (i+1) (P++ [(i:Int)]) R (by omega) (by simp;omega) (by omega) (by rw [hG,List.append_assoc])
   rw [List.length_append,List.length_singleton] at ih1
   clear ih hx
   have h1:P.length<G.length:=by rw [hG];simp
   have h2:gt G P.length=(i:Int):=by rw [hG];simp [gt]
   have h3:G.length≤1000000:=by rw [hG];simp;omega
   clear hG hGl
   generalize keepL (l.drop (i+1)) (g.drop (i+1))=Z at*
   refine qq ?_
   refine gg [.n (zq (zz zm l)) (zq l),.b (decide ((i:Int)<(↑(zq l):Int))) true,.n (zq (zz ti G)) (zq G),.b (decide ((↑(zq P):Int)<(↑(zq G):Int))) true,.tt,.tt,.w (0≤(↑(zq P):Int)),.n (zy (↑(zq P):Int)) (zq P),.w (zq P<zq (zz ti G)),.tt,.g (zz ti G) (zq P) (ti (gt G (zq P))),.tt,.tt,.tt,.b (gt G (zq P)==(i:Int)) true,.i zd ((↑(zq P):Int)+1) ((↑(zq P+1):Int))] ⟨o_n (by simp),tP,o_n (by simp),tP,oW,nK,o_w (by (simp;omega)),o_gt rfl (by assumption) (by intro h;cases h),t_bre (by assumption),oI,trivial⟩ ?_
   refine gg [.i zd ((i:Int)+1) ((↑(i+1):Int)),.a _ _] ⟨oI,o_a ih1,trivial⟩ ?_
   exact ge
  |false=>
   rw [hb,if_neg (by simp),List.nil_append] at hG
   rw [if_neg (by simp)]
   have ih1:=ih (i+1) P (R++ [gt l i]) (by omega) (by omega) (by simp;omega) hG
   rw [List.append_assoc] at ih1
   clear ih
   generalize keepL (l.drop (i+1)) (g.drop (i+1))=Z at*
   cases hX:idxs (g.drop (i+1)) (i+1) with
   |nil=>
    have e:G=P:=by rw [hG,hX,List.append_nil]
    clear hG hX hGl hx
    subst e
    refine qq ?_
    refine gg [.n (zq (zz zm l)) (zq l),.b (decide ((i:Int)<(↑(zq l):Int))) true,.n (zq (zz ti G)) (zq G),.b (decide ((↑(zq G):Int)<(↑(zq G):Int))) false,.ff,.ff,.ff,.ff,.ff,.ff,.ff,.w (0≤(i:Int)),.n (zy (i:Int)) i,.w (i<zq (zz zm l)),.g (zz zm l) i (zm (gt l i)),.w ((0:Nat)<(72:Nat))] ⟨o_n (by simp),tP,o_n (by simp),fP,oW,nK,o_w (by (simp;omega)),o_gt rfl (by assumption) (by intro h;cases h),oW,trivial⟩ ?_
    refine gg [.t (qk 0 [zm (gt l i)]) (qk 0 (zz zm [gt l i])),.t (qk 0 (zz zm R++zz zm [gt l i])) (qk 0 (zz zm (R++ [gt l i]))),.w (room (zq (zz zm (R++ [gt l i]))) (72:Nat)),.i zd ((i:Int)+1) ((↑(i+1):Int)),.a _ _] ⟨o_l (Aaf rfl Aap),o_l (Aam rfl rfl),o_w (by (simp [room,appendMax];omega)),oI,o_a ih1,trivial⟩ ?_
    exact ge
   |cons x X=>
    rw [hX] at hG hx hGl
    have hx1:=hx x (List.mem_cons_self ..)
    have h1:P.length<G.length:=by rw [hG];simp
    have h2:gt G P.length=x:=by rw [hG];simp [gt]
    have h3:G.length≤1000000:=by rw [hG];simp only [List.length_append];omega
    have h4: ¬gt G P.length=(i:Int):=by rw [h2];omega
    clear hG hx hX h2 hGl
    refine qq ?_
    refine gg [.n (zq (zz zm l)) (zq l),.b (decide ((i:Int)<(↑(zq l):Int))) true,.n (zq (zz ti G)) (zq G),.b (decide ((↑(zq P):Int)<(↑(zq G):Int))) true,.tt,.tt,.w (0≤(↑(zq P):Int)),.n (zy (↑(zq P):Int)) (zq P),.w (zq P<zq (zz ti G)),.tt,.g (zz ti G) (zq P) (ti (gt G (zq P))),.tt,.tt,.tt,.b (gt G (zq P)==(i:Int)) false,.w (0≤(i:Int))] ⟨o_n (by simp),tP,o_n (by simp),tP,oW,nK,o_w (by (simp;omega)),o_gt rfl (by assumption) (by intro h;cases h),f_bre (by assumption),oW,trivial⟩ ?_
    refine gg [.n (zy (i:Int)) i,.w (i<zq (zz zm l)),.g (zz zm l) i (zm (gt l i)),.w ((0:Nat)<(72:Nat)),.t (qk 0 [zm (gt l i)]) (qk 0 (zz zm [gt l i])),.t (qk 0 (zz zm R++zz zm [gt l i])) (qk 0 (zz zm (R++ [gt l i]))),.w (room (zq (zz zm (R++ [gt l i]))) (72:Nat)),.i zd ((i:Int)+1) ((↑(i+1):Int)),.a _ _] ⟨nK,o_w (by (simp;omega)),o_gt rfl (by assumption) (by intro h;cases h),oW,o_l (Aaf rfl Aap),o_l (Aam rfl rfl),o_w (by (simp [room,appendMax];omega)),oI,o_a ih1,trivial⟩ ?_
    exact ge
theorem Aee (l:List Entity) (hn:small l):Is cx (.call 177 [.t (.sl 9 (l.map zm)),vi 2,vi 24] []) ⟨.ret,[.all 0 none],[.arr 9 ((meetL 2 24 otherS turnS l).map zm) none false]⟩:=by
 have h:=Acj l.length 0 l [] (by omega) (by simp) hn
 have e:= @Aln 2 24 otherS turnS l.length 0 l (zj l.length false) (by simp) (fun b hb=>by simp at hb;exact hb.2)
 rw [show idxs (zj l.length false) 0= [] from Aiq fun b hb=>by simp at hb;exact hb.2] at e
 rw [e] at h
 simp only at h
 obtain ⟨k1,k2⟩:= @AiQ 2 24 otherS turnS l.length 0 l (zj l.length false)
 rw [List.length_replicate] at k1
 unfold meetL
 clear e
 generalize meetN 2 24 otherS turnS l.length 0 l (zj l.length false)=M at*
 obtain ⟨A,g⟩:=M
 simp only at k1 k2 h⊢
 have hA:small A:=by unfold small at*;omega
 have h2:=AaS A g (idxs g 0) (by omega) hA A.length 0 [] [] (by omega) (by simp) (by simp) rfl
 rw [List.drop_zero,List.drop_zero,List.nil_append] at h2
 unfold small at hA
 refine qq ?_
 refine gg [.w ((0:Nat)<(72:Nat)),.s (qk 0 (zz zm l)),.s (qk 0 (zz zm l)),.w (room (zq (zz zm l)) (72:Nat)),.a _ _,.a _ _] ⟨oW,o_w (by (simp [room,appendMax];omega)),o_a h,o_a h2,trivial⟩ ?_
 exact ge
theorem Agt (l:List Entity) (hn:small l):Is cx (.call 141 [.t (.sl 9 (l.map zm))] []) ⟨.ret,[.all 0 none],[.arr 9 ((meetL 2 24 otherS turnS l).map zm) none false]⟩:=by
 have h:=Aee l hn
 refine qq ?_
 refine gg [.a _ _] ⟨o_a h,trivial⟩ ?_
 exact ge
theorem AdM (l:List Entity) (hn:small l):Is cx (.call 177 [.t (.sl 9 (l.map zm)),vi 3,vi 32] []) ⟨.ret,[.all 0 none],[.arr 9 ((meetL 3 32 otherG turnG l).map zm) none false]⟩:=by
 have h:=Aca l.length 0 l [] (by omega) (by simp) hn
 have e:= @Aln 3 32 otherG turnG l.length 0 l (zj l.length false) (by simp) (fun b hb=>by simp at hb;exact hb.2)
 rw [show idxs (zj l.length false) 0= [] from Aiq fun b hb=>by simp at hb;exact hb.2] at e
 rw [e] at h
 simp only at h
 obtain ⟨k1,k2⟩:= @AiQ 3 32 otherG turnG l.length 0 l (zj l.length false)
 rw [List.length_replicate] at k1
 unfold meetL
 clear e
 generalize meetN 3 32 otherG turnG l.length 0 l (zj l.length false)=M at*
 obtain ⟨A,g⟩:=M
 simp only at k1 k2 h⊢
 have hA:small A:=by unfold small at*;omega
 have h2:=AaS A g (idxs g 0) (by omega) hA A.length 0 [] [] (by omega) (by simp) (by simp) rfl
 rw [List.drop_zero,List.drop_zero,List.nil_append] at h2
 unfold small at hA
 refine qq ?_
 refine gg [.w ((0:Nat)<(72:Nat)),.s (qk 0 (zz zm l)),.s (qk 0 (zz zm l)),.w (room (zq (zz zm l)) (72:Nat)),.a _ _,.a _ _] ⟨oW,o_w (by (simp [room,appendMax];omega)),o_a h,o_a h2,trivial⟩ ?_
 exact ge
theorem Ag0 (l:List Entity) (hn:small l):Is cx (.call 140 [.t (.sl 9 (l.map zm))] []) ⟨.ret,[.all 0 none],[.arr 9 ((meetL 3 32 otherG turnG l).map zm) none false]⟩:=by
 have h:=AdM l hn
 refine qq ?_
 refine gg [.a _ _] ⟨o_a h,trivial⟩ ?_
 exact ge
end Go.Eva.S4
namespace Go.Eva
theorem Ano: ∀ {a b:List Entity},Srt a→Srt b→(∀x,x∈a↔x∈b)→a=b
 | [],[],_,_,_=>rfl
 | [],y::b,_,_,h=>absurd ((h y).2 (List.mem_cons_self ..)) (by simp)
 |x::a,[],_,_,h=>absurd ((h x).1 (List.mem_cons_self ..)) (by simp)
 |x::a,y::b,ha,hb,h=>by
  obtain ⟨a1,a2⟩:=List.pairwise_cons.1 ha
  obtain ⟨b1,b2⟩:=List.pairwise_cons.1 hb
  have hx:=(h x).1 (List.mem_cons_self ..)
  have hy:=(h y).2 (List.mem_cons_self ..)
  have e:x=y:=by
   rcases List.mem_cons.1 hx with hx|hx
   ·exact hx
   ·rcases List.mem_cons.1 hy with hy|hy
    ·exact hy.symm
    ·have:=b1 x hx;have:=a1 y hy;omega
  subst e
  congr 1
  refine Ano a2 b2 fun z=>⟨fun hz=> ?_,fun hz=> ?_⟩
  ·rcases List.mem_cons.1 ((h z).1 (List.mem_cons_of_mem _ hz)) with k|k
   ·have:=a1 z hz;rw [k] at this;omega
   ·exact k
  ·rcases List.mem_cons.1 ((h z).2 (List.mem_cons_of_mem _ hz)) with k|k
   ·have:=b1 z hz;rw [k] at this;omega
   ·exact k
theorem Alz {l m:List Entity} (h:l.map Entity.id=m.map Entity.id) {id:Int}:(l.findIdx? fun x=>x.id==id)=m.findIdx? fun x=>x.id==id:=by
 have e: ∀l:List Entity,(l.findIdx? fun x=>x.id==id)=(l.map Entity.id).findIdx? fun x=>x==id:=fun l=>by rw [List.findIdx?_map];rfl
 rw [e,e,h]
theorem Am6 {l:List Entity} {e:Entity} (h:(l.findIdx? fun x=>x.id==e.id)=none):e∈put1 l e:=by
 unfold put1
 rw [h]
 exact AhN.2 (.inl rfl)
theorem Amz {l:List Entity} {p e sh:Entity} (hs:Srt l) (hp:p∈l) (he:e.id=p.id) (hne:sh.id≠p.id):put1 (setId l p.id e) sh=setId (put1 l sh) p.id e:=by
 have hids:(setId l p.id e).map Entity.id=l.map Entity.id:=by rw [←he];exact Ait ⟨p,hp,he.symm⟩
 have hs1:=Ae5 hs hp he
 have hat:=Alb (e:=e) hs hp
 cases hq:l.findIdx? fun x=>x.id==sh.id with
 |some k=>
  unfold put1
  rw [Alz hids,hq]
 |none=>
  have hq1:((setId l p.id e).findIdx? fun x=>x.id==sh.id)=none:=by rw [Alz hids,hq]
  have hp2:=Ac1 (e:=sh) p hp
  have hs2:=Ae5 (AaC (e:=sh) hs) hp2 he
  have hat2:=Alb (e:=e) (AaC (e:=sh) hs) hp2
  refine Ano (AaC hs1) hs2 fun x=>⟨fun h=> ?_,fun h=> ?_⟩
  ·rcases AaZ h with rfl|h
   ·exact Abr (AaC hs) hp2 (Am6 hq) hne
   ·by_cases hx:x.id=p.id
    ·rw [AhK hs1 h hat (by omega)];exact hat2
    ·rcases Aei h with rfl|h
     ·exact hat2
     ·exact Abr (AaC hs) hp2 (Ac1 x h) hx
  ·by_cases hx:x.id=p.id
   ·rw [AhK hs2 h hat2 (by omega)];exact Ac1 e hat
   ·rcases Aei h with rfl|h
    ·exact absurd he hx
    ·rcases AaZ h with rfl|h
     ·exact Am6 hq1
     ·exact Ac1 x (Abr hs hp h hx)
theorem AjK {c:Config} {x y:Int} (h:c.inside x y=true):(0≤x∧x≤c.width-1)∧(0≤y∧y≤c.height-1):=by
 simp only [Config.inside,Bool.and_eq_true,Aad] at h
 exact h
theorem AhD {c:Config} {e:Entity} (h:e.right c=true):c.right=true∧c.width=c.cols*1024∧c.height=c.rows*1024:=by
 have hi:c.inside e.x e.y=true:=by simp only [z9,Bool.and_eq_true] at h;exact h.1
 have hr:=Config.inside_right hi
 exact ⟨hr,by unfold Config.width;rw [if_pos hr],by unfold Config.height;rw [if_pos hr]⟩
theorem Aje {c:Config} {e:Entity} (h:e.right c=true):(0≤e.x∧e.x≤c.width-1)∧(0≤e.y∧e.y≤c.height-1)∧(-160≤e.vx∧e.vx≤160)∧(-160≤e.vy∧e.vy≤160):=by
 simp only [z9,Bool.and_eq_true] at h
 obtain ⟨h0,h⟩:=h
 obtain ⟨i1,i2⟩:=AjK h0
 refine ⟨i1,i2,?_⟩
 split at h
 ·simp only [Bool.and_eq_true,Aad] at h
  omega
 ·split at h
  ·simp only [pace,Bool.and_eq_true,Bool.or_eq_true,decide_eq_true_eq,Aad] at h
   omega
  ·split at h
   ·simp only [Bool.and_eq_true,decide_eq_true_eq,Aad] at h
    omega
   ·simp at h
theorem Apc {c:Config} {e:Entity} (h:e.right c=true) (h1:e.kind≠1) (h2:e.kind≠2):goE c e=(e,true):=by
 obtain ⟨b1,b2,_,_⟩:=Aje h
 have k1:= @Config.width_le c
 have k2:= @Config.height_le c
 have hv:e.vx=0∧e.vy=0:=by
  simp only [z9,h1,h2,if_false,Bool.and_eq_true] at h
  obtain ⟨_,h⟩:=h
  split at h
  ·simp only [Bool.and_eq_true,decide_eq_true_eq] at h
   omega
  ·simp at h
 have ax:sumH [e.x,e.vx]=e.x:=by rw [AgN (by omega) (by omega)];omega
 have ay:sumH [e.y,e.vy]=e.y:=by rw [AgN (by omega) (by omega)];omega
 unfold goE
 rw [if_neg (by simp [h]),if_neg h2,ax,ay,AeO b1,AeO b2]
section
variable (c:Config) (r f:Int) (ins:List Input)
def refP (s:Stg) (p:Entity) (i:Input):Stg:=
 if (steerE p i).2=true then
  (if s.room=true then {s with l:=put1 (setId s.l p.id (steerE p i).1) (shootE (steerE p i).1 i (numI c r f s.made)),made:=s.made+1}
   else {s with l:=setId s.l p.id {(steerE p i).1 with age:=0}})
 else {s with l:=setId s.l p.id (steerE p i).1}
end
theorem Amu {c:Config} {r f:Int} {ins:List Input} {s:Stg} {p:Entity} (hs:Steer c r s) (hr:c.is r=true) (hf:0≤f∧f<10000) (hp:p∈s.l) (hk:p.kind=1):refP c r f s p (inAt ins p.id)=steer1 c r f ins s p:=by
 unfold refP steer1
 rw [if_neg (show¬p.kind≠1 from fun h=>h hk)]
 split
 ·split
  ·have hpr:=Entity.right_player (hs.sane.ents p hp).1 hk
   have hc:=Config.right_iff.1 (Config.is_right hr)
   have hn:=AmX (made:=s.made) (Config.is_le hr) hf hs.made
   rw [Amz hs.sane.srt hp AcD.1 (by show numI c r f s.made≠p.id;omega)]
  ·rfl
 ·rfl
def plE1 (l:List Entity):List Entity:=l.filter fun e=>decide (e.kind=1)
theorem AkP {c:Config} {r f:Int} {ins:List Input}: ∀ {R:List Entity} {s:Stg},R.foldl (steer1 c r f ins) s=(plE1 R).foldl (steer1 c r f ins) s:=by
 intro R
 induction R with
 |nil=>intro s;rfl
 |cons p R ih=>
  intro s
  unfold plE1 at*
  rw [List.foldl_cons,List.filter_cons]
  split
  ·rw [List.foldl_cons];exact ih
  ·rename_i h
   rw [show steer1 c r f ins s p=s by unfold steer1;rw [if_pos (by simpa using h)]]
   exact ih
end Go.Eva
namespace Go.Eva.S4
theorem AcM (v:Int):Fn cx 174 [ti v] (ti (clamp v (-1) 1)):=by
 by_cases h1:v<0
 ·have e:clamp v (-1) 1= -1:=by unfold clamp;split<;>(try split)<;>omega
  rw [e]
  refine qq ?_
  refine gg [.b (decide (v<0)) true] ⟨t_brp (by assumption),trivial⟩ ?_
  exact ge
 ·by_cases h2:v>0
  ·have e:clamp v (-1) 1=1:=by unfold clamp;split<;>(try split)<;>omega
   rw [e]
   refine qq ?_
   refine gg [.b (decide (v<0)) false,.b (decide (v>0)) true] ⟨f_brp (by assumption),t_brp (by assumption),trivial⟩ ?_
   exact ge
  ·have e:clamp v (-1) 1=0:=by unfold clamp;split<;>(try split)<;>omega
   rw [e]
   refine qq ?_
   refine gg [.b (decide (v<0)) false,.b (decide (v>0)) false] ⟨f_brp (by assumption),f_brp (by assumption),trivial⟩ ?_
   exact ge
theorem Agm (e:Entity) (i:Input) (id:Int):Fn cx 136 [e.enc,i.enc,ti id] ((shootE e i id).enc):=by
 have h1:=AcM i.dx
 have h2:=AcM i.dy
 have k1:=Agp i.dx
 have k2:=Agp i.dy
 unfold shootE paceD
 generalize clamp i.dx (-1) 1=a at*
 generalize clamp i.dy (-1) 1=b at*
 by_cases h:a*160=0∧b*160=0
 ·rw [if_pos h]
  obtain ⟨q1,q2⟩:=h
  refine qq ?_
  refine bO ?_ ?_
  ·refine gg [.a _ _,.i zd (a*160) 0] ⟨o_a h1,oI,trivial⟩ ?_
   refine bO ?_ ?_
   all_goals
    refine gg [.a _ _,.i zd (b*160) 0,.b (0==0) true,.tt,.tt,.tt,.b (0==0) true] ⟨o_a h2,oI,bK,bK,trivial⟩ ?_
    refine rT (a:=qz qj [V.t (T.agg [ti id,ti 2,ti e.x,ti e.y,ti 160,ti 0,ti 1,ti 0,ti e.id])] []) ?_
    (simp [zm,q1,q2])
  ·refine gg [.a _ _,.i zd (a*160) 0,.a _ _,.i zd (b*160) 0,.b (0==0) true,.tt,.tt,.tt,.b (0==0) true] ⟨o_a h1,oI,o_a h2,oI,bK,bK,trivial⟩ ?_
   refine rT (a:=qz qj [V.t (T.agg [ti id,ti 2,ti e.x,ti e.y,ti 160,ti 0,ti 1,ti 0,ti e.id])] []) ?_
   (simp [zm,q1,q2])
 ·rw [if_neg h]
  by_cases q1:a*160=0
  ·have q2: ¬b*160=0:=fun q=>h ⟨q1,q⟩
   clear h
   refine qq ?_
   refine bO ?_ ?_
   ·refine gg [.a _ _,.i zd (a*160) 0] ⟨o_a h1,oI,trivial⟩ ?_
    refine bO ?_ ?_
    all_goals
     refine gg [.a _ _,.i zd (b*160) (b*160),.b (0==0) true,.tt,.tt,.tt,.b (b*160==0) false] ⟨o_a h2,oI,bK,f_bre (by assumption),trivial⟩ ?_
     refine rT (a:=qz qj [V.t (T.agg [ti id,ti 2,ti e.x,ti e.y,ti 0,ti (b*160),ti 1,ti 0,ti e.id])] []) ?_
     (simp [zm,q1])
   ·refine gg [.a _ _,.i zd (a*160) 0,.a _ _,.i zd (b*160) (b*160),.b (0==0) true,.tt,.tt,.tt,.b (b*160==0) false] ⟨o_a h1,oI,o_a h2,oI,bK,f_bre (by assumption),trivial⟩ ?_
    refine rT (a:=qz qj [V.t (T.agg [ti id,ti 2,ti e.x,ti e.y,ti 0,ti (b*160),ti 1,ti 0,ti e.id])] []) ?_
    (simp [zm,q1])
  ·clear h
   refine qq ?_
   refine bO ?_ ?_
   ·refine gg [.a _ _,.i zd (a*160) (a*160)] ⟨o_a h1,oI,trivial⟩ ?_
    refine bO ?_ ?_
    all_goals
     refine gg [.a _ _,.i zd (b*160) (b*160),.b (a*160==0) false,.ff,.ff,.ff,.ff] ⟨o_a h2,oI,f_bre (by assumption),trivial⟩ ?_
     exact ge
   ·refine gg [.a _ _,.i zd (a*160) (a*160),.a _ _,.i zd (b*160) (b*160),.b (a*160==0) false,.ff,.ff,.ff,.ff] ⟨o_a h1,oI,o_a h2,oI,f_bre (by assumption),trivial⟩ ?_
    exact ge
theorem Aie (c:Config) (e:Entity) (he: -1000000≤e.age∧e.age≤1000000):Is cx (.call 138 [.t c.enc,.t e.enc] []) ⟨.ret,[.t (goE c e).1.enc,vb (goE c e).2],[]⟩:=by
 have hR:=Abh c e
 cases hr:e.right c with
 |false=>
  rw [hr] at hR
  have e1:goE c e=(Entity.zero,false):=by simp [goE,hr]
  rw [e1]
  refine qq ?_
  refine gg [.a _ _,.b (!false) true] ⟨o_a hR,bK,trivial⟩ ?_
  exact ge
 |true=>
  rw [hr] at hR
  obtain ⟨b1,b2,b3,b4⟩:=Aje hr
  have h1:= @Config.width_le c
  have h2:= @Config.height_le c
  have ew:c.width=c.cols*1024:=(AhD hr).2.1
  have eh:c.height=c.rows*1024:=(AhD hr).2.2
  have ax:sumH [e.x,e.vx]=e.x+e.vx:=AgN (by omega) (by omega)
  have ay:sumH [e.y,e.vy]=e.y+e.vy:=AgN (by omega) (by omega)
  have hI:=AaT c (e.x+e.vx) (e.y+e.vy)
  have c1:=AaJ (e.x+e.vx) 0 (c.width-1)
  have c2:=AaJ (e.y+e.vy) 0 (c.height-1)
  by_cases hk:e.kind=2
  ·by_cases ha:e.age+1>12
   ·have e1:goE c e=(Entity.zero,false):=by simp [goE,hr,hk,ha]
    rw [e1]
    refine qq ?_
    refine gg [.a _ _,.b (!true) false,.b (e.kind==1) false,.b (e.kind==2) true,.i zd (e.x+e.vx) (e.x+e.vx),.i zd (e.y+e.vy) (e.y+e.vy),.i zd (e.age+1) (e.age+1),.b (decide (e.age+1>12)) true,.tt,.tt,.tt,.tt,.tt,.tt,.tt,.tt] ⟨o_a hR,bK,fE,t_bre (by assumption),oI,oI,oI,t_brp (by assumption),trivial⟩ ?_
    exact ge
   ·cases hi:c.inside (e.x+e.vx) (e.y+e.vy) with
    |true=>
     rw [hi] at hI
     have e1:goE c e=({e with x:=e.x+e.vx,y:=e.y+e.vy,age:=e.age+1},true):=by
      obtain ⟨i1,i2⟩:=AjK hi
      simp [goE,hr,hk,ha,ax,ay,hi,AeO i1,AeO i2]
     rw [e1]
     refine qq ?_
     refine gg [.a _ _,.b (!true) false,.b (e.kind==1) false,.b (e.kind==2) true,.i zd (e.x+e.vx) (e.x+e.vx),.i zd (e.y+e.vy) (e.y+e.vy),.i zd (e.age+1) (e.age+1),.b (decide (e.age+1>12)) false,.ff,.ff,.ff,.ff,.ff,.a _ _,.ff,.ff] ⟨o_a hR,bK,fE,t_bre (by assumption),oI,oI,oI,f_brp (by assumption),o_a hI,trivial⟩ ?_
     refine gg [.b (!true) false] ⟨bK,trivial⟩ ?_
     exact ge
    |false=>
     rw [hi] at hI
     have e1:goE c e=(Entity.zero,false):=by simp [goE,hr,hk,ax,ay,hi]
     rw [e1]
     refine qq ?_
     refine gg [.a _ _,.b (!true) false,.b (e.kind==1) false,.b (e.kind==2) true,.i zd (e.x+e.vx) (e.x+e.vx),.i zd (e.y+e.vy) (e.y+e.vy),.i zd (e.age+1) (e.age+1),.b (decide (e.age+1>12)) false,.ff,.ff,.ff,.ff,.ff,.a _ _,.ff,.ff] ⟨o_a hR,bK,fE,t_bre (by assumption),oI,oI,oI,f_brp (by assumption),o_a hI,trivial⟩ ?_
     refine gg [.b (!false) true] ⟨bK,trivial⟩ ?_
     exact ge
  ·by_cases hp:e.kind=1
   ·have e1:goE c e=({e with x:=clamp (e.x+e.vx) 0 (c.width-1),y:=clamp (e.y+e.vy) 0 (c.height-1)},true):=by simp [goE,hr,hk,ax,ay]
    rw [e1]
    rw [ew] at c1⊢
    rw [eh] at c2⊢
    refine qq ?_
    refine gg [.a _ _,.b (!true) false,.b (e.kind==1) true,.i zd (e.x+e.vx) (e.x+e.vx),.i zd (c.cols*1024) (c.cols*1024),.i zd (c.cols*1024-1) (c.cols*1024-1),.i zd (e.y+e.vy) (e.y+e.vy),.i zd (c.rows*1024) (c.rows*1024),.i zd (c.rows*1024-1) (c.rows*1024-1),.a _ _,.a _ _] ⟨o_a hR,bK,t_bre (by assumption),oI,oI,oI,oI,oI,oI,o_a c1,o_a c2,trivial⟩ ?_
    exact ge
   ·have e1:goE c e=(e,true):=Apc hr hp hk
    rw [e1]
    refine qq ?_
    refine gg [.a _ _,.b (!true) false,.b (e.kind==1) false,.b (e.kind==2) false] ⟨o_a hR,bK,f_bre (by assumption),f_bre (by assumption),trivial⟩ ?_
    exact ge
end Go.Eva.S4
namespace Go.Eva.S4
theorem Ag3 (i:Input):Fn cx 59 [i.enc] (playInput i).enc:=by
 have h:=Abn i
 unfold playInput
 cases hr:i.right with
 |true=>
  rw [hr] at h
  refine qq ?_
  refine gg [.a _ _,.tt] ⟨o_a h,trivial⟩ ?_
  exact ge
 |false=>
  rw [hr] at h
  have h1:= @um_le i.dx 5 (by decide)
  have h2:= @um_le i.dy 5 (by decide)
  unfold um at h1 h2
  refine qq ?_
  refine gg [.a _ _,.ff,.i zf i.dx (zp zf i.dx),.w ((5:Int)≠(0:Int)),.s (T.int zf (zg (zp zf i.dx) 5)),.i zd (zg (zp zf i.dx) 5) (zg (zp zf i.dx) 5),.i zd (zg (zp zf i.dx) 5-2) (zg (zp zf i.dx) 5-2),.i zf i.dy (zp zf i.dy),.w ((5:Int)≠(0:Int)),.s (T.int zf (zg (zp zf i.dy) 5)),.i zd (zg (zp zf i.dy) 5) (zg (zp zf i.dy) 5),.i zd (zg (zp zf i.dy) 5-2) (zg (zp zf i.dy) 5-2)] ⟨o_a h,o_i rfl,o_w (by intro h;cases h),oI,oI,o_i rfl,o_w (by intro h;cases h),oI,oI,trivial⟩ ?_
  exact ge
theorem AcW (c:Config) (l:List InputL) (A:List InputL) (most:Int) (i n:Nat) (hc:c.players=(n:Int)) (hn:n≤100) (hi:i<l.length) (hl:long l) (hr:long (gt l i)): ∀(d k:Nat),k+d=min n (gt l i).length→
  Is cx (.loop 22 [0,1,0,1,0,0,1,0,0,1,0,1,1] 0 [.t (.sl 1 (l.map encI)),vi most,.ptr 0 0 0,.all 1 none,vi i,.all 2 none,vi k] [.one 5 (.t c.enc) false,.arr 1 (A.map encI) none false,.arr 3 ((rowAt n (gt l i) k).map zr) (some 0) false])
   ⟨.exit 2,[.t (.sl 1 (l.map encI)),vi most,.ptr 0 0 0,.all 1 none,vi i,.all 2 none,vi (min n (gt l i).length:Nat)],[.one 5 (.t c.enc) false,.arr 1 (A.map encI) none false,.arr 3 ((playRow n (gt l i)).map zr) (some 0) false]⟩:=by
 unfold long at hl hr
 intro d
 induction d with
 |zero=>
  intro k hk
  obtain rfl:k=min n (gt l i).length:=by omega
  unfold playRow
  generalize hm:min n (gt l i).length=m at*
  by_cases hmn:m=n
  ·subst hmn
   refine qq ?_
   refine gg [.b (decide ((m:Int)<c.players)) false,.ff,.ff,.ff,.ff,.ff,.ff,.ff,.ff] ⟨fP,trivial⟩ ?_
   exact ge
  ·have:m=(gt l i).length:=by omega
   refine qq ?_
   refine gg [.b (decide ((m:Int)<c.players)) true,.tt,.tt,.tt,.w (0≤(i:Int)),.n (zy (i:Int)) i,.g (zz encI l) i (encI (gt l i)),.tt,.tt,.n (zq (zz zr (gt l i))) (zq (gt l i)),.tt,.tt,.b (decide ((m:Int)<(↑(zq (gt l i)):Int))) false] ⟨tP,oW,nK,o_gt rfl (by assumption) (by intro h;cases h),o_n (by simp),fP,trivial⟩ ?_
   exact ge
 |succ d ih=>
  intro k hk
  have ih1:=ih (k+1) (by omega)
  rw [←Ank (by omega) (by omega)] at ih1
  have hlen:=Akz (n:=n) (k:=k) (l:=gt l i) (by omega) (by omega)
  clear ih
  generalize rowAt n (gt l i) k=R at*
  generalize hm:min n (gt l i).length=m at*
  have hkl:k<(gt l i).length:=by omega
  refine qq ?_
  refine gg [.b (decide ((k:Int)<c.players)) true,.tt,.tt,.tt,.w (0≤(i:Int)),.n (zy (i:Int)) i,.g (zz encI l) i (encI (gt l i)),.tt,.tt,.n (zq (zz zr (gt l i))) (zq (gt l i)),.tt,.tt,.b (decide ((k:Int)<(↑(zq (gt l i)):Int))) true,.w (0≤(i:Int)),.n (zy (i:Int)) i,.g (zz encI l) i (encI (gt l i))] ⟨tP,oW,nK,o_gt rfl (by assumption) (by intro h;cases h),o_n (by simp),tP,oW,nK,o_gt rfl (by assumption) (by intro h;cases h),trivial⟩ ?_
  refine gg [.w (0≤(k:Int)),.n (zy (k:Int)) k,.g (zz zr (gt l i)) k (zr (gt (gt l i) k)),.a _ _,.w (0≤(k:Int)),.n (zy (k:Int)) k,.w (k<zq (zz zr R)),.w (k<zq (zz zr R)),.t (qk 0 (zx (zz zr R) k (zr (playInput (gt (gt l i) k))))) (qk 0 (zz zr (zx R k (playInput (gt (gt l i) k))))),.i zd ((k:Int)+1) ((↑(k+1):Int)),.a _ _] ⟨oW,nK,o_gt rfl (by assumption) (by intro h;cases h),o_a (Ag3 (gt (gt l i) k)),oW,nK,o_w (by (simp;omega)),o_w (by (simp;omega)),o_l (Aal rfl rfl),oI,o_a ih1,trivial⟩ ?_
  exact ge
theorem AcO (c:Config) (l:List InputL) (most n:Nat) (hc:c.players=(n:Int)) (hn:n≤100) (hl:long l) (hmo:most≤1000) (hr: ∀x∈l,long x): ∀(d i:Nat) (A:List InputL),i+d=min l.length most→A.length=i→
  Is cx (.loop 22 [0,1,0,1,1] 0 [.t (.sl 1 (l.map encI)),vi most,.ptr 0 0 0,.all 1 none,vi i] [.one 5 (.t c.enc) false,.arr 1 (A.map encI) none false])
   ⟨.exit 0,[.t (.sl 1 (l.map encI)),vi most,.ptr 0 0 0,.all 1 none,vi (min l.length most:Nat)],[.one 5 (.t c.enc) false,.arr 1 ((A++((l.take most).drop i).map (playRow n)).map encI) none false]⟩:=by
 intro d
 induction d with
 |zero=>
  intro i A hi hA
  obtain rfl:i=min l.length most:=by omega
  rw [Aac (by simp;omega)]
  unfold long at hl
  clear hr
  generalize hm:min l.length most=m at*
  by_cases h:m=l.length
  ·refine qq ?_
   refine gg [.n (zq (zz encI l)) (zq l),.b (decide ((m:Int)<(↑(zq l):Int))) false,.ff,.ff,.ff,.ff] ⟨o_n (by simp),fP,trivial⟩ ?_
   refine rT (a:=qz (qx 0) [V.t (qk 1 (zz encI l)),vi (most:Int),V.ptr 0 0 0,qy 1 none,vi (m:Int)] [qg 5 (V.t (Config.enc c)) false,qv 1 (zz encI A) none false]) ?_
   simp
  ·have:m=most:=by omega
   refine qq ?_
   refine gg [.n (zq (zz encI l)) (zq l),.b (decide ((m:Int)<(↑(zq l):Int))) true,.tt,.tt,.tt,.b (decide ((m:Int)<(most:Int))) false] ⟨o_n (by simp),tP,fP,trivial⟩ ?_
   refine rT (a:=qz (qx 0) [V.t (qk 1 (zz encI l)),vi (most:Int),V.ptr 0 0 0,qy 1 none,vi (m:Int)] [qg 5 (V.t (Config.enc c)) false,qv 1 (zz encI A) none false]) ?_
   simp
 |succ d ih=>
  intro i A hi hA
  have hlt:i<l.length:=by omega
  have hrx:=hr _ (Aa3 hlt)
  have h1:=AcW c l A most i n hc hn hlt hl hrx (min n (gt l i).length) 0 (by omega)
  have ih1:=ih (i+1) (A++ [playRow n (gt l i)]) (by omega) (by simp;omega)
  have e:(l.take most).drop i=gt l i::(l.take most).drop (i+1):=by
   have hlt2:i<(l.take most).length:=by simp;omega
   have hg:gt (l.take most) i=gt l i:=by unfold gt;rw [List.getElem?_take,if_pos (by omega)]
   rw [Aae hlt2,hg]
  rw [e,List.map_cons,List.append_cons]
  have e0:rowAt n (gt l i) 0=zj n Input.zero:=by simp [rowAt]
  rw [e0,List.map_replicate,show zj n (zr Input.zero)=zj c.players.toNat (zr Input.zero) by rw [hc,Int.toNat_natCast]] at h1
  clear ih hr e e0
  unfold long at hl hrx
  generalize playRow n (gt l i)=P at*
  generalize hm:min l.length most=m at*
  generalize min n (gt l i).length=q at*
  refine qq ?_
  refine gg [.n (zq (zz encI l)) (zq l),.b (decide ((i:Int)<(↑(zq l):Int))) true,.tt,.tt,.tt,.b (decide ((i:Int)<(most:Int))) true,.w (0≤c.players∧c.players≤c.players∧room (zy c.players) (24:Nat)),.l (zy c.players),.a _ _,.s (qk 3 (zz zr P)),.w ((0:Nat)<(24:Nat)),.s (qk 0 [qk 3 (zz zr P)]),.t (qk 0 (zz encI A++ [qk 3 (zz zr P)])) (qk 0 (zz encI (A++ [P]))),.w (room (zq (zz encI (A++ [P]))) (24:Nat)),.i zd ((i:Int)+1) ((↑(i+1):Int)),.a _ _] ⟨o_n (by simp),tP,tP,o_w ⟨(by omega),⟨(by omega),(by (simp [room,appendMax];omega))⟩⟩,o_a h1,oW,o_l (Aam rfl (Aaf (e:=P) rfl Aap)),o_w (by (simp [room,appendMax];omega)),oI,o_a ih1,trivial⟩ ?_
  exact ge
theorem AfO (c:Config) (l:List InputL) (most n:Nat) (hc:c.players=(n:Int)) (hn:n≤100) (hl:long l) (hmo:most≤1000) (hr: ∀x∈l,long x):Is cx (.call 22 [.t c.enc,.t (.sl 1 (l.map encI)),vi most] []) ⟨.ret,[.all 0 none],[.arr 1 ((playFrames n l most).map encI) none false]⟩:=by
 have h:=AcO c l most n hc hn hl hmo hr (min l.length most) 0 [] (by omega) rfl
 rw [List.drop_zero,List.nil_append] at h
 unfold playFrames
 generalize (l.take most).map (playRow n)=X at*
 generalize min l.length most=m at*
 clear hr
 refine qq ?_
 refine gg [.a _ _] ⟨o_a h,trivial⟩ ?_
 exact ge
theorem Acb (c:Config) (r:Int):Is cx (.call 56 [.t c.enc,vi r] []) ⟨.ret,[vi (c.cornerX r),vi (c.cornerY r)],[]⟩:=by
 have h:=Aay c r
 unfold Config.cornerX Config.cornerY
 cases hi:c.is r with
 |false=>
  rw [hi] at h
  refine qq ?_
  refine gg [.a _ _,.b (!false) true] ⟨o_a h,bK,trivial⟩ ?_
  exact ge
 |true=>
  rw [hi] at h
  have hr:=Config.is_right hi
  have hi2:=(Config.is_iff hr).1 hi
  obtain ⟨hc,hrr,_⟩:=Config.right_iff.1 hr
  have k1:=AaR (v:=r) (k:=c.cols) (m:=c.rows) (by omega) (by omega) (by omega)
  have k2:=AaE (v:=r) (k:=c.cols) (by omega) (by omega)
  refine qq ?_
  refine gg [.a _ _,.b (!true) false,.w (c.cols≠(0:Int)),.s (ti (zg r c.cols)),.i zd (zg r c.cols*1024) (zg r c.cols*1024),.w (c.cols≠(0:Int)),.i zd (Int.tdiv r c.cols) (Int.tdiv r c.cols),.i zd (Int.tdiv r c.cols*1024) (Int.tdiv r c.cols*1024)] ⟨o_a h,bK,oW,oI,oW,oI,oI,trivial⟩ ?_
  exact ge
end Go.Eva.S4
namespace Go.Eva.S4
abbrev mkT (c:Config) (r f:Int) (l:List Entity) (made:Int):T:= .agg [ti c.cols,ti c.rows,ti c.players,ti c.window,.int .u64 c.seed,ti r,ti f,.sl 9 (l.map zm),ti made]
abbrev mkV (c:Config) (r f made:Int) (lv:V):V:= .agg [vi c.cols,vi c.rows,vi c.players,vi c.window,.t (.int .u64 c.seed),vi r,vi f,lv,vi made]
theorem AcI (c:Config) (r f:Int) (s:Stg) (hn:small s.l):Fn cx 135 [.ip 9 (mkT c r f s.l s.made) 0] (.bool s.room):=by
 have h:=AaU s.l hn
 unfold Stg.room
 obtain ⟨l,made,out⟩:=s
 simp only at h⊢
 generalize things l=n at*
 by_cases h1:made<8
 ·refine qq ?_
  refine gg [.b (decide (made<8)) true,.tt,.tt,.tt,.tt,.a _ _,.tt,.tt] ⟨t_brp (by assumption),o_a h,trivial⟩ ?_
  refine rT (a:=qz qj [vb (decide (n<24))] []) ?_
  simp [h1]
 ·refine qq ?_
  refine gg [.b (decide (made<8)) false,.ff,.ff,.ff,.ff,.ff,.ff] ⟨f_brp (by assumption),trivial⟩ ?_
  refine rT (a:=qz qj [vb false] []) ?_
  simp [h1]
theorem AcC (c:Config) (r f made:Int) (l:List Entity) (hr:0≤r∧r≤16) (hf:0≤f∧f≤10000) (hm:0≤made∧made≤1000):
  Is cx (.call 137 [.ptr 0 0 0] [.one 9 (mkV c r f made (.all 1 none)) false,.arr 9 (l.map zm) none false])
   ⟨.ret,[vi (numI c r f made)],[.one 9 (mkV c r f (made+1) (.all 1 none)) false,.arr 9 (l.map zm) none false]⟩:=by
 have h:=Aaj c
 have hl:= @Config.regions_le c
 have e:numI c r f made=1000+(f*c.regions+r)*8+made:=by unfold numI;omega
 rw [e]
 generalize c.regions=g at*
 have h1:0≤f*g∧f*g≤160000:=⟨Int.mul_nonneg hf.1 hl.1,Int.le_trans (Int.mul_le_mul hf.2 hl.2 hl.1 (by omega)) (by omega)⟩
 refine qq ?_
 refine gg [.a _ _,.i zd (f*g) (f*g),.i zd (f*g+r) (f*g+r),.i zd ((f*g+r)*8) ((f*g+r)*8),.i zd (1000+(f*g+r)*8) (1000+(f*g+r)*8),.i zd (1000+(f*g+r)*8+made) (1000+(f*g+r)*8+made),.i zd (made+1) (made+1)] ⟨o_a h,oI,oI,oI,oI,oI,oI,trivial⟩ ?_
 exact ge
theorem Aco (c:Config) (r f x y o made:Int) (l:List Entity):Is cx (.call 143 [.t (.ip 9 (mkT c r f l made) 0),vi x,vi y,vi o] []) ⟨.ret,[vi (placeX c r f x o),vi (placeY c r f y o)],[]⟩:=by
 have h0:=Acb c r
 have h1:=Abc 1024 c.seed [x,f,o] (by decide) (by simp [small])
 have h2:=Abc 1024 c.seed [y,f,o] (by decide) (by simp [small])
 have b1:=Acr (n:=1024) (seed:=c.seed) (l:= [x,f,o]) (by decide)
 have b2:=Acr (n:=1024) (seed:=c.seed) (l:= [y,f,o]) (by decide)
 have b3:= @AfC c r
 unfold placeX placeY
 generalize below 1024 c.seed [x,f,o]=v1 at*
 generalize below 1024 c.seed [y,f,o]=v2 at*
 generalize c.cornerX r=v3 at*
 generalize c.cornerY r=v4 at*
 refine qq ?_
 refine gg [.a _ _] ⟨o_a h0,trivial⟩ ?_
 refine bO (bO ?_ ?_) ?_
 all_goals
  refine gg [.a _ _,.i zd (v3+v1) (v3+v1),.a _ _,.i zd (v4+v2) (v4+v2)] ⟨o_a h1,oI,o_a h2,oI,trivial⟩ ?_
  exact ge
end Go.Eva.S4
namespace Go.Eva.S4
theorem AjL (c:Config) (r f made made2:Int) (ins:List Input) (box:T) (P:List Int) (i k j:Nat) (A A2:List Entity) (E:Entity) (hP:P.length≤1000) (hlt:i<P.length) (hins:ins.length≤1000) (hAl:A.length≤1000) (hk2:k<A.length) (hj1:(gt P i-1).toNat=j) (hj2:j<ins.length) (hpp:1≤gt P i∧gt P i≤1000) (hF:Fn cx 100 [.sl 9 (A.map zm),ti (gt P i)] (ti (k:Int))) (hS:Is cx (.call 134 [.t (gt A k).enc,.t (gt ins (gt P i-1).toNat).enc] []) ⟨.ret,[.t E.enc,vb false],[]⟩) (hrm:Fn cx 135 [.ip 9 (mkT c r f A made) 0] (.bool true))
  (ih1:Is cx (.loop 80 [0,1,0,1,1,1,1,1] 0 [vi r,.t (.sl 3 (ins.map zr)),.t box,.ptr 0 0 0,.ptr 1 0 0,.ptr 2 0 0,.t (.sl 1 (P.map ti)),vi ((i+1:Nat))] [.one 5 (.t c.enc) false,.one 2 (.agg [vi 0,.fit 9 []]) false,.one 9 (mkV c r f (made) (.all 3 none)) false,.arr 9 ((A.set k E).map zm) none false])
   ⟨.exit 0,[vi r,.t (.sl 3 (ins.map zr)),.t box,.ptr 0 0 0,.ptr 1 0 0,.ptr 2 0 0,.t (.sl 1 (P.map ti)),vi P.length],[.one 5 (.t c.enc) false,.one 2 (.agg [vi 0,.fit 9 []]) false,.one 9 (mkV c r f (made2) (.all 3 none)) false,.arr 9 ((A2).map zm) none false]⟩):Is cx (.loop 80 [0,1,0,1,1,1,1,1] 0 [vi r,.t (.sl 3 (ins.map zr)),.t box,.ptr 0 0 0,.ptr 1 0 0,.ptr 2 0 0,.t (.sl 1 (P.map ti)),vi (i)] [.one 5 (.t c.enc) false,.one 2 (.agg [vi 0,.fit 9 []]) false,.one 9 (mkV c r f (made) (.all 3 none)) false,.arr 9 ((A).map zm) none false])
   ⟨.exit 0,[vi r,.t (.sl 3 (ins.map zr)),.t box,.ptr 0 0 0,.ptr 1 0 0,.ptr 2 0 0,.t (.sl 1 (P.map ti)),vi P.length],[.one 5 (.t c.enc) false,.one 2 (.agg [vi 0,.fit 9 []]) false,.one 9 (mkV c r f (made2) (.all 3 none)) false,.arr 9 ((A2).map zm) none false]⟩:=by
 refine qq ?_
 refine gg [.n (zq (zz ti P)) (zq P),.b (decide ((i:Int)<(↑(zq P):Int))) true,.w (0≤(i:Int)),.n (zy (i:Int)) i,.g (zz ti P) i (ti (gt P i)),.a _ _,.b (flats [ti (k:Int)]) true,.w (0≤(i:Int)),.n (zy (i:Int)) i,.g (zz ti P) i (ti (gt P i)),.w (0≤(k:Int)),.n (zy (k:Int)) k,.w (k<zq (zz zm A)),.g (zz zm A) k (zm (gt A k)),.i zd (gt P i-1) (gt P i-1),.w (0≤gt P i-(1:Int))] ⟨o_n (by simp),tP,oW,nK,o_gt rfl (by assumption) (by intro h;cases h),o_a hF,bK,oW,nK,o_gt rfl (by assumption) (by intro h;cases h),oW,nK,o_w (by (simp;omega)),o_gt rfl (by assumption) (by intro h;cases h),oI,oW,trivial⟩ ?_
 refine gg [.l (zy (gt P i-1)),.g (zz zr ins) (zy (gt P i-1)) (zr (gt ins (zy (gt P i-1))))] ⟨oT,trivial⟩ ?_
 refine bO ?_ ?_
 all_goals
  refine gg [.a _ _,.a _ _,.b (flats [T.bool true]) true,.ff,.ff,.ff,.ff,.w (0≤(k:Int)),.n (zy (k:Int)) k,.w (k<zq (zz zm A)),.w (k<zq (zz zm A)),.t (qk 0 (zx (zz zm A) k (zm E))) (qk 0 (zz zm (zx A k E))),.ff,.ff,.ff,.i zd ((i:Int)+1) ((↑(i+1):Int))] ⟨o_a hS,o_a hrm,bK,oW,nK,o_w (by (simp;omega)),o_w (by (simp;omega)),o_l (Aal rfl rfl),oI,trivial⟩ ?_
  refine gg [.a _ _] ⟨o_a ih1,trivial⟩ ?_
  exact ge
theorem AjX (c:Config) (r f made made2:Int) (ins:List Input) (box:T) (P:List Int) (i k j:Nat) (A A2:List Entity) (E:Entity) (hP:P.length≤1000) (hlt:i<P.length) (hins:ins.length≤1000) (hAl:A.length≤1000) (hk2:k<A.length) (hj1:(gt P i-1).toNat=j) (hj2:j<ins.length) (hpp:1≤gt P i∧gt P i≤1000) (hF:Fn cx 100 [.sl 9 (A.map zm),ti (gt P i)] (ti (k:Int))) (hS:Is cx (.call 134 [.t (gt A k).enc,.t (gt ins (gt P i-1).toNat).enc] []) ⟨.ret,[.t E.enc,vb false],[]⟩) (hrm:Fn cx 135 [.ip 9 (mkT c r f A made) 0] (.bool false))
  (ih1:Is cx (.loop 80 [0,1,0,1,1,1,1,1] 0 [vi r,.t (.sl 3 (ins.map zr)),.t box,.ptr 0 0 0,.ptr 1 0 0,.ptr 2 0 0,.t (.sl 1 (P.map ti)),vi ((i+1:Nat))] [.one 5 (.t c.enc) false,.one 2 (.agg [vi 0,.fit 9 []]) false,.one 9 (mkV c r f (made) (.all 3 none)) false,.arr 9 ((A.set k E).map zm) none false])
   ⟨.exit 0,[vi r,.t (.sl 3 (ins.map zr)),.t box,.ptr 0 0 0,.ptr 1 0 0,.ptr 2 0 0,.t (.sl 1 (P.map ti)),vi P.length],[.one 5 (.t c.enc) false,.one 2 (.agg [vi 0,.fit 9 []]) false,.one 9 (mkV c r f (made2) (.all 3 none)) false,.arr 9 ((A2).map zm) none false]⟩):Is cx (.loop 80 [0,1,0,1,1,1,1,1] 0 [vi r,.t (.sl 3 (ins.map zr)),.t box,.ptr 0 0 0,.ptr 1 0 0,.ptr 2 0 0,.t (.sl 1 (P.map ti)),vi (i)] [.one 5 (.t c.enc) false,.one 2 (.agg [vi 0,.fit 9 []]) false,.one 9 (mkV c r f (made) (.all 3 none)) false,.arr 9 ((A).map zm) none false])
   ⟨.exit 0,[vi r,.t (.sl 3 (ins.map zr)),.t box,.ptr 0 0 0,.ptr 1 0 0,.ptr 2 0 0,.t (.sl 1 (P.map ti)),vi P.length],[.one 5 (.t c.enc) false,.one 2 (.agg [vi 0,.fit 9 []]) false,.one 9 (mkV c r f (made2) (.all 3 none)) false,.arr 9 ((A2).map zm) none false]⟩:=by
 refine qq ?_
 refine gg [.n (zq (zz ti P)) (zq P),.b (decide ((i:Int)<(↑(zq P):Int))) true,.w (0≤(i:Int)),.n (zy (i:Int)) i,.g (zz ti P) i (ti (gt P i)),.a _ _,.b (flats [ti (k:Int)]) true,.w (0≤(i:Int)),.n (zy (i:Int)) i,.g (zz ti P) i (ti (gt P i)),.w (0≤(k:Int)),.n (zy (k:Int)) k,.w (k<zq (zz zm A)),.g (zz zm A) k (zm (gt A k)),.i zd (gt P i-1) (gt P i-1),.w (0≤gt P i-(1:Int))] ⟨o_n (by simp),tP,oW,nK,o_gt rfl (by assumption) (by intro h;cases h),o_a hF,bK,oW,nK,o_gt rfl (by assumption) (by intro h;cases h),oW,nK,o_w (by (simp;omega)),o_gt rfl (by assumption) (by intro h;cases h),oI,oW,trivial⟩ ?_
 refine gg [.l (zy (gt P i-1)),.g (zz zr ins) (zy (gt P i-1)) (zr (gt ins (zy (gt P i-1))))] ⟨oT,trivial⟩ ?_
 refine bO ?_ ?_
 all_goals
  refine gg [.a _ _,.a _ _,.b (flats [T.bool false]) true,.ff,.ff,.ff,.ff,.w (0≤(k:Int)),.n (zy (k:Int)) k,.w (k<zq (zz zm A)),.w (k<zq (zz zm A)),.t (qk 0 (zx (zz zm A) k (zm E))) (qk 0 (zz zm (zx A k E))),.ff,.ff,.ff,.i zd ((i:Int)+1) ((↑(i+1):Int))] ⟨o_a hS,o_a hrm,bK,oW,nK,o_w (by (simp;omega)),o_w (by (simp;omega)),o_l (Aal rfl rfl),oI,trivial⟩ ?_
  refine gg [.a _ _] ⟨o_a ih1,trivial⟩ ?_
  exact ge
theorem Akh (c:Config) (r f made made2:Int) (ins:List Input) (box:T) (P:List Int) (i k j:Nat) (A A2:List Entity) (E:Entity) (hP:P.length≤1000) (hlt:i<P.length) (hins:ins.length≤1000) (hAl:A.length≤1000) (hk2:k<A.length) (hj1:(gt P i-1).toNat=j) (hj2:j<ins.length) (hpp:1≤gt P i∧gt P i≤1000) (hF:Fn cx 100 [.sl 9 (A.map zm),ti (gt P i)] (ti (k:Int))) (hS:Is cx (.call 134 [.t (gt A k).enc,.t (gt ins (gt P i-1).toNat).enc] []) ⟨.ret,[.t E.enc,vb true],[]⟩) (hrm:Fn cx 135 [.ip 9 (mkT c r f A made) 0] (.bool false))
  (ih1:Is cx (.loop 80 [0,1,0,1,1,1,1,1] 0 [vi r,.t (.sl 3 (ins.map zr)),.t box,.ptr 0 0 0,.ptr 1 0 0,.ptr 2 0 0,.t (.sl 1 (P.map ti)),vi ((i+1:Nat))] [.one 5 (.t c.enc) false,.one 2 (.agg [vi 0,.fit 9 []]) false,.one 9 (mkV c r f (made) (.all 3 none)) false,.arr 9 ((A.set k {E with age:=0}).map zm) none false])
   ⟨.exit 0,[vi r,.t (.sl 3 (ins.map zr)),.t box,.ptr 0 0 0,.ptr 1 0 0,.ptr 2 0 0,.t (.sl 1 (P.map ti)),vi P.length],[.one 5 (.t c.enc) false,.one 2 (.agg [vi 0,.fit 9 []]) false,.one 9 (mkV c r f (made2) (.all 3 none)) false,.arr 9 ((A2).map zm) none false]⟩):Is cx (.loop 80 [0,1,0,1,1,1,1,1] 0 [vi r,.t (.sl 3 (ins.map zr)),.t box,.ptr 0 0 0,.ptr 1 0 0,.ptr 2 0 0,.t (.sl 1 (P.map ti)),vi (i)] [.one 5 (.t c.enc) false,.one 2 (.agg [vi 0,.fit 9 []]) false,.one 9 (mkV c r f (made) (.all 3 none)) false,.arr 9 ((A).map zm) none false])
   ⟨.exit 0,[vi r,.t (.sl 3 (ins.map zr)),.t box,.ptr 0 0 0,.ptr 1 0 0,.ptr 2 0 0,.t (.sl 1 (P.map ti)),vi P.length],[.one 5 (.t c.enc) false,.one 2 (.agg [vi 0,.fit 9 []]) false,.one 9 (mkV c r f (made2) (.all 3 none)) false,.arr 9 ((A2).map zm) none false]⟩:=by
 refine qq ?_
 refine gg [.n (zq (zz ti P)) (zq P),.b (decide ((i:Int)<(↑(zq P):Int))) true,.w (0≤(i:Int)),.n (zy (i:Int)) i,.g (zz ti P) i (ti (gt P i)),.a _ _,.b (flats [ti (k:Int)]) true,.w (0≤(i:Int)),.n (zy (i:Int)) i,.g (zz ti P) i (ti (gt P i)),.w (0≤(k:Int)),.n (zy (k:Int)) k,.w (k<zq (zz zm A)),.g (zz zm A) k (zm (gt A k)),.i zd (gt P i-1) (gt P i-1),.w (0≤gt P i-(1:Int))] ⟨o_n (by simp),tP,oW,nK,o_gt rfl (by assumption) (by intro h;cases h),o_a hF,bK,oW,nK,o_gt rfl (by assumption) (by intro h;cases h),oW,nK,o_w (by (simp;omega)),o_gt rfl (by assumption) (by intro h;cases h),oI,oW,trivial⟩ ?_
 refine gg [.l (zy (gt P i-1)),.g (zz zr ins) (zy (gt P i-1)) (zr (gt ins (zy (gt P i-1))))] ⟨oT,trivial⟩ ?_
 refine bO ?_ ?_
 all_goals
  refine gg [.a _ _,.a _ _,.b (flats [T.bool false]) true,.tt,.tt,.tt,.b (!false) true,.w (0≤(k:Int)),.n (zy (k:Int)) k,.w (k<zq (zz zm A)),.w (k<zq (zz zm A)),.t (qk 0 (zx (zz zm A) k (T.agg [ti E.id,ti E.kind,ti E.x,ti E.y,ti E.vx,ti E.vy,ti E.health,ti 0,ti E.owner]))) (qk 0 (zz zm (zx A k (qw E.id E.kind E.x E.y E.vx E.vy E.health 0 E.owner)))),.tt,.tt,.ff,.i zd ((i:Int)+1) ((↑(i+1):Int))] ⟨o_a hS,o_a hrm,bK,bK,oW,nK,o_w (by (simp;omega)),o_w (by (simp;omega)),o_l (Aal (e:=qw E.id E.kind E.x E.y E.vx E.vy E.health 0 E.owner) rfl rfl),oI,trivial⟩ ?_
  refine gg [.a _ _] ⟨o_a ih1,trivial⟩ ?_
  exact ge
theorem AkN (c:Config) (r f made made2:Int) (ins:List Input) (box:T) (P:List Int) (i k j:Nat) (A A2:List Entity) (E:Entity) (hP:P.length≤1000) (hlt:i<P.length) (hins:ins.length≤1000) (hAl:A.length≤1000) (hk2:k<A.length) (hj1:(gt P i-1).toNat=j) (hj2:j<ins.length) (hpp:1≤gt P i∧gt P i≤1000) (hF:Fn cx 100 [.sl 9 (A.map zm),ti (gt P i)] (ti (k:Int))) (nn:Int) (sh:Entity) (hS:Is cx (.call 134 [.t (gt A k).enc,.t (gt ins (gt P i-1).toNat).enc] []) ⟨.ret,[.t E.enc,vb true],[]⟩) (hrm:Fn cx 135 [.ip 9 (mkT c r f A made) 0] (.bool true)) (hr:0≤r∧r≤16) (hf:0≤f∧f≤10000) (hm:0≤made∧made≤1000)
  (hnx:Is cx (.call 137 [.ptr 0 0 0] [.one 9 (mkV c r f made (.all 1 none)) false,.arr 9 ((A.set k E).map zm) none false]) ⟨.ret,[vi nn],[.one 9 (mkV c r f (made+1) (.all 1 none)) false,.arr 9 ((A.set k E).map zm) none false]⟩)
  (hsh:Fn cx 136 [E.enc,(gt ins (gt P i-1).toNat).enc,ti nn] sh.enc)
  (ih1:Is cx (.loop 80 [0,1,0,1,1,1,1,1] 0 [vi r,.t (.sl 3 (ins.map zr)),.t box,.ptr 0 0 0,.ptr 1 0 0,.ptr 2 0 0,.t (.sl 1 (P.map ti)),vi ((i+1:Nat))] [.one 5 (.t c.enc) false,.one 2 (.agg [vi 0,.fit 9 []]) false,.one 9 (mkV c r f (made+1) (.all 3 none)) false,.arr 9 ((put1 (A.set k E) sh).map zm) none false])
   ⟨.exit 0,[vi r,.t (.sl 3 (ins.map zr)),.t box,.ptr 0 0 0,.ptr 1 0 0,.ptr 2 0 0,.t (.sl 1 (P.map ti)),vi P.length],[.one 5 (.t c.enc) false,.one 2 (.agg [vi 0,.fit 9 []]) false,.one 9 (mkV c r f (made2) (.all 3 none)) false,.arr 9 ((A2).map zm) none false]⟩):Is cx (.loop 80 [0,1,0,1,1,1,1,1] 0 [vi r,.t (.sl 3 (ins.map zr)),.t box,.ptr 0 0 0,.ptr 1 0 0,.ptr 2 0 0,.t (.sl 1 (P.map ti)),vi (i)] [.one 5 (.t c.enc) false,.one 2 (.agg [vi 0,.fit 9 []]) false,.one 9 (mkV c r f (made) (.all 3 none)) false,.arr 9 ((A).map zm) none false])
   ⟨.exit 0,[vi r,.t (.sl 3 (ins.map zr)),.t box,.ptr 0 0 0,.ptr 1 0 0,.ptr 2 0 0,.t (.sl 1 (P.map ti)),vi P.length],[.one 5 (.t c.enc) false,.one 2 (.agg [vi 0,.fit 9 []]) false,.one 9 (mkV c r f (made2) (.all 3 none)) false,.arr 9 ((A2).map zm) none false]⟩:=by
 have hBl:(A.set k E).length=A.length:=by simp
 have hput:=AaD (A.set k E) sh (by unfold small;omega)
 generalize put1 (A.set k E) sh=B at*
 refine qq ?_
 refine gg [.n (zq (zz ti P)) (zq P),.b (decide ((i:Int)<(↑(zq P):Int))) true,.w (0≤(i:Int)),.n (zy (i:Int)) i,.g (zz ti P) i (ti (gt P i)),.a _ _,.b (flats [ti (k:Int)]) true,.w (0≤(i:Int)),.n (zy (i:Int)) i,.g (zz ti P) i (ti (gt P i)),.w (0≤(k:Int)),.n (zy (k:Int)) k,.w (k<zq (zz zm A)),.g (zz zm A) k (zm (gt A k)),.i zd (gt P i-1) (gt P i-1),.w (0≤gt P i-(1:Int))] ⟨o_n (by simp),tP,oW,nK,o_gt rfl (by assumption) (by intro h;cases h),o_a hF,bK,oW,nK,o_gt rfl (by assumption) (by intro h;cases h),oW,nK,o_w (by (simp;omega)),o_gt rfl (by assumption) (by intro h;cases h),oI,oW,trivial⟩ ?_
 refine gg [.l (zy (gt P i-1)),.g (zz zr ins) (zy (gt P i-1)) (zr (gt ins (zy (gt P i-1))))] ⟨oT,trivial⟩ ?_
 refine bO ?_ ?_
 all_goals
  refine gg [.a _ _,.a _ _,.b (flats [T.bool true]) true,.tt,.tt,.tt,.b (!true) false,.w (0≤(k:Int)),.n (zy (k:Int)) k,.w (k<zq (zz zm A)),.w (k<zq (zz zm A)),.t (qk 0 (zx (zz zm A) k (zm E))) (qk 0 (zz zm (zx A k E))),.tt,.tt,.tt,.w (0≤(i:Int))] ⟨o_a hS,o_a hrm,bK,bK,oW,nK,o_w (by (simp;omega)),o_w (by (simp;omega)),o_l (Aal rfl rfl),oW,trivial⟩ ?_
  refine gg [.n (zy (i:Int)) i,.g (zz ti P) i (ti (gt P i))] ⟨nK,o_gt rfl (by assumption) (by intro h;cases h),trivial⟩ ?_
  refine bO ?_ ?_
  ·refine bO ?_ ?_
   ·refine bO ?_ ?_
    ·refine gg [.i zd (gt P i-1) (gt P i-1),.w (0≤gt P i-(1:Int)),.l (zy (gt P i-1)),.g (zz zr ins) (zy (gt P i-1)) (zr (gt ins (zy (gt P i-1))))] ⟨oI,oW,oT,trivial⟩ ?_
     refine bO ?_ ?_
     all_goals
      refine gg [.a _ _,.a _ _,.a _ _,.i zd ((i:Int)+1) ((↑(i+1):Int)),.a _ _] ⟨o_a hnx,o_a hsh,o_a hput,oI,o_a ih1,trivial⟩ ?_
      exact ge
    ·refine gg [.a _ _,.i zd (gt P i-1) (gt P i-1),.w (0≤gt P i-(1:Int)),.l (zy (gt P i-1)),.g (zz zr ins) (zy (gt P i-1)) (zr (gt ins (zy (gt P i-1)))),.a _ _,.a _ _,.i zd ((i:Int)+1) ((↑(i+1):Int)),.a _ _] ⟨o_a hnx,oI,oW,oT,o_a hsh,o_a hput,oI,o_a ih1,trivial⟩ ?_
     exact ge
   ·refine bO ?_ ?_
    ·refine gg [.i zd (gt P i-1) (gt P i-1),.w (0≤gt P i-(1:Int)),.l (zy (gt P i-1)),.g (zz zr ins) (zy (gt P i-1)) (zr (gt ins (zy (gt P i-1))))] ⟨oI,oW,oT,trivial⟩ ?_
     refine bO (bO ?_ ?_) (bO (bO ?_ ?_) ?_)
     all_goals
      refine gg [.a _ _,.a _ _,.a _ _,.i zd ((i:Int)+1) ((↑(i+1):Int)),.a _ _] ⟨o_a hnx,o_a hsh,o_a hput,oI,o_a ih1,trivial⟩ ?_
      exact ge
    ·refine gg [.a _ _,.i zd (gt P i-1) (gt P i-1),.w (0≤gt P i-(1:Int)),.l (zy (gt P i-1)),.g (zz zr ins) (zy (gt P i-1)) (zr (gt ins (zy (gt P i-1)))),.a _ _,.a _ _,.i zd ((i:Int)+1) ((↑(i+1):Int)),.a _ _] ⟨o_a hnx,oI,oW,oT,o_a hsh,o_a hput,oI,o_a ih1,trivial⟩ ?_
     exact ge
  ·refine bO ?_ ?_
   ·refine bO ?_ ?_
    ·refine bO ?_ ?_
     ·refine gg [.i zd (gt P i-1) (gt P i-1),.w (0≤gt P i-(1:Int)),.l (zy (gt P i-1)),.g (zz zr ins) (zy (gt P i-1)) (zr (gt ins (zy (gt P i-1))))] ⟨oI,oW,oT,trivial⟩ ?_
      refine bO ?_ ?_
      all_goals
       refine gg [.a _ _,.a _ _,.a _ _,.i zd ((i:Int)+1) ((↑(i+1):Int)),.a _ _] ⟨o_a hnx,o_a hsh,o_a hput,oI,o_a ih1,trivial⟩ ?_
       exact ge
     ·refine gg [.a _ _,.i zd (gt P i-1) (gt P i-1),.w (0≤gt P i-(1:Int)),.l (zy (gt P i-1)),.g (zz zr ins) (zy (gt P i-1)) (zr (gt ins (zy (gt P i-1)))),.a _ _,.a _ _,.i zd ((i:Int)+1) ((↑(i+1):Int)),.a _ _] ⟨o_a hnx,oI,oW,oT,o_a hsh,o_a hput,oI,o_a ih1,trivial⟩ ?_
      exact ge
    ·refine bO ?_ ?_
     ·refine gg [.i zd (gt P i-1) (gt P i-1),.w (0≤gt P i-(1:Int)),.l (zy (gt P i-1)),.g (zz zr ins) (zy (gt P i-1)) (zr (gt ins (zy (gt P i-1))))] ⟨oI,oW,oT,trivial⟩ ?_
      refine bO (bO ?_ ?_) (bO (bO ?_ ?_) ?_)
      all_goals
       refine gg [.a _ _,.a _ _,.a _ _,.i zd ((i:Int)+1) ((↑(i+1):Int)),.a _ _] ⟨o_a hnx,o_a hsh,o_a hput,oI,o_a ih1,trivial⟩ ?_
       exact ge
     ·refine gg [.a _ _,.i zd (gt P i-1) (gt P i-1),.w (0≤gt P i-(1:Int)),.l (zy (gt P i-1)),.g (zz zr ins) (zy (gt P i-1)) (zr (gt ins (zy (gt P i-1)))),.a _ _,.a _ _,.i zd ((i:Int)+1) ((↑(i+1):Int)),.a _ _] ⟨o_a hnx,oI,oW,oT,o_a hsh,o_a hput,oI,o_a ih1,trivial⟩ ?_
      exact ge
   ·refine bO ?_ ?_
    ·refine gg [.i zd (gt P i-1) (gt P i-1),.w (0≤gt P i-(1:Int)),.l (zy (gt P i-1)),.g (zz zr ins) (zy (gt P i-1)) (zr (gt ins (zy (gt P i-1))))] ⟨oI,oW,oT,trivial⟩ ?_
     refine bO (bO (bO ?_ ?_) (bO (bO ?_ ?_) ?_)) (bO (bO (bO ?_ ?_) (bO (bO ?_ ?_) ?_)) (bO (bO (bO ?_ ?_) (bO (bO ?_ ?_) ?_)) ?_))
     all_goals
      refine gg [.a _ _,.a _ _,.a _ _,.i zd ((i:Int)+1) ((↑(i+1):Int)),.a _ _] ⟨o_a hnx,o_a hsh,o_a hput,oI,o_a ih1,trivial⟩ ?_
      exact ge
    ·refine gg [.a _ _,.i zd (gt P i-1) (gt P i-1),.w (0≤gt P i-(1:Int)),.l (zy (gt P i-1)),.g (zz zr ins) (zy (gt P i-1)) (zr (gt ins (zy (gt P i-1)))),.a _ _,.a _ _,.i zd ((i:Int)+1) ((↑(i+1):Int)),.a _ _] ⟨o_a hnx,oI,oW,oT,o_a hsh,o_a hput,oI,o_a ih1,trivial⟩ ?_
     exact ge
theorem Ad7 (c:Config) (r f:Int) (ins:List Input) (box:T) (hr:c.is r=true) (hf:0≤f∧f<10000) (hlen:(ins.length:Int)=c.players) (hok: ∀x∈ins,x.right=true) (P:List Int) (hP:P.length≤1000): ∀(d i:Nat) (A:List Entity) (made:Int) (R:List Entity),i+d=P.length→P.drop i=R.map Entity.id→(∀p∈R,p∈A∧p.kind=1)→Srt R→Steer c r ⟨A,made,[]⟩→
  Is cx (.loop 80 [0,1,0,1,1,1,1,1] 0 [vi r,.t (.sl 3 (ins.map zr)),.t box,.ptr 0 0 0,.ptr 1 0 0,.ptr 2 0 0,.t (.sl 1 (P.map ti)),vi (i)] [.one 5 (.t c.enc) false,.one 2 (.agg [vi 0,.fit 9 []]) false,.one 9 (mkV c r f (made) (.all 3 none)) false,.arr 9 ((A).map zm) none false])
   ⟨.exit 0,[vi r,.t (.sl 3 (ins.map zr)),.t box,.ptr 0 0 0,.ptr 1 0 0,.ptr 2 0 0,.t (.sl 1 (P.map ti)),vi P.length],[.one 5 (.t c.enc) false,.one 2 (.agg [vi 0,.fit 9 []]) false,.one 9 (mkV c r f ((R.foldl (steer1 c r f ins) ⟨A,made,[]⟩).made) (.all 3 none)) false,.arr 9 (((R.foldl (steer1 c r f ins) ⟨A,made,[]⟩).l).map zm) none false]⟩:=by
 have hrl:=Config.is_le hr
 have hgl:= @Config.regions_le c
 have hcr:=Config.is_right hr
 have hci:=Config.right_iff.1 hcr
 intro d
 induction d with
 |zero=>
  intro i A made R hi hR hm hs hst
  have hq:i=P.length:=by omega
  subst hq
  rw [Aac (Nat.le_refl _)] at hR
  have:R= []:=by simpa using hR.symm
  subst this
  rw [List.foldl_nil]
  refine qq ?_
  refine gg [.n (zq (zz ti P)) (zq P),.b (decide ((↑(zq P):Int)<(↑(zq P):Int))) false] ⟨o_n (by simp),fP,trivial⟩ ?_
  exact ge
 |succ d ih=>
  intro i A made R hi hR hm hs hst
  have hlt:i<P.length:=by omega
  rw [Aae hlt] at hR
  cases R with
  |nil=>simp at hR
  |cons p R=>
  simp only [List.map_cons,List.cons.injEq] at hR
  obtain ⟨hpi,hR⟩:=hR
  obtain ⟨hpA,hpk⟩:=hm p (List.mem_cons_self ..)
  have hpr:=(hst.sane.ents p hpA).1
  have hpp:=Entity.right_player hpr hpk
  have hage:=AfQ hpr
  obtain ⟨hs1,hs2⟩:=List.pairwise_cons.1 hs
  have hin:(inAt ins p.id).right=true:=hok _ (Aa3 (by omega))
  have hnext:=Ais (f:=f) (ins:=ins) hst hr hf hpA fun _=>hin
  have hplain:=Amu (f:=f) (ins:=ins) hst hr hf hpA hpk
  rw [List.foldl_cons]
  have ih1:=ih (i+1) (steer1 c r f ins ⟨A,made,[]⟩ p).l (steer1 c r f ins ⟨A,made,[]⟩ p).made R (by omega) hR (fun q hq=>⟨hnext.2.1 q (hm q (List.mem_cons_of_mem _ hq)).1 (by have:=hs1 q hq;omega),(hm q (List.mem_cons_of_mem _ hq)).2⟩) hs2 (by
   have h1:=hnext.1
   have h2:=hnext.2.2
   generalize steer1 c r f ins ⟨A,made,[]⟩ p=S at*
   obtain ⟨a,b,o⟩:=S
   exact ⟨h1.sane,h1.made⟩)
  have hout:steer1 c r f ins ⟨A,made,[]⟩ p=⟨(steer1 c r f ins ⟨A,made,[]⟩ p).l,(steer1 c r f ins ⟨A,made,[]⟩ p).made,[]⟩:=by
   have h2:=hnext.2.2
   generalize steer1 c r f ins ⟨A,made,[]⟩ p=S at*
   obtain ⟨a,b,o⟩:=S
   simp only at h2
   rw [h2]
  rw [←hout] at ih1
  have hAl:=hst.sane.len hcr
  simp only at hAl
  have hmade:=hst.made
  simp only at hmade
  obtain ⟨k,hk1,hk2,hk3⟩:=Afq hst.sane.srt hpA
  simp only at hk1 hk2 hk3
  have hF:=Abv A p.id (by unfold small;omega)
  rw [hk1] at hF
  have hS:=Agl p (inAt ins p.id) (by omega)
  have hSid:= @AcD p (inAt ins p.id)
  have hrm:=AcI c r f ⟨A,made,[]⟩ (by unfold small;simp only;omega)
  rw [←hplain] at ih1⊢
  unfold refP at ih1⊢
  clear ih hplain hout hnext hin hs hs1 hs2 hm hok hst
  have hj: ∃j:Nat,(p.id-1).toNat=j∧j<ins.length:=⟨_,rfl,by omega⟩
  unfold inAt at hS hSid ih1⊢
  rw [←hk3] at hS ih1⊢hpi hpp hj hF hk1 hSid
  rw [←hpi] at hS ih1⊢hpp hj hF hk1 hSid
  obtain ⟨j,hj1,hj2⟩:=hj
  cases hb:(steerE (gt A k) (gt ins (gt P i-1).toNat)).2 with
  |false=>
   rw [hb] at hS ih1
   simp only [Bool.false_eq_true,if_false] at ih1⊢
   unfold setId at ih1⊢
   rw [hk1,Int.toNat_natCast] at ih1⊢
   cases hroom:Stg.room ⟨A,made,[]⟩ with
   |true=>
    rw [hroom] at hrm
    exact AjL c r f made _ ins box P i k j A _ _ hP hlt (by omega) (by omega) hk2 hj1 hj2 (by omega) hF hS hrm ih1
   |false=>
    rw [hroom] at hrm
    exact AjX c r f made _ ins box P i k j A _ _ hP hlt (by omega) (by omega) hk2 hj1 hj2 (by omega) hF hS hrm ih1
  |true=>
   rw [hb] at hS ih1
   simp only [if_true] at ih1⊢
   cases hroom:Stg.room ⟨A,made,[]⟩ with
   |false=>
    rw [hroom] at hrm ih1
    simp only [Bool.false_eq_true,if_false] at ih1⊢
    unfold setId at ih1⊢
    rw [hk1,Int.toNat_natCast] at ih1⊢
    exact Akh c r f made _ ins box P i k j A _ _ hP hlt (by omega) (by omega) hk2 hj1 hj2 (by omega) hF hS hrm ih1
   |true=>
    rw [hroom] at hrm ih1
    simp only [if_true] at ih1⊢
    unfold setId at ih1⊢
    rw [hk1,Int.toNat_natCast] at ih1⊢
    have hnx:=AcC c r f made (A.set k (steerE (gt A k) (gt ins (gt P i-1).toNat)).1) (by omega) (by omega) (by omega)
    have hsh:=Agm (steerE (gt A k) (gt ins (gt P i-1).toNat)).1 (gt ins (gt P i-1).toNat) (numI c r f made)
    exact AkN c r f made _ ins box P i k j A _ _ hP hlt (by omega) (by omega) hk2 hj1 hj2 (by omega) hF _ _ hS hrm (by omega) (by omega) (by omega) hnx hsh ih1
end Go.Eva.S4
namespace Go.Eva.S4
theorem Aos {c:Config} {l:List Entity} {i:Nat} (h:i<l.length):moveL c (l.drop i)=(if (goE c (gt l i)).2=true then [(goE c (gt l i)).1] else [])++moveL c (l.drop (i+1)):=by
 rw [Aae h]
 unfold moveL
 rw [List.filter_cons]
 split<;>simp
theorem AdV (c:Config) (r f made:Int) (box:T) (l:List Entity) (hl:l.length≤1000) (ha: ∀e∈l,-1000000≤e.age∧e.age≤1000000): ∀(d i:Nat) (A:List Entity),i+d=l.length→A.length≤i→
  Is cx (.loop 80 [0,1,0,1,1,1,1,1,1,1] 0 [vi r,.t box,.ptr 0 0 0,.ptr 1 0 0,.ptr 2 0 0,.all 3 none,vi (i)] [.one 5 (.t c.enc) false,.one 2 (.agg [vi 0,.fit 9 []]) false,.one 9 (mkV c r f made (.all 4 none)) false,.arr 9 ((A).map zm) none false,.arr 9 ((l).map zm) none false])
   ⟨.exit 2,[vi r,.t box,.ptr 0 0 0,.ptr 1 0 0,.ptr 2 0 0,.all 3 none,vi l.length],[.one 5 (.t c.enc) false,.one 2 (.agg [vi 0,.fit 9 []]) false,.one 9 (mkV c r f made (.all 4 none)) false,.arr 9 ((A++moveL c (l.drop i)).map zm) none false,.arr 9 ((l).map zm) none false]⟩:=by
 intro d
 induction d with
 |zero=>
  intro i A hi hA
  rw [Aac (by omega)]
  refine qq ?_
  refine gg [.n (zq (zz zm l)) (zq l),.b (decide ((i:Int)<(↑(zq l):Int))) false] ⟨o_n (by simp),fP,trivial⟩ ?_
  refine rT (a:=qz (qx 2) [vi r,V.t box,V.ptr 0 0 0,V.ptr 1 0 0,V.ptr 2 0 0,qy 3 none,vi (i:Int)] [qg 5 (V.t (Config.enc c)) false,qg 2 (V.agg [vi 0,V.fit 9 []]) false,qg 9 (V.agg [vi c.cols,vi c.rows,vi c.players,vi c.window,V.t (T.int zf c.seed),vi r,vi f,qy 4 none,vi made]) false,qv 9 (zz zm A) none false,qv 9 (zz zm l) none false]) ?_
  ((have hq:i=l.length:=by omega);subst hq;simp [moveL])
 |succ d ih=>
  intro i A hi hA
  have hlt:i<l.length:=by omega
  have hG:=Aie c (gt l i) (ha _ (Aa3 hlt))
  rw [Aos hlt]
  cases hb:(goE c (gt l i)).2 with
  |true=>
   rw [hb] at hG
   have ih1:=ih (i+1) (A++ [(goE c (gt l i)).1]) (by omega) (by simp;omega)
   rw [List.append_assoc] at ih1
   clear ih
   generalize moveL c (l.drop (i+1))=X at*
   generalize (goE c (gt l i)).1=E at*
   simp only [if_true]
   refine qq ?_
   refine gg [.n (zq (zz zm l)) (zq l),.b (decide ((i:Int)<(↑(zq l):Int))) true,.w (0≤(i:Int)),.n (zy (i:Int)) i,.w (i<zq (zz zm l)),.g (zz zm l) i (zm (gt l i))] ⟨o_n (by simp),tP,oW,nK,o_w (by (simp;omega)),o_gt rfl (by assumption) (by intro h;cases h),trivial⟩ ?_
   refine bO ?_ ?_
   all_goals
    refine gg [.a _ _,.tt,.w ((0:Nat)<(72:Nat)),.t (qk 0 [zm E]) (qk 0 (zz zm [E])),.t (qk 0 (zz zm A++zz zm [E])) (qk 0 (zz zm (A++ [E]))),.w (room (zq (zz zm (A++ [E]))) (72:Nat)),.i zd ((i:Int)+1) ((↑(i+1):Int)),.a _ _] ⟨o_a hG,oW,o_l (Aaf rfl Aap),o_l (Aam rfl rfl),o_w (by (simp [room,appendMax];omega)),oI,o_a ih1,trivial⟩ ?_
    exact ge
  |false=>
   rw [hb] at hG
   have ih1:=ih (i+1) A (by omega) (by omega)
   clear ih
   generalize moveL c (l.drop (i+1))=X at*
   generalize (goE c (gt l i)).1=E at*
   simp only [Bool.false_eq_true,if_false,List.nil_append]
   refine qq ?_
   refine gg [.n (zq (zz zm l)) (zq l),.b (decide ((i:Int)<(↑(zq l):Int))) true,.w (0≤(i:Int)),.n (zy (i:Int)) i,.w (i<zq (zz zm l)),.g (zz zm l) i (zm (gt l i))] ⟨o_n (by simp),tP,oW,nK,o_w (by (simp;omega)),o_gt rfl (by assumption) (by intro h;cases h),trivial⟩ ?_
   refine bO ?_ ?_
   all_goals
    refine gg [.a _ _,.ff,.i zd ((i:Int)+1) ((↑(i+1):Int)),.a _ _] ⟨o_a hG,oI,o_a ih1,trivial⟩ ?_
    exact ge
end Go.Eva.S4
namespace Go.Eva.S4
def blastB (r f q:Int) (e:Entity):Cross:=⟨2,r,q,f,Entity.zero,e.x,e.y⟩
theorem AbH (c:Config) (r f made:Int) (A:List Entity) (k:Nat) (ids near:List Int) (i:Nat) (hk:k<A.length) (hA:A.length≤1000) (hids:ids.length≤1000) (hn:near.length≤9): ∀(d j:Nat) (o:List Cross),j+d=near.length→o.length≤50000+j→
  Is cx (.loop 80 [0,1,0,1,0,0,1,0,0,1,0,1,1,1,1,1,1,1,1,1,1,1,1] 0 [vi r,.ptr 0 0 0,.ptr 1 0 0,.ptr 2 0 0,.all 3 none,.all 4 none,.t (.sl 1 (near.map ti)),vi i,vi k,vi (j)] [.one 5 (.t c.enc) false,.one 2 (.agg [vi 0,.fit 9 []]) false,.one 9 (mkV c r f made (.all 5 none)) false,.arr 15 ((o).map zn) none false,.arr 1 (ids.map ti) none false,.arr 9 ((A).map zm) none false])
   ⟨.exit 6,[vi r,.ptr 0 0 0,.ptr 1 0 0,.ptr 2 0 0,.all 3 none,.all 4 none,.t (.sl 1 (near.map ti)),vi i,vi k,vi near.length],[.one 5 (.t c.enc) false,.one 2 (.agg [vi 0,.fit 9 []]) false,.one 9 (mkV c r f made (.all 5 none)) false,.arr 15 ((o++(near.drop j).map fun q=>blastB r f q (gt A k)).map zn) none false,.arr 1 (ids.map ti) none false,.arr 9 ((A).map zm) none false]⟩:=by
 intro d
 induction d with
 |zero=>
  intro j o hj ho
  rw [Aac (by omega)]
  refine qq ?_
  refine gg [.n (zq (zz ti near)) (zq near),.b (decide ((j:Int)<(↑(zq near):Int))) false] ⟨o_n (by simp),fP,trivial⟩ ?_
  refine rT (a:=qz (qx 6) [vi r,V.ptr 0 0 0,V.ptr 1 0 0,V.ptr 2 0 0,qy 3 none,qy 4 none,V.t (qk 1 (zz ti near)),vi (i:Int),vi (k:Int),vi (j:Int)] [qg 5 (V.t (Config.enc c)) false,qg 2 (V.agg [vi 0,V.fit 9 []]) false,qg 9 (V.agg [vi c.cols,vi c.rows,vi c.players,vi c.window,V.t (T.int zf c.seed),vi r,vi f,qy 5 none,vi made]) false,qv 15 (zz zn o) none false,qv 1 (zz ti ids) none false,qv 9 (zz zm A) none false]) ?_
  ((have hq:j=near.length:=by omega);subst hq;simp)
 |succ d ih=>
  intro j o hj ho
  have hlt:j<near.length:=by omega
  have ih1:=ih (j+1) (o++ [blastB r f (gt near j) (gt A k)]) (by omega) (by simp;omega)
  clear ih
  rw [Aae hlt,List.map_cons,List.append_cons]
  unfold blastB at ih1⊢
  unfold Entity.zero at*
  refine qq ?_
  refine gg [.n (zq (zz ti near)) (zq near),.b (decide ((j:Int)<(↑(zq near):Int))) true,.w (0≤(j:Int)),.n (zy (j:Int)) j,.g (zz ti near) j (ti (gt near j)),.w (0≤(k:Int)),.n (zy (k:Int)) k,.w (k<zq (zz zm A)),.g (zz zm A) k (zm (gt A k)),.w (0≤(k:Int)),.n (zy (k:Int)) k,.w (k<zq (zz zm A)),.g (zz zm A) k (zm (gt A k)),.w ((0:Nat)<(120:Nat)),.s (qk 0 [T.agg [ti 2,ti r,ti (gt near j),ti f,ti 0,ti 0,ti 0,ti 0,ti 0,ti 0,ti 0,ti 0,ti 0,ti (gt A k).x,ti (gt A k).y]]),.t (qk 0 (zz zn o++ [T.agg [ti 2,ti r,ti (gt near j),ti f,ti 0,ti 0,ti 0,ti 0,ti 0,ti 0,ti 0,ti 0,ti 0,ti (gt A k).x,ti (gt A k).y]])) (qk 0 (zz zn (o++ [Cross.mk 2 r (gt near j) f (qw 0 0 0 0 0 0 0 0 0) (gt A k).x (gt A k).y])))] ⟨o_n (by simp),tP,oW,nK,o_gt rfl (by assumption) (by intro h;cases h),oW,nK,o_w (by (simp;omega)),o_gt rfl (by assumption) (by intro h;cases h),oW,nK,o_w (by (simp;omega)),o_gt rfl (by assumption) (by intro h;cases h),oW,o_l (Aam rfl (Aaf (e:=Cross.mk 2 r (gt near j) f (qw 0 0 0 0 0 0 0 0 0) (gt A k).x (gt A k).y) rfl Aap)),trivial⟩ ?_
  refine gg [.w (room (zq (zz zn (o++ [Cross.mk (2:Int) r (gt near j) f (qw (0:Int) (0:Int) (0:Int) (0:Int) (0:Int) (0:Int) (0:Int) (0:Int) (0:Int)) (gt A k).x (gt A k).y]))) (120:Nat)),.i zd ((j:Int)+1) ((↑(j+1):Int)),.a _ _] ⟨o_w (by (simp [room,appendMax];omega)),oI,o_a ih1,trivial⟩ ?_
  exact ge
theorem Aj1 (c:Config) (r f made:Int) (ids near:List Int) (hids:ids.length≤1000) (hn:near.length≤9) (i k:Nat) (A A2:List Entity) (o o2 bl:List Cross) (x y:Int) (hlt:i<ids.length) (hA:A.length≤1000) (hk2:k<A.length) (ho:o.length≤20000)
  (hF:Fn cx 100 [.sl 9 (A.map zm),ti (gt ids i)] (ti (k:Int)))
  (hB:Is cx (.loop 80 [0,1,0,1,0,0,1,0,0,1,0,1,1,1,1,1,1,1,1,1,1,1,1] 0 [vi r,.ptr 0 0 0,.ptr 1 0 0,.ptr 2 0 0,.all 3 none,.all 4 none,.t (.sl 1 (near.map ti)),vi i,vi k,vi ((0:Nat))] [.one 5 (.t c.enc) false,.one 2 (.agg [vi 0,.fit 9 []]) false,.one 9 (mkV c r f made (.all 5 none)) false,.arr 15 ((o).map zn) none false,.arr 1 (ids.map ti) none false,.arr 9 ((A).map zm) none false])
   ⟨.exit 6,[vi r,.ptr 0 0 0,.ptr 1 0 0,.ptr 2 0 0,.all 3 none,.all 4 none,.t (.sl 1 (near.map ti)),vi i,vi k,vi near.length],[.one 5 (.t c.enc) false,.one 2 (.agg [vi 0,.fit 9 []]) false,.one 9 (mkV c r f made (.all 5 none)) false,.arr 15 ((o++bl).map zn) none false,.arr 1 (ids.map ti) none false,.arr 9 ((A).map zm) none false]⟩)
  (hpl:Is cx (.call 143 [.t (.ip 9 (mkT c r f (A.set k {gt A k with health:=100,vx:=0,vy:=0,age:=0}) made) 0),vi 1,vi 2,vi (gt ids i)] []) ⟨.ret,[vi x,vi y],[]⟩)
  (ih1:Is cx (.loop 80 [0,1,0,1,1,1,1,1,1,1,1,1,1,1,1] 0 [vi r,.ptr 0 0 0,.ptr 1 0 0,.ptr 2 0 0,.all 3 none,.all 4 none,.t (.sl 1 (near.map ti)),vi ((i+1:Nat))] [.one 5 (.t c.enc) false,.one 2 (.agg [vi 0,.fit 9 []]) false,.one 9 (mkV c r f made (.all 5 none)) false,.arr 15 ((o++bl).map zn) none false,.arr 1 (ids.map ti) none false,.arr 9 ((A.set k {gt A k with health:=100,vx:=0,vy:=0,age:=0,x:=x,y:=y}).map zm) none false])
   ⟨.exit 4,[vi r,.ptr 0 0 0,.ptr 1 0 0,.ptr 2 0 0,.all 3 none,.all 4 none,.t (.sl 1 (near.map ti)),vi ids.length],[.one 5 (.t c.enc) false,.one 2 (.agg [vi 0,.fit 9 []]) false,.one 9 (mkV c r f made (.all 5 none)) false,.arr 15 ((o2).map zn) none false,.arr 1 (ids.map ti) none false,.arr 9 ((A2).map zm) none false]⟩):Is cx (.loop 80 [0,1,0,1,1,1,1,1,1,1,1,1,1,1,1] 0 [vi r,.ptr 0 0 0,.ptr 1 0 0,.ptr 2 0 0,.all 3 none,.all 4 none,.t (.sl 1 (near.map ti)),vi (i)] [.one 5 (.t c.enc) false,.one 2 (.agg [vi 0,.fit 9 []]) false,.one 9 (mkV c r f made (.all 5 none)) false,.arr 15 ((o).map zn) none false,.arr 1 (ids.map ti) none false,.arr 9 ((A).map zm) none false])
   ⟨.exit 4,[vi r,.ptr 0 0 0,.ptr 1 0 0,.ptr 2 0 0,.all 3 none,.all 4 none,.t (.sl 1 (near.map ti)),vi ids.length],[.one 5 (.t c.enc) false,.one 2 (.agg [vi 0,.fit 9 []]) false,.one 9 (mkV c r f made (.all 5 none)) false,.arr 15 ((o2).map zn) none false,.arr 1 (ids.map ti) none false,.arr 9 ((A2).map zm) none false]⟩:=by
 refine qq ?_
 refine gg [.n (zq (zz ti ids)) (zq ids),.b (decide ((i:Int)<(↑(zq ids):Int))) true,.w (0≤(i:Int)),.n (zy (i:Int)) i,.w (i<zq (zz ti ids)),.g (zz ti ids) i (ti (gt ids i)),.a _ _,.b (flats [ti (k:Int)]) true,.a _ _,.w (0≤(k:Int)),.n (zy (k:Int)) k,.w (k<zq (zz zm A)),.g (zz zm A) k (zm (gt A k)),.t (qk 0 (zx (zz zm A) k (T.agg [ti (gt A k).id,ti (gt A k).kind,ti (gt A k).x,ti (gt A k).y,ti (gt A k).vx,ti (gt A k).vy,ti 100,ti (gt A k).age,ti (gt A k).owner]))) (qk 0 (zz zm (zx A k (qw (gt A k).id (gt A k).kind (gt A k).x (gt A k).y (gt A k).vx (gt A k).vy 100 (gt A k).age (gt A k).owner)))),.w (0≤(k:Int)),.n (zy (k:Int)) k] ⟨o_n (by simp),tP,oW,nK,o_w (by (simp;omega)),o_gt rfl (by assumption) (by intro h;cases h),o_a hF,bK,o_a hB,oW,nK,o_w (by (simp;omega)),o_gt rfl (by assumption) (by intro h;cases h),o_l (Aal (e:=qw (gt A k).id (gt A k).kind (gt A k).x (gt A k).y (gt A k).vx (gt A k).vy 100 (gt A k).age (gt A k).owner) rfl rfl),oW,nK,trivial⟩ ?_
 refine gg [.w (k<zq (zz zm (zx A k (qw (gt A k).id (gt A k).kind (gt A k).x (gt A k).y (gt A k).vx (gt A k).vy (100:Int) (gt A k).age (gt A k).owner)))),.g (zz zm (zx A k (qw (gt A k).id (gt A k).kind (gt A k).x (gt A k).y (gt A k).vx (gt A k).vy 100 (gt A k).age (gt A k).owner))) k (zm (qw (gt A k).id (gt A k).kind (gt A k).x (gt A k).y (gt A k).vx (gt A k).vy 100 (gt A k).age (gt A k).owner)),.t (qk 0 (zx (zz zm (zx A k (qw (gt A k).id (gt A k).kind (gt A k).x (gt A k).y (gt A k).vx (gt A k).vy 100 (gt A k).age (gt A k).owner))) k (T.agg [ti (gt A k).id,ti (gt A k).kind,ti (gt A k).x,ti (gt A k).y,ti 0,ti (gt A k).vy,ti 100,ti (gt A k).age,ti (gt A k).owner]))) (qk 0 (zz zm (zx A k (qw (gt A k).id (gt A k).kind (gt A k).x (gt A k).y 0 (gt A k).vy 100 (gt A k).age (gt A k).owner)))),.w (0≤(k:Int)),.n (zy (k:Int)) k,.w (k<zq (zz zm (zx A k (qw (gt A k).id (gt A k).kind (gt A k).x (gt A k).y (0:Int) (gt A k).vy (100:Int) (gt A k).age (gt A k).owner)))),.g (zz zm (zx A k (qw (gt A k).id (gt A k).kind (gt A k).x (gt A k).y 0 (gt A k).vy 100 (gt A k).age (gt A k).owner))) k (zm (qw (gt A k).id (gt A k).kind (gt A k).x (gt A k).y 0 (gt A k).vy 100 (gt A k).age (gt A k).owner)),.t (qk 0 (zx (zz zm (zx A k (qw (gt A k).id (gt A k).kind (gt A k).x (gt A k).y 0 (gt A k).vy 100 (gt A k).age (gt A k).owner))) k (T.agg [ti (gt A k).id,ti (gt A k).kind,ti (gt A k).x,ti (gt A k).y,ti 0,ti 0,ti 100,ti (gt A k).age,ti (gt A k).owner]))) (qk 0 (zz zm (zx A k (qw (gt A k).id (gt A k).kind (gt A k).x (gt A k).y 0 0 100 (gt A k).age (gt A k).owner)))),.w (0≤(k:Int)),.n (zy (k:Int)) k,.w (k<zq (zz zm (zx A k (qw (gt A k).id (gt A k).kind (gt A k).x (gt A k).y (0:Int) (0:Int) (100:Int) (gt A k).age (gt A k).owner)))),.g (zz zm (zx A k (qw (gt A k).id (gt A k).kind (gt A k).x (gt A k).y 0 0 100 (gt A k).age (gt A k).owner))) k (zm (qw (gt A k).id (gt A k).kind (gt A k).x (gt A k).y 0 0 100 (gt A k).age (gt A k).owner)),.t (qk 0 (zx (zz zm (zx A k (qw (gt A k).id (gt A k).kind (gt A k).x (gt A k).y 0 0 100 (gt A k).age (gt A k).owner))) k (T.agg [ti (gt A k).id,ti (gt A k).kind,ti (gt A k).x,ti (gt A k).y,ti 0,ti 0,ti 100,ti 0,ti (gt A k).owner]))) (qk 0 (zz zm (zx A k (qw (gt A k).id (gt A k).kind (gt A k).x (gt A k).y 0 0 100 0 (gt A k).owner)))),.w (0≤(i:Int)),.n (zy (i:Int)) i,.w (i<zq (zz ti ids))] ⟨o_w (by (simp;omega)),o_gm rfl (AaV (by omega)) (by intro h;cases h),o_l (nm_eq (Aal (e:=qw (gt A k).id (gt A k).kind (gt A k).x (gt A k).y 0 (gt A k).vy 100 (gt A k).age (gt A k).owner) rfl rfl) (by simp)),oW,nK,o_w (by (simp;omega)),o_gm rfl (AaV (by omega)) (by intro h;cases h),o_l (nm_eq (Aal (e:=qw (gt A k).id (gt A k).kind (gt A k).x (gt A k).y 0 0 100 (gt A k).age (gt A k).owner) rfl rfl) (by simp)),oW,nK,o_w (by (simp;omega)),o_gm rfl (AaV (by omega)) (by intro h;cases h),o_l (nm_eq (Aal (e:=qw (gt A k).id (gt A k).kind (gt A k).x (gt A k).y 0 0 100 0 (gt A k).owner) rfl rfl) (by simp)),oW,nK,o_w (by (simp;omega)),trivial⟩ ?_
 refine gg [.g (zz ti ids) i (ti (gt ids i)),.a _ _,.b (flats [ti x,ti y]) true,.w (0≤(k:Int)),.n (zy (k:Int)) k,.w (k<zq (zz zm (zx A k (qw (gt A k).id (gt A k).kind (gt A k).x (gt A k).y (0:Int) (0:Int) (100:Int) (0:Int) (gt A k).owner)))),.g (zz zm (zx A k (qw (gt A k).id (gt A k).kind (gt A k).x (gt A k).y 0 0 100 0 (gt A k).owner))) k (zm (qw (gt A k).id (gt A k).kind (gt A k).x (gt A k).y 0 0 100 0 (gt A k).owner)),.t (qk 0 (zx (zz zm (zx A k (qw (gt A k).id (gt A k).kind (gt A k).x (gt A k).y 0 0 100 0 (gt A k).owner))) k (T.agg [ti (gt A k).id,ti (gt A k).kind,ti x,ti (gt A k).y,ti 0,ti 0,ti 100,ti 0,ti (gt A k).owner]))) (qk 0 (zz zm (zx A k (qw (gt A k).id (gt A k).kind x (gt A k).y 0 0 100 0 (gt A k).owner)))),.w (0≤(k:Int)),.n (zy (k:Int)) k,.w (k<zq (zz zm (zx A k (qw (gt A k).id (gt A k).kind x (gt A k).y (0:Int) (0:Int) (100:Int) (0:Int) (gt A k).owner)))),.g (zz zm (zx A k (qw (gt A k).id (gt A k).kind x (gt A k).y 0 0 100 0 (gt A k).owner))) k (zm (qw (gt A k).id (gt A k).kind x (gt A k).y 0 0 100 0 (gt A k).owner)),.t (qk 0 (zx (zz zm (zx A k (qw (gt A k).id (gt A k).kind x (gt A k).y 0 0 100 0 (gt A k).owner))) k (T.agg [ti (gt A k).id,ti (gt A k).kind,ti x,ti y,ti 0,ti 0,ti 100,ti 0,ti (gt A k).owner]))) (qk 0 (zz zm (zx A k (qw (gt A k).id (gt A k).kind x y 0 0 100 0 (gt A k).owner)))),.i zd ((i:Int)+1) ((↑(i+1):Int)),.a _ _] ⟨o_gt rfl (by assumption) (by intro h;cases h),o_a hpl,bK,oW,nK,o_w (by (simp;omega)),o_gm rfl (AaV (by omega)) (by intro h;cases h),o_l (nm_eq (Aal (e:=qw (gt A k).id (gt A k).kind x (gt A k).y 0 0 100 0 (gt A k).owner) rfl rfl) (by simp)),oW,nK,o_w (by (simp;omega)),o_gm rfl (AaV (by omega)) (by intro h;cases h),o_l (nm_eq (Aal (e:=qw (gt A k).id (gt A k).kind x y 0 0 100 0 (gt A k).owner) rfl rfl) (by simp)),oI,o_a ih1,trivial⟩ ?_
 exact ge
theorem AdQ (c:Config) (r f made:Int) (ids near:List Int) (hids:ids.length≤1000) (hnear:near=c.near r): ∀(d i:Nat) (A:List Entity) (o:List Cross),i+d=ids.length→A.length≤1000→o.length≤9*i→(∀id∈ids.drop i,∃x∈A,x.id=id)→
  Is cx (.loop 80 [0,1,0,1,1,1,1,1,1,1,1,1,1,1,1] 0 [vi r,.ptr 0 0 0,.ptr 1 0 0,.ptr 2 0 0,.all 3 none,.all 4 none,.t (.sl 1 (near.map ti)),vi (i)] [.one 5 (.t c.enc) false,.one 2 (.agg [vi 0,.fit 9 []]) false,.one 9 (mkV c r f made (.all 5 none)) false,.arr 15 ((o).map zn) none false,.arr 1 (ids.map ti) none false,.arr 9 ((A).map zm) none false])
   ⟨.exit 4,[vi r,.ptr 0 0 0,.ptr 1 0 0,.ptr 2 0 0,.all 3 none,.all 4 none,.t (.sl 1 (near.map ti)),vi ids.length],[.one 5 (.t c.enc) false,.one 2 (.agg [vi 0,.fit 9 []]) false,.one 9 (mkV c r f made (.all 5 none)) false,.arr 15 ((((ids.drop i).foldl (fall1 c r f) ⟨A,made,o⟩).out).map zn) none false,.arr 1 (ids.map ti) none false,.arr 9 ((((ids.drop i).foldl (fall1 c r f) ⟨A,made,o⟩).l).map zm) none false]⟩:=by
 have hns:= @Aa0 c r
 rw [←hnear] at hns
 intro d
 induction d with
 |zero=>
  intro i A o hi hA ho hP
  rw [Aac (by omega),List.foldl_nil]
  refine qq ?_
  refine gg [.n (zq (zz ti ids)) (zq ids),.b (decide ((i:Int)<(↑(zq ids):Int))) false] ⟨o_n (by simp),fP,trivial⟩ ?_
  refine rT (a:=qz (qx 4) [vi r,V.ptr 0 0 0,V.ptr 1 0 0,V.ptr 2 0 0,qy 3 none,qy 4 none,V.t (qk 1 (zz ti near)),vi (i:Int)] [qg 5 (V.t (Config.enc c)) false,qg 2 (V.agg [vi 0,V.fit 9 []]) false,qg 9 (V.agg [vi c.cols,vi c.rows,vi c.players,vi c.window,V.t (T.int zf c.seed),vi r,vi f,qy 5 none,vi made]) false,qv 15 (zz zn o) none false,qv 1 (zz ti ids) none false,qv 9 (zz zm A) none false]) ?_
  ((have hq:i=ids.length:=by omega);subst hq;rfl)
 |succ d ih=>
  intro i A o hi hA ho hP
  have hlt:i<ids.length:=by omega
  have hd:=Aae hlt
  have hx:=hP (gt ids i) (by rw [hd];exact List.mem_cons_self ..)
  obtain ⟨k,hk1,hk2,_⟩:=AbX hx
  have hlenb:(o++blastsAt c r f (gt A k)).length≤9*(i+1):=by simp [blastsAt,←hnear];omega
  have ih1:=ih (i+1) (A.set k (anewE c r f (gt ids i) (gt A k))) (o++blastsAt c r f (gt A k)) (by omega) (by simpa using hA) hlenb fun id hid=>by
   have:=hP id (by rw [hd];exact List.mem_cons_of_mem _ hid)
   exact Ajx (Adg (e:=anewE c r f (gt ids i) (gt A k)) hk2 rfl).symm this
  rw [hd,List.foldl_cons]
  have e1:fall1 c r f ⟨A,made,o⟩ (gt ids i)=⟨A.set k (anewE c r f (gt ids i) (gt A k)),made,o++blastsAt c r f (gt A k)⟩:=by simp [fall1,hk1]
  rw [e1]
  have hF:=Abv A (gt ids i) (by unfold small;omega)
  rw [hk1] at hF
  have hB:=AbH c r f made A k ids near i hk2 hA hids hns near.length 0 o (by omega) (by omega)
  rw [List.drop_zero] at hB
  have e2:near.map (fun q=>blastB r f q (gt A k))=blastsAt c r f (gt A k):=by rw [hnear];rfl
  rw [e2] at hB
  have hpl:=Aco c r f 1 2 (gt ids i) made (A.set k {gt A k with health:=100,vx:=0,vy:=0,age:=0})
  exact Aj1 c r f made ids near hids hns i k A _ o _ (blastsAt c r f (gt A k)) _ _ hlt hA hk2 (by omega) hF hB hpl ih1
end Go.Eva.S4
namespace Go.Eva.S4
theorem AdW (c:Config) (r f made:Int) (L:List Entity) (o:List Cross) (hL:L.length≤1000): ∀(d i n:Nat),i+d=L.length→n≤i→
  Is cx (.loop 80 [0,1,0,1,1,1,1,1,1,1,1,1,1,1,1,1,1] 0 [vi r,.ptr 0 0 0,.ptr 1 0 0,.ptr 2 0 0,.all 3 none,vi (n),vi (i)] [.one 5 (.t c.enc) false,.one 2 (.agg [vi 0,.fit 9 []]) false,.one 9 (mkV c r f made (.all 4 none)) false,.arr 15 ((o).map zn) none false,.arr 9 ((L).map zm) none false])
   ⟨.exit 8,[vi r,.ptr 0 0 0,.ptr 1 0 0,.ptr 2 0 0,.all 3 none,vi (n+(L.drop i).countP fun e=>e.kind==3:Nat),vi L.length],[.one 5 (.t c.enc) false,.one 2 (.agg [vi 0,.fit 9 []]) false,.one 9 (mkV c r f made (.all 4 none)) false,.arr 15 ((o).map zn) none false,.arr 9 ((L).map zm) none false]⟩:=by
 intro d
 induction d with
 |zero=>
  intro i n hi hm
  rw [Aac (by omega)]
  refine qq ?_
  refine gg [.n (zq (zz zm L)) (zq L),.b (decide ((i:Int)<(↑(zq L):Int))) false] ⟨o_n (by simp),fP,trivial⟩ ?_
  refine rT (a:=qz (qx 8) [vi r,V.ptr 0 0 0,V.ptr 1 0 0,V.ptr 2 0 0,qy 3 none,vi (n:Int),vi (i:Int)] [qg 5 (V.t (Config.enc c)) false,qg 2 (V.agg [vi 0,V.fit 9 []]) false,qg 9 (V.agg [vi c.cols,vi c.rows,vi c.players,vi c.window,V.t (T.int zf c.seed),vi r,vi f,qy 4 none,vi made]) false,qv 15 (zz zn o) none false,qv 9 (zz zm L) none false]) ?_
  ((have hq:i=L.length:=by omega);subst hq;rfl)
 |succ d ih=>
  intro i n hi hm
  have hlt:i<L.length:=by omega
  have ih1:=ih (i+1) n (by omega) (by omega)
  have ih2:=ih (i+1) (n+1) (by omega) (by omega)
  clear ih
  rw [Ae2 _ hlt]
  by_cases h:(gt L i).kind=3
  ·simp only [h,beq_self_eq_true,if_true,←Nat.add_assoc]
   generalize (L.drop (i+1)).countP (fun e=>e.kind==3)=z at*
   clear ih1
   refine qq ?_
   refine gg [.n (zq (zz zm L)) (zq L),.b (decide ((i:Int)<(↑(zq L):Int))) true,.w (0≤(i:Int)),.n (zy (i:Int)) i,.w (i<zq (zz zm L)),.g (zz zm L) i (zm (gt L i)),.b ((gt L i).kind==3) true,.i zd ((n:Int)+1) ((↑(n+1):Int)),.i zd ((i:Int)+1) ((↑(i+1):Int)),.a _ _] ⟨o_n (by simp),tP,oW,nK,o_w (by (simp;omega)),o_gt rfl (by assumption) (by intro h;cases h),t_bre (by assumption),oI,oI,o_a ih2,trivial⟩ ?_
   exact ge
  ·have h2:((gt L i).kind==3)=false:=by simpa using h
   simp only [h2,Bool.false_eq_true,if_false,Nat.zero_add]
   generalize (L.drop (i+1)).countP (fun e=>e.kind==3)=z at*
   clear ih2
   refine qq ?_
   refine gg [.n (zq (zz zm L)) (zq L),.b (decide ((i:Int)<(↑(zq L):Int))) true,.w (0≤(i:Int)),.n (zy (i:Int)) i,.w (i<zq (zz zm L)),.g (zz zm L) i (zm (gt L i)),.b ((gt L i).kind==3) false,.i zd ((i:Int)+1) ((↑(i+1):Int)),.a _ _] ⟨o_n (by simp),tP,oW,nK,o_w (by (simp;omega)),o_gt rfl (by assumption) (by intro h;cases h),f_bre (by assumption),oI,o_a ih1,trivial⟩ ?_
   exact ge
theorem Abg (c:Config) (r f made:Int) (L:List Entity) (hL:L.length≤1000): ∀(d i:Nat) (o:List Cross) (s:List Entity),i+d=L.length→o.length≤20000+i→s.length≤i→
  Is cx (.loop 80 [0,1,0,1,1,1,1,1,1,1,1,1,1,1,1,1,1,1,1,1] 0 [vi r,.ptr 0 0 0,.ptr 1 0 0,.ptr 2 0 0,.all 3 none,.all 4 none,vi (i)] [.one 5 (.t c.enc) false,.one 2 (.agg [vi 0,.fit 9 []]) false,.one 9 (mkV c r f made (.all 5 none)) false,.arr 15 ((o).map zn) none false,.arr 9 ((s).map zm) none false,.arr 9 ((L).map zm) none false])
   ⟨.exit 10,[vi r,.ptr 0 0 0,.ptr 1 0 0,.ptr 2 0 0,.all 3 none,.all 4 none,vi L.length],[.one 5 (.t c.enc) false,.one 2 (.agg [vi 0,.fit 9 []]) false,.one 9 (mkV c r f made (.all 5 none)) false,.arr 15 ((o++((L.drop i).filter fun e=> !decide (c.of e.x e.y=r)).map (handE c r f)).map zn) none false,.arr 9 ((s++(L.drop i).filter fun e=>decide (c.of e.x e.y=r)).map zm) none false,.arr 9 ((L).map zm) none false]⟩:=by
 intro d
 induction d with
 |zero=>
  intro i o s hi ho hs
  rw [Aac (by omega)]
  refine qq ?_
  refine gg [.n (zq (zz zm L)) (zq L),.b (decide ((i:Int)<(↑(zq L):Int))) false] ⟨o_n (by simp),fP,trivial⟩ ?_
  refine rT (a:=qz (qx 10) [vi r,V.ptr 0 0 0,V.ptr 1 0 0,V.ptr 2 0 0,qy 3 none,qy 4 none,vi (i:Int)] [qg 5 (V.t (Config.enc c)) false,qg 2 (V.agg [vi 0,V.fit 9 []]) false,qg 9 (V.agg [vi c.cols,vi c.rows,vi c.players,vi c.window,V.t (T.int zf c.seed),vi r,vi f,qy 5 none,vi made]) false,qv 15 (zz zn o) none false,qv 9 (zz zm s) none false,qv 9 (zz zm L) none false]) ?_
  ((have hq:i=L.length:=by omega);subst hq;simp)
 |succ d ih=>
  intro i o s hi ho hs
  have hlt:i<L.length:=by omega
  have ih1:=ih (i+1) o (s++ [gt L i]) (by omega) (by omega) (by simp;omega)
  have ih2:=ih (i+1) (o++ [handE c r f (gt L i)]) s (by omega) (by simp;omega) (by omega)
  clear ih
  rw [Ae9 _ hlt,Ae9 _ hlt]
  have hO:=AbU c (gt L i).x (gt L i).y
  by_cases h:c.of (gt L i).x (gt L i).y=r
  ·have d1:decide (c.of (gt L i).x (gt L i).y=r)=true:=by simpa using h
   simp only [d1,Bool.not_true,if_true,Bool.false_eq_true,if_false,List.nil_append]
   rw [List.append_assoc] at ih1
   clear ih2
   generalize (L.drop (i+1)).filter (fun e=>decide (c.of e.x e.y=r))=Y at*
   generalize ((L.drop (i+1)).filter (fun e=> !decide (c.of e.x e.y=r))).map (handE c r f)=X at*
   refine qq ?_
   refine gg [.n (zq (zz zm L)) (zq L),.b (decide ((i:Int)<(↑(zq L):Int))) true,.w (0≤(i:Int)),.n (zy (i:Int)) i,.w (i<zq (zz zm L)),.g (zz zm L) i (zm (gt L i)),.w (0≤(i:Int)),.n (zy (i:Int)) i,.w (i<zq (zz zm L)),.g (zz zm L) i (zm (gt L i)),.a _ _,.b (Config.of c (gt L i).x (gt L i).y==r) true,.w (0≤(i:Int)),.n (zy (i:Int)) i,.w (i<zq (zz zm L)),.g (zz zm L) i (zm (gt L i))] ⟨o_n (by simp),tP,oW,nK,o_w (by (simp;omega)),o_gt rfl (by assumption) (by intro h;cases h),oW,nK,o_w (by (simp;omega)),o_gt rfl (by assumption) (by intro h;cases h),o_a hO,t_bre (by assumption),oW,nK,o_w (by (simp;omega)),o_gt rfl (by assumption) (by intro h;cases h),trivial⟩ ?_
   refine gg [.w ((0:Nat)<(72:Nat)),.t (qk 0 [zm (gt L i)]) (qk 0 (zz zm [gt L i])),.t (qk 0 (zz zm s++zz zm [gt L i])) (qk 0 (zz zm (s++ [gt L i]))),.w (room (zq (zz zm (s++ [gt L i]))) (72:Nat)),.i zd ((i:Int)+1) ((↑(i+1):Int)),.a _ _] ⟨oW,o_l (Aaf rfl Aap),o_l (Aam rfl rfl),o_w (by (simp [room,appendMax];omega)),oI,o_a ih1,trivial⟩ ?_
   exact ge
  ·have d1:decide (c.of (gt L i).x (gt L i).y=r)=false:=by simpa using h
   simp only [d1,Bool.not_false,if_true,Bool.false_eq_true,if_false,List.nil_append,List.map_append,List.map_cons,List.map_nil]
   rw [List.append_assoc] at ih2
   clear ih1
   generalize (L.drop (i+1)).filter (fun e=>decide (c.of e.x e.y=r))=Y at*
   generalize ((L.drop (i+1)).filter (fun e=> !decide (c.of e.x e.y=r))).map (handE c r f)=X at*
   unfold handE at ih2⊢
   generalize c.of (gt L i).x (gt L i).y=q at*
   refine qq ?_
   refine gg [.n (zq (zz zm L)) (zq L),.b (decide ((i:Int)<(↑(zq L):Int))) true,.w (0≤(i:Int)),.n (zy (i:Int)) i,.w (i<zq (zz zm L)),.g (zz zm L) i (zm (gt L i)),.w (0≤(i:Int)),.n (zy (i:Int)) i,.w (i<zq (zz zm L)),.g (zz zm L) i (zm (gt L i)),.a _ _,.b (q==r) false,.w (0≤(i:Int)),.n (zy (i:Int)) i,.w (i<zq (zz zm L)),.g (zz zm L) i (zm (gt L i))] ⟨o_n (by simp),tP,oW,nK,o_w (by (simp;omega)),o_gt rfl (by assumption) (by intro h;cases h),oW,nK,o_w (by (simp;omega)),o_gt rfl (by assumption) (by intro h;cases h),o_a hO,f_bre (by assumption),oW,nK,o_w (by (simp;omega)),o_gt rfl (by assumption) (by intro h;cases h),trivial⟩ ?_
   refine gg [.w ((0:Nat)<(120:Nat)),.s (qk 0 [T.agg [ti 1,ti r,ti q,ti f,ti (gt L i).id,ti (gt L i).kind,ti (gt L i).x,ti (gt L i).y,ti (gt L i).vx,ti (gt L i).vy,ti (gt L i).health,ti (gt L i).age,ti (gt L i).owner,ti 0,ti 0]]),.t (qk 0 (zz zn o++ [T.agg [ti 1,ti r,ti q,ti f,ti (gt L i).id,ti (gt L i).kind,ti (gt L i).x,ti (gt L i).y,ti (gt L i).vx,ti (gt L i).vy,ti (gt L i).health,ti (gt L i).age,ti (gt L i).owner,ti 0,ti 0]])) (qk 0 (zz zn (o++ [Cross.mk 1 r q f (gt L i) 0 0]))),.w (room (zq (zz zn (o++ [Cross.mk (1:Int) r q f (gt L i) (0:Int) (0:Int)]))) (120:Nat)),.i zd ((i:Int)+1) ((↑(i+1):Int)),.a _ _] ⟨oW,o_l (Aam rfl (Aaf (e:=Cross.mk 1 r q f (gt L i) 0 0) rfl Aap)),o_w (by (simp [room,appendMax];omega)),oI,o_a ih2,trivial⟩ ?_
   refine rT (a:=qz (qx 10) [vi r,V.ptr 0 0 0,V.ptr 1 0 0,V.ptr 2 0 0,qy 3 none,qy 4 none,vi (↑(zq L):Int)] [qg 5 (V.t (Config.enc c)) false,qg 2 (V.agg [vi 0,V.fit 9 []]) false,qg 9 (V.agg [vi c.cols,vi c.rows,vi c.players,vi c.window,V.t (T.int zf c.seed),vi r,vi f,qy 5 none,vi made]) false,qv 15 (zz zn (o++([Cross.mk 1 r q f (gt L i) 0 0]++X))) none false,qv 9 (zz zm (s++Y)) none false,qv 9 (zz zm L) none false]) ?_
   (first|rfl|(simp;done))
end Go.Eva.S4
namespace Go.Eva.S4
theorem Adm (c:Config) (r:Int) (s:Region) (hl:small s.ents): ∀(d i:Nat),i+d=s.ents.length→
  ∃k:Nat,Is cx (.loop 24 [0,1,0,1,1] 0 [vi r,.ptr 0 0 0,.ptr 1 0 0,vb false,vi i] [.one 5 (.t c.enc) false,.one 2 (.t s.enc) false])
   (match (s.ents.drop i).all fun e=>e.right c&&decide (c.of e.x e.y=r) with
    |false=>⟨.ret,[vi r,.ptr 0 0 0,.ptr 1 0 0,vb false,vi k],[.one 5 (.t c.enc) false,.one 2 (.t s.enc) false]⟩
    |true=>⟨.exit 0,[vi r,.ptr 0 0 0,.ptr 1 0 0,vb false,vi s.ents.length],[.one 5 (.t c.enc) false,.one 2 (.t s.enc) false]⟩):=by
 unfold small at hl
 obtain ⟨f,l⟩:=s
 simp only at hl⊢
 intro d
 induction d with
 |zero=>
  intro i hi
  refine ⟨0,?_⟩
  rw [Aac (by omega)]
  refine qq ?_
  refine gg [.n (zq (zz zm l)) (zq l),.b (decide ((i:Int)<(↑(zq l):Int))) false] ⟨o_n (by simp),fP,trivial⟩ ?_
  refine rT (a:=qz (qx 0) [vi r,V.ptr 0 0 0,V.ptr 1 0 0,vb false,vi (i:Int)] [qg 5 (V.t (Config.enc c)) false,qg 2 (V.t (zt (Region.mk f l))) false]) ?_
  ((have:i=l.length:=by omega);subst this;rfl)
 |succ d ih=>
  intro i hi
  have hlt:i<l.length:=by omega
  obtain ⟨k,ih1⟩:=ih (i+1) (by omega)
  clear ih
  rw [Aae hlt,List.all_cons]
  have hR:=Abh c (gt l i)
  have hO:=AbU c (gt l i).x (gt l i).y
  cases h1:(gt l i).right c with
  |false=>
   rw [h1] at hR
   refine ⟨i,?_⟩
   refine qq ?_
   refine gg [.n (zq (zz zm l)) (zq l),.b (decide ((i:Int)<(↑(zq l):Int))) true,.w (0≤(i:Int)),.n (zy (i:Int)) i,.g (zz zm l) i (zm (gt l i)),.a _ _,.b (!false) true,.tt,.tt,.tt,.tt,.tt,.tt,.tt,.tt,.tt] ⟨o_n (by simp),tP,oW,nK,o_gt rfl (by assumption) (by intro h;cases h),o_a hR,bK,trivial⟩ ?_
   exact ge
  |true=>
   rw [h1] at hR
   by_cases h2:c.of (gt l i).x (gt l i).y=r
   ·rw [h2] at hO⊢
    refine ⟨k,?_⟩
    cases hq:(l.drop (i+1)).all fun e=>e.right c&&decide (c.of e.x e.y=r) with
    |true=>
     rw [hq] at ih1
     refine qq ?_
     refine gg [.n (zq (zz zm l)) (zq l),.b (decide ((i:Int)<(↑(zq l):Int))) true,.w (0≤(i:Int)),.n (zy (i:Int)) i,.g (zz zm l) i (zm (gt l i)),.a _ _,.b (!true) false,.ff,.ff,.ff,.ff,.ff,.a _ _,.ff,.ff,.ff] ⟨o_n (by simp),tP,oW,nK,o_gt rfl (by assumption) (by intro h;cases h),o_a hR,bK,o_a hO,trivial⟩ ?_
     refine gg [.b (r !=r) false,.i zd ((i:Int)+1) ((↑(i+1):Int)),.a _ _] ⟨f_brn rfl,oI,o_a ih1,trivial⟩ ?_
     refine rT (a:=qz (qx 0) [vi r,V.ptr 0 0 0,V.ptr 1 0 0,vb false,vi (↑(zq l):Int)] [qg 5 (V.t (Config.enc c)) false,qg 2 (V.t (zt (Region.mk f l))) false]) ?_
     (simp;done)
    |false=>
     rw [hq] at ih1
     refine qq ?_
     refine gg [.n (zq (zz zm l)) (zq l),.b (decide ((i:Int)<(↑(zq l):Int))) true,.w (0≤(i:Int)),.n (zy (i:Int)) i,.g (zz zm l) i (zm (gt l i)),.a _ _,.b (!true) false,.ff,.ff,.ff,.ff,.ff,.a _ _,.ff,.ff,.ff] ⟨o_n (by simp),tP,oW,nK,o_gt rfl (by assumption) (by intro h;cases h),o_a hR,bK,o_a hO,trivial⟩ ?_
     refine gg [.b (r !=r) false,.i zd ((i:Int)+1) ((↑(i+1):Int)),.a _ _] ⟨f_brn rfl,oI,o_a ih1,trivial⟩ ?_
     refine rT (a:=qz qj [vi r,V.ptr 0 0 0,V.ptr 1 0 0,vb false,vi (k:Int)] [qg 5 (V.t (Config.enc c)) false,qg 2 (V.t (zt (Region.mk f l))) false]) ?_
     (simp;done)
   ·refine ⟨i,?_⟩
    rw [show decide (c.of (gt l i).x (gt l i).y=r)=false by simpa using h2]
    refine qq ?_
    refine gg [.n (zq (zz zm l)) (zq l),.b (decide ((i:Int)<(↑(zq l):Int))) true,.w (0≤(i:Int)),.n (zy (i:Int)) i,.g (zz zm l) i (zm (gt l i)),.a _ _,.b (!true) false,.ff,.ff,.ff,.ff,.ff,.a _ _,.ff,.ff,.ff] ⟨o_n (by simp),tP,oW,nK,o_gt rfl (by assumption) (by intro h;cases h),o_a hR,bK,o_a hO,trivial⟩ ?_
    refine gg [.b (Config.of c (gt l i).x (gt l i).y !=r) true] ⟨t_brn (by assumption),trivial⟩ ?_
    exact ge
theorem Acp (c:Config) (r:Int) (s:Region) (hn:small s.ents):Fn cx 24 [c.enc,ti r,s.enc] (.bool (regionRight c r s)):=by
 have q1:=Aay c r
 have q2:=Afw s.ents hn
 have q3:=AaU s.ents hn
 obtain ⟨k,q4⟩:=Adm c r s hn s.ents.length 0 (by omega)
 rw [List.drop_zero] at q4
 unfold regionRight within
 generalize c.is r=b1 at*
 generalize sortedL s.ents=b2 at*
 generalize things s.ents=n3 at*
 cases hq:(s.ents.all fun e=>e.right c&&decide (c.of e.x e.y=r)) with
 |true=>
  rw [hq] at q4
  clear hq
  obtain ⟨f,l⟩:=s
  refine qq ?_
  refine gg [.a _ _] ⟨o_a q1,trivial⟩ ?_
  refine brnot (b:=b1) (by kernel_rfl) (fun h1=> ?_) (fun h1=> ?_)
  ·refine gg [.tt,.tt,.tt,.tt,.tt,.tt,.tt,.tt,.tt,.tt,.tt,.tt,.tt,.tt,.tt,.tt] trivial ?_
   refine gg [.tt,.tt] trivial ?_
   refine rT (a:=qz qj [vb false] []) ?_
   (simp_all;try omega)
  ·refine gg [.ff,.ff,.ff] trivial ?_
   refine brp (p:=f<0) (by kernel_rfl) (fun h2=> ?_) (fun h2=> ?_)
   ·refine gg [.tt,.tt,.tt,.tt,.tt,.tt,.tt,.tt,.tt,.tt,.tt,.tt,.tt,.tt] trivial ?_
    refine rT (a:=qz qj [vb false] []) ?_
    (simp_all;try omega)
   ·refine gg [.ff,.ff,.ff] trivial ?_
    refine brp (p:=f>10000) (by kernel_rfl) (fun h3=> ?_) (fun h3=> ?_)
    ·refine gg [.tt,.tt,.tt,.tt,.tt,.tt,.tt,.tt,.tt,.tt] trivial ?_
     refine rT (a:=qz qj [vb false] []) ?_
     (simp_all;try omega)
    ·refine gg [.ff,.ff,.a _ _,.ff,.ff] ⟨o_a q2,trivial⟩ ?_
     refine brnot (b:=b2) (by kernel_rfl) (fun h4=> ?_) (fun h4=> ?_)
     ·refine gg [.tt,.tt,.tt,.tt,.tt] trivial ?_
      refine rT (a:=qz qj [vb false] []) ?_
      (simp_all;try omega)
     ·refine gg [.ff,.ff,.a _ _,.ff,.ff] ⟨o_a q3,trivial⟩ ?_
      refine brp (p:=n3>24) (by kernel_rfl) (fun h5=> ?_) (fun h5=> ?_)
      ·refine rT (a:=qz qj [vb false] []) ?_
       (simp_all;try omega)
      ·refine gg [.a _ _] ⟨o_a q4,trivial⟩ ?_
       refine rT (a:=qz qj [vb true] []) ?_
       (simp_all;try omega)
 |false=>
  rw [hq] at q4
  clear hq
  obtain ⟨f,l⟩:=s
  refine qq ?_
  refine gg [.a _ _] ⟨o_a q1,trivial⟩ ?_
  refine brnot (b:=b1) (by kernel_rfl) (fun h1=> ?_) (fun h1=> ?_)
  ·refine gg [.tt,.tt,.tt,.tt,.tt,.tt,.tt,.tt,.tt,.tt,.tt,.tt,.tt,.tt,.tt,.tt] trivial ?_
   refine gg [.tt,.tt] trivial ?_
   refine rT (a:=qz qj [vb false] []) ?_
   (simp_all;try omega)
  ·refine gg [.ff,.ff,.ff] trivial ?_
   refine brp (p:=f<0) (by kernel_rfl) (fun h2=> ?_) (fun h2=> ?_)
   ·refine gg [.tt,.tt,.tt,.tt,.tt,.tt,.tt,.tt,.tt,.tt,.tt,.tt,.tt,.tt] trivial ?_
    refine rT (a:=qz qj [vb false] []) ?_
    (simp_all;try omega)
   ·refine gg [.ff,.ff,.ff] trivial ?_
    refine brp (p:=f>10000) (by kernel_rfl) (fun h3=> ?_) (fun h3=> ?_)
    ·refine gg [.tt,.tt,.tt,.tt,.tt,.tt,.tt,.tt,.tt,.tt] trivial ?_
     refine rT (a:=qz qj [vb false] []) ?_
     (simp_all;try omega)
    ·refine gg [.ff,.ff,.a _ _,.ff,.ff] ⟨o_a q2,trivial⟩ ?_
     refine brnot (b:=b2) (by kernel_rfl) (fun h4=> ?_) (fun h4=> ?_)
     ·refine gg [.tt,.tt,.tt,.tt,.tt] trivial ?_
      refine rT (a:=qz qj [vb false] []) ?_
      (simp_all;try omega)
     ·refine gg [.ff,.ff,.a _ _,.ff,.ff] ⟨o_a q3,trivial⟩ ?_
      refine brp (p:=n3>24) (by kernel_rfl) (fun h5=> ?_) (fun h5=> ?_)
      ·refine rT (a:=qz qj [vb false] []) ?_
       (simp_all;try omega)
      ·refine gg [.a _ _] ⟨o_a q4,trivial⟩ ?_
       refine rT (a:=qz qj [vb false] []) ?_
       (simp_all;try omega)
end Go.Eva.S4
namespace Go.Eva.S4
theorem Ac7 (c:Config) (r:Int) (s:Region) (ins:List Input) (inbox:List Cross) (hn:small ins): ∀(d i:Nat),i+d=ins.length→
  ∃k:Nat,Is cx (.loop 131 [0,1,0,1,1,1,1] 0 [vi r,.t (.sl 3 (ins.map zr)),.t (.sl 15 (inbox.map zn)),.ptr 0 0 0,.ptr 1 0 0,vi 0,vi i] [.one 5 (.t c.enc) false,.one 2 (.t s.enc) false])
   (match (ins.drop i).any fun i=> !i.right with
    |true=>⟨.ret,[vi r,.t (.sl 3 (ins.map zr)),.t (.sl 15 (inbox.map zn)),.ptr 0 0 0,.ptr 1 0 0,vi 11,vi k],[.one 5 (.t c.enc) false,.one 2 (.t s.enc) false]⟩
    |false=>⟨.exit 0,[vi r,.t (.sl 3 (ins.map zr)),.t (.sl 15 (inbox.map zn)),.ptr 0 0 0,.ptr 1 0 0,vi 0,vi ins.length],[.one 5 (.t c.enc) false,.one 2 (.t s.enc) false]⟩):=by
 unfold small at hn
 intro d
 induction d with
 |zero=>
  intro i hi
  refine ⟨0,?_⟩
  rw [Aac (by omega)]
  refine qq ?_
  refine gg [.n (zq (zz zr ins)) (zq ins),.b (decide ((i:Int)<(↑(zq ins):Int))) false] ⟨o_n (by simp),fP,trivial⟩ ?_
  refine rT (a:=qz (qx 0) [vi r,V.t (qk 3 (zz zr ins)),V.t (qk 15 (zz zn inbox)),V.ptr 0 0 0,V.ptr 1 0 0,vi 0,vi (i:Int)] [qg 5 (V.t (Config.enc c)) false,qg 2 (V.t (zt s)) false]) ?_
  ((have:i=ins.length:=by omega);subst this;rfl)
 |succ d ih=>
  intro i hi
  have hlt:i<ins.length:=by omega
  obtain ⟨k,ih1⟩:=ih (i+1) (by omega)
  clear ih
  have hI:=Abn (gt ins i)
  rw [Ani _ hlt]
  cases hp:(gt ins i).right with
  |false=>
   rw [hp] at hI
   rw [Bool.not_false,Bool.true_or]
   refine ⟨i,?_⟩
   refine qq ?_
   refine gg [.n (zq (zz zr ins)) (zq ins),.b (decide ((i:Int)<(↑(zq ins):Int))) true,.w (0≤(i:Int)),.n (zy (i:Int)) i,.g (zz zr ins) i (zr (gt ins i)),.a _ _,.b (!false) true] ⟨o_n (by simp),tP,oW,nK,o_gt rfl (by assumption) (by intro h;cases h),o_a hI,bK,trivial⟩ ?_
   exact ge
  |true=>
   rw [hp] at hI
   rw [Bool.not_true,Bool.false_or]
   refine ⟨k,?_⟩
   cases hq:(ins.drop (i+1)).any fun i=> !i.right with
   |true=>
    rw [hq] at ih1
    refine qq ?_
    refine gg [.n (zq (zz zr ins)) (zq ins),.b (decide ((i:Int)<(↑(zq ins):Int))) true,.w (0≤(i:Int)),.n (zy (i:Int)) i,.g (zz zr ins) i (zr (gt ins i)),.a _ _,.b (!true) false,.i zd ((i:Int)+1) ((↑(i+1):Int)),.a _ _] ⟨o_n (by simp),tP,oW,nK,o_gt rfl (by assumption) (by intro h;cases h),o_a hI,bK,oI,o_a ih1,trivial⟩ ?_
    exact ge
   |false=>
    rw [hq] at ih1
    refine qq ?_
    refine gg [.n (zq (zz zr ins)) (zq ins),.b (decide ((i:Int)<(↑(zq ins):Int))) true,.w (0≤(i:Int)),.n (zy (i:Int)) i,.g (zz zr ins) i (zr (gt ins i)),.a _ _,.b (!true) false,.i zd ((i:Int)+1) ((↑(i+1):Int)),.a _ _] ⟨o_n (by simp),tP,oW,nK,o_gt rfl (by assumption) (by intro h;cases h),o_a hI,bK,oI,o_a ih1,trivial⟩ ?_
    exact ge
theorem AdS (c:Config) (r:Int) (s:Region) (inbox:List Cross) (hn:small inbox) (hf:0≤s.frame∧s.frame≤10000): ∀(d i:Nat),i+d=inbox.length→
  ∃k:Nat,Is cx (.loop 131 [0,1,0,1,1,1,1,1] 0 [vi r,.t (.sl 15 (inbox.map zn)),.ptr 0 0 0,.ptr 1 0 0,vi 0,vi i] [.one 5 (.t c.enc) false,.one 2 (.t s.enc) false])
   (match (inbox.drop i).any fun m=> !(m.right c&&decide (m.to=r)&&decide (m.frame=s.frame-1)) with
    |true=>⟨.ret,[vi r,.t (.sl 15 (inbox.map zn)),.ptr 0 0 0,.ptr 1 0 0,vi 1,vi k],[.one 5 (.t c.enc) false,.one 2 (.t s.enc) false]⟩
    |false=>⟨.exit 2,[vi r,.t (.sl 15 (inbox.map zn)),.ptr 0 0 0,.ptr 1 0 0,vi 0,vi inbox.length],[.one 5 (.t c.enc) false,.one 2 (.t s.enc) false]⟩):=by
 unfold small at hn
 obtain ⟨f,l⟩:=s
 simp only at hf⊢
 intro d
 induction d with
 |zero=>
  intro i hi
  refine ⟨0,?_⟩
  rw [Aac (by omega)]
  refine qq ?_
  refine gg [.n (zq (zz zn inbox)) (zq inbox),.b (decide ((i:Int)<(↑(zq inbox):Int))) false] ⟨o_n (by simp),fP,trivial⟩ ?_
  refine rT (a:=qz (qx 2) [vi r,V.t (qk 15 (zz zn inbox)),V.ptr 0 0 0,V.ptr 1 0 0,vi 0,vi (i:Int)] [qg 5 (V.t (Config.enc c)) false,qg 2 (V.t (zt (Region.mk f l))) false]) ?_
  ((have:i=inbox.length:=by omega);subst this;rfl)
 |succ d ih=>
  intro i hi
  have hlt:i<inbox.length:=by omega
  obtain ⟨k,ih1⟩:=ih (i+1) (by omega)
  clear ih
  have hC:=AfW c (gt inbox i)
  rw [Ani _ hlt]
  cases hp:(gt inbox i).right c with
  |false=>
   rw [hp] at hC
   rw [Bool.false_and,Bool.false_and,Bool.not_false,Bool.true_or]
   refine ⟨i,?_⟩
   refine qq ?_
   refine gg [.n (zq (zz zn inbox)) (zq inbox),.b (decide ((i:Int)<(↑(zq inbox):Int))) true,.w (0≤(i:Int)),.n (zy (i:Int)) i,.g (zz zn inbox) i (zn (gt inbox i)),.a _ _,.b (!false) true,.tt,.tt,.tt,.tt,.tt,.tt,.tt,.tt,.tt] ⟨o_n (by simp),tP,oW,nK,o_gt rfl (by assumption) (by intro h;cases h),o_a hC,bK,trivial⟩ ?_
   refine gg [.tt,.tt,.tt,.tt,.tt,.tt,.tt,.tt,.tt] trivial ?_
   exact ge
  |true=>
   rw [hp] at hC
   by_cases h1:(gt inbox i).to=r
   ·by_cases h2:(gt inbox i).frame=f-1
    ·simp only [h1,h2,decide_true,Bool.and_self,Bool.not_true,Bool.false_or]
     refine ⟨k,?_⟩
     cases hq:(inbox.drop (i+1)).any fun m=> !(m.right c&&decide (m.to=r)&&decide (m.frame=f-1)) with
     |true=>
      rw [hq] at ih1
      refine qq ?_
      refine gg [.n (zq (zz zn inbox)) (zq inbox),.b (decide ((i:Int)<(↑(zq inbox):Int))) true,.w (0≤(i:Int)),.n (zy (i:Int)) i,.g (zz zn inbox) i (zn (gt inbox i)),.a _ _,.b (!true) false,.ff,.ff,.w (0≤(i:Int)),.n (zy (i:Int)) i,.g (zz zn inbox) i (zn (gt inbox i)),.ff,.ff,.ff,.ff] ⟨o_n (by simp),tP,oW,nK,o_gt rfl (by assumption) (by intro h;cases h),o_a hC,bK,oW,nK,o_gt rfl (by assumption) (by intro h;cases h),trivial⟩ ?_
      refine gg [.ff,.b ((gt inbox i).to !=r) false,.ff,.ff,.w (0≤(i:Int)),.n (zy (i:Int)) i,.g (zz zn inbox) i (zn (gt inbox i)),.ff,.ff,.ff,.ff,.ff,.i zd (f-1) (f-1),.ff,.ff,.b ((gt inbox i).frame !=f-1) false] ⟨f_brn (by assumption),oW,nK,o_gt rfl (by assumption) (by intro h;cases h),oI,f_brn (by assumption),trivial⟩ ?_
      refine gg [.i zd ((i:Int)+1) ((↑(i+1):Int)),.a _ _] ⟨oI,o_a ih1,trivial⟩ ?_
      exact ge
     |false=>
      rw [hq] at ih1
      refine qq ?_
      refine gg [.n (zq (zz zn inbox)) (zq inbox),.b (decide ((i:Int)<(↑(zq inbox):Int))) true,.w (0≤(i:Int)),.n (zy (i:Int)) i,.g (zz zn inbox) i (zn (gt inbox i)),.a _ _,.b (!true) false,.ff,.ff,.w (0≤(i:Int)),.n (zy (i:Int)) i,.g (zz zn inbox) i (zn (gt inbox i)),.ff,.ff,.ff,.ff] ⟨o_n (by simp),tP,oW,nK,o_gt rfl (by assumption) (by intro h;cases h),o_a hC,bK,oW,nK,o_gt rfl (by assumption) (by intro h;cases h),trivial⟩ ?_
      refine gg [.ff,.b ((gt inbox i).to !=r) false,.ff,.ff,.w (0≤(i:Int)),.n (zy (i:Int)) i,.g (zz zn inbox) i (zn (gt inbox i)),.ff,.ff,.ff,.ff,.ff,.i zd (f-1) (f-1),.ff,.ff,.b ((gt inbox i).frame !=f-1) false] ⟨f_brn (by assumption),oW,nK,o_gt rfl (by assumption) (by intro h;cases h),oI,f_brn (by assumption),trivial⟩ ?_
      refine gg [.i zd ((i:Int)+1) ((↑(i+1):Int)),.a _ _] ⟨oI,o_a ih1,trivial⟩ ?_
      exact ge
    ·simp only [h1,h2,decide_true,decide_false,Bool.and_false,Bool.not_false,Bool.true_or]
     refine ⟨i,?_⟩
     refine qq ?_
     refine gg [.n (zq (zz zn inbox)) (zq inbox),.b (decide ((i:Int)<(↑(zq inbox):Int))) true,.w (0≤(i:Int)),.n (zy (i:Int)) i,.g (zz zn inbox) i (zn (gt inbox i)),.a _ _,.b (!true) false,.ff,.ff,.w (0≤(i:Int)),.n (zy (i:Int)) i,.g (zz zn inbox) i (zn (gt inbox i)),.ff,.ff,.ff,.ff] ⟨o_n (by simp),tP,oW,nK,o_gt rfl (by assumption) (by intro h;cases h),o_a hC,bK,oW,nK,o_gt rfl (by assumption) (by intro h;cases h),trivial⟩ ?_
     refine gg [.ff,.b ((gt inbox i).to !=r) false,.ff,.ff,.w (0≤(i:Int)),.n (zy (i:Int)) i,.g (zz zn inbox) i (zn (gt inbox i)),.ff,.ff,.ff,.ff,.ff,.i zd (f-1) (f-1),.ff,.ff,.b ((gt inbox i).frame !=f-1) true] ⟨f_brn (by assumption),oW,nK,o_gt rfl (by assumption) (by intro h;cases h),oI,t_brn (by assumption),trivial⟩ ?_
     exact ge
   ·simp only [h1,decide_false,Bool.and_false,Bool.false_and,Bool.not_false,Bool.true_or]
    refine ⟨i,?_⟩
    refine qq ?_
    refine gg [.n (zq (zz zn inbox)) (zq inbox),.b (decide ((i:Int)<(↑(zq inbox):Int))) true,.w (0≤(i:Int)),.n (zy (i:Int)) i,.g (zz zn inbox) i (zn (gt inbox i)),.a _ _,.b (!true) false,.ff,.ff,.w (0≤(i:Int)),.n (zy (i:Int)) i,.g (zz zn inbox) i (zn (gt inbox i)),.ff,.ff,.ff,.ff] ⟨o_n (by simp),tP,oW,nK,o_gt rfl (by assumption) (by intro h;cases h),o_a hC,bK,oW,nK,o_gt rfl (by assumption) (by intro h;cases h),trivial⟩ ?_
    refine gg [.ff,.b ((gt inbox i).to !=r) true,.tt,.tt,.tt,.tt,.tt,.tt,.tt,.tt,.tt,.tt] ⟨t_brn (by assumption),trivial⟩ ?_
    exact ge
theorem Acx (c:Config) (r:Int) (s:Region) (ins:List Input) (inbox:List Cross) (hn:small s.ents) (hi:small ins) (hb:small inbox):
  Fn cx 131 [c.enc,ti r,s.enc,.sl 3 (ins.map zr),.sl 15 (inbox.map zn)] (ti (askedE c r s ins inbox)):=by
 have h1:=Aay c r
 have h2:=Acp c r s hn
 unfold askedE
 cases q1:c.is r with
 |false=>
  rw [q1] at h1
  rw [if_pos rfl]
  refine qq ?_
  refine gg [.a _ _,.b (!false) true] ⟨o_a h1,bK,trivial⟩ ?_
  exact ge
 |true=>
  rw [q1] at h1
  rw [if_neg (by simp)]
  cases q2:regionRight c r s with
  |false=>
   rw [q2] at h2
   rw [if_pos rfl]
   refine qq ?_
   refine gg [.a _ _,.b (!true) false,.a _ _,.b (!false) true] ⟨o_a h1,bK,o_a h2,bK,trivial⟩ ?_
   exact ge
  |true=>
   rw [q2] at h2
   rw [if_neg (by simp)]
   have hfr:=(Aaz.1 q2).2.1
   by_cases q3:(ins.length:Int)=c.players
   ·obtain ⟨k3,h3⟩:=Ac7 c r s ins inbox hi ins.length 0 (Nat.zero_add _)
    rw [List.drop_zero] at h3
    cases q4:ins.any fun i=> !i.right with
    |true=>
     rw [q4] at h3
     rw [if_pos (.inr rfl)]
     refine qq ?_
     refine gg [.a _ _,.b (!true) false,.a _ _,.b (!true) false,.n (zq (zz zr ins)) (zq ins),.b ((↑(zq ins):Int) !=c.players) false,.a _ _] ⟨o_a h1,bK,o_a h2,bK,o_n (by simp),f_brn (by assumption),o_a h3,trivial⟩ ?_
     exact ge
    |false=>
     rw [q4] at h3
     rw [if_neg (fun q=>q.elim (fun q=>q q3) (by simp))]
     obtain ⟨k5,h5⟩:=AdS c r s inbox hb hfr inbox.length 0 (Nat.zero_add _)
     rw [List.drop_zero] at h5
     cases q5:inbox.any fun m=> !(m.right c&&decide (m.to=r)&&decide (m.frame=s.frame-1)) with
     |true=>
      rw [q5] at h5
      rw [if_pos rfl]
      refine qq ?_
      refine gg [.a _ _,.b (!true) false,.a _ _,.b (!true) false,.n (zq (zz zr ins)) (zq ins),.b ((↑(zq ins):Int) !=c.players) false,.a _ _,.a _ _] ⟨o_a h1,bK,o_a h2,bK,o_n (by simp),f_brn (by assumption),o_a h3,o_a h5,trivial⟩ ?_
      exact ge
     |false=>
      rw [q5] at h5
      rw [if_neg (by simp)]
      obtain ⟨f,l⟩:=s
      simp only at hfr h1 h2 h3 h5⊢
      by_cases q6:f=10000
      ·rw [if_pos q6]
       refine qq ?_
       refine gg [.a _ _,.b (!true) false,.a _ _,.b (!true) false,.n (zq (zz zr ins)) (zq ins),.b ((↑(zq ins):Int) !=c.players) false,.a _ _,.a _ _,.b (decide (f≥10000)) true] ⟨o_a h1,bK,o_a h2,bK,o_n (by simp),f_brn (by assumption),o_a h3,o_a h5,tP,trivial⟩ ?_
       exact ge
      ·rw [if_neg q6]
       refine qq ?_
       refine gg [.a _ _,.b (!true) false,.a _ _,.b (!true) false,.n (zq (zz zr ins)) (zq ins),.b ((↑(zq ins):Int) !=c.players) false,.a _ _,.a _ _,.b (decide (f≥10000)) false] ⟨o_a h1,bK,o_a h2,bK,o_n (by simp),f_brn (by assumption),o_a h3,o_a h5,fP,trivial⟩ ?_
       exact ge
   ·rw [if_pos (.inl q3)]
    refine qq ?_
    refine gg [.a _ _,.b (!true) false,.a _ _,.b (!true) false,.n (zq (zz zr ins)) (zq ins),.b ((↑(zq ins):Int) !=c.players) true] ⟨o_a h1,bK,o_a h2,bK,o_n (by simp),t_brn (by assumption),trivial⟩ ?_
    exact ge
end Go.Eva.S4
namespace Go.Eva.S4
theorem Aea (a b n:Nat) (h1:a+n≤b): ∀(d i:Nat) (A:List Cross),i+d=n→b+n≤A.length→small A→
  Is cx (.loop 197 [0,1] 1 [.all 0 none,vi a,vi b,vi n,vi i] [.arr 15 (A.map zn) none false])
   ⟨.exit 0,[.all 0 none,vi a,vi b,vi n,vi n],[.arr 15 ((swR d A (a+i) (b+i)).map zn) none false]⟩:=by
 intro d
 induction d with
 |zero=>
  intro i A hi h2 hn
  unfold small at hn
  refine qq ?_
  refine gg [.b (decide ((i:Int)<(n:Int))) false] ⟨fP,trivial⟩ ?_
  refine rT (a:=qz (qx 0) [qy 0 none,vi (a:Int),vi (b:Int),vi (n:Int),vi (i:Int)] [qv 15 (zz zn A) none false]) ?_
  ((have hq:i=n:=by omega);subst hq;rfl)
 |succ d ih=>
  intro i A hi h2 hn
  have ih1:=ih (i+1) (sw A (a+i) (b+i)) (by omega) (by rw [AaY];omega) (by unfold small;rw [AaY];exact hn)
  unfold small at hn
  clear ih
  unfold sw at ih1
  refine qq ?_
  refine gg [.b (decide ((i:Int)<(n:Int))) true,.i zd ((a:Int)+(i:Int)) ((↑(a+i):Int)),.i zd ((b:Int)+(i:Int)) ((↑(b+i):Int)),.i zd ((b:Int)+(i:Int)) ((↑(b+i):Int)),.w (0≤(↑(b+i):Int)),.n (zy (↑(b+i):Int)) (b+i),.w (b+i<zq (zz zn A)),.i zd ((a:Int)+(i:Int)) ((↑(a+i):Int)),.w (0≤(↑(a+i):Int)),.n (zy (↑(a+i):Int)) (a+i),.w (a+i<zq (zz zn A)),.g (zz zn A) (b+i) (zn (gt A (b+i))),.g (zz zn A) (a+i) (zn (gt A (a+i))),.w (0≤(↑(a+i):Int)),.n (zy (↑(a+i):Int)) (a+i),.w (a+i<zq (zz zn A))] ⟨tP,oI,oI,oI,oW,nK,o_w (by (simp;omega)),oI,oW,nK,o_w (by (simp;omega)),oT,oT,oW,nK,o_w (by (simp;omega)),trivial⟩ ?_
  refine gg [.w (a+i<zq (zz zn A)),.t (qk 0 (zx (zz zn A) (a+i) (zn (gt A (b+i))))) (qk 0 (zz zn (zx A (a+i) (gt A (b+i))))),.w (0≤(↑(b+i):Int)),.n (zy (↑(b+i):Int)) (b+i),.w (b+i<zq (zz zn (zx A (a+i) (gt A (b+i))))),.w (b+i<zq (zz zn (zx A (a+i) (gt A (b+i))))),.t (qk 0 (zx (zz zn (zx A (a+i) (gt A (b+i)))) (b+i) (zn (gt A (a+i))))) (qk 0 (zz zn (zx (zx A (a+i) (gt A (b+i))) (b+i) (gt A (a+i))))),.i zd ((i:Int)+1) ((↑(i+1):Int)),.a _ _] ⟨o_w (by (simp;omega)),o_l (Aal rfl rfl),oW,nK,o_w (by (simp;omega)),o_w (by (simp;omega)),o_l (Aal rfl rfl),oI,o_a ih1,trivial⟩ ?_
  refine rT (a:=qz (qx 0) [qy 0 none,vi (a:Int),vi (b:Int),vi (n:Int),vi (n:Int)] [qv 15 (zz zn (swR d (zx (zx A (a+i) (gt A (b+i))) (b+i) (gt A (a+i))) (a+(i+1)) (b+(i+1)))) none false]) ?_
  (simp_all [swR,sw,Nat.add_assoc];try omega)
theorem Abw (A:List Cross) (a b n:Nat) (h1:a+n≤b) (h2:b+n≤A.length) (hn:small A):Is cx (.call 197 [.all 0 none,vi a,vi b,vi n,.t (.clo 129 [])] [.arr 15 (A.map zn) none false])
  ⟨.ret,[],[.arr 15 ((swR n A a b).map zn) none false]⟩:=by
 have h:=Aea a b n h1 n 0 A (by omega) h2 hn
 rw [Nat.add_zero,Nat.add_zero] at h
 unfold small at hn
 refine qq ?_
 refine gg [.a _ _] ⟨o_a h,trivial⟩ ?_
 exact ge
theorem Adx (a b i:Nat): ∀(j:Nat) (A:List Cross),a≤j→j<A.length→small A→ ∃k:Nat,
  Is cx (.loop 186 [0,1,0,0,1,0,0,1] 1 [.all 0 none,vi a,vi b,.t (.clo 129 []),vi i,vi j] [.arr 15 (A.map zn) none false])
   ⟨.exit 2,[.all 0 none,vi a,vi b,.t (.clo 129 []),vi i,vi k],[.arr 15 ((insIn z7 a j A).map zn) none false]⟩:=by
 intro j
 induction j with
 |zero=>
  intro A h1 h2 hn
  unfold small at hn
  refine ⟨0,?_⟩
  refine qq ?_
  refine gg [.b (decide (0>(a:Int))) false,.ff,.ff,.ff,.ff,.ff,.ff,.ff,.ff,.ff,.ff,.ff,.ff,.ff] ⟨bK,trivial⟩ ?_
  exact ge
 |succ j ih=>
  intro A h1 h2 hn
  by_cases hj:a<j+1
  ·cases hl:z7 (gt A (j+1)) (gt A j) with
   |true=>
    obtain ⟨k,ih1⟩:=ih (sw A (j+1) j) (by omega) (by rw [AaY];omega) (by unfold small;rw [AaY];exact hn)
    unfold small at hn
    clear ih
    refine ⟨k,?_⟩
    have e:insIn z7 a (j+1) A=insIn z7 a j (sw A (j+1) j):=by rw [insIn,if_pos hj,hl]
    rw [e]
    unfold sw at*
    have ej:((j+1:Nat):Int)-1=(j:Nat):=by omega
    have hl:(gt A (j+1)).cmp (gt A j)<0:=by simpa [z7] using hl
    refine qq ?_
    refine gg [.b (decide ((↑(j+1):Int)>(a:Int))) true,.tt,.tt,.tt,.w (0≤(↑(j+(1:Nat)):Int)),.n (zy (↑(j+1):Int)) (j+1),.w (j+(1:Nat)<zq (zz zn A)),.tt,.tt,.tt,.i zd ((↑(j+1):Int)-1) (j:Int),.tt,.w (0≤(j:Int)),.n (zy (j:Int)) j,.w (j<zq (zz zn A)),.tt] ⟨tP,oW,nK,o_w (by (simp;omega)),oI,oW,nK,o_w (by (simp;omega)),trivial⟩ ?_
    refine gg [.g (zz zn A) (j+1) (zn (gt A (j+1))),.tt,.g (zz zn A) j (zn (gt A j)),.tt,.w (isFnB cx (129:Nat)=true),.a _ _,.tt,.tt,.b (decide (Cross.cmp (gt A (j+1)) (gt A j)<0)) true,.i zd ((↑(j+1):Int)-1) (j:Int),.i zd ((↑(j+1):Int)-1) (j:Int),.w (0≤(j:Int)),.n (zy (j:Int)) j,.w (j<zq (zz zn A)),.w (0≤(↑(j+(1:Nat)):Int)),.n (zy (↑(j+1):Int)) (j+1)] ⟨o_gt rfl (by assumption) (by intro h;cases h),oT,o_w (by kernel_rfl),o_a (Aax (gt A (j+1)) (gt A j)),t_brp (by assumption),oI,oI,oW,nK,o_w (by (simp;omega)),oW,nK,trivial⟩ ?_
    refine gg [.w (j+(1:Nat)<zq (zz zn A)),.g (zz zn A) j (zn (gt A j)),.g (zz zn A) (j+1) (zn (gt A (j+1))),.w (0≤(↑(j+(1:Nat)):Int)),.n (zy (↑(j+1):Int)) (j+1),.w (j+(1:Nat)<zq (zz zn A)),.w (j+(1:Nat)<zq (zz zn A)),.t (qk 0 (zx (zz zn A) (j+1) (zn (gt A j)))) (qk 0 (zz zn (zx A (j+1) (gt A j)))),.w (0≤(j:Int)),.n (zy (j:Int)) j,.w (j<zq (zz zn (zx A (j+(1:Nat)) (gt A j)))),.w (j<zq (zz zn (zx A (j+(1:Nat)) (gt A j)))),.t (qk 0 (zx (zz zn (zx A (j+1) (gt A j))) j (zn (gt A (j+1))))) (qk 0 (zz zn (zx (zx A (j+1) (gt A j)) j (gt A (j+1))))),.i zd ((↑(j+1):Int)-1) (j:Int),.a _ _] ⟨o_w (by (simp;omega)),oT,o_gt rfl (by assumption) (by intro h;cases h),oW,nK,o_w (by (simp;omega)),o_w (by (simp;omega)),o_l (Aal rfl rfl),oW,nK,o_w (by (simp;omega)),o_w (by (simp;omega)),o_l (Aal rfl rfl),oI,o_a ih1,trivial⟩ ?_
    refine rT (a:=qz (qx 2) [qy 0 none,vi (a:Int),vi (b:Int),V.t (T.clo 129 []),vi (i:Int),vi (k:Int)] [qv 15 (zz zn (insIn z7 a j (zx (zx A (j+1) (gt A j)) j (gt A (j+1))))) none false]) ?_
    simp_all
   |false=>
    unfold small at hn
    clear ih
    refine ⟨j+1,?_⟩
    have e:insIn z7 a (j+1) A=A:=by rw [insIn,if_pos hj,hl]
    rw [e]
    have hl: ¬(gt A (j+1)).cmp (gt A j)<0:=by simpa [z7] using hl
    refine qq ?_
    refine gg [.b (decide ((↑(j+1):Int)>(a:Int))) true,.tt,.tt,.tt,.w (0≤(↑(j+(1:Nat)):Int)),.n (zy (↑(j+1):Int)) (j+1),.w (j+(1:Nat)<zq (zz zn A)),.tt,.tt,.tt,.i zd ((↑(j+1):Int)-1) ((↑(j+1):Int)-1),.tt,.w (0≤(↑(j+(1:Nat)):Int)-(1:Int)),.n (zy ((↑(j+1):Int)-1)) j,.w (j<zq (zz zn A)),.tt] ⟨tP,oW,nK,o_w (by (simp;omega)),oI,oW,oN,o_w (by (simp;omega)),trivial⟩ ?_
    refine gg [.g (zz zn A) (j+1) (zn (gt A (j+1))),.tt,.g (zz zn A) j (zn (gt A j)),.tt,.w (isFnB cx (129:Nat)=true),.a _ _,.tt,.tt,.b (decide (Cross.cmp (gt A (j+1)) (gt A j)<0)) false] ⟨o_gt rfl (by assumption) (by intro h;cases h),oT,o_w (by kernel_rfl),o_a (Aax (gt A (j+1)) (gt A j)),f_brp (by assumption),trivial⟩ ?_
    refine rT (a:=qz (qx 2) [qy 0 none,vi (a:Int),vi (b:Int),V.t (T.clo 129 []),vi (i:Int),vi (↑(j+1):Int)] [qv 15 (zz zn A) none false]) ?_
    simp_all
  ·unfold small at hn
   clear ih
   refine ⟨j+1,?_⟩
   have e:insIn z7 a (j+1) A=A:=by rw [insIn,if_neg hj]
   rw [e]
   refine qq ?_
   refine gg [.b (decide ((↑(j+1):Int)>(a:Int))) false,.ff,.ff,.ff,.ff,.ff,.ff,.ff,.ff,.ff,.ff,.ff,.ff,.ff] ⟨fP,trivial⟩ ?_
   refine rT (a:=qz (qx 2) [qy 0 none,vi (a:Int),vi (b:Int),V.t (T.clo 129 []),vi (i:Int),vi (↑(j+1):Int)] [qv 15 (zz zn A) none false]) ?_
   simp_all
theorem Adk (a b:Nat): ∀(d i:Nat) (A:List Cross),i+d=b→a≤i→b≤A.length→small A→ ∃k:Nat,
  Is cx (.loop 186 [0,1] 1 [.all 0 none,vi a,vi b,.t (.clo 129 []),vi i] [.arr 15 (A.map zn) none false])
   ⟨.exit 0,[.all 0 none,vi a,vi b,.t (.clo 129 []),vi k],[.arr 15 ((insOut z7 a d i A).map zn) none false]⟩:=by
 intro d
 induction d with
 |zero=>
  intro i A hi h1 h2 hn
  unfold small at hn
  refine ⟨i,?_⟩
  refine qq ?_
  refine gg [.b (decide ((i:Int)<(b:Int))) false] ⟨fP,trivial⟩ ?_
  exact ge
 |succ d ih=>
  intro i A hi h1 h2 hn
  obtain ⟨k0,h0⟩:=Adx a b i i A h1 (by omega) hn
  obtain ⟨k,ih1⟩:=ih (i+1) (insIn z7 a i A) (by omega) (by omega) (by rw [Ack];omega) (by unfold small;rw [Ack];exact hn)
  unfold small at hn
  clear ih
  refine ⟨k,?_⟩
  have hlen:(insIn z7 a i A).length=A.length:=Ack ..
  rw [insOut]
  refine qq ?_
  refine gg [.b (decide ((i:Int)<(b:Int))) true,.a _ _,.i zd ((i:Int)+1) ((↑(i+1):Int)),.a _ _] ⟨tP,o_a h0,oI,o_a ih1,trivial⟩ ?_
  exact ge
theorem Ab8 (A:List Cross) (a b:Nat) (h1:a≤b) (h2:b≤A.length) (hn:small A):Is cx (.call 186 [.all 0 none,vi a,vi b,.t (.clo 129 [])] [.arr 15 (A.map zn) none false])
  ⟨.ret,[],[.arr 15 ((srt z7 A a b).map zn) none false]⟩:=by
 by_cases hab:a<b
 ·rw [←AiN Aaq hab h2]
  obtain ⟨k,h⟩:=Adk a b (b-a-1) (a+1) A (by omega) (by omega) h2 hn
  unfold small at hn
  refine qq ?_
  refine gg [.i zd ((a:Int)+1) ((↑(a+1):Int)),.a _ _] ⟨oI,o_a h,trivial⟩ ?_
  exact ge
 ·obtain rfl:a=b:=by omega
  rw [Akd Aaq (by omega) (by omega)]
  unfold small at hn
  have h:Is cx (.loop 186 [0,1] 1 [.all 0 none,vi a,vi a,.t (.clo 129 []),vi (a+1:Nat)] [.arr 15 (A.map zn) none false])
   ⟨.exit 0,[.all 0 none,vi a,vi a,.t (.clo 129 []),vi (a+1:Nat)],[.arr 15 (A.map zn) none false]⟩:=by
   refine qq ?_
   refine gg [.b (decide ((↑(a+1):Int)<(a:Int))) false] ⟨fP,trivial⟩ ?_
   exact ge
  refine qq ?_
  refine gg [.i zd ((a:Int)+1) ((↑(a+1):Int)),.a _ _] ⟨oI,o_a h,trivial⟩ ?_
  exact ge
theorem Afx (m:Nat): ∀(d i j:Nat) (A:List Cross),i+j≤d→0<i→0<j→i≤m→m+j≤A.length→small A→ ∃(k:Nat) (B:List Cross),
  Is cx (.loop 194 [0,0,1,1] 1 [.all 0 none,vi m,.t (.clo 129 []),vi i,vi j] [.arr 15 (A.map zn) none false])
   ⟨.exit 0,[.all 0 none,vi m,.t (.clo 129 []),vi k,vi k],[.arr 15 (B.map zn) none false]⟩∧k≤m∧m+k≤A.length∧B.length=A.length∧swR k B (m-k) m=rotL d A m i j:=by
 intro d
 induction d with
 |zero=>intros;omega
 |succ d ih=>
  intro i j A hd h1 h2 h3 h4 hn
  by_cases hij:i=j
  ·subst hij
   refine ⟨i,A,?_,h3,h4,rfl,by rw [rotL,if_pos rfl]⟩
   unfold small at hn
   refine qq ?_
   refine gg [.b ((i:Int) !=(i:Int)) false] ⟨f_brn rfl,trivial⟩ ?_
   exact ge
  ·by_cases hj:j<i
   ·obtain ⟨k,B,ih1,k1,k2,k3,k4⟩:=ih (i-j) j (swR j A (m-i) m) (by omega) (by omega) h2 (by omega) (by rw [AaI];omega) (by unfold small;rw [AaI];exact hn)
    rw [AaI] at k2 k3
    refine ⟨k,B,?_,k1,k2,k3,by rw [rotL,if_neg hij,if_pos hj,k4]⟩
    have h0:=Abw A (m-i) m j (by omega) (by omega) hn
    have hlen:(swR j A (m-i) m).length=A.length:=AaI ..
    unfold small at hn
    clear ih
    have e1:(m:Int)-i=(m-i:Nat):=by omega
    have e2:(i:Int)-j=(i-j:Nat):=by omega
    refine qq ?_
    refine gg [.b ((i:Int) !=(j:Int)) true,.b (decide ((i:Int)>(j:Int))) true,.i zd ((m:Int)-(i:Int)) ((↑(m-i):Int)),.a _ _,.i zd ((i:Int)-(j:Int)) ((↑(i-j):Int)),.a _ _] ⟨tN,tP,oI,o_a h0,oI,o_a ih1,trivial⟩ ?_
    exact ge
   ·obtain ⟨k,B,ih1,k1,k2,k3,k4⟩:=ih i (j-i) (swR i A (m-i) (m+j-i)) (by omega) h1 (by omega) h3 (by rw [AaI];omega) (by unfold small;rw [AaI];exact hn)
    rw [AaI] at k2 k3
    refine ⟨k,B,?_,k1,k2,k3,by rw [rotL,if_neg hij,if_neg hj,k4]⟩
    have h0:=Abw A (m-i) (m+j-i) i (by omega) (by omega) hn
    have hlen:(swR i A (m-i) (m+j-i)).length=A.length:=AaI ..
    unfold small at hn
    clear ih
    have e1:(m:Int)-i=(m-i:Nat):=by omega
    have e2:(j:Int)-i=(j-i:Nat):=by omega
    have e3:(m+j:Nat)-(i:Int)=(m+j-i:Nat):=by omega
    refine qq ?_
    refine gg [.b ((i:Int) !=(j:Int)) true,.b (decide ((i:Int)>(j:Int))) false,.i zd ((m:Int)-(i:Int)) ((↑(m-i):Int)),.i zd ((m:Int)+(j:Int)) ((↑(m+j):Int)),.i zd ((↑(m+j):Int)-(i:Int)) ((↑(m+j-i):Int)),.a _ _,.i zd ((j:Int)-(i:Int)) ((↑(j-i):Int)),.a _ _] ⟨tN,fP,oI,oI,oI,o_a h0,oI,o_a ih1,trivial⟩ ?_
    exact ge
theorem Ai6 (A:List Cross) (a m b:Nat) (h1:a<m) (h2:m<b) (h3:b≤A.length) (hn:small A):Is cx (.call 194 [.all 0 none,vi a,vi m,vi b,.t (.clo 129 [])] [.arr 15 (A.map zn) none false])
  ⟨.ret,[],[.arr 15 ((A.take a++seg A m b++seg A a m++A.drop b).map zn) none false]⟩:=by
 rw [←AlO h1 h2 h3 (Nat.le_refl _)]
 obtain ⟨k,B,h,k1,k2,k3,k4⟩:=Afx m (b-a) (m-a) (b-m) A (by omega) (by omega) (by omega) (by omega) (by omega) hn
 rw [←k4]
 have h0:=Abw B (m-k) m k (by omega) (by omega) (by unfold small;rw [k3];exact hn)
 unfold small at hn
 have e1:(m:Int)-a=(m-a:Nat):=by omega
 have e2:(b:Int)-m=(b-m:Nat):=by omega
 have e3:(m:Int)-k=(m-k:Nat):=by omega
 refine qq ?_
 refine gg [.i zd ((m:Int)-(a:Int)) ((↑(m-a):Int)),.i zd ((b:Int)-(m:Int)) ((↑(b-m):Int)),.a _ _,.i zd ((m:Int)-(k:Int)) ((↑(m-k):Int)),.a _ _] ⟨oI,oI,o_a h,oI,o_a h0,trivial⟩ ?_
 exact ge
theorem Ad4 (a b n:Nat) (h1:a+n≤b): ∀(d i:Nat) (A:List Entity),i+d=n→b+n≤A.length→small A→
  Is cx (.loop 196 [0,1] 1 [.all 0 none,vi a,vi b,vi n,vi i] [.arr 9 (A.map zm) none false])
   ⟨.exit 0,[.all 0 none,vi a,vi b,vi n,vi n],[.arr 9 ((swR d A (a+i) (b+i)).map zm) none false]⟩:=by
 intro d
 induction d with
 |zero=>
  intro i A hi h2 hn
  unfold small at hn
  refine qq ?_
  refine gg [.b (decide ((i:Int)<(n:Int))) false] ⟨fP,trivial⟩ ?_
  refine rT (a:=qz (qx 0) [qy 0 none,vi (a:Int),vi (b:Int),vi (n:Int),vi (i:Int)] [qv 9 (zz zm A) none false]) ?_
  ((have hq:i=n:=by omega);subst hq;rfl)
 |succ d ih=>
  intro i A hi h2 hn
  have ih1:=ih (i+1) (sw A (a+i) (b+i)) (by omega) (by rw [AaY];omega) (by unfold small;rw [AaY];exact hn)
  unfold small at hn
  clear ih
  unfold sw at ih1
  refine qq ?_
  refine gg [.b (decide ((i:Int)<(n:Int))) true,.i zd ((a:Int)+(i:Int)) ((↑(a+i):Int)),.i zd ((b:Int)+(i:Int)) ((↑(b+i):Int)),.i zd ((b:Int)+(i:Int)) ((↑(b+i):Int)),.w (0≤(↑(b+i):Int)),.n (zy (↑(b+i):Int)) (b+i),.w (b+i<zq (zz zm A)),.i zd ((a:Int)+(i:Int)) ((↑(a+i):Int)),.w (0≤(↑(a+i):Int)),.n (zy (↑(a+i):Int)) (a+i),.w (a+i<zq (zz zm A)),.g (zz zm A) (b+i) (zm (gt A (b+i))),.g (zz zm A) (a+i) (zm (gt A (a+i))),.w (0≤(↑(a+i):Int)),.n (zy (↑(a+i):Int)) (a+i),.w (a+i<zq (zz zm A))] ⟨tP,oI,oI,oI,oW,nK,o_w (by (simp;omega)),oI,oW,nK,o_w (by (simp;omega)),oT,oT,oW,nK,o_w (by (simp;omega)),trivial⟩ ?_
  refine gg [.w (a+i<zq (zz zm A)),.t (qk 0 (zx (zz zm A) (a+i) (zm (gt A (b+i))))) (qk 0 (zz zm (zx A (a+i) (gt A (b+i))))),.w (0≤(↑(b+i):Int)),.n (zy (↑(b+i):Int)) (b+i),.w (b+i<zq (zz zm (zx A (a+i) (gt A (b+i))))),.w (b+i<zq (zz zm (zx A (a+i) (gt A (b+i))))),.t (qk 0 (zx (zz zm (zx A (a+i) (gt A (b+i)))) (b+i) (zm (gt A (a+i))))) (qk 0 (zz zm (zx (zx A (a+i) (gt A (b+i))) (b+i) (gt A (a+i))))),.i zd ((i:Int)+1) ((↑(i+1):Int)),.a _ _] ⟨o_w (by (simp;omega)),o_l (Aal rfl rfl),oW,nK,o_w (by (simp;omega)),o_w (by (simp;omega)),o_l (Aal rfl rfl),oI,o_a ih1,trivial⟩ ?_
  refine rT (a:=qz (qx 0) [qy 0 none,vi (a:Int),vi (b:Int),vi (n:Int),vi (n:Int)] [qv 9 (zz zm (swR d (zx (zx A (a+i) (gt A (b+i))) (b+i) (gt A (a+i))) (a+(i+1)) (b+(i+1)))) none false]) ?_
  (simp_all [swR,sw,Nat.add_assoc];try omega)
theorem Abk (A:List Entity) (a b n:Nat) (h1:a+n≤b) (h2:b+n≤A.length) (hn:small A):Is cx (.call 196 [.all 0 none,vi a,vi b,vi n,.t (.clo 88 [])] [.arr 9 (A.map zm) none false])
  ⟨.ret,[],[.arr 9 ((swR n A a b).map zm) none false]⟩:=by
 have h:=Ad4 a b n h1 n 0 A (by omega) h2 hn
 rw [Nat.add_zero,Nat.add_zero] at h
 unfold small at hn
 refine qq ?_
 refine gg [.a _ _] ⟨o_a h,trivial⟩ ?_
 exact ge
theorem AcV (a b i:Nat): ∀(j:Nat) (A:List Entity),a≤j→j<A.length→small A→ ∃k:Nat,
  Is cx (.loop 181 [0,1,0,0,1,0,0,1] 1 [.all 0 none,vi a,vi b,.t (.clo 88 []),vi i,vi j] [.arr 9 (A.map zm) none false])
   ⟨.exit 2,[.all 0 none,vi a,vi b,.t (.clo 88 []),vi i,vi k],[.arr 9 ((insIn z8 a j A).map zm) none false]⟩:=by
 intro j
 induction j with
 |zero=>
  intro A h1 h2 hn
  unfold small at hn
  refine ⟨0,?_⟩
  refine qq ?_
  refine gg [.b (decide (0>(a:Int))) false,.ff,.ff,.ff,.ff,.ff,.ff,.ff,.ff,.ff,.ff,.ff,.ff,.ff] ⟨bK,trivial⟩ ?_
  exact ge
 |succ j ih=>
  intro A h1 h2 hn
  by_cases hj:a<j+1
  ·cases hl:z8 (gt A (j+1)) (gt A j) with
   |true=>
    obtain ⟨k,ih1⟩:=ih (sw A (j+1) j) (by omega) (by rw [AaY];omega) (by unfold small;rw [AaY];exact hn)
    unfold small at hn
    clear ih
    refine ⟨k,?_⟩
    have e:insIn z8 a (j+1) A=insIn z8 a j (sw A (j+1) j):=by rw [insIn,if_pos hj,hl]
    rw [e]
    unfold sw at*
    have ej:((j+1:Nat):Int)-1=(j:Nat):=by omega
    have hl:(gt A (j+1)).cmp (gt A j)<0:=by simpa [z8] using hl
    refine qq ?_
    refine gg [.b (decide ((↑(j+1):Int)>(a:Int))) true,.tt,.tt,.tt,.w (0≤(↑(j+(1:Nat)):Int)),.n (zy (↑(j+1):Int)) (j+1),.w (j+(1:Nat)<zq (zz zm A)),.tt,.tt,.tt,.i zd ((↑(j+1):Int)-1) (j:Int),.tt,.w (0≤(j:Int)),.n (zy (j:Int)) j,.w (j<zq (zz zm A)),.tt] ⟨tP,oW,nK,o_w (by (simp;omega)),oI,oW,nK,o_w (by (simp;omega)),trivial⟩ ?_
    refine gg [.g (zz zm A) (j+1) (zm (gt A (j+1))),.tt,.g (zz zm A) j (zm (gt A j)),.tt,.w (isFnB cx (88:Nat)=true),.a _ _,.tt,.tt,.b (decide (Entity.cmp (gt A (j+1)) (gt A j)<0)) true,.i zd ((↑(j+1):Int)-1) (j:Int),.i zd ((↑(j+1):Int)-1) (j:Int),.w (0≤(j:Int)),.n (zy (j:Int)) j,.w (j<zq (zz zm A)),.w (0≤(↑(j+(1:Nat)):Int)),.n (zy (↑(j+1):Int)) (j+1)] ⟨o_gt rfl (by assumption) (by intro h;cases h),oT,o_w (by kernel_rfl),o_a (Aa9 (gt A (j+1)) (gt A j)),t_brp (by assumption),oI,oI,oW,nK,o_w (by (simp;omega)),oW,nK,trivial⟩ ?_
    refine gg [.w (j+(1:Nat)<zq (zz zm A)),.g (zz zm A) j (zm (gt A j)),.g (zz zm A) (j+1) (zm (gt A (j+1))),.w (0≤(↑(j+(1:Nat)):Int)),.n (zy (↑(j+1):Int)) (j+1),.w (j+(1:Nat)<zq (zz zm A)),.w (j+(1:Nat)<zq (zz zm A)),.t (qk 0 (zx (zz zm A) (j+1) (zm (gt A j)))) (qk 0 (zz zm (zx A (j+1) (gt A j)))),.w (0≤(j:Int)),.n (zy (j:Int)) j,.w (j<zq (zz zm (zx A (j+(1:Nat)) (gt A j)))),.w (j<zq (zz zm (zx A (j+(1:Nat)) (gt A j)))),.t (qk 0 (zx (zz zm (zx A (j+1) (gt A j))) j (zm (gt A (j+1))))) (qk 0 (zz zm (zx (zx A (j+1) (gt A j)) j (gt A (j+1))))),.i zd ((↑(j+1):Int)-1) (j:Int),.a _ _] ⟨o_w (by (simp;omega)),oT,o_gt rfl (by assumption) (by intro h;cases h),oW,nK,o_w (by (simp;omega)),o_w (by (simp;omega)),o_l (Aal rfl rfl),oW,nK,o_w (by (simp;omega)),o_w (by (simp;omega)),o_l (Aal rfl rfl),oI,o_a ih1,trivial⟩ ?_
    refine rT (a:=qz (qx 2) [qy 0 none,vi (a:Int),vi (b:Int),V.t (T.clo 88 []),vi (i:Int),vi (k:Int)] [qv 9 (zz zm (insIn z8 a j (zx (zx A (j+1) (gt A j)) j (gt A (j+1))))) none false]) ?_
    simp_all
   |false=>
    unfold small at hn
    clear ih
    refine ⟨j+1,?_⟩
    have e:insIn z8 a (j+1) A=A:=by rw [insIn,if_pos hj,hl]
    rw [e]
    have hl: ¬(gt A (j+1)).cmp (gt A j)<0:=by simpa [z8] using hl
    refine qq ?_
    refine gg [.b (decide ((↑(j+1):Int)>(a:Int))) true,.tt,.tt,.tt,.w (0≤(↑(j+(1:Nat)):Int)),.n (zy (↑(j+1):Int)) (j+1),.w (j+(1:Nat)<zq (zz zm A)),.tt,.tt,.tt,.i zd ((↑(j+1):Int)-1) ((↑(j+1):Int)-1),.tt,.w (0≤(↑(j+(1:Nat)):Int)-(1:Int)),.n (zy ((↑(j+1):Int)-1)) j,.w (j<zq (zz zm A)),.tt] ⟨tP,oW,nK,o_w (by (simp;omega)),oI,oW,oN,o_w (by (simp;omega)),trivial⟩ ?_
    refine gg [.g (zz zm A) (j+1) (zm (gt A (j+1))),.tt,.g (zz zm A) j (zm (gt A j)),.tt,.w (isFnB cx (88:Nat)=true),.a _ _,.tt,.tt,.b (decide (Entity.cmp (gt A (j+1)) (gt A j)<0)) false] ⟨o_gt rfl (by assumption) (by intro h;cases h),oT,o_w (by kernel_rfl),o_a (Aa9 (gt A (j+1)) (gt A j)),f_brp (by assumption),trivial⟩ ?_
    refine rT (a:=qz (qx 2) [qy 0 none,vi (a:Int),vi (b:Int),V.t (T.clo 88 []),vi (i:Int),vi (↑(j+1):Int)] [qv 9 (zz zm A) none false]) ?_
    simp_all
  ·unfold small at hn
   clear ih
   refine ⟨j+1,?_⟩
   have e:insIn z8 a (j+1) A=A:=by rw [insIn,if_neg hj]
   rw [e]
   refine qq ?_
   refine gg [.b (decide ((↑(j+1):Int)>(a:Int))) false,.ff,.ff,.ff,.ff,.ff,.ff,.ff,.ff,.ff,.ff,.ff,.ff,.ff] ⟨fP,trivial⟩ ?_
   refine rT (a:=qz (qx 2) [qy 0 none,vi (a:Int),vi (b:Int),V.t (T.clo 88 []),vi (i:Int),vi (↑(j+1):Int)] [qv 9 (zz zm A) none false]) ?_
   simp_all
theorem AcX (a b:Nat): ∀(d i:Nat) (A:List Entity),i+d=b→a≤i→b≤A.length→small A→ ∃k:Nat,
  Is cx (.loop 181 [0,1] 1 [.all 0 none,vi a,vi b,.t (.clo 88 []),vi i] [.arr 9 (A.map zm) none false])
   ⟨.exit 0,[.all 0 none,vi a,vi b,.t (.clo 88 []),vi k],[.arr 9 ((insOut z8 a d i A).map zm) none false]⟩:=by
 intro d
 induction d with
 |zero=>
  intro i A hi h1 h2 hn
  unfold small at hn
  refine ⟨i,?_⟩
  refine qq ?_
  refine gg [.b (decide ((i:Int)<(b:Int))) false] ⟨fP,trivial⟩ ?_
  exact ge
 |succ d ih=>
  intro i A hi h1 h2 hn
  obtain ⟨k0,h0⟩:=AcV a b i i A h1 (by omega) hn
  obtain ⟨k,ih1⟩:=ih (i+1) (insIn z8 a i A) (by omega) (by omega) (by rw [Ack];omega) (by unfold small;rw [Ack];exact hn)
  unfold small at hn
  clear ih
  refine ⟨k,?_⟩
  have hlen:(insIn z8 a i A).length=A.length:=Ack ..
  rw [insOut]
  refine qq ?_
  refine gg [.b (decide ((i:Int)<(b:Int))) true,.a _ _,.i zd ((i:Int)+1) ((↑(i+1):Int)),.a _ _] ⟨tP,o_a h0,oI,o_a ih1,trivial⟩ ?_
  exact ge
theorem Abq (A:List Entity) (a b:Nat) (h1:a≤b) (h2:b≤A.length) (hn:small A):Is cx (.call 181 [.all 0 none,vi a,vi b,.t (.clo 88 [])] [.arr 9 (A.map zm) none false])
  ⟨.ret,[],[.arr 9 ((srt z8 A a b).map zm) none false]⟩:=by
 by_cases hab:a<b
 ·rw [←AiN Aak hab h2]
  obtain ⟨k,h⟩:=AcX a b (b-a-1) (a+1) A (by omega) (by omega) h2 hn
  unfold small at hn
  refine qq ?_
  refine gg [.i zd ((a:Int)+1) ((↑(a+1):Int)),.a _ _] ⟨oI,o_a h,trivial⟩ ?_
  exact ge
 ·obtain rfl:a=b:=by omega
  rw [Akd Aak (by omega) (by omega)]
  unfold small at hn
  have h:Is cx (.loop 181 [0,1] 1 [.all 0 none,vi a,vi a,.t (.clo 88 []),vi (a+1:Nat)] [.arr 9 (A.map zm) none false])
   ⟨.exit 0,[.all 0 none,vi a,vi a,.t (.clo 88 []),vi (a+1:Nat)],[.arr 9 (A.map zm) none false]⟩:=by
   refine qq ?_
   refine gg [.b (decide ((↑(a+1):Int)<(a:Int))) false] ⟨fP,trivial⟩ ?_
   exact ge
  refine qq ?_
  refine gg [.i zd ((a:Int)+1) ((↑(a+1):Int)),.a _ _] ⟨oI,o_a h,trivial⟩ ?_
  exact ge
theorem AeV (m:Nat): ∀(d i j:Nat) (A:List Entity),i+j≤d→0<i→0<j→i≤m→m+j≤A.length→small A→ ∃(k:Nat) (B:List Entity),
  Is cx (.loop 193 [0,0,1,1] 1 [.all 0 none,vi m,.t (.clo 88 []),vi i,vi j] [.arr 9 (A.map zm) none false])
   ⟨.exit 0,[.all 0 none,vi m,.t (.clo 88 []),vi k,vi k],[.arr 9 (B.map zm) none false]⟩∧k≤m∧m+k≤A.length∧B.length=A.length∧swR k B (m-k) m=rotL d A m i j:=by
 intro d
 induction d with
 |zero=>intros;omega
 |succ d ih=>
  intro i j A hd h1 h2 h3 h4 hn
  by_cases hij:i=j
  ·subst hij
   refine ⟨i,A,?_,h3,h4,rfl,by rw [rotL,if_pos rfl]⟩
   unfold small at hn
   refine qq ?_
   refine gg [.b ((i:Int) !=(i:Int)) false] ⟨f_brn rfl,trivial⟩ ?_
   exact ge
  ·by_cases hj:j<i
   ·obtain ⟨k,B,ih1,k1,k2,k3,k4⟩:=ih (i-j) j (swR j A (m-i) m) (by omega) (by omega) h2 (by omega) (by rw [AaI];omega) (by unfold small;rw [AaI];exact hn)
    rw [AaI] at k2 k3
    refine ⟨k,B,?_,k1,k2,k3,by rw [rotL,if_neg hij,if_pos hj,k4]⟩
    have h0:=Abk A (m-i) m j (by omega) (by omega) hn
    have hlen:(swR j A (m-i) m).length=A.length:=AaI ..
    unfold small at hn
    clear ih
    have e1:(m:Int)-i=(m-i:Nat):=by omega
    have e2:(i:Int)-j=(i-j:Nat):=by omega
    refine qq ?_
    refine gg [.b ((i:Int) !=(j:Int)) true,.b (decide ((i:Int)>(j:Int))) true,.i zd ((m:Int)-(i:Int)) ((↑(m-i):Int)),.a _ _,.i zd ((i:Int)-(j:Int)) ((↑(i-j):Int)),.a _ _] ⟨tN,tP,oI,o_a h0,oI,o_a ih1,trivial⟩ ?_
    exact ge
   ·obtain ⟨k,B,ih1,k1,k2,k3,k4⟩:=ih i (j-i) (swR i A (m-i) (m+j-i)) (by omega) h1 (by omega) h3 (by rw [AaI];omega) (by unfold small;rw [AaI];exact hn)
    rw [AaI] at k2 k3
    refine ⟨k,B,?_,k1,k2,k3,by rw [rotL,if_neg hij,if_neg hj,k4]⟩
    have h0:=Abk A (m-i) (m+j-i) i (by omega) (by omega) hn
    have hlen:(swR i A (m-i) (m+j-i)).length=A.length:=AaI ..
    unfold small at hn
    clear ih
    have e1:(m:Int)-i=(m-i:Nat):=by omega
    have e2:(j:Int)-i=(j-i:Nat):=by omega
    have e3:(m+j:Nat)-(i:Int)=(m+j-i:Nat):=by omega
    refine qq ?_
    refine gg [.b ((i:Int) !=(j:Int)) true,.b (decide ((i:Int)>(j:Int))) false,.i zd ((m:Int)-(i:Int)) ((↑(m-i):Int)),.i zd ((m:Int)+(j:Int)) ((↑(m+j):Int)),.i zd ((↑(m+j):Int)-(i:Int)) ((↑(m+j-i):Int)),.a _ _,.i zd ((j:Int)-(i:Int)) ((↑(j-i):Int)),.a _ _] ⟨tN,fP,oI,oI,oI,o_a h0,oI,o_a ih1,trivial⟩ ?_
    exact ge
theorem Aio (A:List Entity) (a m b:Nat) (h1:a<m) (h2:m<b) (h3:b≤A.length) (hn:small A):Is cx (.call 193 [.all 0 none,vi a,vi m,vi b,.t (.clo 88 [])] [.arr 9 (A.map zm) none false])
  ⟨.ret,[],[.arr 9 ((A.take a++seg A m b++seg A a m++A.drop b).map zm) none false]⟩:=by
 rw [←AlO h1 h2 h3 (Nat.le_refl _)]
 obtain ⟨k,B,h,k1,k2,k3,k4⟩:=AeV m (b-a) (m-a) (b-m) A (by omega) (by omega) (by omega) (by omega) (by omega) hn
 rw [←k4]
 have h0:=Abk B (m-k) m k (by omega) (by omega) (by unfold small;rw [k3];exact hn)
 unfold small at hn
 have e1:(m:Int)-a=(m-a:Nat):=by omega
 have e2:(b:Int)-m=(b-m:Nat):=by omega
 have e3:(m:Int)-k=(m-k:Nat):=by omega
 refine qq ?_
 refine gg [.i zd ((m:Int)-(a:Int)) ((↑(m-a):Int)),.i zd ((b:Int)-(m:Int)) ((↑(b-m):Int)),.a _ _,.i zd ((m:Int)-(k:Int)) ((↑(m-k):Int)),.a _ _] ⟨oI,oI,o_a h,oI,o_a h0,trivial⟩ ?_
 exact ge
end Go.Eva.S4
namespace Go.Eva.S4
theorem AeU (A:List Cross) (a:Nat) (ha:a<A.length) (hn:small A): ∀(d i j:Nat),i≤j→j≤i+d→j≤A.length→
  Is cx (.loop 187 [0,0,1,1,0,1,0] 1 [.all 0 none,vi a,.t (.clo 129 []),vi i,vi j] [.arr 15 (A.map zn) none false])
   ⟨.exit 0,[.all 0 none,vi a,.t (.clo 129 []),vi (bs (fun h=>z7 (gt A h) (gt A a)) d i j:Nat),vi (bs (fun h=>z7 (gt A h) (gt A a)) d i j:Nat)],[.arr 15 (A.map zn) none false]⟩:=by
 intro d
 induction d with
 |zero=>
  intro i j h1 h2 h3
  obtain rfl:i=j:=by omega
  unfold small at hn
  unfold bs
  refine qq ?_
  refine gg [.b (decide ((i:Int)<(i:Int))) false] ⟨fP,trivial⟩ ?_
  exact ge
 |succ d ih=>
  intro i j h1 h2 h3
  by_cases hij:i<j
  ·obtain ⟨h,hh⟩: ∃h,(i+j)/2=h:=⟨_,rfl⟩
   have hf:zh ((i+j:Nat):Int) 2=(h:Nat):=by rw [Int.fdiv_eq_ediv_of_nonneg _ (by omega)];omega
   have ih1:=ih (h+1) j (by omega) (by omega) (by omega)
   have ih2:=ih i h (by omega) (by omega) (by omega)
   unfold small at hn
   clear ih
   cases hl:(fun h=>z7 (gt A h) (gt A a)) h with
   |true=>
    have e:bs (fun h=>z7 (gt A h) (gt A a)) (d+1) i j=bs (fun h=>z7 (gt A h) (gt A a)) d (h+1) j:=by exact bs_t hij hh hl
    rw [e]
    have hl:(gt A h).cmp (gt A a)<0:=by simpa [z7] using hl
    refine qq ?_
    refine gg [.b (decide ((i:Int)<(j:Int))) true,.i zd ((i:Int)+(j:Int)) ((↑(i+j):Int)),.i zf ((↑(i+j):Int)) ((↑(i+j):Int)),.w (0≤(1:Int)),.t (T.int zf (zh (↑(i+j):Int) 2)) (T.int zf (h:Int)),.i zd (h:Int) (h:Int),.w (0≤(h:Int)),.n (zy (h:Int)) h,.w (h<zq (zz zn A)),.w (0≤(a:Int)),.n (zy (a:Int)) a,.w (a<zq (zz zn A)),.g (zz zn A) h (zn (gt A h)),.g (zz zn A) a (zn (gt A a)),.w (isFnB cx (129:Nat)=true),.a _ _] ⟨tP,oI,oU,oW,o_t (by rw [hf]),oI,oW,nK,o_w (by (simp;omega)),oW,nK,o_w (by (simp;omega)),oT,o_gt rfl (by assumption) (by intro h;cases h),o_w (by kernel_rfl),o_a (Aax (gt A h) (gt A a)),trivial⟩ ?_
    refine gg [.b (decide (Cross.cmp (gt A h) (gt A a)<0)) true,.i zd ((h:Int)+1) ((↑(h+1):Int)),.a _ _] ⟨t_brp (by assumption),oI,o_a ih1,trivial⟩ ?_
    refine rT (a:=qz (qx 0) [qy 0 none,vi (a:Int),V.t (T.clo 129 []),vi (↑(bs (fun (h:Nat)↦z7 (gt A h) (gt A a)) d (h+1) j):Int),vi (↑(bs (fun (h:Nat)↦z7 (gt A h) (gt A a)) d (h+1) j):Int)] [qv 15 (zz zn A) none false]) ?_
    (first|rfl|omega|(simp_all;done)|(simp_all;omega))
   |false=>
    have e:bs (fun h=>z7 (gt A h) (gt A a)) (d+1) i j=bs (fun h=>z7 (gt A h) (gt A a)) d i h:=by exact bs_f hij hh hl
    rw [e]
    have hl: ¬(gt A h).cmp (gt A a)<0:=by simpa [z7] using hl
    refine qq ?_
    refine gg [.b (decide ((i:Int)<(j:Int))) true,.i zd ((i:Int)+(j:Int)) ((↑(i+j):Int)),.i zf ((↑(i+j):Int)) ((↑(i+j):Int)),.w (0≤(1:Int)),.t (T.int zf (zh (↑(i+j):Int) 2)) (T.int zf (h:Int)),.i zd (h:Int) (h:Int),.w (0≤(h:Int)),.n (zy (h:Int)) h,.w (h<zq (zz zn A)),.w (0≤(a:Int)),.n (zy (a:Int)) a,.w (a<zq (zz zn A)),.g (zz zn A) h (zn (gt A h)),.g (zz zn A) a (zn (gt A a)),.w (isFnB cx (129:Nat)=true),.a _ _] ⟨tP,oI,oU,oW,o_t (by rw [hf]),oI,oW,nK,o_w (by (simp;omega)),oW,nK,o_w (by (simp;omega)),oT,o_gt rfl (by assumption) (by intro h;cases h),o_w (by kernel_rfl),o_a (Aax (gt A h) (gt A a)),trivial⟩ ?_
    refine gg [.b (decide (Cross.cmp (gt A h) (gt A a)<0)) false,.a _ _] ⟨f_brp (by assumption),o_a ih2,trivial⟩ ?_
    refine rT (a:=qz (qx 0) [qy 0 none,vi (a:Int),V.t (T.clo 129 []),vi (↑(bs (fun (h:Nat)↦z7 (gt A h) (gt A a)) d i h):Int),vi (↑(bs (fun (h:Nat)↦z7 (gt A h) (gt A a)) d i h):Int)] [qv 15 (zz zn A) none false]) ?_
    (first|rfl|omega|(simp_all;done)|(simp_all;omega))
  ·obtain rfl:i=j:=by omega
   unfold small at hn
   have e:bs (fun h=>z7 (gt A h) (gt A a)) (d+1) i i=i:=by rw [bs,if_neg hij]
   rw [e]
   refine qq ?_
   refine gg [.b (decide ((i:Int)<(i:Int))) false] ⟨fP,trivial⟩ ?_
   exact ge
theorem AeR (A:List Cross) (m:Nat) (hm:m<A.length) (hn:small A): ∀(d i j:Nat),i≤j→j≤i+d→j≤A.length→
  Is cx (.loop 187 [0,0,1,1,0,1,0,1] 1 [.all 0 none,vi m,.t (.clo 129 []),vi i,vi j] [.arr 15 (A.map zn) none false])
   ⟨.exit 4,[.all 0 none,vi m,.t (.clo 129 []),vi (bs (fun h=> !z7 (gt A m) (gt A h)) d i j:Nat),vi (bs (fun h=> !z7 (gt A m) (gt A h)) d i j:Nat)],[.arr 15 (A.map zn) none false]⟩:=by
 intro d
 induction d with
 |zero=>
  intro i j h1 h2 h3
  obtain rfl:i=j:=by omega
  unfold small at hn
  unfold bs
  refine qq ?_
  refine gg [.b (decide ((i:Int)<(i:Int))) false] ⟨fP,trivial⟩ ?_
  exact ge
 |succ d ih=>
  intro i j h1 h2 h3
  by_cases hij:i<j
  ·obtain ⟨h,hh⟩: ∃h,(i+j)/2=h:=⟨_,rfl⟩
   have hf:zh ((i+j:Nat):Int) 2=(h:Nat):=by rw [Int.fdiv_eq_ediv_of_nonneg _ (by omega)];omega
   have ih1:=ih (h+1) j (by omega) (by omega) (by omega)
   have ih2:=ih i h (by omega) (by omega) (by omega)
   unfold small at hn
   clear ih
   cases hl:(fun h=> !z7 (gt A m) (gt A h)) h with
   |true=>
    have e:bs (fun h=> !z7 (gt A m) (gt A h)) (d+1) i j=bs (fun h=> !z7 (gt A m) (gt A h)) d (h+1) j:=by exact bs_t hij hh hl
    rw [e]
    have hl: ¬(gt A m).cmp (gt A h)<0:=by simpa [z7] using hl
    refine qq ?_
    refine gg [.b (decide ((i:Int)<(j:Int))) true,.i zd ((i:Int)+(j:Int)) ((↑(i+j):Int)),.i zf ((↑(i+j):Int)) ((↑(i+j):Int)),.w (0≤(1:Int)),.t (T.int zf (zh (↑(i+j):Int) 2)) (T.int zf (h:Int)),.i zd (h:Int) (h:Int),.w (0≤(m:Int)),.n (zy (m:Int)) m,.w (m<zq (zz zn A)),.w (0≤(h:Int)),.n (zy (h:Int)) h,.w (h<zq (zz zn A)),.g (zz zn A) m (zn (gt A m)),.g (zz zn A) h (zn (gt A h)),.w (isFnB cx (129:Nat)=true),.a _ _] ⟨tP,oI,oU,oW,o_t (by rw [hf]),oI,oW,nK,o_w (by (simp;omega)),oW,nK,o_w (by (simp;omega)),o_gt rfl (by assumption) (by intro h;cases h),oT,o_w (by kernel_rfl),o_a (Aax (gt A m) (gt A h)),trivial⟩ ?_
    refine brnot (b:=decide (Cross.cmp (gt A m) (gt A h)<0)) (by kernel_rfl) (fun h1=> ?_) (fun h1=> ?_)
    ·refine gg [.i zd ((h:Int)+1) ((↑(h+1):Int)),.a _ _] ⟨oI,o_a ih1,trivial⟩ ?_
     refine rT (a:=qz (qx 4) [qy 0 none,vi (m:Int),V.t (T.clo 129 []),vi (↑(bs (fun (h:Nat)↦ !z7 (gt A m) (gt A h)) d (h+1) j):Int),vi (↑(bs (fun (h:Nat)↦ !z7 (gt A m) (gt A h)) d (h+1) j):Int)] [qv 15 (zz zn A) none false]) ?_
     (first|rfl|omega|(simp_all;done)|(simp_all;omega))
    ·refine gg [.a _ _] ⟨o_a ih2,trivial⟩ ?_
     refine rT (a:=qz (qx 4) [qy 0 none,vi (m:Int),V.t (T.clo 129 []),vi (↑(bs (fun (h:Nat)↦ !z7 (gt A m) (gt A h)) d i h):Int),vi (↑(bs (fun (h:Nat)↦ !z7 (gt A m) (gt A h)) d i h):Int)] [qv 15 (zz zn A) none false]) ?_
     (first|rfl|omega|(simp_all;done)|(simp_all;omega))
   |false=>
    have e:bs (fun h=> !z7 (gt A m) (gt A h)) (d+1) i j=bs (fun h=> !z7 (gt A m) (gt A h)) d i h:=by exact bs_f hij hh hl
    rw [e]
    have hl:(gt A m).cmp (gt A h)<0:=by simpa [z7] using hl
    refine qq ?_
    refine gg [.b (decide ((i:Int)<(j:Int))) true,.i zd ((i:Int)+(j:Int)) ((↑(i+j):Int)),.i zf ((↑(i+j):Int)) ((↑(i+j):Int)),.w (0≤(1:Int)),.t (T.int zf (zh (↑(i+j):Int) 2)) (T.int zf (h:Int)),.i zd (h:Int) (h:Int),.w (0≤(m:Int)),.n (zy (m:Int)) m,.w (m<zq (zz zn A)),.w (0≤(h:Int)),.n (zy (h:Int)) h,.w (h<zq (zz zn A)),.g (zz zn A) m (zn (gt A m)),.g (zz zn A) h (zn (gt A h)),.w (isFnB cx (129:Nat)=true),.a _ _] ⟨tP,oI,oU,oW,o_t (by rw [hf]),oI,oW,nK,o_w (by (simp;omega)),oW,nK,o_w (by (simp;omega)),o_gt rfl (by assumption) (by intro h;cases h),oT,o_w (by kernel_rfl),o_a (Aax (gt A m) (gt A h)),trivial⟩ ?_
    refine brnot (b:=decide (Cross.cmp (gt A m) (gt A h)<0)) (by kernel_rfl) (fun h1=> ?_) (fun h1=> ?_)
    ·refine gg [.i zd ((h:Int)+1) ((↑(h+1):Int)),.a _ _] ⟨oI,o_a ih1,trivial⟩ ?_
     refine rT (a:=qz (qx 4) [qy 0 none,vi (m:Int),V.t (T.clo 129 []),vi (↑(bs (fun (h:Nat)↦ !z7 (gt A m) (gt A h)) d (h+1) j):Int),vi (↑(bs (fun (h:Nat)↦ !z7 (gt A m) (gt A h)) d (h+1) j):Int)] [qv 15 (zz zn A) none false]) ?_
     (first|rfl|omega|(simp_all;done)|(simp_all;omega))
    ·refine gg [.a _ _] ⟨o_a ih2,trivial⟩ ?_
     refine rT (a:=qz (qx 4) [qy 0 none,vi (m:Int),V.t (T.clo 129 []),vi (↑(bs (fun (h:Nat)↦ !z7 (gt A m) (gt A h)) d i h):Int),vi (↑(bs (fun (h:Nat)↦ !z7 (gt A m) (gt A h)) d i h):Int)] [qv 15 (zz zn A) none false]) ?_
     (first|rfl|omega|(simp_all;done)|(simp_all;omega))
  ·obtain rfl:i=j:=by omega
   unfold small at hn
   have e:bs (fun h=> !z7 (gt A m) (gt A h)) (d+1) i i=i:=by rw [bs,if_neg hij]
   rw [e]
   refine qq ?_
   refine gg [.b (decide ((i:Int)<(i:Int))) false] ⟨fP,trivial⟩ ?_
   exact ge
theorem AeQ (A:List Cross) (a m b mid n p:Nat) (hn:small A): ∀(d i j:Nat),i≤j→j≤i+d→j≤p+1→p<i+A.length→j≤A.length→
  Is cx (.loop 187 [0,0,1,1,1,1,1,1,1] 1 [.all 0 none,vi a,vi m,vi b,.t (.clo 129 []),vi mid,vi n,vi i,vi j,vi p] [.arr 15 (A.map zn) none false])
   ⟨.exit 8,[.all 0 none,vi a,vi m,vi b,.t (.clo 129 []),vi mid,vi n,vi (bs (fun c=> !z7 (gt A (p-c)) (gt A c)) d i j:Nat),vi (bs (fun c=> !z7 (gt A (p-c)) (gt A c)) d i j:Nat),vi p],[.arr 15 (A.map zn) none false]⟩:=by
 intro d
 induction d with
 |zero=>
  intro i j h1 h2 h3 h4 h5
  obtain rfl:i=j:=by omega
  unfold small at hn
  unfold bs
  refine qq ?_
  refine gg [.b (decide ((i:Int)<(i:Int))) false] ⟨fP,trivial⟩ ?_
  exact ge
 |succ d ih=>
  intro i j h1 h2 h3 h4 h5
  by_cases hij:i<j
  ·obtain ⟨h,hh⟩: ∃h,(i+j)/2=h:=⟨_,rfl⟩
   have hf:zh ((i+j:Nat):Int) 2=(h:Nat):=by rw [Int.fdiv_eq_ediv_of_nonneg _ (by omega)];omega
   have ih1:=ih (h+1) j (by omega) (by omega) (by omega) (by omega) (by omega)
   have ih2:=ih i h (by omega) (by omega) (by omega) (by omega) (by omega)
   unfold small at hn
   clear ih
   cases hl:(fun c=> !z7 (gt A (p-c)) (gt A c)) h with
   |true=>
    have e:bs (fun c=> !z7 (gt A (p-c)) (gt A c)) (d+1) i j=bs (fun c=> !z7 (gt A (p-c)) (gt A c)) d (h+1) j:=by exact bs_t hij hh hl
    rw [e]
    have hl: ¬(gt A (p-h)).cmp (gt A h)<0:=by simpa [z7] using hl
    have e1:(p:Int)-h=(p-h:Nat):=by omega
    refine qq ?_
    refine gg [.b (decide ((i:Int)<(j:Int))) true,.i zd ((i:Int)+(j:Int)) ((↑(i+j):Int)),.i zf ((↑(i+j):Int)) ((↑(i+j):Int)),.w (0≤(1:Int)),.t (T.int zf (zh (↑(i+j):Int) 2)) (T.int zf (h:Int)),.i zd (h:Int) (h:Int),.i zd ((p:Int)-(h:Int)) ((↑(p-h):Int)),.w (0≤(↑(p-h):Int)),.n (zy (↑(p-h):Int)) (p-h),.w (p-h<zq (zz zn A)),.w (0≤(h:Int)),.n (zy (h:Int)) h,.w (h<zq (zz zn A)),.g (zz zn A) (p-h) (zn (gt A (p-h))),.g (zz zn A) h (zn (gt A h)),.w (isFnB cx (129:Nat)=true)] ⟨tP,oI,oU,oW,o_t (by rw [hf]),oI,oI,oW,nK,o_w (by (simp;omega)),oW,nK,o_w (by (simp;omega)),oT,oT,o_w (by kernel_rfl),trivial⟩ ?_
    refine gg [.a _ _] ⟨o_a (Aax (gt A (p-h)) (gt A h)),trivial⟩ ?_
    refine brnot (b:=decide (Cross.cmp (gt A (p-h)) (gt A h)<0)) (by kernel_rfl) (fun h1=> ?_) (fun h1=> ?_)
    ·refine gg [.i zd ((h:Int)+1) ((↑(h+1):Int)),.a _ _] ⟨oI,o_a ih1,trivial⟩ ?_
     refine rT (a:=qz (qx 8) [qy 0 none,vi (a:Int),vi (m:Int),vi (b:Int),V.t (T.clo 129 []),vi (mid:Int),vi (n:Int),vi (↑(bs (fun (c:Nat)↦ !z7 (gt A (p-c)) (gt A c)) d (h+1) j):Int),vi (↑(bs (fun (c:Nat)↦ !z7 (gt A (p-c)) (gt A c)) d (h+1) j):Int),vi (p:Int)] [qv 15 (zz zn A) none false]) ?_
     (first|rfl|omega|(simp_all;done)|(simp_all;omega))
    ·refine gg [.a _ _] ⟨o_a ih2,trivial⟩ ?_
     refine rT (a:=qz (qx 8) [qy 0 none,vi (a:Int),vi (m:Int),vi (b:Int),V.t (T.clo 129 []),vi (mid:Int),vi (n:Int),vi (↑(bs (fun (c:Nat)↦ !z7 (gt A (p-c)) (gt A c)) d i h):Int),vi (↑(bs (fun (c:Nat)↦ !z7 (gt A (p-c)) (gt A c)) d i h):Int),vi (p:Int)] [qv 15 (zz zn A) none false]) ?_
     (first|rfl|omega|(simp_all;done)|(simp_all;omega))
   |false=>
    have e:bs (fun c=> !z7 (gt A (p-c)) (gt A c)) (d+1) i j=bs (fun c=> !z7 (gt A (p-c)) (gt A c)) d i h:=by exact bs_f hij hh hl
    rw [e]
    have hl:(gt A (p-h)).cmp (gt A h)<0:=by simpa [z7] using hl
    have e1:(p:Int)-h=(p-h:Nat):=by omega
    refine qq ?_
    refine gg [.b (decide ((i:Int)<(j:Int))) true,.i zd ((i:Int)+(j:Int)) ((↑(i+j):Int)),.i zf ((↑(i+j):Int)) ((↑(i+j):Int)),.w (0≤(1:Int)),.t (T.int zf (zh (↑(i+j):Int) 2)) (T.int zf (h:Int)),.i zd (h:Int) (h:Int),.i zd ((p:Int)-(h:Int)) ((↑(p-h):Int)),.w (0≤(↑(p-h):Int)),.n (zy (↑(p-h):Int)) (p-h),.w (p-h<zq (zz zn A)),.w (0≤(h:Int)),.n (zy (h:Int)) h,.w (h<zq (zz zn A)),.g (zz zn A) (p-h) (zn (gt A (p-h))),.g (zz zn A) h (zn (gt A h)),.w (isFnB cx (129:Nat)=true)] ⟨tP,oI,oU,oW,o_t (by rw [hf]),oI,oI,oW,nK,o_w (by (simp;omega)),oW,nK,o_w (by (simp;omega)),oT,oT,o_w (by kernel_rfl),trivial⟩ ?_
    refine gg [.a _ _] ⟨o_a (Aax (gt A (p-h)) (gt A h)),trivial⟩ ?_
    refine brnot (b:=decide (Cross.cmp (gt A (p-h)) (gt A h)<0)) (by kernel_rfl) (fun h1=> ?_) (fun h1=> ?_)
    ·refine gg [.i zd ((h:Int)+1) ((↑(h+1):Int)),.a _ _] ⟨oI,o_a ih1,trivial⟩ ?_
     refine rT (a:=qz (qx 8) [qy 0 none,vi (a:Int),vi (m:Int),vi (b:Int),V.t (T.clo 129 []),vi (mid:Int),vi (n:Int),vi (↑(bs (fun (c:Nat)↦ !z7 (gt A (p-c)) (gt A c)) d (h+1) j):Int),vi (↑(bs (fun (c:Nat)↦ !z7 (gt A (p-c)) (gt A c)) d (h+1) j):Int),vi (p:Int)] [qv 15 (zz zn A) none false]) ?_
     (first|rfl|omega|(simp_all;done)|(simp_all;omega))
    ·refine gg [.a _ _] ⟨o_a ih2,trivial⟩ ?_
     refine rT (a:=qz (qx 8) [qy 0 none,vi (a:Int),vi (m:Int),vi (b:Int),V.t (T.clo 129 []),vi (mid:Int),vi (n:Int),vi (↑(bs (fun (c:Nat)↦ !z7 (gt A (p-c)) (gt A c)) d i h):Int),vi (↑(bs (fun (c:Nat)↦ !z7 (gt A (p-c)) (gt A c)) d i h):Int),vi (p:Int)] [qv 15 (zz zn A) none false]) ?_
     (first|rfl|omega|(simp_all;done)|(simp_all;omega))
  ·obtain rfl:i=j:=by omega
   unfold small at hn
   have e:bs (fun c=> !z7 (gt A (p-c)) (gt A c)) (d+1) i i=i:=by rw [bs,if_neg hij]
   rw [e]
   refine qq ?_
   refine gg [.b (decide ((i:Int)<(i:Int))) false] ⟨fP,trivial⟩ ?_
   exact ge
theorem Afp: ∀(d k i:Nat) (A:List Cross),k+d=i-1→i≤A.length→small A→
  Is cx (.loop 187 [0,1,0,1,1,1,0,1,0] 1 [.all 0 none,vi i,vi k] [.arr 15 (A.map zn) none false])
   ⟨.exit 2,[.all 0 none,vi i,vi (i-1:Nat)],[.arr 15 ((up d A k).map zn) none false]⟩:=by
 intro d
 induction d with
 |zero=>
  intro k i A h1 h2 hn
  unfold small at hn
  obtain rfl:k=i-1:=by omega
  unfold up
  refine qq ?_
  refine gg [.i zd ((i:Int)-1) ((i:Int)-1),.b (decide ((↑(i-1):Int)<(i:Int)-1)) false] ⟨oI,fP,trivial⟩ ?_
  exact ge
 |succ d ih=>
  intro k i A h1 h2 hn
  have ih1:=ih (k+1) i (sw A k (k+1)) (by omega) (by rw [AaY];omega) (by unfold small;rw [AaY];exact hn)
  unfold small at hn
  clear ih
  unfold up
  unfold sw at*
  refine qq ?_
  refine gg [.i zd ((i:Int)-1) ((i:Int)-1),.b (decide ((k:Int)<(i:Int)-1)) true,.i zd ((k:Int)+1) ((↑(k+1):Int)),.i zd ((k:Int)+1) ((↑(k+1):Int)),.w (0≤(↑(k+(1:Nat)):Int)),.n (zy (↑(k+1):Int)) (k+1),.w (k+(1:Nat)<zq (zz zn A)),.w (0≤(k:Int)),.n (zy (k:Int)) k,.w (k<zq (zz zn A)),.g (zz zn A) (k+1) (zn (gt A (k+1))),.g (zz zn A) k (zn (gt A k)),.w (0≤(k:Int)),.n (zy (k:Int)) k,.w (k<zq (zz zn A)),.w (k<zq (zz zn A))] ⟨oI,tP,oI,oI,oW,nK,o_w (by (simp;omega)),oW,nK,o_w (by (simp;omega)),oT,oT,oW,nK,o_w (by (simp;omega)),o_w (by (simp;omega)),trivial⟩ ?_
  refine gg [.t (qk 0 (zx (zz zn A) k (zn (gt A (k+1))))) (qk 0 (zz zn (zx A k (gt A (k+1))))),.w (0≤(↑(k+(1:Nat)):Int)),.n (zy (↑(k+1):Int)) (k+1),.w (k+(1:Nat)<zq (zz zn (zx A k (gt A (k+(1:Nat)))))),.w (k+(1:Nat)<zq (zz zn (zx A k (gt A (k+(1:Nat)))))),.t (qk 0 (zx (zz zn (zx A k (gt A (k+1)))) (k+1) (zn (gt A k)))) (qk 0 (zz zn (zx (zx A k (gt A (k+1))) (k+1) (gt A k)))),.i zd ((k:Int)+1) ((↑(k+1):Int)),.a _ _] ⟨o_l (Aal rfl rfl),oW,nK,o_w (by (simp;omega)),o_w (by (simp;omega)),o_l (Aal rfl rfl),oI,o_a ih1,trivial⟩ ?_
  exact ge
theorem Ael (i:Nat): ∀(d k:Nat) (A:List Cross),k=i+d→k<A.length→small A→
  Is cx (.loop 187 [0,1,0,1,1,1,0,1,0,1] 1 [.all 0 none,vi i,vi k] [.arr 15 (A.map zn) none false])
   ⟨.exit 6,[.all 0 none,vi i,vi i],[.arr 15 ((down d A k).map zn) none false]⟩:=by
 intro d
 induction d with
 |zero=>
  intro k A h1 h2 hn
  unfold small at hn
  obtain rfl:k=i:=by omega
  unfold down
  refine qq ?_
  refine gg [.b (decide ((k:Int)>(k:Int))) false] ⟨fP,trivial⟩ ?_
  exact ge
 |succ d ih=>
  intro k A h1 h2 hn
  have ih1:=ih (k-1) (sw A k (k-1)) (by omega) (by rw [AaY];omega) (by unfold small;rw [AaY];exact hn)
  unfold small at hn
  clear ih
  have e1:(k:Int)-1=(k-1:Nat):=by omega
  unfold down
  unfold sw at*
  refine qq ?_
  refine gg [.b (decide ((k:Int)>(i:Int))) true,.i zd ((k:Int)-1) ((↑(k-1):Int)),.i zd ((k:Int)-1) ((↑(k-1):Int)),.w (0≤(↑(k-(1:Nat)):Int)),.n (zy (↑(k-1):Int)) (k-1),.w (k-(1:Nat)<zq (zz zn A)),.w (0≤(k:Int)),.n (zy (k:Int)) k,.w (k<zq (zz zn A)),.g (zz zn A) (k-1) (zn (gt A (k-1))),.g (zz zn A) k (zn (gt A k)),.w (0≤(k:Int)),.n (zy (k:Int)) k,.w (k<zq (zz zn A)),.w (k<zq (zz zn A)),.t (qk 0 (zx (zz zn A) k (zn (gt A (k-1))))) (qk 0 (zz zn (zx A k (gt A (k-1)))))] ⟨tP,oI,oI,oW,nK,o_w (by (simp;omega)),oW,nK,o_w (by (simp;omega)),oT,o_gt rfl (by assumption) (by intro h;cases h),oW,nK,o_w (by (simp;omega)),o_w (by (simp;omega)),o_l (Aal rfl rfl),trivial⟩ ?_
  refine gg [.w (0≤(↑(k-(1:Nat)):Int)),.n (zy (↑(k-1):Int)) (k-1),.w (k-(1:Nat)<zq (zz zn (zx A k (gt A (k-(1:Nat)))))),.w (k-(1:Nat)<zq (zz zn (zx A k (gt A (k-(1:Nat)))))),.t (qk 0 (zx (zz zn (zx A k (gt A (k-1)))) (k-1) (zn (gt A k)))) (qk 0 (zz zn (zx (zx A k (gt A (k-1))) (k-1) (gt A k)))),.i zd ((k:Int)-1) ((↑(k-1):Int)),.a _ _] ⟨oW,nK,o_w (by (simp;omega)),o_w (by (simp;omega)),o_l (Aal rfl rfl),oI,o_a ih1,trivial⟩ ?_
  exact ge
theorem AeC (A:List Entity) (a:Nat) (ha:a<A.length) (hn:small A): ∀(d i j:Nat),i≤j→j≤i+d→j≤A.length→
  Is cx (.loop 182 [0,0,1,1,0,1,0] 1 [.all 0 none,vi a,.t (.clo 88 []),vi i,vi j] [.arr 9 (A.map zm) none false])
   ⟨.exit 0,[.all 0 none,vi a,.t (.clo 88 []),vi (bs (fun h=>z8 (gt A h) (gt A a)) d i j:Nat),vi (bs (fun h=>z8 (gt A h) (gt A a)) d i j:Nat)],[.arr 9 (A.map zm) none false]⟩:=by
 intro d
 induction d with
 |zero=>
  intro i j h1 h2 h3
  obtain rfl:i=j:=by omega
  unfold small at hn
  unfold bs
  refine qq ?_
  refine gg [.b (decide ((i:Int)<(i:Int))) false] ⟨fP,trivial⟩ ?_
  exact ge
 |succ d ih=>
  intro i j h1 h2 h3
  by_cases hij:i<j
  ·obtain ⟨h,hh⟩: ∃h,(i+j)/2=h:=⟨_,rfl⟩
   have hf:zh ((i+j:Nat):Int) 2=(h:Nat):=by rw [Int.fdiv_eq_ediv_of_nonneg _ (by omega)];omega
   have ih1:=ih (h+1) j (by omega) (by omega) (by omega)
   have ih2:=ih i h (by omega) (by omega) (by omega)
   unfold small at hn
   clear ih
   cases hl:(fun h=>z8 (gt A h) (gt A a)) h with
   |true=>
    have e:bs (fun h=>z8 (gt A h) (gt A a)) (d+1) i j=bs (fun h=>z8 (gt A h) (gt A a)) d (h+1) j:=by exact bs_t hij hh hl
    rw [e]
    have hl:(gt A h).cmp (gt A a)<0:=by simpa [z8] using hl
    refine qq ?_
    refine gg [.b (decide ((i:Int)<(j:Int))) true,.i zd ((i:Int)+(j:Int)) ((↑(i+j):Int)),.i zf ((↑(i+j):Int)) ((↑(i+j):Int)),.w (0≤(1:Int)),.t (T.int zf (zh (↑(i+j):Int) 2)) (T.int zf (h:Int)),.i zd (h:Int) (h:Int),.w (0≤(h:Int)),.n (zy (h:Int)) h,.w (h<zq (zz zm A)),.w (0≤(a:Int)),.n (zy (a:Int)) a,.w (a<zq (zz zm A)),.g (zz zm A) h (zm (gt A h)),.g (zz zm A) a (zm (gt A a)),.w (isFnB cx (88:Nat)=true),.a _ _] ⟨tP,oI,oU,oW,o_t (by rw [hf]),oI,oW,nK,o_w (by (simp;omega)),oW,nK,o_w (by (simp;omega)),oT,o_gt rfl (by assumption) (by intro h;cases h),o_w (by kernel_rfl),o_a (Aa9 (gt A h) (gt A a)),trivial⟩ ?_
    refine gg [.b (decide (Entity.cmp (gt A h) (gt A a)<0)) true,.i zd ((h:Int)+1) ((↑(h+1):Int)),.a _ _] ⟨t_brp (by assumption),oI,o_a ih1,trivial⟩ ?_
    refine rT (a:=qz (qx 0) [qy 0 none,vi (a:Int),V.t (T.clo 88 []),vi (↑(bs (fun (h:Nat)↦z8 (gt A h) (gt A a)) d (h+1) j):Int),vi (↑(bs (fun (h:Nat)↦z8 (gt A h) (gt A a)) d (h+1) j):Int)] [qv 9 (zz zm A) none false]) ?_
    (first|rfl|omega|(simp_all;done)|(simp_all;omega))
   |false=>
    have e:bs (fun h=>z8 (gt A h) (gt A a)) (d+1) i j=bs (fun h=>z8 (gt A h) (gt A a)) d i h:=by exact bs_f hij hh hl
    rw [e]
    have hl: ¬(gt A h).cmp (gt A a)<0:=by simpa [z8] using hl
    refine qq ?_
    refine gg [.b (decide ((i:Int)<(j:Int))) true,.i zd ((i:Int)+(j:Int)) ((↑(i+j):Int)),.i zf ((↑(i+j):Int)) ((↑(i+j):Int)),.w (0≤(1:Int)),.t (T.int zf (zh (↑(i+j):Int) 2)) (T.int zf (h:Int)),.i zd (h:Int) (h:Int),.w (0≤(h:Int)),.n (zy (h:Int)) h,.w (h<zq (zz zm A)),.w (0≤(a:Int)),.n (zy (a:Int)) a,.w (a<zq (zz zm A)),.g (zz zm A) h (zm (gt A h)),.g (zz zm A) a (zm (gt A a)),.w (isFnB cx (88:Nat)=true),.a _ _] ⟨tP,oI,oU,oW,o_t (by rw [hf]),oI,oW,nK,o_w (by (simp;omega)),oW,nK,o_w (by (simp;omega)),oT,o_gt rfl (by assumption) (by intro h;cases h),o_w (by kernel_rfl),o_a (Aa9 (gt A h) (gt A a)),trivial⟩ ?_
    refine gg [.b (decide (Entity.cmp (gt A h) (gt A a)<0)) false,.a _ _] ⟨f_brp (by assumption),o_a ih2,trivial⟩ ?_
    refine rT (a:=qz (qx 0) [qy 0 none,vi (a:Int),V.t (T.clo 88 []),vi (↑(bs (fun (h:Nat)↦z8 (gt A h) (gt A a)) d i h):Int),vi (↑(bs (fun (h:Nat)↦z8 (gt A h) (gt A a)) d i h):Int)] [qv 9 (zz zm A) none false]) ?_
    (first|rfl|omega|(simp_all;done)|(simp_all;omega))
  ·obtain rfl:i=j:=by omega
   unfold small at hn
   have e:bs (fun h=>z8 (gt A h) (gt A a)) (d+1) i i=i:=by rw [bs,if_neg hij]
   rw [e]
   refine qq ?_
   refine gg [.b (decide ((i:Int)<(i:Int))) false] ⟨fP,trivial⟩ ?_
   exact ge
theorem AeA (A:List Entity) (m:Nat) (hm:m<A.length) (hn:small A): ∀(d i j:Nat),i≤j→j≤i+d→j≤A.length→
  Is cx (.loop 182 [0,0,1,1,0,1,0,1] 1 [.all 0 none,vi m,.t (.clo 88 []),vi i,vi j] [.arr 9 (A.map zm) none false])
   ⟨.exit 4,[.all 0 none,vi m,.t (.clo 88 []),vi (bs (fun h=> !z8 (gt A m) (gt A h)) d i j:Nat),vi (bs (fun h=> !z8 (gt A m) (gt A h)) d i j:Nat)],[.arr 9 (A.map zm) none false]⟩:=by
 intro d
 induction d with
 |zero=>
  intro i j h1 h2 h3
  obtain rfl:i=j:=by omega
  unfold small at hn
  unfold bs
  refine qq ?_
  refine gg [.b (decide ((i:Int)<(i:Int))) false] ⟨fP,trivial⟩ ?_
  exact ge
 |succ d ih=>
  intro i j h1 h2 h3
  by_cases hij:i<j
  ·obtain ⟨h,hh⟩: ∃h,(i+j)/2=h:=⟨_,rfl⟩
   have hf:zh ((i+j:Nat):Int) 2=(h:Nat):=by rw [Int.fdiv_eq_ediv_of_nonneg _ (by omega)];omega
   have ih1:=ih (h+1) j (by omega) (by omega) (by omega)
   have ih2:=ih i h (by omega) (by omega) (by omega)
   unfold small at hn
   clear ih
   cases hl:(fun h=> !z8 (gt A m) (gt A h)) h with
   |true=>
    have e:bs (fun h=> !z8 (gt A m) (gt A h)) (d+1) i j=bs (fun h=> !z8 (gt A m) (gt A h)) d (h+1) j:=by exact bs_t hij hh hl
    rw [e]
    have hl: ¬(gt A m).cmp (gt A h)<0:=by simpa [z8] using hl
    refine qq ?_
    refine gg [.b (decide ((i:Int)<(j:Int))) true,.i zd ((i:Int)+(j:Int)) ((↑(i+j):Int)),.i zf ((↑(i+j):Int)) ((↑(i+j):Int)),.w (0≤(1:Int)),.t (T.int zf (zh (↑(i+j):Int) 2)) (T.int zf (h:Int)),.i zd (h:Int) (h:Int),.w (0≤(m:Int)),.n (zy (m:Int)) m,.w (m<zq (zz zm A)),.w (0≤(h:Int)),.n (zy (h:Int)) h,.w (h<zq (zz zm A)),.g (zz zm A) m (zm (gt A m)),.g (zz zm A) h (zm (gt A h)),.w (isFnB cx (88:Nat)=true),.a _ _] ⟨tP,oI,oU,oW,o_t (by rw [hf]),oI,oW,nK,o_w (by (simp;omega)),oW,nK,o_w (by (simp;omega)),o_gt rfl (by assumption) (by intro h;cases h),oT,o_w (by kernel_rfl),o_a (Aa9 (gt A m) (gt A h)),trivial⟩ ?_
    refine brnot (b:=decide (Entity.cmp (gt A m) (gt A h)<0)) (by kernel_rfl) (fun h1=> ?_) (fun h1=> ?_)
    ·refine gg [.i zd ((h:Int)+1) ((↑(h+1):Int)),.a _ _] ⟨oI,o_a ih1,trivial⟩ ?_
     refine rT (a:=qz (qx 4) [qy 0 none,vi (m:Int),V.t (T.clo 88 []),vi (↑(bs (fun (h:Nat)↦ !z8 (gt A m) (gt A h)) d (h+1) j):Int),vi (↑(bs (fun (h:Nat)↦ !z8 (gt A m) (gt A h)) d (h+1) j):Int)] [qv 9 (zz zm A) none false]) ?_
     (first|rfl|omega|(simp_all;done)|(simp_all;omega))
    ·refine gg [.a _ _] ⟨o_a ih2,trivial⟩ ?_
     refine rT (a:=qz (qx 4) [qy 0 none,vi (m:Int),V.t (T.clo 88 []),vi (↑(bs (fun (h:Nat)↦ !z8 (gt A m) (gt A h)) d i h):Int),vi (↑(bs (fun (h:Nat)↦ !z8 (gt A m) (gt A h)) d i h):Int)] [qv 9 (zz zm A) none false]) ?_
     (first|rfl|omega|(simp_all;done)|(simp_all;omega))
   |false=>
    have e:bs (fun h=> !z8 (gt A m) (gt A h)) (d+1) i j=bs (fun h=> !z8 (gt A m) (gt A h)) d i h:=by exact bs_f hij hh hl
    rw [e]
    have hl:(gt A m).cmp (gt A h)<0:=by simpa [z8] using hl
    refine qq ?_
    refine gg [.b (decide ((i:Int)<(j:Int))) true,.i zd ((i:Int)+(j:Int)) ((↑(i+j):Int)),.i zf ((↑(i+j):Int)) ((↑(i+j):Int)),.w (0≤(1:Int)),.t (T.int zf (zh (↑(i+j):Int) 2)) (T.int zf (h:Int)),.i zd (h:Int) (h:Int),.w (0≤(m:Int)),.n (zy (m:Int)) m,.w (m<zq (zz zm A)),.w (0≤(h:Int)),.n (zy (h:Int)) h,.w (h<zq (zz zm A)),.g (zz zm A) m (zm (gt A m)),.g (zz zm A) h (zm (gt A h)),.w (isFnB cx (88:Nat)=true),.a _ _] ⟨tP,oI,oU,oW,o_t (by rw [hf]),oI,oW,nK,o_w (by (simp;omega)),oW,nK,o_w (by (simp;omega)),o_gt rfl (by assumption) (by intro h;cases h),oT,o_w (by kernel_rfl),o_a (Aa9 (gt A m) (gt A h)),trivial⟩ ?_
    refine brnot (b:=decide (Entity.cmp (gt A m) (gt A h)<0)) (by kernel_rfl) (fun h1=> ?_) (fun h1=> ?_)
    ·refine gg [.i zd ((h:Int)+1) ((↑(h+1):Int)),.a _ _] ⟨oI,o_a ih1,trivial⟩ ?_
     refine rT (a:=qz (qx 4) [qy 0 none,vi (m:Int),V.t (T.clo 88 []),vi (↑(bs (fun (h:Nat)↦ !z8 (gt A m) (gt A h)) d (h+1) j):Int),vi (↑(bs (fun (h:Nat)↦ !z8 (gt A m) (gt A h)) d (h+1) j):Int)] [qv 9 (zz zm A) none false]) ?_
     (first|rfl|omega|(simp_all;done)|(simp_all;omega))
    ·refine gg [.a _ _] ⟨o_a ih2,trivial⟩ ?_
     refine rT (a:=qz (qx 4) [qy 0 none,vi (m:Int),V.t (T.clo 88 []),vi (↑(bs (fun (h:Nat)↦ !z8 (gt A m) (gt A h)) d i h):Int),vi (↑(bs (fun (h:Nat)↦ !z8 (gt A m) (gt A h)) d i h):Int)] [qv 9 (zz zm A) none false]) ?_
     (first|rfl|omega|(simp_all;done)|(simp_all;omega))
  ·obtain rfl:i=j:=by omega
   unfold small at hn
   have e:bs (fun h=> !z8 (gt A m) (gt A h)) (d+1) i i=i:=by rw [bs,if_neg hij]
   rw [e]
   refine qq ?_
   refine gg [.b (decide ((i:Int)<(i:Int))) false] ⟨fP,trivial⟩ ?_
   exact ge
theorem Aez (A:List Entity) (a m b mid n p:Nat) (hn:small A): ∀(d i j:Nat),i≤j→j≤i+d→j≤p+1→p<i+A.length→j≤A.length→
  Is cx (.loop 182 [0,0,1,1,1,1,1,1,1] 1 [.all 0 none,vi a,vi m,vi b,.t (.clo 88 []),vi mid,vi n,vi i,vi j,vi p] [.arr 9 (A.map zm) none false])
   ⟨.exit 8,[.all 0 none,vi a,vi m,vi b,.t (.clo 88 []),vi mid,vi n,vi (bs (fun c=> !z8 (gt A (p-c)) (gt A c)) d i j:Nat),vi (bs (fun c=> !z8 (gt A (p-c)) (gt A c)) d i j:Nat),vi p],[.arr 9 (A.map zm) none false]⟩:=by
 intro d
 induction d with
 |zero=>
  intro i j h1 h2 h3 h4 h5
  obtain rfl:i=j:=by omega
  unfold small at hn
  unfold bs
  refine qq ?_
  refine gg [.b (decide ((i:Int)<(i:Int))) false] ⟨fP,trivial⟩ ?_
  exact ge
 |succ d ih=>
  intro i j h1 h2 h3 h4 h5
  by_cases hij:i<j
  ·obtain ⟨h,hh⟩: ∃h,(i+j)/2=h:=⟨_,rfl⟩
   have hf:zh ((i+j:Nat):Int) 2=(h:Nat):=by rw [Int.fdiv_eq_ediv_of_nonneg _ (by omega)];omega
   have ih1:=ih (h+1) j (by omega) (by omega) (by omega) (by omega) (by omega)
   have ih2:=ih i h (by omega) (by omega) (by omega) (by omega) (by omega)
   unfold small at hn
   clear ih
   cases hl:(fun c=> !z8 (gt A (p-c)) (gt A c)) h with
   |true=>
    have e:bs (fun c=> !z8 (gt A (p-c)) (gt A c)) (d+1) i j=bs (fun c=> !z8 (gt A (p-c)) (gt A c)) d (h+1) j:=by exact bs_t hij hh hl
    rw [e]
    have hl: ¬(gt A (p-h)).cmp (gt A h)<0:=by simpa [z8] using hl
    have e1:(p:Int)-h=(p-h:Nat):=by omega
    refine qq ?_
    refine gg [.b (decide ((i:Int)<(j:Int))) true,.i zd ((i:Int)+(j:Int)) ((↑(i+j):Int)),.i zf ((↑(i+j):Int)) ((↑(i+j):Int)),.w (0≤(1:Int)),.t (T.int zf (zh (↑(i+j):Int) 2)) (T.int zf (h:Int)),.i zd (h:Int) (h:Int),.i zd ((p:Int)-(h:Int)) ((↑(p-h):Int)),.w (0≤(↑(p-h):Int)),.n (zy (↑(p-h):Int)) (p-h),.w (p-h<zq (zz zm A)),.w (0≤(h:Int)),.n (zy (h:Int)) h,.w (h<zq (zz zm A)),.g (zz zm A) (p-h) (zm (gt A (p-h))),.g (zz zm A) h (zm (gt A h)),.w (isFnB cx (88:Nat)=true)] ⟨tP,oI,oU,oW,o_t (by rw [hf]),oI,oI,oW,nK,o_w (by (simp;omega)),oW,nK,o_w (by (simp;omega)),oT,oT,o_w (by kernel_rfl),trivial⟩ ?_
    refine gg [.a _ _] ⟨o_a (Aa9 (gt A (p-h)) (gt A h)),trivial⟩ ?_
    refine brnot (b:=decide (Entity.cmp (gt A (p-h)) (gt A h)<0)) (by kernel_rfl) (fun h1=> ?_) (fun h1=> ?_)
    ·refine gg [.i zd ((h:Int)+1) ((↑(h+1):Int)),.a _ _] ⟨oI,o_a ih1,trivial⟩ ?_
     refine rT (a:=qz (qx 8) [qy 0 none,vi (a:Int),vi (m:Int),vi (b:Int),V.t (T.clo 88 []),vi (mid:Int),vi (n:Int),vi (↑(bs (fun (c:Nat)↦ !z8 (gt A (p-c)) (gt A c)) d (h+1) j):Int),vi (↑(bs (fun (c:Nat)↦ !z8 (gt A (p-c)) (gt A c)) d (h+1) j):Int),vi (p:Int)] [qv 9 (zz zm A) none false]) ?_
     (first|rfl|omega|(simp_all;done)|(simp_all;omega))
    ·refine gg [.a _ _] ⟨o_a ih2,trivial⟩ ?_
     refine rT (a:=qz (qx 8) [qy 0 none,vi (a:Int),vi (m:Int),vi (b:Int),V.t (T.clo 88 []),vi (mid:Int),vi (n:Int),vi (↑(bs (fun (c:Nat)↦ !z8 (gt A (p-c)) (gt A c)) d i h):Int),vi (↑(bs (fun (c:Nat)↦ !z8 (gt A (p-c)) (gt A c)) d i h):Int),vi (p:Int)] [qv 9 (zz zm A) none false]) ?_
     (first|rfl|omega|(simp_all;done)|(simp_all;omega))
   |false=>
    have e:bs (fun c=> !z8 (gt A (p-c)) (gt A c)) (d+1) i j=bs (fun c=> !z8 (gt A (p-c)) (gt A c)) d i h:=by exact bs_f hij hh hl
    rw [e]
    have hl:(gt A (p-h)).cmp (gt A h)<0:=by simpa [z8] using hl
    have e1:(p:Int)-h=(p-h:Nat):=by omega
    refine qq ?_
    refine gg [.b (decide ((i:Int)<(j:Int))) true,.i zd ((i:Int)+(j:Int)) ((↑(i+j):Int)),.i zf ((↑(i+j):Int)) ((↑(i+j):Int)),.w (0≤(1:Int)),.t (T.int zf (zh (↑(i+j):Int) 2)) (T.int zf (h:Int)),.i zd (h:Int) (h:Int),.i zd ((p:Int)-(h:Int)) ((↑(p-h):Int)),.w (0≤(↑(p-h):Int)),.n (zy (↑(p-h):Int)) (p-h),.w (p-h<zq (zz zm A)),.w (0≤(h:Int)),.n (zy (h:Int)) h,.w (h<zq (zz zm A)),.g (zz zm A) (p-h) (zm (gt A (p-h))),.g (zz zm A) h (zm (gt A h)),.w (isFnB cx (88:Nat)=true)] ⟨tP,oI,oU,oW,o_t (by rw [hf]),oI,oI,oW,nK,o_w (by (simp;omega)),oW,nK,o_w (by (simp;omega)),oT,oT,o_w (by kernel_rfl),trivial⟩ ?_
    refine gg [.a _ _] ⟨o_a (Aa9 (gt A (p-h)) (gt A h)),trivial⟩ ?_
    refine brnot (b:=decide (Entity.cmp (gt A (p-h)) (gt A h)<0)) (by kernel_rfl) (fun h1=> ?_) (fun h1=> ?_)
    ·refine gg [.i zd ((h:Int)+1) ((↑(h+1):Int)),.a _ _] ⟨oI,o_a ih1,trivial⟩ ?_
     refine rT (a:=qz (qx 8) [qy 0 none,vi (a:Int),vi (m:Int),vi (b:Int),V.t (T.clo 88 []),vi (mid:Int),vi (n:Int),vi (↑(bs (fun (c:Nat)↦ !z8 (gt A (p-c)) (gt A c)) d (h+1) j):Int),vi (↑(bs (fun (c:Nat)↦ !z8 (gt A (p-c)) (gt A c)) d (h+1) j):Int),vi (p:Int)] [qv 9 (zz zm A) none false]) ?_
     (first|rfl|omega|(simp_all;done)|(simp_all;omega))
    ·refine gg [.a _ _] ⟨o_a ih2,trivial⟩ ?_
     refine rT (a:=qz (qx 8) [qy 0 none,vi (a:Int),vi (m:Int),vi (b:Int),V.t (T.clo 88 []),vi (mid:Int),vi (n:Int),vi (↑(bs (fun (c:Nat)↦ !z8 (gt A (p-c)) (gt A c)) d i h):Int),vi (↑(bs (fun (c:Nat)↦ !z8 (gt A (p-c)) (gt A c)) d i h):Int),vi (p:Int)] [qv 9 (zz zm A) none false]) ?_
     (first|rfl|omega|(simp_all;done)|(simp_all;omega))
  ·obtain rfl:i=j:=by omega
   unfold small at hn
   have e:bs (fun c=> !z8 (gt A (p-c)) (gt A c)) (d+1) i i=i:=by rw [bs,if_neg hij]
   rw [e]
   refine qq ?_
   refine gg [.b (decide ((i:Int)<(i:Int))) false] ⟨fP,trivial⟩ ?_
   exact ge
theorem AeY: ∀(d k i:Nat) (A:List Entity),k+d=i-1→i≤A.length→small A→
  Is cx (.loop 182 [0,1,0,1,1,1,0,1,0] 1 [.all 0 none,vi i,vi k] [.arr 9 (A.map zm) none false])
   ⟨.exit 2,[.all 0 none,vi i,vi (i-1:Nat)],[.arr 9 ((up d A k).map zm) none false]⟩:=by
 intro d
 induction d with
 |zero=>
  intro k i A h1 h2 hn
  unfold small at hn
  obtain rfl:k=i-1:=by omega
  unfold up
  refine qq ?_
  refine gg [.i zd ((i:Int)-1) ((i:Int)-1),.b (decide ((↑(i-1):Int)<(i:Int)-1)) false] ⟨oI,fP,trivial⟩ ?_
  exact ge
 |succ d ih=>
  intro k i A h1 h2 hn
  have ih1:=ih (k+1) i (sw A k (k+1)) (by omega) (by rw [AaY];omega) (by unfold small;rw [AaY];exact hn)
  unfold small at hn
  clear ih
  unfold up
  unfold sw at*
  refine qq ?_
  refine gg [.i zd ((i:Int)-1) ((i:Int)-1),.b (decide ((k:Int)<(i:Int)-1)) true,.i zd ((k:Int)+1) ((↑(k+1):Int)),.i zd ((k:Int)+1) ((↑(k+1):Int)),.w (0≤(↑(k+(1:Nat)):Int)),.n (zy (↑(k+1):Int)) (k+1),.w (k+(1:Nat)<zq (zz zm A)),.w (0≤(k:Int)),.n (zy (k:Int)) k,.w (k<zq (zz zm A)),.g (zz zm A) (k+1) (zm (gt A (k+1))),.g (zz zm A) k (zm (gt A k)),.w (0≤(k:Int)),.n (zy (k:Int)) k,.w (k<zq (zz zm A)),.w (k<zq (zz zm A))] ⟨oI,tP,oI,oI,oW,nK,o_w (by (simp;omega)),oW,nK,o_w (by (simp;omega)),oT,oT,oW,nK,o_w (by (simp;omega)),o_w (by (simp;omega)),trivial⟩ ?_
  refine gg [.t (qk 0 (zx (zz zm A) k (zm (gt A (k+1))))) (qk 0 (zz zm (zx A k (gt A (k+1))))),.w (0≤(↑(k+(1:Nat)):Int)),.n (zy (↑(k+1):Int)) (k+1),.w (k+(1:Nat)<zq (zz zm (zx A k (gt A (k+(1:Nat)))))),.w (k+(1:Nat)<zq (zz zm (zx A k (gt A (k+(1:Nat)))))),.t (qk 0 (zx (zz zm (zx A k (gt A (k+1)))) (k+1) (zm (gt A k)))) (qk 0 (zz zm (zx (zx A k (gt A (k+1))) (k+1) (gt A k)))),.i zd ((k:Int)+1) ((↑(k+1):Int)),.a _ _] ⟨o_l (Aal rfl rfl),oW,nK,o_w (by (simp;omega)),o_w (by (simp;omega)),o_l (Aal rfl rfl),oI,o_a ih1,trivial⟩ ?_
  exact ge
theorem AdJ (i:Nat): ∀(d k:Nat) (A:List Entity),k=i+d→k<A.length→small A→
  Is cx (.loop 182 [0,1,0,1,1,1,0,1,0,1] 1 [.all 0 none,vi i,vi k] [.arr 9 (A.map zm) none false])
   ⟨.exit 6,[.all 0 none,vi i,vi i],[.arr 9 ((down d A k).map zm) none false]⟩:=by
 intro d
 induction d with
 |zero=>
  intro k A h1 h2 hn
  unfold small at hn
  obtain rfl:k=i:=by omega
  unfold down
  refine qq ?_
  refine gg [.b (decide ((k:Int)>(k:Int))) false] ⟨fP,trivial⟩ ?_
  exact ge
 |succ d ih=>
  intro k A h1 h2 hn
  have ih1:=ih (k-1) (sw A k (k-1)) (by omega) (by rw [AaY];omega) (by unfold small;rw [AaY];exact hn)
  unfold small at hn
  clear ih
  have e1:(k:Int)-1=(k-1:Nat):=by omega
  unfold down
  unfold sw at*
  refine qq ?_
  refine gg [.b (decide ((k:Int)>(i:Int))) true,.i zd ((k:Int)-1) ((↑(k-1):Int)),.i zd ((k:Int)-1) ((↑(k-1):Int)),.w (0≤(↑(k-(1:Nat)):Int)),.n (zy (↑(k-1):Int)) (k-1),.w (k-(1:Nat)<zq (zz zm A)),.w (0≤(k:Int)),.n (zy (k:Int)) k,.w (k<zq (zz zm A)),.g (zz zm A) (k-1) (zm (gt A (k-1))),.g (zz zm A) k (zm (gt A k)),.w (0≤(k:Int)),.n (zy (k:Int)) k,.w (k<zq (zz zm A)),.w (k<zq (zz zm A)),.t (qk 0 (zx (zz zm A) k (zm (gt A (k-1))))) (qk 0 (zz zm (zx A k (gt A (k-1)))))] ⟨tP,oI,oI,oW,nK,o_w (by (simp;omega)),oW,nK,o_w (by (simp;omega)),oT,o_gt rfl (by assumption) (by intro h;cases h),oW,nK,o_w (by (simp;omega)),o_w (by (simp;omega)),o_l (Aal rfl rfl),trivial⟩ ?_
  refine gg [.w (0≤(↑(k-(1:Nat)):Int)),.n (zy (↑(k-1):Int)) (k-1),.w (k-(1:Nat)<zq (zz zm (zx A k (gt A (k-(1:Nat)))))),.w (k-(1:Nat)<zq (zz zm (zx A k (gt A (k-(1:Nat)))))),.t (qk 0 (zx (zz zm (zx A k (gt A (k-1)))) (k-1) (zm (gt A k)))) (qk 0 (zz zm (zx (zx A k (gt A (k-1))) (k-1) (gt A k)))),.i zd ((k:Int)-1) ((↑(k-1):Int)),.a _ _] ⟨oW,nK,o_w (by (simp;omega)),o_w (by (simp;omega)),o_l (Aal rfl rfl),oI,o_a ih1,trivial⟩ ?_
  exact ge
end Go.Eva.S4
namespace Go.Eva.S4
theorem Aeh (P V Q:List Cross) (x:Cross) (a m b:Nat) (ha:a=P.length) (hm:m=a+1) (hb:b=m+V.length) (h0:0<V.length) (hV:Sd z7 V) (hn:small (P++ [x]++V++Q)):
   Is cx (.call 187 [.all 0 none,vi a,vi m,vi b,.t (.clo 129 [])] [.arr 15 ((P++ [x]++V++Q).map zn) none false])
  ⟨.ret,[],[.arr 15 ((P++sortS z7 ([x]++V)++Q).map zn) none false]⟩:=by
 have hl:(P++ [x]++V++Q).length=b+Q.length:=by simp;omega
 have hbs:=AeU (P++ [x]++V++Q) a (by omega) hn (b-m) m b (by omega) (by omega) (by omega)
 obtain ⟨k1,k2,k3⟩:=AhH Aaq (Q:=Q) (x:=x) (d:=b-m) ha hm hb (by omega) hV rfl
 generalize bs _ (b-m) m b=s at*
 have hup:=Afp (s-1-a) a s (P++ [x]++V++Q) (by omega) (by omega) hn
 rw [k3] at hup
 clear k3 hV
 generalize P++ [x]++V++Q=A at*
 generalize P++sortS z7 ([x]++V)++Q=B at*
 unfold small at hn
 refine qq ?_
 refine gg [.i zd ((m:Int)-(a:Int)) ((m:Int)-(a:Int)),.b ((m:Int)-(a:Int)==1) true,.a _ _,.a _ _] ⟨oI,tE,o_a hbs,o_a hup,trivial⟩ ?_
 exact ge
theorem Ae6 (P U Q:List Cross) (y:Cross) (a m b:Nat) (ha:a=P.length) (hm:m=a+U.length) (hb:b=m+1) (h0:1<U.length) (hU:Sd z7 U) (hn:small (P++U++ [y]++Q)):
   Is cx (.call 187 [.all 0 none,vi a,vi m,vi b,.t (.clo 129 [])] [.arr 15 ((P++U++ [y]++Q).map zn) none false])
  ⟨.ret,[],[.arr 15 ((P++sortS z7 (U++ [y])++Q).map zn) none false]⟩:=by
 have hl:(P++U++ [y]++Q).length=b+Q.length:=by simp;omega
 have hbs:=AeR (P++U++ [y]++Q) m (by omega) hn (m-a) a m (by omega) (by omega) (by omega)
 obtain ⟨k1,k2,k3⟩:=AiX Aaq (Q:=Q) (y:=y) (d:=m-a) ha hm (by omega) hU rfl
 generalize bs _ (m-a) a m=s at*
 have hup:=Ael s (m-s) m (P++U++ [y]++Q) (by omega) (by omega) hn
 rw [k3] at hup
 clear k3 hU
 generalize P++U++ [y]++Q=A at*
 generalize P++sortS z7 (U++ [y])++Q=B at*
 unfold small at hn
 refine qq ?_
 refine gg [.i zd ((m:Int)-(a:Int)) ((m:Int)-(a:Int)),.b ((m:Int)-(a:Int)==1) false,.i zd ((b:Int)-(m:Int)) ((b:Int)-(m:Int)),.b ((b:Int)-(m:Int)==1) true,.a _ _,.a _ _] ⟨oI,fE,oI,tE,o_a hbs,o_a hup,trivial⟩ ?_
 exact ge
theorem Ads (P V Q:List Entity) (x:Entity) (a m b:Nat) (ha:a=P.length) (hm:m=a+1) (hb:b=m+V.length) (h0:0<V.length) (hV:Sd z8 V) (hn:small (P++ [x]++V++Q)):
   Is cx (.call 182 [.all 0 none,vi a,vi m,vi b,.t (.clo 88 [])] [.arr 9 ((P++ [x]++V++Q).map zm) none false])
  ⟨.ret,[],[.arr 9 ((P++sortS z8 ([x]++V)++Q).map zm) none false]⟩:=by
 have hl:(P++ [x]++V++Q).length=b+Q.length:=by simp;omega
 have hbs:=AeC (P++ [x]++V++Q) a (by omega) hn (b-m) m b (by omega) (by omega) (by omega)
 obtain ⟨k1,k2,k3⟩:=AhH Aak (Q:=Q) (x:=x) (d:=b-m) ha hm hb (by omega) hV rfl
 generalize bs _ (b-m) m b=s at*
 have hup:=AeY (s-1-a) a s (P++ [x]++V++Q) (by omega) (by omega) hn
 rw [k3] at hup
 clear k3 hV
 generalize P++ [x]++V++Q=A at*
 generalize P++sortS z8 ([x]++V)++Q=B at*
 unfold small at hn
 refine qq ?_
 refine gg [.i zd ((m:Int)-(a:Int)) ((m:Int)-(a:Int)),.b ((m:Int)-(a:Int)==1) true,.a _ _,.a _ _] ⟨oI,tE,o_a hbs,o_a hup,trivial⟩ ?_
 exact ge
theorem AdR (P U Q:List Entity) (y:Entity) (a m b:Nat) (ha:a=P.length) (hm:m=a+U.length) (hb:b=m+1) (h0:1<U.length) (hU:Sd z8 U) (hn:small (P++U++ [y]++Q)):
   Is cx (.call 182 [.all 0 none,vi a,vi m,vi b,.t (.clo 88 [])] [.arr 9 ((P++U++ [y]++Q).map zm) none false])
  ⟨.ret,[],[.arr 9 ((P++sortS z8 (U++ [y])++Q).map zm) none false]⟩:=by
 have hl:(P++U++ [y]++Q).length=b+Q.length:=by simp;omega
 have hbs:=AeA (P++U++ [y]++Q) m (by omega) hn (m-a) a m (by omega) (by omega) (by omega)
 obtain ⟨k1,k2,k3⟩:=AiX Aak (Q:=Q) (y:=y) (d:=m-a) ha hm (by omega) hU rfl
 generalize bs _ (m-a) a m=s at*
 have hup:=AdJ s (m-s) m (P++U++ [y]++Q) (by omega) (by omega) hn
 rw [k3] at hup
 clear k3 hU
 generalize P++U++ [y]++Q=A at*
 generalize P++sortS z8 (U++ [y])++Q=B at*
 unfold small at hn
 refine qq ?_
 refine gg [.i zd ((m:Int)-(a:Int)) ((m:Int)-(a:Int)),.b ((m:Int)-(a:Int)==1) false,.i zd ((b:Int)-(m:Int)) ((b:Int)-(m:Int)),.b ((b:Int)-(m:Int)==1) true,.a _ _,.a _ _] ⟨oI,fE,oI,tE,o_a hbs,o_a hup,trivial⟩ ?_
 exact ge
end Go.Eva.S4