/- A reading of the program, proved sound against the model, and what its functions answer by it: part 3. -/
import Derived.Test.YtjkeffbjjepgdaaGreatEva2
set_option linter.unusedSimpArgs false
set_option linter.unusedVariables false
open Bool renaming false → zq, true → zg, and_eq_true → zf, eq_iff_iff → jn, false_eq_true → xq, not_eq_true' → wv, false_and → uf, true_and → u4, not_eq_true → u9
open List renaming length → zj, map → zw, replicate → zn, drop → z6, take → z7, getElem?_append_left → qq, set → qz, getElem?_set_ne → qy, mem_cons → qf, getElem?_map → qb, drop_zero → qr, eq_nil_of_length_eq_zero → qi, append_assoc → ql, map_cons → qo, mem_cons_of_mem → qu, nil_append → jj, length_append → jx, mem_cons_self → jh, take_append_drop → jd, mem_append → jp, length_cons → j5, findIdx?_eq_some_iff_getElem → j8, length_nil → xk, pairwise_cons → xd, filter_cons → xp, getElem_of_mem → xn, cons_append → xr, length_eq_zero_iff → xa, ext_getElem? → vq, take_of_length_le → vz, mem_map → vg, length_pos_iff → vp, pairwise_append → vn, findIdx?_eq_none_iff → vu, length_map → wj, foldl_cons → wb, getElem_mem → wm, take_append_of_le_length → wa, map_replicate → wl, mem_filter → wu, getElem?_replicate → yk, map_map → yf, drop_drop → yc, append_nil → ye, drop_eq_getElem_cons → uj, getElem?_set → ue, any_eq_true → kz, filter_append → kg, findIdx?_cons → kh, length_replicate → kr, map_set → gq, length_drop → pz, map_nil → pg, dropLast_concat_getLast → pm, any_eq_false → pa, take_take → dz, pairwise_map → fx, length_filter_le → fy, countP_cons → fc, filter_eq_self → bt, countP_append → cj, filter → cg, getElem_take → cd
open Option renaming none → zx, some → zb, map_some → ul
open Go.Eva.Entity renaming enc → zk, mk → qh, id → xm, kind → f9
open Go.IntKind renaming i64 → zy, u64 → zr, wrap → z8
open Go.Eva.Cross renaming enc → zd, mk → f0
open Int renaming toNat → zm, fdiv → j7, tdiv → wt, tmod → yw, tdiv_eq_ediv_of_nonneg → yh, mul_nonneg → fq, mul_le_mul → cq
open Go.Eva.Wp renaming ev → za
open Go.Eva.T renaming bool → zi, agg → qe, deep → jz, int → xc, any → pj, dict → pt, clo → pe, box → dw, nilm → ce
open Go.Eva.Res renaming mk → zl
open Go.Eva.Input renaming enc → zo
open BitVec renaming ofInt → qv, toNat → j9
open Go.Eva.Ex renaming ret → qm, exit → jr
open Nat renaming le_refl → qn, add_assoc → wr, min_eq_left → bd, add_comm → mz
open Go.Eva.Ob renaming arr → jy, one → vh, dead → nv
open Go.Eva.Config renaming right_iff → ju, regions → xw, height → xb, width → xi, enc → wi, right → yx, of → uw, mul_le → u5, inside → gv, cornerX → pi, cornerY → po, is → du, grid → mm
open Go.Eva.V renaming all → xz, ptr → yn
namespace Go.Eva.S8
theorem AaD (v lo hi:Int):Fn cx 180 [ti v,ti lo,ti hi] (.bool (within v lo hi)):=by
 refine za ?_;refine brp (p:=v≥lo) (by kernel_rfl) (fun h1=> ?_) (fun h1=> ?_)
 ·refine gg [.tt,.tt,.tt] tI (rT (a:=zl qm [vb (decide (v≤hi))] []) ?_)
  (simp_all [within];(try (rw [jn];simp only [decide_eq_true_eq,zf];omega));(try (intros;omega)))
 ·refine gg [.ff,.ff,.ff] tI (rT (a:=zl qm [vb zq] []) ?_)
  (simp_all [within];(try (rw [jn];simp only [decide_eq_true_eq,zf];omega));(try (intros;omega)))
theorem Aag (v lo hi:Int):Fn cx 215 [ti v,ti lo,ti hi] (.bool (within v lo hi)):=by
 refine za ?_;refine brp (p:=v≥lo) (by kernel_rfl) (fun h1=> ?_) (fun h1=> ?_)
 ·refine gg [.tt,.tt,.tt] tI (rT (a:=zl qm [vb (decide (v≤hi))] []) ?_)
  (simp_all [within];(try (rw [jn];simp only [decide_eq_true_eq,zf];omega));(try (intros;omega)))
 ·refine gg [.ff,.ff,.ff] tI (rT (a:=zl qm [vb zq] []) ?_)
  (simp_all [within];(try (rw [jn];simp only [decide_eq_true_eq,zf];omega));(try (intros;omega)))
theorem AcL (c:Config):Fn cx 111 [c.enc] (.bool c.right):=by
 refine za (gg [.a _ _] ⟨o_a (AaD c.cols 1 4),tI⟩ ?_);refine br (b:=within c.cols 1 4) (by kernel_rfl) (fun h1=> ?_) (fun h1=> ?_)
 ·refine gg [.tt,.tt,.a _ _,.tt] ⟨o_a (AaD c.rows 1 4),tI⟩ ?_;refine br (b:=within c.rows 1 4) (by kernel_rfl) (fun h2=> ?_) (fun h2=> ?_)
  ·refine gg [.tt,.tt,.a _ _,.tt] ⟨o_a (AaD c.players 1 6),tI⟩ ?_;refine br (b:=within c.players 1 6) (by kernel_rfl) (fun h3=> ?_) (fun h3=> ?_)
   ·refine gg [.tt,.tt,.a _ _,.tt] ⟨o_a (AaD c.window 1 16),tI⟩ (rT (a:=zl qm [vb (within c.window 1 16)] []) ?_);simp_all [yx]
   ·refine gg [.ff,.ff,.ff] tI (rT (a:=zl qm [vb zq] []) ?_);simp_all [yx]
  ·refine gg [.ff,.ff,.ff,.ff,.ff,.ff,.ff] tI (rT (a:=zl qm [vb zq] []) ?_);simp_all [yx]
 ·refine gg [.ff,.ff,.ff,.ff,.ff,.ff,.ff,.ff,.ff,.ff,.ff] tI (rT (a:=zl qm [vb zq] []) ?_);simp_all [yx]
theorem Amq (c:Config):Is cx (.call 49 [.t c.enc] []) ⟨.ret,[.t c.grid.enc,vi c.err],[]⟩:=by
 refine za (gg [.a _ _] ⟨o_a (AcL c),tI⟩ ?_);refine brnot (b:=yx c) (by kernel_rfl) (fun h1=> ?_) (fun h1=> ?_)
 ·refine rT (a:=zl qm [V.t (qe [ti 0,ti 0,ti 0,ti 0,xc zr 0]),vi 10] []) ?_;simp_all [mm,Config.err,Config.zero,wi]
 ·refine rT (a:=zl qm [V.t (wi c),vi 0] []) ?_;simp_all [mm,Config.err,Config.zero,wi]
theorem Ab1 (c:Config) (h:c.right=zg):Is cx (.call 112 [.t c.enc] []) ⟨.ret,[vi c.cols,vi c.rows],[]⟩:=by
 exact za (gg [.a _ _,.b (!Config.right c) zq] ⟨o_a (AcL c),Abe (by assumption),tI⟩ ge)
theorem Ab0 (c:Config) (h:c.right=zq):Is cx (.call 112 [.t c.enc] []) ⟨.ret,[vi 0,vi 0],[]⟩:=by
 exact za (gg [.a _ _,.b (!Config.right c) zg] ⟨o_a (AcL c),AbW (by assumption),tI⟩ ge)
theorem Aa5 (v lo hi:Int):Fn cx 217 [ti v,ti lo,ti hi] (ti (clamp v lo hi)):=by
 refine za ?_;refine brp (p:=v<lo) (by kernel_rfl) (fun h1=> ?_) (fun h1=> ?_)
 ·refine rT (a:=zl qm [vi lo] []) ?_
  (simp_all [clamp];(try (rw [jn];simp only [decide_eq_true_eq,zf];omega));(try (intros;omega)))
 ·refine brp (p:=v>hi) (by kernel_rfl) (fun h2=> ?_) (fun h2=> ?_)
  ·refine rT (a:=zl qm [vi hi] []) ?_
   (simp_all [clamp];(try (rw [jn];simp only [decide_eq_true_eq,zf];omega));(try (intros;omega)))
  ·refine rT (a:=zl qm [vi v] []) ?_
   (simp_all [clamp];(try (rw [jn];simp only [decide_eq_true_eq,zf];omega));(try (intros;omega)))
theorem AaY (c:Config):Fn cx 54 [c.enc] (.bool c.right):=by
 refine za ?_;refine brp (p:=c.cols≥1) (by kernel_rfl) (fun h1=> ?_) (fun h1=> ?_)
 ·refine gg [.tt,.tt,.tt] tI ?_;refine brp (p:=c.cols≤4) (by kernel_rfl) (fun h2=> ?_) (fun h2=> ?_)
  ·refine gg [.tt,.tt,.tt] tI ?_;refine brp (p:=c.rows≥1) (by kernel_rfl) (fun h3=> ?_) (fun h3=> ?_)
   ·refine gg [.tt,.tt,.tt] tI ?_;refine brp (p:=c.rows≤4) (by kernel_rfl) (fun h4=> ?_) (fun h4=> ?_)
    ·refine gg [.tt,.tt,.tt] tI ?_;refine brp (p:=c.players≥1) (by kernel_rfl) (fun h5=> ?_) (fun h5=> ?_)
     ·refine gg [.tt,.tt,.tt] tI ?_;refine brp (p:=c.players≤6) (by kernel_rfl) (fun h6=> ?_) (fun h6=> ?_)
      ·refine gg [.tt,.tt,.tt] tI ?_;refine brp (p:=c.window≥1) (by kernel_rfl) (fun h7=> ?_) (fun h7=> ?_)
       ·refine gg [.tt,.tt,.tt] tI (rT (a:=zl qm [vb (decide (c.window≤16))] []) ?_)
        (simp_all [yx,within];(try (rw [jn];simp only [decide_eq_true_eq,zf];omega));(try (intros;omega)))
       ·refine gg [.ff,.ff,.ff] tI (rT (a:=zl qm [vb zq] []) ?_)
        (simp_all [yx,within];(try (rw [jn];simp only [decide_eq_true_eq,zf];omega));(try (intros;omega)))
      ·refine gg [.ff,.ff,.ff,.ff,.ff,.ff,.ff] tI (rT (a:=zl qm [vb zq] []) ?_)
       (simp_all [yx,within];(try (rw [jn];simp only [decide_eq_true_eq,zf];omega));(try (intros;omega)))
     ·refine gg [.ff,.ff,.ff,.ff,.ff,.ff,.ff,.ff,.ff,.ff,.ff] tI (rT (a:=zl qm [vb zq] []) ?_)
      (simp_all [yx,within];(try (rw [jn];simp only [decide_eq_true_eq,zf];omega));(try (intros;omega)))
    ·refine gg [.ff,.ff,.ff,.ff,.ff,.ff,.ff,.ff,.ff,.ff,.ff,.ff,.ff,.ff,.ff] tI (rT (a:=zl qm [vb zq] []) ?_)
     (simp_all [yx,within];(try (rw [jn];simp only [decide_eq_true_eq,zf];omega));(try (intros;omega)))
   ·refine gg [.ff,.ff,.ff,.ff,.ff,.ff,.ff,.ff,.ff,.ff,.ff,.ff,.ff,.ff,.ff,.ff] tI (gg [.ff,.ff,.ff] tI (rT (a:=zl qm [vb zq] []) ?_))
    (simp_all [yx,within];(try (rw [jn];simp only [decide_eq_true_eq,zf];omega));(try (intros;omega)))
  ·refine gg [.ff,.ff,.ff,.ff,.ff,.ff,.ff,.ff,.ff,.ff,.ff,.ff,.ff,.ff,.ff,.ff] tI (gg [.ff,.ff,.ff,.ff,.ff,.ff,.ff] tI (rT (a:=zl qm [vb zq] []) ?_))
   (simp_all [yx,within];(try (rw [jn];simp only [decide_eq_true_eq,zf];omega));(try (intros;omega)))
 ·refine gg [.ff,.ff,.ff,.ff,.ff,.ff,.ff,.ff,.ff,.ff,.ff,.ff,.ff,.ff,.ff,.ff] tI (gg [.ff,.ff,.ff,.ff,.ff,.ff,.ff,.ff,.ff,.ff,.ff] tI (rT (a:=zl qm [vb zq] []) ?_))
  (simp_all [yx,within];(try (rw [jn];simp only [decide_eq_true_eq,zf];omega));(try (intros;omega)))
theorem AaH (c:Config):Fn cx 52 [c.enc] (ti c.regions):=by
 cases h:c.right with
 |true=>
  have h2:=u5 h;refine za (gg [.a _ _,.i zy (c.cols*c.rows) (c.cols*c.rows)] ⟨o_a (Ab1 c (by assumption)),oI,tI⟩ (rT (a:=zl qm [vi (c.cols*c.rows)] []) ?_));simp [xw,h]
 |false=>
  refine za (gg [.a _ _,.i zy 0 0] ⟨o_a (Ab0 c (by assumption)),oK,tI⟩ (rT (a:=zl qm [vi 0] []) ?_));simp [xw,h]
theorem Abw (c:Config):Fn cx 55 [c.enc] (ti c.regions):=by
 cases h:c.right with
 |true=>
  have h2:=u5 h;refine za (gg [.a _ _,.b (!Config.right c) zq,.i zy (c.cols*c.rows) (c.cols*c.rows)] ⟨o_a (AaY c),Abe (by assumption),oI,tI⟩ (rT (a:=zl qm [vi (c.cols*c.rows)] []) ?_));simp [xw,h]
 |false=>
  refine za (gg [.a _ _,.b (!Config.right c) zg] ⟨o_a (AaY c),AbW (by assumption),tI⟩ (rT (a:=zl qm [vi 0] []) ?_));simp [xw,h]
theorem AbG (c:Config):Fn cx 218 [c.enc] (ti c.width):=by
 cases h:c.right with
 |true=>
  have h2:=ju.1 h;refine za (gg [.a _ _,.i zy (c.cols*1024) (c.cols*1024)] ⟨o_a (Ab1 c (by assumption)),oI,tI⟩ (rT (a:=zl qm [vi (c.cols*1024)] []) ?_));simp [xi,h]
 |false=>
  refine za (gg [.a _ _,.i zy 0 0] ⟨o_a (Ab0 c (by assumption)),oK,tI⟩ (rT (a:=zl qm [vi 0] []) ?_));simp [xi,h]
theorem Abz (c:Config):Fn cx 219 [c.enc] (ti c.height):=by
 cases h:c.right with
 |true=>
  have h2:=ju.1 h;refine za (gg [.a _ _,.i zy (c.rows*1024) (c.rows*1024)] ⟨o_a (Ab1 c (by assumption)),oI,tI⟩ (rT (a:=zl qm [vi (c.rows*1024)] []) ?_));simp [xb,h]
 |false=>
  refine za (gg [.a _ _,.i zy 0 0] ⟨o_a (Ab0 c (by assumption)),oK,tI⟩ (rT (a:=zl qm [vi 0] []) ?_));simp [xb,h]
theorem Aco (c:Config) (x y:Int):Fn cx 152 [c.enc,ti x,ti y] (.bool (c.inside x y)):=by
 have h1:= @Config.width_le c;have h2:= @Config.height_le c;refine za (gg [.a _ _,.i zy (xi c-1) (xi c-1),.a _ _] ⟨o_a (AbG c),oI,o_a (AaD x 0 (xi c-1)),tI⟩ ?_);refine br (b:=within x 0 (xi c-1)) (by kernel_rfl) (fun h1=> ?_) (fun h1=> ?_)
 ·refine gg [.tt,.tt,.a _ _,.tt,.i zy (xb c-1) (xb c-1),.tt,.a _ _,.tt] ⟨o_a (Abz c),oI,o_a (AaD y 0 (xb c-1)),tI⟩ (rT (a:=zl qm [vb (within y 0 (xb c-1))] []) ?_);simp_all [gv]
 ·refine gg [.ff,.ff,.ff,.ff,.ff] tI (rT (a:=zl qm [vb zq] []) ?_);simp_all [gv]
theorem Agt (c:Config) (r:Int):Fn cx 160 [c.enc,ti r] (.bool (c.is r)):=by
 have h1:= @Config.regions_le c;refine za (gg [.a _ _,.i zy (xw c-1) (xw c-1),.a _ _] ⟨o_a (AaH c),oI,o_a (AaD r 0 (xw c-1)),tI⟩ (rT (a:=zl qm [vb (within r 0 (xw c-1))] []) ?_));simp_all [du]
theorem Agv (c:Config) (r:Int):Fn cx 90 [c.enc,ti r] (.bool (c.is r)):=by
 have h1:= @Config.regions_le c;refine za ?_;refine brp (p:=r≥0) (by kernel_rfl) (fun h1=> ?_) (fun h1=> ?_)
 ·refine gg [.tt,.tt,.a _ _,.tt,.tt] ⟨o_a (Abw c),tI⟩ (rT (a:=zl qm [vb (decide (r<xw c))] []) ?_)
  (simp_all [du,within];(try (rw [jn];simp only [decide_eq_true_eq,zf];omega));(try (intros;omega)))
 ·refine gg [.ff,.ff,.ff,.ff] tI (rT (a:=zl qm [vb zq] []) ?_)
  (simp_all [du,within];(try (rw [jn];simp only [decide_eq_true_eq,zf];omega));(try (intros;omega)))
theorem Acb (c:Config) (x y:Int):Fn cx 151 [c.enc,ti x,ti y] (ti (c.of x y)):=by
 cases h:c.right with
 |true=>
  have h2:=ju.1 h;have h3:= @Config.width_le c;have h4:= @Config.height_le c;have hw:c.width=c.cols*1024:=by simp [xi,h]
  have hh:c.height=c.rows*1024:=by simp [xb,h]
  have h5:= @Ads x 0 (c.width-1) (by omega);have h6:= @Ads y 0 (c.height-1) (by omega);have h7:=Ac5 (v:=clamp x 0 (c.width-1)) (k:=1024) (m:=4) (by omega) (by omega) (by omega);have h8:=Ac5 (v:=clamp y 0 (c.height-1)) (k:=1024) (m:=4) (by omega) (by omega) (by omega);have h9:=mul4 (a:=(clamp y 0 (c.height-1)).tdiv 1024) (b:=c.cols) (by omega) (by omega);refine za (gg [.a _ _,.b (c.cols==0) zq,.a _ _,.i zy (xi c-1) (xi c-1),.a _ _,.a _ _,.i zy (xb c-1) (xb c-1),.a _ _,.w ((1024:Int)≠(0:Int)),.i zy (wt (clamp y 0 (xb c-1)) 1024) (wt (clamp y 0 (xb c-1)) 1024),.i zy (wt (clamp y 0 (xb c-1)) 1024*c.cols) (wt (clamp y 0 (xb c-1)) 1024*c.cols),.w ((1024:Int)≠(0:Int)),.i zy (wt (clamp x 0 (xi c-1)) 1024) (wt (clamp x 0 (xi c-1)) 1024),.i zy (wt (clamp y 0 (xb c-1)) 1024*c.cols+wt (clamp x 0 (xi c-1)) 1024) (wt (clamp y 0 (xb c-1)) 1024*c.cols+wt (clamp x 0 (xi c-1)) 1024)] ⟨o_a (Ab1 c (by assumption)),fE,o_a (AbG c),oI,o_a (Aa5 x 0 (xi c-1)),o_a (Abz c),oI,o_a (Aa5 y 0 (xb c-1)),o_w (by intro h;cases h),oI,oI,o_w (by intro h;cases h),oI,oI,tI⟩ (rT (a:=zl qm [vi (wt (clamp y 0 (xb c-1)) 1024*c.cols+wt (clamp x 0 (xi c-1)) 1024)] []) ?_));simp [uw,h]
 |false=>
  refine za (gg [.a _ _,.b (0==0) zg] ⟨o_a (Ab0 c (by assumption)),bK,tI⟩ (rT (a:=zl qm [vi 0] []) ?_));simp [uw,h]
end Go.Eva.S8
namespace Go.Eva
def pos {α:Type} (p:α→Bool) (l:List α):Int:=match l.findIdx? p with
 |some j=>j
 |none=> -1
def small {α:Type} (l:List α):Prop:=l.length≤1000000
theorem Aaf {α:Type} [Inhabited α] {l:List α} {i:Nat} (h:i<l.length):l.drop i=gt l i::l.drop (i+1):=by
 rw [uj h];simp [gt,h]
theorem Aat {α:Type} [Inhabited α] {l:List α} {i:Nat} (h:i<l.length):gt l i∈l:=by simp [gt,h]
theorem Aad {α:Type} {l:List α} {i:Nat} (h:l.length≤i):l.drop i= []:=List.drop_eq_nil_of_le h
theorem Amx {α:Type} (m r:List α) (x:α) (i n:Nat) (hn:n=m.length) (h:i<n):
  z7 (n+1) (z7 i (z7 (i+1) (m++r)++z7 (n-i) (z7 (n+1-i) (z6 i (m++r)))++z6 (i+(n-i)+1) (m++r))++z7 1 [x]++
   z6 (i+1) (z7 (i+1) (m++r)++z7 (n-i) (z7 (n+1-i) (z6 i (m++r)))++z6 (i+(n-i)+1) (m++r)))=z7 i m++x::z6 i m:=by
 subst hn;have e1:z7 (i+1) (m++r)=z7 (i+1) m:=by rw [wa (by omega)]
 have e2:z7 (m.length-i) (z7 (m.length+1-i) (z6 i (m++r)))=z6 i m:=by
  rw [dz,bd (by omega),List.drop_append_of_le_length (by omega),wa (by simp),vz (by simp)]
 rw [e1,e2];generalize z6 (i+(m.length-i)+1) (m++r)=z;have hl:(z7 (i+1) m).length=i+1:=by simp;omega
 have e3:z7 i (z7 (i+1) m++z6 i m++z)=z7 i m:=by
  rw [ql,wa (by omega),dz,bd (by omega)]
 have e4:z6 (i+1) (z7 (i+1) m++z6 i m++z)=z6 i m++z:=by
  rw [ql,List.drop_append,List.drop_of_length_le (by omega)];simp [hl]
 rw [e3,e4];have e5:z7 i m++z7 1 [x]++(z6 i m++z)=(z7 i m++x::z6 i m)++z:=by simp
 rw [e5,wa (by simp;omega),vz (by simp;omega)]
theorem insert_any' {α:Type} (m r:List α) (x:α) (i n:Nat) (hn:n=m.length) (h:i<n):
  z7 (n+1) (z7 i (z7 (i+1) (m++r)++z7 (n+1-(i+1)) (z7 (n+1-i) (z6 i (m++r)))++z6 (i+1+(n+1-(i+1))) (m++r))++z7 1 [x]++
   z6 (i+1) (z7 (i+1) (m++r)++z7 (n+1-(i+1)) (z7 (n+1-i) (z6 i (m++r)))++z6 (i+1+(n+1-(i+1))) (m++r)))=z7 i m++x::z6 i m:=by
 have e1:n+1-(i+1)=n-i:=by omega
 have e2:i+1+(n-i)=i+(n-i)+1:=by omega
 rw [e1,e2];exact Amx m r x i n hn h
theorem AgR {v:List V} {s:Nat} {xs ys:List T} {x:Ex} {o:Ob} (h:xs=ys):zl x v [o,.arr s xs none false]=zl x v [o,.arr s ys none false]:=by rw [h]
def dfl {α:Type} (p:α→Bool) (A:List α) (i:Nat):List α→Nat×List α
 | []=>(i,A)
 |v::r=>match p v with
  |true=>dfl p A i r
  |false=>dfl p (A.set i v) (i+1) r
theorem Akk {α:Type} {p:α→Bool}: ∀ {r A:List α} {i:Nat},(dfl p A i r).2.length=A.length∧i≤(dfl p A i r).1∧(dfl p A i r).1≤i+r.length
 | [],A,i=>by simp [dfl]
 |v::r,A,i=>by
  simp only [dfl];cases p v with
  |true=>have:= @Akk α p r A i;simp only [j5];omega
  |false=>have:= @Akk α p r (A.set i v) (i+1);simp only [j5,List.length_set] at*;omega
theorem Aij {α:Type} {p:α→Bool}: ∀ {r A:List α} {i:Nat},i+r.length≤A.length→(dfl p A i r).2.take (dfl p A i r).1=A.take i++r.filter fun e=> !p e
 | [],A,i,_=>by simp [dfl]
 |v::r,A,i,h=>by
  simp only [j5] at h;simp only [dfl];cases hp:p v with
  |true=>
   simp only [hp,xp,Bool.not_true,xq,if_false];exact Aij (by omega)
  |false=>
   simp only [hp,xp,Bool.not_false,if_true];rw [Aij (by simp;omega),List.take_add_one];simp [List.take_set_of_le,show i<A.length by omega]
theorem Anr {α:Type} {p:α→Bool} {l:List α} (h:l.findIdx? p=none):(l.filter fun e=> !p e)=l:=by
 rw [bt];intro a ha;have:=vu.1 h a ha;simp [this]
theorem Ans {α:Type} [Inhabited α] {p:α→Bool} {l:List α} {k:Nat} (h:l.findIdx? p=some k):k<l.length∧(l.filter fun e=> !p e)=l.take k++(l.drop (k+1)).filter fun e=> !p e:=by
 obtain ⟨hk,h1,h2⟩:=j8.1 h;refine ⟨hk,?_⟩;have e:l=l.take k++l[k]::l.drop (k+1):=by rw [←uj hk,jd]
 conv=>lhs;rw [e]
 rw [kg,xp,h1];have:(l.take k).filter (fun e=> !p e)=l.take k:=by
  rw [bt];intro a ha;obtain ⟨j,hj,rfl⟩:=xn ha;simp only [List.length_take] at hj;have:=h2 j (by omega);simp only [cd];simpa using this
 simp [this]
theorem gt_eq {α:Type} [Inhabited α] {l:List α} {i:Nat} (h:i<l.length):gt l i=l[i]:=by simp [gt,h]
end Go.Eva
namespace Go.Eva.S8
theorem Aa0 (l:List Entity) (hl:small l):Is cx (.call 115 [.t (.sl 9 (l.map zk))] []) ⟨.ret,[.all 0 zx],[.arr 9 (l.map zk) zx zq]⟩:=by
 unfold small at hl;refine za ?_;refine brp (p:=zj (zw zk l)=0) (by kernel_rfl) (fun h1=> ?_) (fun h1=> ?_)
 ·refine bO ?_ ?_
  ·refine gg [.tt] tI (rT (a:=zl qm [xz 0 zx] [jy 9 [] zx zq]) ?_)
   (first|rfl|(have:l= []:=xa.1 (by simp_all;done);subst this;rfl))
  ·refine gg [.ff,.w ((0:Nat)<(72:Nat)),.s (T.sl 0 (zw zk l)),.s (T.sl 0 (zw zk l)),.w (room (zj (zw zk l)) (72:Nat))] ⟨oW,oR,tI⟩ (rT (a:=zl qm [xz 0 zx] [jy 9 (zw zk l) zx zq]) ?_)
   (first|rfl|(have:l= []:=xa.1 (by simp_all;done);subst this;rfl))
 ·refine gg [.ff,.w ((0:Nat)<(72:Nat)),.s (T.sl 0 (zw zk l)),.s (T.sl 0 (zw zk l)),.w (room (zj (zw zk l)) (72:Nat))] ⟨oW,oR,tI⟩ (rT (a:=zl qm [xz 0 zx] [jy 9 (zw zk l) zx zq]) ?_)
  (first|rfl|(have:l= []:=xa.1 (by simp_all;done);subst this;rfl))
theorem Abs (l:List Entity) (g:Nat) (cs:List T) (p:Entity→Bool) (hb:isFnB cx g=zg) (hn:small l)
  (hg: ∀e∈l,Fn cx g (e.enc::cs) (.bool (p e))): ∀(d i:Nat),i+d=l.length→
  Is cx (.loop 229 [0,1,0,1] 0 [.t (.sl 9 (l.map zk)),.t (.clo g cs),vi 0,vi l.length,vi i] [])
   (match (l.drop i).findIdx? p with
    |some j=>⟨.ret,[.t (.sl 9 (l.map zk)),.t (.clo g cs),vi (i+j:Nat),vi l.length,vi (i+j:Nat)],[]⟩
    |none=>⟨.exit 0,[.t (.sl 9 (l.map zk)),.t (.clo g cs),vi 0,vi l.length,vi l.length],[]⟩):=by
 unfold small at hn;intro d;induction d with
 |zero=>
  intro i hi;refine za (gg [.b (decide ((i:Int)<(↑(zj l):Int))) zq] ⟨fP,tI⟩ (rT (a:=zl (jr 0) [V.t (T.sl 9 (zw zk l)),V.t (pe g cs),vi 0,vi (↑(zj l):Int),vi (i:Int)] []) ?_))
  ((have:i=l.length:=by omega);subst this;rw [Aad (qn _)];rfl)
 |succ d ih=>
  intro i hi;have hlt:i<l.length:=by omega
  have hy:=hg _ (Aat hlt);have ih1:=ih (i+1) (by omega);clear ih hg;rw [Aaf hlt,kh];cases hp:p (gt l i) with
  |true=>
   rw [hp] at hy;exact za (gg [.b (decide ((i:Int)<(↑(zj l):Int))) zg,.w (0≤(i:Int)),.n (zm (i:Int)) i,.g (zw zk l) i (zk (gt l i)),.w (isFnB cx g=zg),.a _ _,.tt] ⟨tP,oW,nK,oH,oA,o_a hy,tI⟩ ge)
  |false=>
   rw [hp] at hy;simp only [xq,if_false];cases hq:(l.drop (i+1)).findIdx? p with
   |none=>
    rw [hq] at ih1;exact za (gg [.b (decide ((i:Int)<(↑(zj l):Int))) zg,.w (0≤(i:Int)),.n (zm (i:Int)) i,.g (zw zk l) i (zk (gt l i)),.w (isFnB cx g=zg),.a _ _,.ff,.i zy ((i:Int)+1) (↑(i+1):Int),.a _ _] ⟨tP,oW,nK,oH,oA,o_a hy,oI,o_a ih1,tI⟩ ge)
   |some j=>
    rw [hq] at ih1;refine za (gg [.b (decide ((i:Int)<(↑(zj l):Int))) zg,.w (0≤(i:Int)),.n (zm (i:Int)) i,.g (zw zk l) i (zk (gt l i)),.w (isFnB cx g=zg),.a _ _,.ff,.i zy ((i:Int)+1) (↑(i+1):Int),.a _ _] ⟨tP,oW,nK,oH,oA,o_a hy,oI,o_a ih1,tI⟩ (rT (a:=zl qm [V.t (T.sl 9 (zw zk l)),V.t (pe g cs),vi (↑(i+1+j):Int),vi (↑(zj l):Int),vi (↑(i+1+j):Int)] []) ?_));simp [wr,mz 1 j]
theorem Aay (l:List Entity) (g:Nat) (cs:List T) (p:Entity→Bool) (hb:isFnB cx g=zg) (hn:small l)
  (hg: ∀e∈l,Fn cx g (e.enc::cs) (.bool (p e))):Fn cx 229 [.sl 9 (l.map zk),.clo g cs] (ti (pos p l)):=by
 have h:=Abs l g cs p hb hn hg l.length 0 (by omega);clear hg;rw [qr] at h;unfold pos;cases hq:l.findIdx? p with
 |none=>
  rw [hq] at h;exact za (gg [.n (zj (zw zk l)) (zj l),.a _ _] ⟨oM,o_a h,tI⟩ ge)
 |some j=>
  rw [hq] at h;refine za (gg [.n (zj (zw zk l)) (zj l),.a _ _] ⟨oM,o_a h,tI⟩ (rT (a:=zl qm [vi (↑(0+j):Int)] []) ?_));simp
theorem Abd (l:List Entity) (e:Entity) (i:Nat) (hl:small l) (hi:i≤l.length):Is cx (.call 278 [.all 0 zx,vi i,.fit 9 ([e].map zk)] [.arr 9 (l.map zk) zx zq]) ⟨.ret,[.all 1 zx],[.dead,.arr 9 ((l.take i++e::l.drop i).map zk) zx zq]⟩:=by
 unfold small at hl;refine za (gg [.w (0≤(i:Int)),.n (zm (i:Int)) i,.w (i≤zj (zw zk l)∧zj (zw zk l)≤zj (zw zk l)),.n (0+i) i,.n (zj (zw zk l)-i) (zj l-i),.l 1,.b (1==0) zq,.n (zj (zw zk l)) (zj l)] ⟨oW,nK,o_w ⟨(by (simp [room,appendMax];omega)),(by omega)⟩,oN,oM,bK,oM,tI⟩ ?_);refine bre (x:=(i:Int)) (y:=(↑(zj l):Int)) (by kernel_rfl) (fun h1=> ?_) (fun h1=> ?_)
 ·refine gg [.w ((0:Nat)<(72:Nat)),.t (T.sl 0 [zk e]) (T.sl 0 (zw zk [e])),.t (T.sl 0 (zw zk l++zw zk [e])) (T.sl 0 (zw zk (l++ [e]))),.w (room (zj (zw zk (l++ [e]))) (72:Nat))] ⟨oW,o_l (Aa1 rfl AaC),o_l (Aa3 rfl rfl),oR,tI⟩ (rT (a:=zl qm [xz 1 zx] [nv,jy 9 (zw zk (l++ [e])) zx zq]) ?_)
  (refine AgR ?_;first|(simp only [qo,pg];rw [insert_any' _ _ _ _ _ (by simp) (by omega)];simp;done)|(have hq:i=l.length:=by omega;subst hq;simp;done)|(apply vq;grind))
 ·refine gg [.i zy ((↑(zj l):Int)+1) (↑(zj l+1):Int)] ⟨oJ,tI⟩ ?_;refine cp (lo:=zj (zw zk l)) (by kernel_rfl) (fun c2 hc2=> ?_);refine gg [.n (c2-0) c2] ⟨nK,tI⟩ ?_;refine brp (p:=(↑(zj l+1):Int)>(c2:Int)) (by kernel_rfl) (fun h3=> ?_) (fun h3=> ?_)
  ·refine gg [.w (0≤(i:Int)),.n (zm (i:Int)) i,.b (decide (c2-zj (zw zk l)=0)) zg,.w ((0:Nat)≤i∧(0:Nat)+i≤zj (zw zk l)),.l 0,.n (i-0) i,.i zy ((↑(zj l):Int)+1) (↑(zj l+1):Int),.i zy ((↑(zj l+1):Int)-(i:Int)) ((↑(zj l+1):Int)-(i:Int)),.w (0≤(↑(zj l+(1:Nat)):Int)-(i:Int)∧room (zm ((↑(zj l+(1:Nat)):Int)-(i:Int))) (72:Nat)),.n (zm ((↑(zj l+1):Int)-(i:Int))) (zj l+1-i),.b (decide (c2-zj (zw zk l)=0)) zg,.b (decide (0+i+zj (zn (zj l+1-i) (qe [ti 0,ti 0,ti 0,ti 0,ti 0,ti 0,ti 0,ti 0,ti 0]))≤zj (zw zk l))) zq,.t (T.sl 0 (z7 i (z6 0 (zw zk l))++zn (zj l+1-i) (qe [ti 0,ti 0,ti 0,ti 0,ti 0,ti 0,ti 0,ti 0,ti 0]))) (T.sl 0 (zw zk (z7 i l++zn (zj l+1-i) (qh 0 0 0 0 0 0 0 0 0)))),.w (room (zj (zw zk (z7 i l++zn (zj l+(1:Nat)-i) (qh (0:Int) (0:Int) (0:Int) (0:Int) (0:Int) (0:Int) (0:Int) (0:Int) (0:Int))))) (72:Nat)),.w (0≤(i:Int)),.n (zm (i:Int)) i] ⟨oW,nK,t_brp (by (simp;omega)),o_w ⟨(by omega),(by (simp [room,appendMax];omega))⟩,nK,oJ,oJ,o_w ⟨(by (simp [room,appendMax];omega)),(by (simp [room,appendMax];omega))⟩,oN,t_brp (by (simp;omega)),f_brp (by (simp;omega)),o_l (nm_eq (Aa3 (Acu (AgG rfl)) (Ap6 (e:=qh 0 0 0 0 0 0 0 0 0) rfl)) (by kernel_rfl)),oR,oW,nK,tI⟩ (gg [.w (i≤zj (zw zk (z7 i l++zn (zj l+(1:Nat)-i) (qh (0:Int) (0:Int) (0:Int) (0:Int) (0:Int) (0:Int) (0:Int) (0:Int) (0:Int))))∧zj (zw zk (z7 i l++zn (zj l+(1:Nat)-i) (qh (0:Int) (0:Int) (0:Int) (0:Int) (0:Int) (0:Int) (0:Int) (0:Int) (0:Int))))≤zj (zw zk (z7 i l++zn (zj l+(1:Nat)-i) (qh (0:Int) (0:Int) (0:Int) (0:Int) (0:Int) (0:Int) (0:Int) (0:Int) (0:Int))))),.n (0+i) i,.n (zj (zw zk (z7 i l++zn (zj l+1-i) (qh 0 0 0 0 0 0 0 0 0)))-i) (zj l+1-i),.n (min (zj (zw zk [e])) (zj l+1-i)) 1,.t (T.sl 0 (z7 i (zw zk (z7 i l++zn (zj l+1-i) (qh 0 0 0 0 0 0 0 0 0)))++z7 1 (zw zk [e])++z6 (i+1) (zw zk (z7 i l++zn (zj l+1-i) (qh 0 0 0 0 0 0 0 0 0))))) (T.sl 0 (zw zk (z7 i (z7 i l++zn (zj l+1-i) (qh 0 0 0 0 0 0 0 0 0))++ [e]++z6 (i+1) (z7 i l++zn (zj l+1-i) (qh 0 0 0 0 0 0 0 0 0))))),.i zy ((i:Int)+1) (↑(i+1):Int),.w (0≤(↑(i+(1:Nat)):Int)),.n (zm (↑(i+1):Int)) (i+1),.w (i+(1:Nat)≤zj (zw zk (z7 i (z7 i l++zn (zj l+(1:Nat)-i) (qh (0:Int) (0:Int) (0:Int) (0:Int) (0:Int) (0:Int) (0:Int) (0:Int) (0:Int)))++ [e]++z6 (i+(1:Nat)) (z7 i l++zn (zj l+(1:Nat)-i) (qh (0:Int) (0:Int) (0:Int) (0:Int) (0:Int) (0:Int) (0:Int) (0:Int) (0:Int)))))∧zj (zw zk (z7 i (z7 i l++zn (zj l+(1:Nat)-i) (qh (0:Int) (0:Int) (0:Int) (0:Int) (0:Int) (0:Int) (0:Int) (0:Int) (0:Int)))++ [e]++z6 (i+(1:Nat)) (z7 i l++zn (zj l+(1:Nat)-i) (qh (0:Int) (0:Int) (0:Int) (0:Int) (0:Int) (0:Int) (0:Int) (0:Int) (0:Int)))))≤zj (zw zk (z7 i (z7 i l++zn (zj l+(1:Nat)-i) (qh (0:Int) (0:Int) (0:Int) (0:Int) (0:Int) (0:Int) (0:Int) (0:Int) (0:Int)))++ [e]++z6 (i+(1:Nat)) (z7 i l++zn (zj l+(1:Nat)-i) (qh (0:Int) (0:Int) (0:Int) (0:Int) (0:Int) (0:Int) (0:Int) (0:Int) (0:Int)))))),.n (0+(i+1)) (i+1),.n (zj (zw zk (z7 i (z7 i l++zn (zj l+1-i) (qh 0 0 0 0 0 0 0 0 0))++ [e]++z6 (i+1) (z7 i l++zn (zj l+1-i) (qh 0 0 0 0 0 0 0 0 0))))-(i+1)) (i+(zj l+1-i)-(i+1))] ⟨o_w ⟨(by (simp [room,appendMax];omega)),(by omega)⟩,oN,o_n (by (simp;omega)),o_n (by (simp;omega)),o_l (nm_eq (Aa3 (Aa3 (Acu rfl) (Acu rfl)) (AgG rfl)) (by kernel_rfl)),oJ,oR,nK,o_w ⟨(by (simp [room,appendMax];omega)),(by omega)⟩,oN,o_n (by (simp;omega)),tI⟩ (gg [.w (0≤(i:Int)),.n (zm (i:Int)) i,.b (decide (c2-zj (zw zk l)=0)) zg,.w (i≤zj (zw zk l)∧(0:Nat)+zj (zw zk l)≤zj (zw zk l)),.n (0+i) i,.n (zj (zw zk l)-i) (zj l-i),.n (min (zj (z7 (zj l-i) (z6 i (zw zk l)))) (i+(zj l+1-i)-(i+1))) (zj l-i),.t (T.sl 0 (z7 (i+1) (zw zk (z7 i (z7 i l++zn (zj l+1-i) (qh 0 0 0 0 0 0 0 0 0))++ [e]++z6 (i+1) (z7 i l++zn (zj l+1-i) (qh 0 0 0 0 0 0 0 0 0))))++z7 (zj l-i) (z7 (zj l-i) (z6 i (zw zk l)))++z6 (i+1+(zj l-i)) (zw zk (z7 i (z7 i l++zn (zj l+1-i) (qh 0 0 0 0 0 0 0 0 0))++ [e]++z6 (i+1) (z7 i l++zn (zj l+1-i) (qh 0 0 0 0 0 0 0 0 0)))))) (T.sl 0 (zw zk (z7 (i+1) (z7 i (z7 i l++zn (zj l+1-i) (qh 0 0 0 0 0 0 0 0 0))++ [e]++z6 (i+1) (z7 i l++zn (zj l+1-i) (qh 0 0 0 0 0 0 0 0 0)))++z7 (zj l-i) (z7 (zj l-i) (z6 i l))++z6 (i+1+(zj l-i)) (z7 i (z7 i l++zn (zj l+1-i) (qh 0 0 0 0 0 0 0 0 0))++ [e]++z6 (i+1) (z7 i l++zn (zj l+1-i) (qh 0 0 0 0 0 0 0 0 0))))))] ⟨oW,nK,t_brp (by (simp;omega)),o_w ⟨(by (simp [room,appendMax];omega)),(by omega)⟩,oN,oM,o_n (by (simp;omega)),o_l (Aa3 (Aa3 (Acu rfl) (Acu (Acu (AgG rfl)))) (AgG rfl)),tI⟩ (rT (a:=zl qm [xz 1 zx] [nv,jy 9 (zw zk (z7 (i+1) (z7 i (z7 i l++zn (zj l+1-i) (qh 0 0 0 0 0 0 0 0 0))++ [e]++z6 (i+1) (z7 i l++zn (zj l+1-i) (qh 0 0 0 0 0 0 0 0 0)))++z7 (zj l-i) (z7 (zj l-i) (z6 i l))++z6 (i+1+(zj l-i)) (z7 i (z7 i l++zn (zj l+1-i) (qh 0 0 0 0 0 0 0 0 0))++ [e]++z6 (i+1) (z7 i l++zn (zj l+1-i) (qh 0 0 0 0 0 0 0 0 0))))) zx zq]) ?_)))
   (refine AgR ?_;first|(simp only [qo,pg];rw [insert_any' _ _ _ _ _ (by simp) (by omega)];simp;done)|(have hq:i=l.length:=by omega;subst hq;simp;done)|(apply vq;grind))
  ·refine gg [.i zy ((↑(zj l):Int)+1) (↑(zj l+1):Int),.w (0≤(↑(zj l+(1:Nat)):Int)),.n (zm (↑(zj l+1):Int)) (zj l+1),.b (decide (c2-zj (zw zk l)=0)) zq,.w ((0:Nat)≤zj l+(1:Nat)∧(0:Nat)+(zj l+(1:Nat))≤zj (zw zk l)+(c2-zj (zw zk l))),.b (decide (0+(zj l+1)≤zj (zw zk l))) zq,.l 0,.n (zj l+1-0) (zj l+1),.i zy ((i:Int)+1) (↑(i+1):Int),.w (0≤(↑(i+(1:Nat)):Int)),.n (zm (↑(i+1):Int)) (i+1),.b (decide (0=0)) zg,.w (i+(1:Nat)≤zj l+(1:Nat)∧(0:Nat)+(zj l+(1:Nat))≤zj (zw zk l++zn (c2-zj (zw zk l)) pj)),.n (0+(i+1)) (i+1),.l (zj l+1-(i+1)),.b (!Bool.false) zg] ⟨oJ,oR,nK,f_brp (by (simp;omega)),o_w ⟨(by omega),(by (simp [room,appendMax];omega))⟩,f_brp (by simp),nK,oJ,oR,nK,bK,o_w ⟨(by (simp [room,appendMax];omega)),(by (simp [room,appendMax];omega))⟩,oN,bK,tI⟩ (gg [.i zy ((i:Int)+1) (↑(i+1):Int),.w (0≤(↑(i+(1:Nat)):Int)),.n (zm (↑(i+1):Int)) (i+1),.b (decide (0=0)) zg,.w (i+(1:Nat)≤zj l+(1:Nat)∧(0:Nat)+(zj l+(1:Nat))≤zj (zw zk l++zn (c2-zj (zw zk l)) pj)),.n (0+(i+1)) (i+1),.l (zj l+1-(i+1)),.w (0≤(i:Int)),.n (zm (i:Int)) i,.b (decide (0=0)) zg,.w (i≤zj l+(1:Nat)∧(0:Nat)+(zj l+(1:Nat))≤zj (zw zk l++zn (c2-zj (zw zk l)) pj)),.n (0+i) i,.l (zj l+1-i),.n (min (zj (z7 (zj l+1-i) (z6 i (zw zk l++zn (c2-zj (zw zk l)) pj)))) (zj l+1-(i+1))) (zj l+1-(i+1)),.s (T.sl 0 (z7 (i+1) (zw zk l++zn (c2-zj (zw zk l)) pj)++z7 (zj l+1-(i+1)) (z7 (zj l+1-i) (z6 i (zw zk l++zn (c2-zj (zw zk l)) pj)))++z6 (i+1+(zj l+1-(i+1))) (zw zk l++zn (c2-zj (zw zk l)) pj))),.w (0≤(i:Int))] ⟨oJ,oR,nK,bK,o_w ⟨(by (simp [room,appendMax];omega)),(by (simp [room,appendMax];omega))⟩,oN,oW,nK,bK,o_w ⟨(by omega),(by (simp [room,appendMax];omega))⟩,oN,o_n (by (simp;omega)),oW,tI⟩ (gg [.n (zm (i:Int)) i,.b (decide (0=0)) zg,.w (i≤zj l+(1:Nat)∧(0:Nat)+(zj l+(1:Nat))≤zj (z7 (i+(1:Nat)) (zw zk l++zn (c2-zj (zw zk l)) pj)++z7 (zj l+(1:Nat)-(i+(1:Nat))) (z7 (zj l+(1:Nat)-i) (z6 i (zw zk l++zn (c2-zj (zw zk l)) pj)))++z6 (i+(1:Nat)+(zj l+(1:Nat)-(i+(1:Nat)))) (zw zk l++zn (c2-zj (zw zk l)) pj))),.n (0+i) i,.l (zj l+1-i),.n (min (zj (zw zk [e])) (zj l+1-i)) 1,.s (T.sl 0 (z7 i (z7 (i+1) (zw zk l++zn (c2-zj (zw zk l)) pj)++z7 (zj l+1-(i+1)) (z7 (zj l+1-i) (z6 i (zw zk l++zn (c2-zj (zw zk l)) pj)))++z6 (i+1+(zj l+1-(i+1))) (zw zk l++zn (c2-zj (zw zk l)) pj))++z7 1 (zw zk [e])++z6 (i+1) (z7 (i+1) (zw zk l++zn (c2-zj (zw zk l)) pj)++z7 (zj l+1-(i+1)) (z7 (zj l+1-i) (z6 i (zw zk l++zn (c2-zj (zw zk l)) pj)))++z6 (i+1+(zj l+1-(i+1))) (zw zk l++zn (c2-zj (zw zk l)) pj)))),.s (T.sl 0 (z7 (zj l+1) (z7 i (z7 (i+1) (zw zk l++zn (c2-zj (zw zk l)) pj)++z7 (zj l+1-(i+1)) (z7 (zj l+1-i) (z6 i (zw zk l++zn (c2-zj (zw zk l)) pj)))++z6 (i+1+(zj l+1-(i+1))) (zw zk l++zn (c2-zj (zw zk l)) pj))++z7 1 (zw zk [e])++z6 (i+1) (z7 (i+1) (zw zk l++zn (c2-zj (zw zk l)) pj)++z7 (zj l+1-(i+1)) (z7 (zj l+1-i) (z6 i (zw zk l++zn (c2-zj (zw zk l)) pj)))++z6 (i+1+(zj l+1-(i+1))) (zw zk l++zn (c2-zj (zw zk l)) pj)))))] ⟨nK,bK,o_w ⟨(by omega),(by (simp [room,appendMax];omega))⟩,oN,o_n (by (simp;omega)),tI⟩ (rT (a:=zl qm [xz 1 zx] [nv,jy 9 (z7 (zj l+1) (z7 i (z7 (i+1) (zw zk l++zn (c2-zj (zw zk l)) pj)++z7 (zj l+1-(i+1)) (z7 (zj l+1-i) (z6 i (zw zk l++zn (c2-zj (zw zk l)) pj)))++z6 (i+1+(zj l+1-(i+1))) (zw zk l++zn (c2-zj (zw zk l)) pj))++z7 1 (zw zk [e])++z6 (i+1) (z7 (i+1) (zw zk l++zn (c2-zj (zw zk l)) pj)++z7 (zj l+1-(i+1)) (z7 (zj l+1-i) (z6 i (zw zk l++zn (c2-zj (zw zk l)) pj)))++z6 (i+1+(zj l+1-(i+1))) (zw zk l++zn (c2-zj (zw zk l)) pj)))) zx zq]) ?_)))
   (refine AgR ?_;first|(simp only [qo,pg];rw [insert_any' _ _ _ _ _ (by simp) (by omega)];simp;done)|(have hq:i=l.length:=by omega;subst hq;simp;done)|(apply vq;grind))
theorem Aas (l:List Cross) (hl:small l):Is cx (.call 60 [.t (.sl 15 (l.map zd))] []) ⟨.ret,[.all 0 zx],[.arr 15 (l.map zd) zx zq]⟩:=by
 unfold small at hl;refine za ?_;refine brp (p:=zj (zw zd l)=0) (by kernel_rfl) (fun h1=> ?_) (fun h1=> ?_)
 ·refine bO ?_ ?_
  ·refine gg [.tt] tI (rT (a:=zl qm [xz 0 zx] [jy 15 [] zx zq]) ?_)
   (first|rfl|(have:l= []:=xa.1 (by simp_all;done);subst this;rfl))
  ·refine gg [.ff,.w ((0:Nat)<(120:Nat)),.s (T.sl 0 (zw zd l)),.s (T.sl 0 (zw zd l)),.w (room (zj (zw zd l)) (120:Nat))] ⟨oW,oR,tI⟩ (rT (a:=zl qm [xz 0 zx] [jy 15 (zw zd l) zx zq]) ?_)
   (first|rfl|(have:l= []:=xa.1 (by simp_all;done);subst this;rfl))
 ·refine gg [.ff,.w ((0:Nat)<(120:Nat)),.s (T.sl 0 (zw zd l)),.s (T.sl 0 (zw zd l)),.w (room (zj (zw zd l)) (120:Nat))] ⟨oW,oR,tI⟩ (rT (a:=zl qm [xz 0 zx] [jy 15 (zw zd l) zx zq]) ?_)
  (first|rfl|(have:l= []:=xa.1 (by simp_all;done);subst this;rfl))
theorem Abt (l:List Cross) (g:Nat) (cs:List T) (p:Cross→Bool) (hb:isFnB cx g=zg) (hn:small l)
  (hg: ∀e∈l,Fn cx g (e.enc::cs) (.bool (p e))): ∀(d i:Nat),i+d=l.length→
  Is cx (.loop 148 [0,1,0,1] 0 [.t (.sl 15 (l.map zd)),.t (.clo g cs),vi 0,vi l.length,vi i] [])
   (match (l.drop i).findIdx? p with
    |some j=>⟨.ret,[.t (.sl 15 (l.map zd)),.t (.clo g cs),vi (i+j:Nat),vi l.length,vi (i+j:Nat)],[]⟩
    |none=>⟨.exit 0,[.t (.sl 15 (l.map zd)),.t (.clo g cs),vi 0,vi l.length,vi l.length],[]⟩):=by
 unfold small at hn;intro d;induction d with
 |zero=>
  intro i hi;refine za (gg [.b (decide ((i:Int)<(↑(zj l):Int))) zq] ⟨fP,tI⟩ (rT (a:=zl (jr 0) [V.t (T.sl 15 (zw zd l)),V.t (pe g cs),vi 0,vi (↑(zj l):Int),vi (i:Int)] []) ?_))
  ((have:i=l.length:=by omega);subst this;rw [Aad (qn _)];rfl)
 |succ d ih=>
  intro i hi;have hlt:i<l.length:=by omega
  have hy:=hg _ (Aat hlt);have ih1:=ih (i+1) (by omega);clear ih hg;rw [Aaf hlt,kh];cases hp:p (gt l i) with
  |true=>
   rw [hp] at hy;exact za (gg [.b (decide ((i:Int)<(↑(zj l):Int))) zg,.w (0≤(i:Int)),.n (zm (i:Int)) i,.g (zw zd l) i (zd (gt l i)),.w (isFnB cx g=zg),.a _ _,.tt] ⟨tP,oW,nK,oH,oA,o_a hy,tI⟩ ge)
  |false=>
   rw [hp] at hy;simp only [xq,if_false];cases hq:(l.drop (i+1)).findIdx? p with
   |none=>
    rw [hq] at ih1;exact za (gg [.b (decide ((i:Int)<(↑(zj l):Int))) zg,.w (0≤(i:Int)),.n (zm (i:Int)) i,.g (zw zd l) i (zd (gt l i)),.w (isFnB cx g=zg),.a _ _,.ff,.i zy ((i:Int)+1) (↑(i+1):Int),.a _ _] ⟨tP,oW,nK,oH,oA,o_a hy,oI,o_a ih1,tI⟩ ge)
   |some j=>
    rw [hq] at ih1;refine za (gg [.b (decide ((i:Int)<(↑(zj l):Int))) zg,.w (0≤(i:Int)),.n (zm (i:Int)) i,.g (zw zd l) i (zd (gt l i)),.w (isFnB cx g=zg),.a _ _,.ff,.i zy ((i:Int)+1) (↑(i+1):Int),.a _ _] ⟨tP,oW,nK,oH,oA,o_a hy,oI,o_a ih1,tI⟩ (rT (a:=zl qm [V.t (T.sl 15 (zw zd l)),V.t (pe g cs),vi (↑(i+1+j):Int),vi (↑(zj l):Int),vi (↑(i+1+j):Int)] []) ?_));simp [wr,mz 1 j]
theorem AaV (l:List Cross) (g:Nat) (cs:List T) (p:Cross→Bool) (hb:isFnB cx g=zg) (hn:small l)
  (hg: ∀e∈l,Fn cx g (e.enc::cs) (.bool (p e))):Fn cx 148 [.sl 15 (l.map zd),.clo g cs] (ti (pos p l)):=by
 have h:=Abt l g cs p hb hn hg l.length 0 (by omega);clear hg;rw [qr] at h;unfold pos;cases hq:l.findIdx? p with
 |none=>
  rw [hq] at h;exact za (gg [.n (zj (zw zd l)) (zj l),.a _ _] ⟨oM,o_a h,tI⟩ ge)
 |some j=>
  rw [hq] at h;refine za (gg [.n (zj (zw zd l)) (zj l),.a _ _] ⟨oM,o_a h,tI⟩ (rT (a:=zl qm [vi (↑(0+j):Int)] []) ?_));simp
theorem Abu (l:List Input) (g:Nat) (cs:List T) (p:Input→Bool) (hb:isFnB cx g=zg) (hn:small l)
  (hg: ∀e∈l,Fn cx g (e.enc::cs) (.bool (p e))): ∀(d i:Nat),i+d=l.length→
  Is cx (.loop 279 [0,1,0,1] 0 [.t (.sl 3 (l.map zo)),.t (.clo g cs),vi 0,vi l.length,vi i] [])
   (match (l.drop i).findIdx? p with
    |some j=>⟨.ret,[.t (.sl 3 (l.map zo)),.t (.clo g cs),vi (i+j:Nat),vi l.length,vi (i+j:Nat)],[]⟩
    |none=>⟨.exit 0,[.t (.sl 3 (l.map zo)),.t (.clo g cs),vi 0,vi l.length,vi l.length],[]⟩):=by
 unfold small at hn;intro d;induction d with
 |zero=>
  intro i hi;refine za (gg [.b (decide ((i:Int)<(↑(zj l):Int))) zq] ⟨fP,tI⟩ (rT (a:=zl (jr 0) [V.t (T.sl 3 (zw zo l)),V.t (pe g cs),vi 0,vi (↑(zj l):Int),vi (i:Int)] []) ?_))
  ((have:i=l.length:=by omega);subst this;rw [Aad (qn _)];rfl)
 |succ d ih=>
  intro i hi;have hlt:i<l.length:=by omega
  have hy:=hg _ (Aat hlt);have ih1:=ih (i+1) (by omega);clear ih hg;rw [Aaf hlt,kh];cases hp:p (gt l i) with
  |true=>
   rw [hp] at hy;exact za (gg [.b (decide ((i:Int)<(↑(zj l):Int))) zg,.w (0≤(i:Int)),.n (zm (i:Int)) i,.g (zw zo l) i (zo (gt l i)),.w (isFnB cx g=zg),.a _ _,.tt] ⟨tP,oW,nK,oH,oA,o_a hy,tI⟩ ge)
  |false=>
   rw [hp] at hy;simp only [xq,if_false];cases hq:(l.drop (i+1)).findIdx? p with
   |none=>
    rw [hq] at ih1;exact za (gg [.b (decide ((i:Int)<(↑(zj l):Int))) zg,.w (0≤(i:Int)),.n (zm (i:Int)) i,.g (zw zo l) i (zo (gt l i)),.w (isFnB cx g=zg),.a _ _,.ff,.i zy ((i:Int)+1) (↑(i+1):Int),.a _ _] ⟨tP,oW,nK,oH,oA,o_a hy,oI,o_a ih1,tI⟩ ge)
   |some j=>
    rw [hq] at ih1;refine za (gg [.b (decide ((i:Int)<(↑(zj l):Int))) zg,.w (0≤(i:Int)),.n (zm (i:Int)) i,.g (zw zo l) i (zo (gt l i)),.w (isFnB cx g=zg),.a _ _,.ff,.i zy ((i:Int)+1) (↑(i+1):Int),.a _ _] ⟨tP,oW,nK,oH,oA,o_a hy,oI,o_a ih1,tI⟩ (rT (a:=zl qm [V.t (T.sl 3 (zw zo l)),V.t (pe g cs),vi (↑(i+1+j):Int),vi (↑(zj l):Int),vi (↑(i+1+j):Int)] []) ?_));simp [wr,mz 1 j]
theorem Ace (l:List Input) (g:Nat) (cs:List T) (p:Input→Bool) (hb:isFnB cx g=zg) (hn:small l)
  (hg: ∀e∈l,Fn cx g (e.enc::cs) (.bool (p e))):Fn cx 279 [.sl 3 (l.map zo),.clo g cs] (ti (pos p l)):=by
 have h:=Abu l g cs p hb hn hg l.length 0 (by omega);clear hg;rw [qr] at h;unfold pos;cases hq:l.findIdx? p with
 |none=>
  rw [hq] at h;exact za (gg [.n (zj (zw zo l)) (zj l),.a _ _] ⟨oM,o_a h,tI⟩ ge)
 |some j=>
  rw [hq] at h;refine za (gg [.n (zj (zw zo l)) (zj l),.a _ _] ⟨oM,o_a h,tI⟩ (rT (a:=zl qm [vi (↑(0+j):Int)] []) ?_));simp
end Go.Eva.S8
namespace Go.Eva.S8
theorem Abr (l:List Cross) (g:Nat) (cs:List T) (p:Cross→Bool) (hb:isFnB cx g=zg) (hn:small l)
  (hg: ∀e∈l,Fn cx g (e.enc::cs) (.bool (p e))): ∀(d i j:Nat) (A:List Cross),j+d=l.length→A.length=l.length→A.drop j=l.drop j→i<j→
  Is cx (.loop 232 [0,1,0,1,1,1] 1 [.all 0 zx,.t (.clo g cs),vi i,vi j] [.arr 15 (A.map zd) zx zq])
   ⟨.exit 0,[.all 0 zx,.t (.clo g cs),vi (dfl p A i (l.drop j)).1,vi l.length],[.arr 15 ((dfl p A i (l.drop j)).2.map zd) zx zq]⟩:=by
 unfold small at hn;intro d;induction d with
 |zero=>
  intro i j A hj hA hd hi;have hl:=Aad (l:=l) (i:=j) (by omega);rw [hl];refine za (gg [.n (zj (zw zd A)) (zj A),.b (decide ((j:Int)<(↑(zj A):Int))) zq] ⟨oM,fP,tI⟩ (rT (a:=zl (jr 0) [xz 0 zx,V.t (pe g cs),vi (i:Int),vi (j:Int)] [jy 15 (zw zd A) zx zq]) ?_))
  ((have hq:j=l.length:=by omega);subst hq;simp [dfl])
 |succ d ih=>
  intro i j A hj hA hd hi;have hlt:j<l.length:=by omega
  have hy:=hg _ (Aat hlt);have hx:A[j]?=zb (gt l j):=by rw [←List.head?_drop,hd,Aaf hlt];rfl
  have ih1:=ih i (j+1) A (by omega) hA (by rw [←yc,hd,yc]) (by omega);have ih2:=ih (i+1) (j+1) (A.set i (gt l j)) (by omega) (by simpa using hA) (by rw [List.drop_set_of_lt (by omega),←yc,hd,yc]) (by omega);clear ih hg;rw [Aaf hlt];cases hp:p (gt l j) with
  |true=>
   rw [hp] at hy;refine za (gg [.n (zj (zw zd A)) (zj A),.b (decide ((j:Int)<(↑(zj A):Int))) zg,.w (0≤(j:Int)),.n (zm (j:Int)) j,.w (j<zj (zw zd A)),.g (zw zd A) j (zd (gt l j)),.w (isFnB cx g=zg),.a _ _,.b (!Bool.true) zq,.i zy ((j:Int)+1) (↑(j+1):Int),.a _ _] ⟨oM,tP,oW,nK,oS,o_gm rfl hx (by intro h;cases h),oA,o_a hy,bK,oI,o_a ih1,tI⟩ (rT (a:=zl (jr 0) [xz 0 zx,V.t (pe g cs),vi (↑(dfl p A i (z6 (j+1) l)).fst:Int),vi (↑(zj l):Int)] [jy 15 (zw zd (dfl p A i (z6 (j+1) l)).snd) zx zq]) ?_));simp [dfl,hp]
  |false=>
   rw [hp] at hy;refine za (gg [.n (zj (zw zd A)) (zj A),.b (decide ((j:Int)<(↑(zj A):Int))) zg,.w (0≤(j:Int)),.n (zm (j:Int)) j,.w (j<zj (zw zd A)),.g (zw zd A) j (zd (gt l j)),.w (isFnB cx g=zg),.a _ _,.b (!Bool.false) zg,.w (0≤(i:Int)),.n (zm (i:Int)) i,.w (i<zj (zw zd A)),.w (i<zj (zw zd A)),.t (T.sl 0 (qz (zw zd A) i (zd (gt l j)))) (T.sl 0 (zw zd (qz A i (gt l j)))),.i zy ((i:Int)+1) (↑(i+1):Int),.i zy ((j:Int)+1) (↑(j+1):Int)] ⟨oM,tP,oW,nK,oS,o_gm rfl hx (by intro h;cases h),oA,o_a hy,bK,oW,nK,oS,oS,o_l (Aaq rfl rfl),oI,oI,tI⟩ (gg [.a _ _] ⟨o_a ih2,tI⟩ (rT (a:=zl (jr 0) [xz 0 zx,V.t (pe g cs),vi (↑(dfl p (qz A i (gt l j)) (i+1) (z6 (j+1) l)).fst:Int),vi (↑(zj l):Int)] [jy 15 (zw zd (dfl p (qz A i (gt l j)) (i+1) (z6 (j+1) l)).snd) zx zq]) ?_)));simp [dfl,hp]
theorem AbQ (l:List Cross) (g:Nat) (cs:List T) (p:Cross→Bool) (hb:isFnB cx g=zg) (hn:small l)
  (hg: ∀e∈l,Fn cx g (e.enc::cs) (.bool (p e))):Is cx (.call 232 [.all 0 zx,.t (.clo g cs)] [.arr 15 (l.map zd) zx zq])
   ⟨.ret,[.all 1 zx],[.dead,.arr 15 ((l.filter fun e=> !p e).map zd) zx zq]⟩:=by
 have h0:=AaV l g cs p hb hn hg;have h1:=Abr l g cs p hb hn hg;clear hg;unfold pos at h0;have hn':l.length≤1000000:=hn;cases hq:l.findIdx? p with
 |none=>
  rw [hq] at h0;simp only at h0;have hf:=Anr hq;refine za (gg [.a _ _,.b (flats [ti (-1)]) zg,.b (-1== -1) zg] ⟨o_a h0,bK,bK,tI⟩ (rT (a:=zl qm [xz 1 zx] [nv,jy 15 (zw zd l) zx zq]) ?_))
  (refine AgR ?_;rw [hf])
 |some k=>
  rw [hq] at h0;simp only at h0;obtain ⟨hk,hf⟩:=Ans hq;have h1':=h1 (l.length-(k+1)) k (k+1) l (by omega) rfl rfl (by omega);clear h1;have hl:= @Akk _ p (l.drop (k+1)) l k;have ht:= @Aij _ p (l.drop (k+1)) l k (by simp;omega);simp only [pz] at hl;generalize hr:dfl p l k (l.drop (k+1))=r at*;obtain ⟨i,A⟩:=r;simp only at hl ht h1';refine za (gg [.a _ _,.b (flats [ti (k:Int)]) zg,.b ((k:Int)== -1) zq,.i zy ((k:Int)+1) (↑(k+1):Int),.a _ _,.w (0≤(i:Int)),.n (zm (i:Int)) i,.w (i≤zj (zw zd A)∧zj (zw zd A)≤zj (zw zd A)),.n (0+i) i,.n (zj (zw zd A)-i) (zj A-i),.n (min (zj (zn (zj A-i) (qe [ti 0,ti 0,ti 0,ti 0,ti 0,ti 0,ti 0,ti 0,ti 0,ti 0,ti 0,ti 0,ti 0,ti 0,ti 0]))) (zj A-i)) (zj A-i),.t (T.sl 0 (z7 i (zw zd A)++z7 (zj A-i) (zn (zj A-i) (qe [ti 0,ti 0,ti 0,ti 0,ti 0,ti 0,ti 0,ti 0,ti 0,ti 0,ti 0,ti 0,ti 0,ti 0,ti 0]))++z6 (i+(zj A-i)) (zw zd A))) (T.sl 0 (zw zd (z7 i A++zn (zj A-i) (f0 0 0 0 0 (qh 0 0 0 0 0 0 0 0 0) 0 0)++z6 (i+(zj A-i)) A))),.w (0≤(i:Int)),.n (zm (i:Int)) i,.w ((0:Nat)≤i∧i≤zj (zw zd (z7 i A++zn (zj A-i) (f0 (0:Int) (0:Int) (0:Int) (0:Int) (qh (0:Int) (0:Int) (0:Int) (0:Int) (0:Int) (0:Int) (0:Int) (0:Int) (0:Int)) (0:Int) (0:Int))++z6 (i+(zj A-i)) A))),.l 0] ⟨o_a h0,bK,bK,oI,o_a h1',oW,nK,o_w ⟨(by (simp;omega)),(by omega)⟩,oN,oM,oM,o_l (nm_eq (Aa3 (Aa3 (Acu rfl) (Acu (Ap6 (e:=f0 0 0 0 0 (qh 0 0 0 0 0 0 0 0 0) 0 0) rfl))) (AgG rfl)) (by simp)),oW,nK,o_w ⟨(by omega),(by (simp;omega))⟩,tI⟩ (gg [.n (i-0) i,.t (T.sl 0 (z7 i (zw zd (z7 i A++zn (zj A-i) (f0 0 0 0 0 (qh 0 0 0 0 0 0 0 0 0) 0 0)++z6 (i+(zj A-i)) A)))) (T.sl 0 (zw zd (z7 i (z7 i A++zn (zj A-i) (f0 0 0 0 0 (qh 0 0 0 0 0 0 0 0 0) 0 0)++z6 (i+(zj A-i)) A))))] ⟨nK,o_l (Acu rfl),tI⟩ (rT (a:=zl qm [xz 1 zx] [nv,jy 15 (zw zd (z7 i (z7 i A++zn (zj A-i) (f0 0 0 0 0 (qh 0 0 0 0 0 0 0 0 0) 0 0)++z6 (i+(zj A-i)) A))) zx zq]) ?_)))
  (refine AgR ?_;rw [hf,←ht,ql,wa (by simp;omega),dz,Nat.min_self])
end Go.Eva.S8
namespace Go.Eva
def find (l:List Entity) (id:Int):Int:=pos (fun e=>e.id==id) l
def ins (l:List Entity) (e:Entity):List Entity:=match l.findIdx? fun x=>decide (x.id≥e.id) with
 |some k=>l.take k++e::l.drop k
 |none=>l++ [e]
def put1 (l:List Entity) (e:Entity):List Entity:=match l.findIdx? fun x=>x.id==e.id with
 |some _=>l
 |none=>ins l e
def puts (l m:List Entity):List Entity:=m.foldl put1 l
def has (ids:List Int) (id:Int):Bool:=ids.any fun x=>x==id
def drops (l:List Entity) (ids:List Int):List Entity:=l.filter fun e=> !has ids e.id
def things (l:List Entity):Int:=(l.countP fun e=>e.kind !=1:Nat)
def sortedL:List Entity→Bool
 |a::b::r=>decide (a.id<b.id)&&sortedL (b::r)
 |_=>true
def sameL {α:Type} (p:α→α→Bool):List α→List α→Bool
 |a::r,b::s=>p a b&&sameL p r s
 |_,_=>true
theorem Acw {α:Type} {p:α→Bool} {l:List α} (h:l.findIdx? p=none):pos p l= -1:=by simp [pos,h]
theorem AbJ {α:Type} {p:α→Bool} {l:List α} {k:Nat} (h:l.findIdx? p=some k):pos p l=(k:Int):=by simp [pos,h]
theorem ApY {l:List Entity} {e:Entity}:(ins l e).length=l.length+1:=by
 unfold ins;split
 ·rename_i k h;have:=(j8.1 h).1;simp;omega
 ·simp
theorem Acx {l:List Entity} {e:Entity}:l.length≤(put1 l e).length∧(put1 l e).length≤l.length+1:=by
 unfold put1;split
 ·omega
 ·rw [ApY];omega
theorem Aou {l:List Entity} {i:Nat} (h:i+1<l.length):sortedL (l.drop i)=(decide ((gt l i).id<(gt l (i+1)).id)&&sortedL (l.drop (i+1))):=by
 rw [Aaf (by omega),Aaf h,sortedL]
theorem AmD {l:List Entity} {i:Nat} (h:l.length≤i+1):sortedL (l.drop i)=true:=by
 rcases Nat.lt_or_ge i l.length with h1|h1
 ·rw [Aaf h1,Aad (by omega)];rfl
 ·rw [Aad h1];rfl
theorem Agk {l:List Entity} {i:Nat} (p:Entity→Bool) (h:i<l.length):(l.drop i).countP p=(if p (gt l i)=true then 1 else 0)+(l.drop (i+1)).countP p:=by
 rw [Aaf h,fc];omega
theorem Ajl {α:Type} [Inhabited α] {l:List α} {i:Nat} (p:α→Bool) (h:i<l.length):(l.drop i).filter p=(if p (gt l i)=true then [gt l i] else [])++(l.drop (i+1)).filter p:=by
 rw [Aaf h,xp];split<;>simp
theorem ApW {l:List Int} {x:Int}:(decide (pos (fun y=>x==y) l≥0))=has l x:=by
 unfold has;cases h:l.findIdx? fun y=>x==y with
 |none=>
  rw [Acw h];have:=vu.1 h;symm;rw [show (l.any fun y=>y==x)=false from ?_]
  ·rfl
  ·rw [pa];intro y hy;have:=this y hy;simp at this⊢;exact fun e=>this e.symm
 |some k=>
  rw [AbJ h];obtain ⟨hk,h1,_⟩:=j8.1 h;symm;simp only [ge_iff_le,Int.natCast_nonneg,decide_true];rw [kz];exact ⟨l[k],wm _,by simp at h1⊢;exact h1.symm⟩
theorem Ak6 {α:Type} [Inhabited α] {p:α→α→Bool} {a b:List α} {i:Nat} (h:i<a.length) (h':i<b.length):sameL p (a.drop i) (b.drop i)=(p (gt a i) (gt b i)&&sameL p (a.drop (i+1)) (b.drop (i+1))):=by
 rw [Aaf h,Aaf h',sameL]
theorem AiI {α:Type} [DecidableEq α]: ∀ {a b:List α},a.length=b.length→sameL (fun x y=>decide (x=y)) a b=decide (a=b)
 | [],[],_=>rfl
 | [],_::_,h=>by simp at h
 |_::_,[],h=>by simp at h
 |x::a,y::b,h=>by
  rw [sameL,AiI (by simpa using h)];by_cases h1:x=y<;>simp [h1]
def plain {α:Type} [DecidableEq α] (a b:List α):Bool:=decide (a=b)
abbrev CrossL:=List Cross
def encL (l:List Cross):T:= .sl 15 (l.map zd)
end Go.Eva
namespace Go.Eva.S8
theorem Agq (e:Entity) (id:Int):Fn cx 281 [e.enc,.ip 1 (ti id) 0] (.bool (e.id==id)):=by
 exact za ge
theorem Ahc (e x:Entity):Fn cx 277 [x.enc,.ip 9 e.enc 0] (.bool (decide (x.id≥e.id))):=by
 exact za ge
theorem Aa2 (l:List Entity) (id:Int) (hl:small l):Fn cx 244 [.sl 9 (l.map zk),ti id] (ti (find l id)):=by
 have h:=Aay l 281 [.ip 1 (ti id) 0] (fun e=>e.id==id) (by kernel_rfl) hl (fun e _=>Agq e id);exact za (gg [.a _ _,.b (flats [ti (pos (fun (e:Entity)↦e.id==id) l)]) zg] ⟨o_a h,bK,tI⟩ ge)
theorem AeW (m:List Entity) (hm:m.length≤400000): ∀(d i:Nat) (A:List Entity),i+d=m.length→A.length≤400000+i→
  Is cx (.loop 236 [0,1,0,1,1] 0 [.all 0 zx,.t (.sl 9 (m.map zk)),vi m.length,vi i] [.arr 9 (A.map zk) zx zq])
   ⟨.exit 0,[.all 0 zx,.t (.sl 9 (m.map zk)),vi m.length,vi m.length],[.arr 9 ((puts A (m.drop i)).map zk) zx zq]⟩:=by
 intro d;induction d with
 |zero=>
  intro i A hi hA;rw [Aad (by omega)];refine za (gg [.b (decide ((i:Int)<(↑(zj m):Int))) zq] ⟨fP,tI⟩ (rT (a:=zl (jr 0) [xz 0 zx,V.t (T.sl 9 (zw zk m)),vi (↑(zj m):Int),vi (i:Int)] [jy 9 (zw zk A) zx zq]) ?_))
  ((have hq:i=m.length:=by omega);subst hq;rfl)
 |succ d ih=>
  intro i A hi hA;have hlt:i<m.length:=by omega
  rw [Aaf hlt];show Is cx _ ⟨_,_,[.arr 9 ((puts (put1 A (gt m i)) (m.drop (i+1))).map zk) zx zq]⟩;have hl:= @Acx A (gt m i);have ih1:=ih (i+1) (put1 A (gt m i)) (by omega) (by omega);clear ih;have hs:small A:=by unfold small;omega
  have hF:=Aa2 A (gt m i).id hs;have hG:=Aay A 277 [.ip 9 (gt m i).enc 0] (fun x=>decide (x.id≥(gt m i).id)) (by kernel_rfl) hs (fun x _=>Ahc (gt m i) x);clear hl;unfold find at hF;unfold put1 at*;cases hq:A.findIdx? fun x=>x.id==(gt m i).id with
  |some k=>
   rw [hq] at ih1;rw [AbJ hq] at hF;simp only at ih1⊢;exact za (gg [.b (decide ((i:Int)<(↑(zj m):Int))) zg,.w (0≤(i:Int)),.n (zm (i:Int)) i,.g (zw zk m) i (zk (gt m i)),.a _ _,.b (flats [ti (k:Int)]) zg,.b (decide ((k:Int)≥0)) zg,.i zy ((i:Int)+1) (↑(i+1):Int),.a _ _] ⟨tP,oW,nK,oH,o_a hF,bK,bK,oI,o_a ih1,tI⟩ ge)
  |none=>
   rw [hq] at ih1;rw [Acw hq] at hF;simp only at ih1⊢;unfold ins at*;cases hp:A.findIdx? fun x=>decide (x.id≥(gt m i).id) with
   |some k=>
    rw [hp] at ih1;rw [AbJ hp] at hG;simp only at ih1⊢;have hk:=(j8.1 hp).1;exact za (gg [.b (decide ((i:Int)<(↑(zj m):Int))) zg,.w (0≤(i:Int)),.n (zm (i:Int)) i,.g (zw zk m) i (zk (gt m i)),.a _ _,.b (flats [ti (-1)]) zg,.b (decide (-1≥0)) zq,.a _ _,.b (flats [ti (k:Int)]) zg,.b (decide ((k:Int)<0)) zq,.a _ _,.i zy ((i:Int)+1) (↑(i+1):Int),.a _ _] ⟨tP,oW,nK,oH,o_a hF,bK,bK,o_a hG,bK,bK,o_a (Abd A (gt m i) k (by assumption) (by omega)),oI,o_a ih1,tI⟩ ge)
   |none=>
    rw [hp] at ih1;rw [Acw hp] at hG;simp only at ih1⊢;have hI:=Abd A (gt m i) A.length hs (qn _);rw [List.take_length,List.drop_length] at hI;exact za (gg [.b (decide ((i:Int)<(↑(zj m):Int))) zg,.w (0≤(i:Int)),.n (zm (i:Int)) i,.g (zw zk m) i (zk (gt m i)),.a _ _,.b (flats [ti (-1)]) zg,.b (decide (-1≥0)) zq,.a _ _,.b (flats [ti (-1)]) zg,.b (decide (-1<0)) zg,.n (zj (zw zk A)) (zj A),.a _ _,.i zy ((i:Int)+1) (↑(i+1):Int),.a _ _] ⟨tP,oW,nK,oH,o_a hF,bK,bK,o_a hG,bK,bK,oM,o_a hI,oI,o_a ih1,tI⟩ ge)
theorem Abn (l m:List Entity) (hl:l.length≤400000) (hm:m.length≤400000):Is cx (.call 236 [.t (.sl 9 (l.map zk)),.t (.sl 9 (m.map zk))] []) ⟨.ret,[.all 0 zx],[.arr 9 ((puts l m).map zk) zx zq]⟩:=by
 have hs:small l:=by unfold small;omega
 have h:=AeW m hm m.length 0 l (by omega) (by omega);rw [qr] at h;exact za (gg [.a _ _,.n (zj (zw zk m)) (zj m),.a _ _] ⟨o_a (Aa0 l (by assumption)),oM,o_a h,tI⟩ ge)
theorem Ad4 (l:List Entity) (hn:small l): ∀(d i:Nat),i+d=l.length→1≤i→
  ∃k:Nat,Is cx (.loop 182 [0,1,0,1] 0 [.t (.sl 9 (l.map zk)),vb zq,vi l.length,vi i] []) (match sortedL (l.drop (i-1)) with
    |true=>⟨.exit 0,[.t (.sl 9 (l.map zk)),vb zq,vi l.length,vi l.length],[]⟩
    |false=>⟨.ret,[.t (.sl 9 (l.map zk)),vb zq,vi l.length,vi k],[]⟩):=by
 unfold small at hn;intro d;induction d with
 |zero=>
  intro i hi h1;refine ⟨0,?_⟩;rw [AmD (by omega)];refine za (gg [.b (decide ((i:Int)<(↑(zj l):Int))) zq] ⟨fP,tI⟩ (rT (a:=zl (jr 0) [V.t (T.sl 9 (zw zk l)),vb zq,vi (↑(zj l):Int),vi (i:Int)] []) ?_))
  ((have hq:i=l.length:=by omega);subst hq;rfl)
 |succ d ih=>
  intro i hi h1;have hlt:i<l.length:=by omega
  obtain ⟨k,ih1⟩:=ih (i+1) (by omega) (by omega);clear ih;obtain ⟨j,rfl⟩: ∃j,i=j+1:=⟨i-1,by omega⟩
  simp only [Nat.add_sub_cancel] at*;rw [Aou hlt];by_cases hp:(gt l j).id<(gt l (j+1)).id
  ·simp only [hp,decide_true,u4];refine ⟨k,?_⟩;cases hq:sortedL (l.drop (j+1)) with
   |true=>
    rw [hq] at ih1;exact za (gg [.b (decide ((↑(j+1):Int)<(↑(zj l):Int))) zg,.b (decide ((↑(j+1):Int)>0)) zg,.tt,.tt,.w (0≤(↑(j+(1:Nat)):Int)),.n (zm (↑(j+1):Int)) (j+1),.g (zw zk l) (j+1) (zk (gt l (j+1))),.tt,.tt,.tt,.tt,.i zy ((↑(j+1):Int)-1) ((↑(j+1):Int)-1),.tt,.w (0≤(↑(j+(1:Nat)):Int)-(1:Int)),.n (zm ((↑(j+1):Int)-1)) j,.g (zw zk l) j (zk (gt l j))] ⟨tP,tP,oW,nK,oH,oI,oW,oN,oT,tI⟩ (gg [.tt,.tt,.tt,.tt,.tt,.b (decide ((gt l (j+1)).id≤(gt l j).id)) zq,.i zy ((↑(j+1):Int)+1) (↑(j+1+1):Int),.a _ _] ⟨fP,oI,o_a ih1,tI⟩ ge))
   |false=>
    rw [hq] at ih1;exact za (gg [.b (decide ((↑(j+1):Int)<(↑(zj l):Int))) zg,.b (decide ((↑(j+1):Int)>0)) zg,.tt,.tt,.w (0≤(↑(j+(1:Nat)):Int)),.n (zm (↑(j+1):Int)) (j+1),.g (zw zk l) (j+1) (zk (gt l (j+1))),.tt,.tt,.tt,.tt,.i zy ((↑(j+1):Int)-1) ((↑(j+1):Int)-1),.tt,.w (0≤(↑(j+(1:Nat)):Int)-(1:Int)),.n (zm ((↑(j+1):Int)-1)) j,.g (zw zk l) j (zk (gt l j))] ⟨tP,tP,oW,nK,oH,oI,oW,oN,oT,tI⟩ (gg [.tt,.tt,.tt,.tt,.tt,.b (decide ((gt l (j+1)).id≤(gt l j).id)) zq,.i zy ((↑(j+1):Int)+1) (↑(j+1+1):Int),.a _ _] ⟨fP,oI,o_a ih1,tI⟩ ge))
  ·simp only [hp,decide_false,uf];refine ⟨j+1,?_⟩;exact za (gg [.b (decide ((↑(j+1):Int)<(↑(zj l):Int))) zg,.b (decide ((↑(j+1):Int)>0)) zg,.tt,.tt,.w (0≤(↑(j+(1:Nat)):Int)),.n (zm (↑(j+1):Int)) (j+1),.g (zw zk l) (j+1) (zk (gt l (j+1))),.tt,.tt,.tt,.tt,.i zy ((↑(j+1):Int)-1) ((↑(j+1):Int)-1),.tt,.w (0≤(↑(j+(1:Nat)):Int)-(1:Int)),.n (zm ((↑(j+1):Int)-1)) j,.g (zw zk l) j (zk (gt l j))] ⟨tP,tP,oW,nK,oH,oI,oW,oN,oT,tI⟩ (gg [.tt,.tt,.tt,.tt,.tt,.b (decide ((gt l (j+1)).id≤(gt l j).id)) zg] ⟨tP,tI⟩ ge))
theorem Agr (l:List Entity) (hn:small l):Fn cx 182 [.sl 9 (l.map zk)] (.bool (sortedL l)):=by
 have hn':l.length≤1000000:=hn;have hz:l.length=0→Is cx (.loop 182 [0,1,0,1] 0 [.t (.sl 9 (l.map zk)),vb zq,vi l.length,vi 0] []) ⟨.exit 0,[.t (.sl 9 (l.map zk)),vb zq,vi l.length,vi l.length],[]⟩:=by
  intro h0;rw [h0];exact za (gg [.b (decide (0<0)) zq] ⟨bK,tI⟩ ge)
 by_cases h0:l.length=0
 ·have h:=hz h0;have:l= []:=xa.1 h0;subst this;exact za (gg [.l 0,.a _ _] ⟨o_a (hz (by kernel_rfl)),tI⟩ ge)
 ·clear hz;obtain ⟨k,h⟩:=Ad4 l hn (l.length-1) 1 (by omega) (by omega);simp only [Nat.sub_self,qr] at h;have hz:Is cx (.loop 182 [0,1,0,1] 0 [.t (.sl 9 (l.map zk)),vb zq,vi l.length,vi 0] []) (match sortedL l with
    |true=>⟨.exit 0,[.t (.sl 9 (l.map zk)),vb zq,vi l.length,vi l.length],[]⟩
    |false=>⟨.ret,[.t (.sl 9 (l.map zk)),vb zq,vi l.length,vi k],[]⟩):=by
   cases hq:sortedL l with
   |true=>
    rw [hq] at h;exact za (gg [.b (decide (0<(↑(zj l):Int))) zg,.b (decide (0>0)) zq,.ff,.ff,.ff,.ff,.ff,.ff,.ff,.ff,.ff,.ff,.ff,.ff,.ff,.i zy 1 1] ⟨tP,bK,oK,tI⟩ (gg [.a _ _] ⟨o_a h,tI⟩ ge))
   |false=>
    rw [hq] at h;exact za (gg [.b (decide (0<(↑(zj l):Int))) zg,.b (decide (0>0)) zq,.ff,.ff,.ff,.ff,.ff,.ff,.ff,.ff,.ff,.ff,.ff,.ff,.ff,.i zy 1 1] ⟨tP,bK,oK,tI⟩ (gg [.a _ _] ⟨o_a h,tI⟩ ge))
  clear h;cases hq:sortedL l with
  |true=>
   rw [hq] at hz;exact za (gg [.n (zj (zw zk l)) (zj l),.a _ _] ⟨oM,o_a hz,tI⟩ ge)
  |false=>
   rw [hq] at hz;exact za (gg [.n (zj (zw zk l)) (zj l),.a _ _] ⟨oM,o_a hz,tI⟩ ge)
theorem Acs (l:List Int) (x:Int) (hn:small l): ∀(d i:Nat),i+d=l.length→
  Is cx (.loop 214 [0,1,0,1] 0 [.t (.sl 1 (l.map ti)),vi x,vi 0,vi l.length,vi i] [])
   (match (l.drop i).findIdx? fun y=>x==y with
    |some j=>⟨.ret,[.t (.sl 1 (l.map ti)),vi x,vi (i+j:Nat),vi l.length,vi (i+j:Nat)],[]⟩
    |none=>⟨.exit 0,[.t (.sl 1 (l.map ti)),vi x,vi 0,vi l.length,vi l.length],[]⟩):=by
 unfold small at hn;intro d;induction d with
 |zero=>
  intro i hi;refine za (gg [.b (decide ((i:Int)<(↑(zj l):Int))) zq] ⟨fP,tI⟩ (rT (a:=zl (jr 0) [V.t (T.sl 1 (zw ti l)),vi x,vi 0,vi (↑(zj l):Int),vi (i:Int)] []) ?_))
  ((have:i=l.length:=by omega);subst this;rw [Aad (qn _)];rfl)
 |succ d ih=>
  intro i hi;have hlt:i<l.length:=by omega
  have ih1:=ih (i+1) (by omega);clear ih;rw [Aaf hlt,kh];by_cases hp:x=gt l i
  ·simp only [show (x==gt l i)=zg by simpa using hp,if_true];exact za (gg [.b (decide ((i:Int)<(↑(zj l):Int))) zg,.w (0≤(i:Int)),.n (zm (i:Int)) i,.g (zw ti l) i (ti (gt l i)),.b (x==gt l i) zg] ⟨tP,oW,nK,oH,tQ,tI⟩ ge)
  ·simp only [show (x==gt l i)=zq by simpa using hp,xq,if_false];cases hq:(l.drop (i+1)).findIdx? fun y=>x==y with
   |none=>
    rw [hq] at ih1;exact za (gg [.b (decide ((i:Int)<(↑(zj l):Int))) zg,.w (0≤(i:Int)),.n (zm (i:Int)) i,.g (zw ti l) i (ti (gt l i)),.b (x==gt l i) zq,.i zy ((i:Int)+1) (↑(i+1):Int),.a _ _] ⟨tP,oW,nK,oH,fQ,oI,o_a ih1,tI⟩ ge)
   |some j=>
    rw [hq] at ih1;refine za (gg [.b (decide ((i:Int)<(↑(zj l):Int))) zg,.w (0≤(i:Int)),.n (zm (i:Int)) i,.g (zw ti l) i (ti (gt l i)),.b (x==gt l i) zq,.i zy ((i:Int)+1) (↑(i+1):Int),.a _ _] ⟨tP,oW,nK,oH,fQ,oI,o_a ih1,tI⟩ (rT (a:=zl qm [V.t (T.sl 1 (zw ti l)),vi x,vi (↑(i+1+j):Int),vi (↑(zj l):Int),vi (↑(i+1+j):Int)] []) ?_));simp [wr,mz 1 j]
theorem Ae7 (l:List Int) (x:Int) (hn:small l):Fn cx 214 [.sl 1 (l.map ti),ti x] (ti (pos (fun y=>x==y) l)):=by
 have h:=Acs l x hn l.length 0 (by omega);rw [qr] at h;unfold pos;cases hq:l.findIdx? fun y=>x==y with
 |none=>
  rw [hq] at h;exact za (gg [.n (zj (zw ti l)) (zj l),.a _ _] ⟨oM,o_a h,tI⟩ ge)
 |some j=>
  rw [hq] at h;refine za (gg [.n (zj (zw ti l)) (zj l),.a _ _] ⟨oM,o_a h,tI⟩ (rT (a:=zl qm [vi (↑(0+j):Int)] []) ?_));simp
theorem AcS (l:List Int) (x:Int) (hn:small l):Fn cx 149 [.sl 1 (l.map ti),ti x] (.bool (has l x)):=by
 have h:=Ae7 l x hn;rw [←ApW];generalize pos (fun y=>x==y) l=k at*;exact za (gg [.a _ _] ⟨o_a h,tI⟩ ge)
theorem Ad5 (l:List Entity) (hn:small l): ∀(d i n:Nat),i+d=l.length→n≤i→
  Is cx (.loop 183 [0,1,0,1,1] 0 [vi n,.t (.sl 9 (l.map zk)),vi l.length,vi i] []) ⟨.exit 0,[vi (n+(l.drop i).countP fun e=>e.kind !=1:Nat),.t (.sl 9 (l.map zk)),vi l.length,vi l.length],[]⟩:=by
 unfold small at hn;intro d;induction d with
 |zero=>
  intro i n hi hm;rw [Aad (by omega)];refine za (gg [.b (decide ((i:Int)<(↑(zj l):Int))) zq] ⟨fP,tI⟩ (rT (a:=zl (jr 0) [vi (n:Int),V.t (T.sl 9 (zw zk l)),vi (↑(zj l):Int),vi (i:Int)] []) ?_))
  ((have hq:i=l.length:=by omega);subst hq;rfl)
 |succ d ih=>
  intro i n hi hm;have hlt:i<l.length:=by omega
  have ih1:=ih (i+1) n (by omega) (by omega);have ih2:=ih (i+1) (n+1) (by omega) (by omega);clear ih;rw [Agk _ hlt];refine za (gg [.b (decide ((i:Int)<(↑(zj l):Int))) zg,.w (0≤(i:Int)),.n (zm (i:Int)) i,.g (zw zk l) i (zk (gt l i))] ⟨tP,oW,nK,oH,tI⟩ ?_);refine brn (x:=(gt l i).kind) (y:=1) (by kernel_rfl) (fun h1=> ?_) (fun h1=> ?_)
  ·refine gg [.i zy ((n:Int)+1) (↑(n+1):Int),.i zy ((i:Int)+1) (↑(i+1):Int),.a _ _] ⟨oI,oI,o_a ih2,tI⟩ (rT (a:=zl (jr 0) [vi (↑(n+1+List.countP (fun (e:Entity)↦e.kind !=1) (z6 (i+1) l)):Int),V.t (T.sl 9 (zw zk l)),vi (↑(zj l):Int),vi (↑(zj l):Int)] []) ?_)
   (simp_all;try omega)
  ·refine gg [.i zy ((i:Int)+1) (↑(i+1):Int),.a _ _] ⟨oI,o_a ih1,tI⟩ (rT (a:=zl (jr 0) [vi (↑(n+List.countP (fun (e:Entity)↦e.kind !=1) (z6 (i+1) l)):Int),V.t (T.sl 9 (zw zk l)),vi (↑(zj l):Int),vi (↑(zj l):Int)] []) ?_)
   (simp_all;try omega)
theorem AbB (l:List Entity) (hn:small l):Fn cx 183 [.sl 9 (l.map zk)] (ti (things l)):=by
 have h:=Ad5 l hn l.length 0 0 (by omega) (by omega);rw [qr,Nat.zero_add] at h;exact za (gg [.n (zj (zw zk l)) (zj l),.a _ _] ⟨oM,o_a h,tI⟩ ge)
end Go.Eva.S8
namespace Go.Eva
def pace (v:Int):Bool:=decide (v=0)||decide (v=160)||decide (v= -160)
def Entity.right (c:Config) (e:Entity):Bool:=c.inside e.x e.y&&
 (if e.kind=1 then within e.id 1 c.players&&within e.vx (-64) 64&&within e.vy (-64) 64&&within e.health 1 100&&within e.age 0 6&&decide (e.owner=0)
  else if e.kind=2 then within e.id 1000 2147483647&&decide (e.health=1)&&pace e.vx&&pace e.vy&&(!decide (e.vx=0)|| !decide (e.vy=0))&&within e.age 0 12&&within e.owner 1 c.players
  else if e.kind=3 then within e.id 1000 2147483647&&decide (e.health=1)&&decide (e.vx=0)&&decide (e.vy=0)&&decide (e.age=0)&&decide (e.owner=0)
  else false)
theorem beqd (a b:Int):(a==b)=decide (a=b):=by rw [jn];simp
theorem bned (a b:Int):(a !=b)= !decide (a=b):=by rw [jn];simp
theorem Ao0 {a b:Entity}:teq a.enc b.enc=decide (a=b):=by rw [jn,teqIff,Entity.enc_inj,decide_eq_true_eq]
theorem Config.inside_false {c:Config} {x y:Int} (h:c.right=false):c.inside x y=false:=by
 cases hi:c.inside x y with
 |false=>rfl
 |true=>
  simp only [gv,xi,h,Aah,zf,xq,if_false] at hi;omega
theorem Config.inside_right {c:Config} {x y:Int} (h:c.inside x y=true):c.right=true:=by
 cases hr:c.right with
 |true=>rfl
 |false=>rw [Config.inside_false hr] at h;contradiction
end Go.Eva
namespace Go.Eva.S8
end Go.Eva.S8
namespace Go.Eva.S8
theorem Aex (v:Int):Fn cx 216 [ti v] (.bool (pace v)):=by
 refine za ?_;refine bre (x:=v) (y:=0) (by kernel_rfl) (fun h1=> ?_) (fun h1=> ?_)
 ·refine gg [.tt,.tt,.tt,.tt,.tt] tI (rT (a:=zl qm [vb zg] []) ?_);simp_all [pace,beqd]
 ·refine gg [.ff,.ff] tI ?_;refine bre (x:=v) (y:=160) (by kernel_rfl) (fun h2=> ?_) (fun h2=> ?_)
  ·refine gg [.tt,.tt] tI (rT (a:=zl qm [vb zg] []) ?_);simp_all [pace,beqd]
  ·refine gg [.ff,.ff] tI (rT (a:=zl qm [vb (v== -160)] []) ?_);simp_all [pace,beqd]
theorem AbP (c:Config) (e:Entity):Fn cx 150 [c.enc,e.enc] (.bool (e.right c)):=by
 refine za (gg [.a _ _] ⟨o_a (Aco c e.x e.y),tI⟩ ?_);refine brnot (b:=gv c e.x e.y) (by kernel_rfl) (fun h1=> ?_) (fun h1=> ?_)
 ·refine rT (a:=zl qm [vb zq] []) ?_;simp_all [Entity.right,beqd,bned]
 ·refine gg [.a _ _] ⟨o_a (Aag e.id 1000 2147483647),tI⟩ ?_;refine br (b:=within e.id 1000 2147483647) (by kernel_rfl) (fun h2=> ?_) (fun h2=> ?_)
  ·refine gg [.tt,.tt,.tt] tI ?_;refine bre (x:=e.kind) (y:=1) (by kernel_rfl) (fun h3=> ?_) (fun h3=> ?_)
   ·refine gg [.a _ _] ⟨o_a (Aag e.id 1 c.players),tI⟩ ?_;refine br (b:=within e.id 1 c.players) (by kernel_rfl) (fun h4=> ?_) (fun h4=> ?_)
    ·refine gg [.tt,.tt,.a _ _,.tt] ⟨o_a (Aag e.vx (-64) 64),tI⟩ ?_;refine br (b:=within e.vx (-64) 64) (by kernel_rfl) (fun h5=> ?_) (fun h5=> ?_)
     ·refine gg [.tt,.tt,.a _ _,.tt] ⟨o_a (Aag e.vy (-64) 64),tI⟩ ?_;refine br (b:=within e.vy (-64) 64) (by kernel_rfl) (fun h6=> ?_) (fun h6=> ?_)
      ·refine gg [.tt,.tt,.a _ _,.tt] ⟨o_a (Aag e.health 1 100),tI⟩ ?_;refine br (b:=within e.health 1 100) (by kernel_rfl) (fun h7=> ?_) (fun h7=> ?_)
       ·refine gg [.tt,.tt,.a _ _,.tt] ⟨o_a (Aag e.age 0 6),tI⟩ ?_;refine br (b:=within e.age 0 6) (by kernel_rfl) (fun h8=> ?_) (fun h8=> ?_)
        ·refine gg [.tt,.tt,.tt] tI (rT (a:=zl qm [vb (e.owner==0)] []) ?_);simp_all [Entity.right,beqd,bned]
        ·refine gg [.ff,.ff,.ff] tI (rT (a:=zl qm [vb zq] []) ?_);simp_all [Entity.right,beqd,bned]
       ·refine gg [.ff,.ff,.ff,.ff,.ff,.ff,.ff] tI (rT (a:=zl qm [vb zq] []) ?_);simp_all [Entity.right,beqd,bned]
      ·refine gg [.ff,.ff,.ff,.ff,.ff,.ff,.ff,.ff,.ff,.ff,.ff] tI (rT (a:=zl qm [vb zq] []) ?_);simp_all [Entity.right,beqd,bned]
     ·refine gg [.ff,.ff,.ff,.ff,.ff,.ff,.ff,.ff,.ff,.ff,.ff,.ff,.ff,.ff,.ff] tI (rT (a:=zl qm [vb zq] []) ?_);simp_all [Entity.right,beqd,bned]
    ·refine gg [.ff,.ff,.ff,.ff,.ff,.ff,.ff,.ff,.ff,.ff,.ff,.ff,.ff,.ff,.ff,.ff] tI (gg [.ff,.ff,.ff] tI (rT (a:=zl qm [vb zq] []) ?_));simp_all [Entity.right,beqd,bned]
   ·refine bre (x:=e.kind) (y:=2) (by kernel_rfl) (fun h4=> ?_) (fun h4=> ?_)
    ·refine bre (x:=e.health) (y:=1) (by kernel_rfl) (fun h5=> ?_) (fun h5=> ?_)
     ·refine gg [.tt,.tt,.a _ _,.tt] ⟨o_a (Aex e.vx),tI⟩ ?_;refine br (b:=pace e.vx) (by kernel_rfl) (fun h6=> ?_) (fun h6=> ?_)
      ·refine gg [.tt,.tt,.a _ _,.tt] ⟨o_a (Aex e.vy),tI⟩ ?_;refine br (b:=pace e.vy) (by kernel_rfl) (fun h7=> ?_) (fun h7=> ?_)
       ·refine gg [.tt,.tt,.tt] tI ?_;refine brn (x:=e.vx) (y:=0) (by kernel_rfl) (fun h8=> ?_) (fun h8=> ?_)
        ·refine gg [.tt,.tt,.tt,.tt,.tt,.tt,.tt,.tt,.a _ _,.tt] ⟨o_a (Aag e.age 0 12),tI⟩ ?_;refine br (b:=within e.age 0 12) (by kernel_rfl) (fun h9=> ?_) (fun h9=> ?_)
         ·refine gg [.tt,.tt,.tt,.tt,.tt,.a _ _,.tt] ⟨o_a (Aag e.owner 1 c.players),tI⟩ (rT (a:=zl qm [vb (within e.owner 1 c.players)] []) ?_);simp_all [Entity.right,beqd,bned]
         ·refine gg [.ff,.ff,.ff,.ff,.ff,.ff] tI (rT (a:=zl qm [vb zq] []) ?_);simp_all [Entity.right,beqd,bned]
        ·refine gg [.ff,.ff,.tt,.ff,.tt] tI ?_;refine brn (x:=e.vy) (y:=0) (by kernel_rfl) (fun h9=> ?_) (fun h9=> ?_)
         ·refine gg [.tt,.tt,.a _ _,.tt] ⟨o_a (Aag e.age 0 12),tI⟩ ?_;refine br (b:=within e.age 0 12) (by kernel_rfl) (fun h10=> ?_) (fun h10=> ?_)
          ·refine gg [.tt,.tt,.tt,.tt,.tt,.a _ _,.tt] ⟨o_a (Aag e.owner 1 c.players),tI⟩ (rT (a:=zl qm [vb (within e.owner 1 c.players)] []) ?_);simp_all [Entity.right,beqd,bned]
          ·refine gg [.ff,.ff,.ff,.ff,.ff,.ff] tI (rT (a:=zl qm [vb zq] []) ?_);simp_all [Entity.right,beqd,bned]
         ·refine gg [.ff,.ff,.ff,.ff,.ff,.ff,.ff,.ff,.ff,.ff] tI (rT (a:=zl qm [vb zq] []) ?_);simp_all [Entity.right,beqd,bned]
       ·refine gg [.ff,.ff,.ff,.ff,.ff,.ff,.ff,.ff,.ff,.ff,.ff,.ff,.ff,.ff,.ff,.ff] tI (rT (a:=zl qm [vb zq] []) ?_);simp_all [Entity.right,beqd,bned]
      ·refine gg [.ff,.ff,.ff,.ff,.ff,.ff,.ff,.ff,.ff,.ff,.ff,.ff,.ff,.ff,.ff,.ff] tI (gg [.ff,.ff,.ff,.ff] tI (rT (a:=zl qm [vb zq] []) ?_));simp_all [Entity.right,beqd,bned]
     ·refine gg [.ff,.ff,.ff,.ff,.ff,.ff,.ff,.ff,.ff,.ff,.ff,.ff,.ff,.ff,.ff,.ff] tI (gg [.ff,.ff,.ff,.ff,.ff,.ff,.ff,.ff] tI (rT (a:=zl qm [vb zq] []) ?_));simp_all [Entity.right,beqd,bned]
    ·refine bre (x:=e.kind) (y:=3) (by kernel_rfl) (fun h5=> ?_) (fun h5=> ?_)
     ·refine bre (x:=e.health) (y:=1) (by kernel_rfl) (fun h6=> ?_) (fun h6=> ?_)
      ·refine gg [.tt,.tt,.tt] tI ?_;refine bre (x:=e.vx) (y:=0) (by kernel_rfl) (fun h7=> ?_) (fun h7=> ?_)
       ·refine gg [.tt,.tt,.tt] tI ?_;refine bre (x:=e.vy) (y:=0) (by kernel_rfl) (fun h8=> ?_) (fun h8=> ?_)
        ·refine gg [.tt,.tt,.tt] tI ?_;refine bre (x:=e.age) (y:=0) (by kernel_rfl) (fun h9=> ?_) (fun h9=> ?_)
         ·refine gg [.tt,.tt,.tt] tI (rT (a:=zl qm [vb (e.owner==0)] []) ?_);simp_all [Entity.right,beqd,bned]
         ·refine gg [.ff,.ff,.ff] tI (rT (a:=zl qm [vb zq] []) ?_);simp_all [Entity.right,beqd,bned]
        ·refine gg [.ff,.ff,.ff,.ff,.ff,.ff,.ff] tI (rT (a:=zl qm [vb zq] []) ?_);simp_all [Entity.right,beqd,bned]
       ·refine gg [.ff,.ff,.ff,.ff,.ff,.ff,.ff,.ff,.ff,.ff,.ff] tI (rT (a:=zl qm [vb zq] []) ?_);simp_all [Entity.right,beqd,bned]
      ·refine gg [.ff,.ff,.ff,.ff,.ff,.ff,.ff,.ff,.ff,.ff,.ff,.ff,.ff,.ff,.ff] tI (rT (a:=zl qm [vb zq] []) ?_);simp_all [Entity.right,beqd,bned]
     ·refine rT (a:=zl qm [vb zq] []) ?_;simp_all [Entity.right,beqd,bned]
  ·refine gg [.ff,.ff,.ff] tI ?_;refine bre (x:=e.kind) (y:=1) (by kernel_rfl) (fun h3=> ?_) (fun h3=> ?_)
   ·refine gg [.a _ _] ⟨o_a (Aag e.id 1 c.players),tI⟩ ?_;refine br (b:=within e.id 1 c.players) (by kernel_rfl) (fun h4=> ?_) (fun h4=> ?_)
    ·refine gg [.tt,.tt,.a _ _,.tt] ⟨o_a (Aag e.vx (-64) 64),tI⟩ ?_;refine br (b:=within e.vx (-64) 64) (by kernel_rfl) (fun h5=> ?_) (fun h5=> ?_)
     ·refine gg [.tt,.tt,.a _ _,.tt] ⟨o_a (Aag e.vy (-64) 64),tI⟩ ?_;refine br (b:=within e.vy (-64) 64) (by kernel_rfl) (fun h6=> ?_) (fun h6=> ?_)
      ·refine gg [.tt,.tt,.a _ _,.tt] ⟨o_a (Aag e.health 1 100),tI⟩ ?_;refine br (b:=within e.health 1 100) (by kernel_rfl) (fun h7=> ?_) (fun h7=> ?_)
       ·refine gg [.tt,.tt,.a _ _,.tt] ⟨o_a (Aag e.age 0 6),tI⟩ ?_;refine br (b:=within e.age 0 6) (by kernel_rfl) (fun h8=> ?_) (fun h8=> ?_)
        ·refine gg [.tt,.tt,.tt] tI (rT (a:=zl qm [vb (e.owner==0)] []) ?_);simp_all [Entity.right,beqd,bned]
        ·refine gg [.ff,.ff,.ff] tI (rT (a:=zl qm [vb zq] []) ?_);simp_all [Entity.right,beqd,bned]
       ·refine gg [.ff,.ff,.ff,.ff,.ff,.ff,.ff] tI (rT (a:=zl qm [vb zq] []) ?_);simp_all [Entity.right,beqd,bned]
      ·refine gg [.ff,.ff,.ff,.ff,.ff,.ff,.ff,.ff,.ff,.ff,.ff] tI (rT (a:=zl qm [vb zq] []) ?_);simp_all [Entity.right,beqd,bned]
     ·refine gg [.ff,.ff,.ff,.ff,.ff,.ff,.ff,.ff,.ff,.ff,.ff,.ff,.ff,.ff,.ff] tI (rT (a:=zl qm [vb zq] []) ?_);simp_all [Entity.right,beqd,bned]
    ·refine gg [.ff,.ff,.ff,.ff,.ff,.ff,.ff,.ff,.ff,.ff,.ff,.ff,.ff,.ff,.ff,.ff] tI (gg [.ff,.ff,.ff] tI (rT (a:=zl qm [vb zq] []) ?_));simp_all [Entity.right,beqd,bned]
   ·refine bre (x:=e.kind) (y:=2) (by kernel_rfl) (fun h4=> ?_) (fun h4=> ?_)
    ·refine gg [.ff,.ff,.ff,.ff,.ff,.ff,.ff,.ff,.ff,.ff,.ff,.ff,.ff,.ff,.ff,.ff] tI (gg [.ff,.ff,.ff,.ff,.ff,.ff,.ff,.ff,.ff] tI (rT (a:=zl qm [vb zq] []) ?_));simp_all [Entity.right,beqd,bned]
    ·refine bre (x:=e.kind) (y:=3) (by kernel_rfl) (fun h5=> ?_) (fun h5=> ?_)
     ·refine gg [.ff,.ff,.ff,.ff,.ff,.ff,.ff,.ff,.ff,.ff,.ff,.ff,.ff,.ff,.ff,.ff] tI (rT (a:=zl qm [vb zq] []) ?_);simp_all [Entity.right,beqd,bned]
     ·refine rT (a:=zl qm [vb zq] []) ?_;simp_all [Entity.right,beqd,bned]
end Go.Eva.S8
namespace Go.Eva
abbrev Srt (l:List Entity):Prop:=l.Pairwise fun a b=>a.id<b.id
theorem AhW: ∀ {l:List Entity},sortedL l=true↔Srt l
 | []=>by simp [sortedL]
 | [a]=>by simp [sortedL]
 |a::b::r=>by
  rw [sortedL,zf,decide_eq_true_eq,@AhW (b::r),Srt,Srt,xd (a:=a)];constructor
  ·rintro ⟨h1,h2⟩;refine ⟨fun x hx=> ?_,h2⟩;rcases qf.1 hx with rfl|hx
   ·exact h1
   ·have:=(xd.1 h2).1 x hx;omega
  ·rintro ⟨h1,h2⟩;exact ⟨h1 b (jh ..),h2⟩
theorem An9 {e:Entity}:ins [] e= [e]:=rfl
theorem Ap1 {y e:Entity} {l:List Entity} (h:e.id≤y.id):ins (y::l) e=e::y::l:=by
 unfold ins;rw [kh,show decide (y.id≥e.id)=true by simpa using h];rfl
theorem Ap2 {y e:Entity} {l:List Entity} (h:y.id<e.id):ins (y::l) e=y::ins l e:=by
 unfold ins;rw [kh,show decide (y.id≥e.id)=false by simpa using h];cases l.findIdx? fun x=>decide (x.id≥e.id)<;>simp
theorem Ai5 {e x:Entity}: ∀ {l:List Entity},x∈ins l e↔x=e∨x∈l
 | []=>by simp [An9]
 |y::l=>by
  rcases Int.lt_or_le y.id e.id with h|h
  ·rw [Ap2 h,qf,Ai5,qf];constructor<;>(intro h;rcases h with h|h|h<;>simp [h])
  ·rw [Ap1 h];simp
theorem Ah9 {e:Entity}: ∀ {l:List Entity},Srt l→(∀x∈l,x.id≠e.id)→Srt (ins l e)
 | [],_,_=>by simp [An9,Srt]
 |y::l,h,hne=>by
  obtain ⟨h1,h2⟩:=xd.1 h;rcases Int.lt_or_le y.id e.id with hy|hy
  ·rw [Ap2 hy];refine xd.2 ⟨fun x hx=> ?_,Ah9 h2 fun x hx=>hne x (qu _ hx)⟩;rcases Ai5.1 hx with rfl|hx
   ·exact hy
   ·exact h1 x hx
  ·rw [Ap1 hy];have hyy:=hne y (jh ..);refine xd.2 ⟨fun x hx=> ?_,h⟩;rcases qf.1 hx with rfl|hx
   ·omega
   ·have:=h1 x hx;omega
theorem no_id {l:List Entity} {id:Int} (h:l.findIdx? (fun x=>x.id==id)=none): ∀x∈l,x.id≠id:=by
 intro x hx;have:=vu.1 h x hx;simpa using this
theorem an_id [Inhabited Entity] {l:List Entity} {id:Int} {k:Nat} (h:l.findIdx? (fun x=>x.id==id)=some k):k<l.length∧(gt l k).id=id∧gt l k∈l:=by
 obtain ⟨hk,h1,_⟩:=j8.1 h;exact ⟨hk,by rw [gt_eq hk];simpa using h1,Aat hk⟩
theorem AgN {l:List Entity} {e:Entity} (h:Srt l):Srt (put1 l e):=by
 unfold put1;split
 ·exact h
 ·rename_i hq;exact Ah9 h (no_id hq)
theorem AiD {l:List Entity} {e:Entity}: ∀x∈l,x∈put1 l e:=by
 intro x hx;unfold put1;split
 ·exact hx
 ·exact Ai5.2 (.inr hx)
theorem AoP {l:List Entity} {id:Int} (h: ∃x∈l,x.id=id): ∃k:Nat,l.findIdx? (fun x=>x.id==id)=some k:=by
 cases hq:l.findIdx? fun x=>x.id==id with
 |some k=>exact ⟨k,rfl⟩
 |none=>
  obtain ⟨x,hx,he⟩:=h;exact absurd he (no_id hq x hx)
theorem Ahp {l:List Entity}:(l.countP fun e=>e.kind !=1)+(l.countP fun e=>e.kind==1)=l.length:=by
 induction l with
 |nil=>rfl
 |cons e l ih=>
  simp only [fc,j5];by_cases h:e.kind=1
  ·simp [h];omega
  ·simp [h];omega
theorem drop_drop {l:List Entity} {id:Int}:drops (drops l [id]) [id,id]=drops l [id]:=by
 unfold drops;rw [List.filter_filter];congr 1;funext x;simp [has]
end Go.Eva
namespace Go.Eva
def u1 (n k:Int):Int:=1+(IntKind.u64.wrap n).tmod k
theorem AmI {n:Int}:0≤IntKind.u64.wrap n:=by simp [z8,IntKind.bits,IntKind.signed];omega
theorem AlQ {n k:Int} (hk:0<k):0≤(IntKind.u64.wrap n).tmod k∧(IntKind.u64.wrap n).tmod k<k:=AbX hk AmI
end Go.Eva
namespace Go.Eva
def cmpI (x y:Int):Int:=if x<y then-1 else if x>y then 1 else 0
def orI:List Int→Int
 | []=>0
 |x::r=>if x≠0 then x else orI r
def Cross.cmp (a b:Cross):Int:=
 if orI [cmpI a.to b.to,cmpI a.kind b.kind]≠0 then orI [cmpI a.to b.to,cmpI a.kind b.kind]
 else if a.kind=1 then cmpI a.ent.id b.ent.id
 else orI [cmpI a.x b.x,cmpI a.y b.y]
def Cross.less (a b:Cross):Bool:=decide (a.cmp b<0)
def toL (l:List Cross) (r:Int):List Cross:=l.filter fun c=>decide (c.to=r)
theorem Aeo {x y:Int}:cmpI x y<0↔x<y:=by unfold cmpI;split<;>(try split)<;>omega
theorem Aca {x y:Int}:cmpI x y=0↔x=y:=by unfold cmpI;split<;>(try split)<;>omega
theorem AnZ {x y:Int}:orI [x,y]<0↔x<0∨x=0∧y<0:=by unfold orI orI orI;split<;>(try split)<;>omega
theorem Al7 {x y:Int}:orI [x,y]=0↔x=0∧y=0:=by unfold orI orI orI;split<;>(try split)<;>omega
theorem Ai8 {a b:Cross}:a.less b=true↔(a.to<b.to∨a.to=b.to∧(a.kind<b.kind∨a.kind=b.kind∧(a.kind=1∧a.ent.id<b.ent.id∨a.kind≠1∧(a.x<b.x∨a.x=b.x∧a.y<b.y)))):=by
 unfold Cross.less Cross.cmp;rw [decide_eq_true_eq];split
 ·rename_i h;rw [Ne,Al7,Aca,Aca] at h;rw [AnZ,Aeo,Aeo,Aca];omega
 ·rename_i h;rw [Ne,Al7,Aca,Aca] at h;split
  ·rw [Aeo];omega
  ·rw [AnZ,Aeo,Aeo,Aca];omega
end Go.Eva
namespace Go.Eva
structure Swo {α:Type} (lt:α→α→Bool):Prop where
 asymm: ∀ {x y},lt x y=true→lt y x=false
 ntrans: ∀ {x y z},lt x y=false→lt y z=false→lt x z=false
section
variable {α:Type} {lt:α→α→Bool}
abbrev Sd (lt:α→α→Bool) (l:List α):Prop:=l.Pairwise fun a b=>lt b a=false
def eqv (lt:α→α→Bool) (x y:α):Bool:= !lt x y&& !lt y x
def StEq (lt:α→α→Bool) (s l:List α):Prop:= ∀x,s.filter (eqv lt x)=l.filter (eqv lt x)
theorem Swo.irr (h:Swo lt) (x:α):lt x x=false:=by
 cases hx:lt x x with
 |false=>rfl
 |true=>exact absurd (h.asymm hx) (by rw [hx];simp)
theorem Swo.trans (h:Swo lt) {x y z:α} (h1:lt x y=true) (h2:lt y z=true):lt x z=true:=by
 cases hx:lt x z with
 |true=>rfl
 |false=>
  have:=h.ntrans hx (h.asymm h2);rw [h1] at this;contradiction
theorem Swo.lt_le (h:Swo lt) {x y z:α} (h1:lt x y=true) (h2:lt z y=false):lt x z=true:=by
 cases hx:lt x z with
 |true=>rfl
 |false=>exact absurd (h.ntrans hx h2) (by rw [h1];simp)
theorem Swo.le_lt (h:Swo lt) {x y z:α} (h1:lt y x=false) (h2:lt y z=true):lt x z=true:=by
 cases hx:lt x z with
 |true=>rfl
 |false=>exact absurd (h.ntrans h1 hx) (by rw [h2];simp)
theorem Aip (h:Swo lt) (x:α):eqv lt x x=true:=by simp [eqv,h.irr x]
theorem StEq.refl (l:List α):StEq lt l l:=fun _=>rfl
theorem StEq.symm {s l:List α} (h:StEq lt s l):StEq lt l s:=fun x=>(h x).symm
theorem StEq.trans {s l m:List α} (h:StEq lt s l) (k:StEq lt l m):StEq lt s m:=fun x=>(h x).trans (k x)
theorem StEq.append {s l s' l':List α} (h:StEq lt s l) (k:StEq lt s' l'):StEq lt (s++s') (l++l'):=fun x=>by rw [kg,kg,h x,k x]
theorem StEq.nil {s:List α} (hw:Swo lt) (h:StEq lt s []):s= []:=by
 cases s with
 |nil=>rfl
 |cons x s=>
  have:=h x;rw [xp,if_pos (Aip hw x)] at this;simp at this
theorem StEq.mem {s l:List α} (hw:Swo lt) (h:StEq lt s l) {x:α} (hx:x∈s):x∈l:=by
 have:x∈s.filter (eqv lt x):=wu.2 ⟨hx,Aip hw x⟩;rw [h x] at this;exact (wu.1 this).1
theorem uniq (hw:Swo lt): ∀ {s t:List α},Sd lt s→Sd lt t→StEq lt s t→s=t
 | [],t,_,_,h=>(h.symm.nil hw).symm
 |x::s,[],_,_,h=>h.nil hw
 |x::s,y::t,hs,ht,h=>by
  have hx:x∈y::t:=h.mem hw (jh ..);have hy:y∈x::s:=h.symm.mem hw (jh ..);obtain ⟨h1,h2⟩:=xd.1 hs;obtain ⟨h3,h4⟩:=xd.1 ht;have e1:lt x y=false:=by
   rcases qf.1 hx with rfl|hx
   ·exact hw.irr _
   ·exact h3 x hx
  have e2:lt y x=false:=by
   rcases qf.1 hy with rfl|hy
   ·exact hw.irr _
   ·exact h1 y hy
  have e3:eqv lt x y=true:=by simp [eqv,e1,e2]
  have:=h x;rw [xp,if_pos (Aip hw x),xp,if_pos e3] at this;obtain ⟨rfl,_⟩:=List.cons.inj this;have h5:StEq lt s t:=by
   intro z;have:=h z;rw [xp,xp] at this;split at this
   ·exact (List.cons.inj this).2
   ·exact this
  rw [uniq hw h2 h4 h5]
theorem StEq.swap (hw:Swo lt) {u v:List α} (h: ∀x∈v,∀y∈u,lt x y=true):StEq lt (u++v) (v++u):=by
 intro z;rw [kg,kg];by_cases hu: ∃y∈u,eqv lt z y=true
 ·obtain ⟨y,hy,hzy⟩:=hu;have:v.filter (eqv lt z)= []:=by
   rw [List.filter_eq_nil_iff];intro x hx hzx;have hxy:=h x hx y hy;simp only [eqv,zf,wv] at hzy hzx;have:=hw.ntrans hzx.2 hzy.1;rw [hxy] at this;contradiction
  rw [this];simp
 ·have:u.filter (eqv lt z)= []:=by
   rw [List.filter_eq_nil_iff];intro y hy hzy;exact hu ⟨y,hy,hzy⟩
  rw [this];simp
def insS (lt:α→α→Bool):List α→α→List α
 | [],x=> [x]
 |y::l,x=>match lt x y with
  |true=>x::y::l
  |false=>y::insS lt l x
def sortS (lt:α→α→Bool) (l:List α):List α:=l.foldl (insS lt) []
theorem Aln {x z:α}: ∀ {l:List α},z∈insS lt l x↔z=x∨z∈l
 | []=>by simp [insS]
 |y::l=>by
  simp only [insS];cases lt x y with
  |true=>simp
  |false=>
   simp only [qf,Aln];constructor<;>(intro h;rcases h with h|h|h<;>simp [h])
theorem An7 (hw:Swo lt) {x:α}: ∀ {l:List α},Sd lt l→Sd lt (insS lt l x)
 | [],_=>by simp [insS,Sd]
 |y::l,h=>by
  obtain ⟨h1,h2⟩:=xd.1 h;simp only [insS];cases hxy:lt x y with
  |true=>
   refine xd.2 ⟨fun z hz=> ?_,h⟩;rcases qf.1 hz with rfl|hz
   ·exact hw.asymm hxy
   ·exact hw.ntrans (h1 z hz) (hw.asymm hxy)
  |false=>
   refine xd.2 ⟨fun z hz=> ?_,An7 hw h2⟩;rcases Aln.1 hz with rfl|hz
   ·exact hxy
   ·exact h1 z hz
theorem An8 (hw:Swo lt) {x:α}: ∀ {l:List α},Sd lt l→StEq lt (insS lt l x) (l++ [x])
 | [],_=> .refl _
 |y::l,h=>by
  obtain ⟨h1,h2⟩:=xd.1 h;simp only [insS];cases hxy:lt x y with
  |true=>
   have:StEq lt ((y::l)++ [x]) ([x]++(y::l)):= .swap hw fun a ha b hb=>by
    simp at ha;subst ha;rcases qf.1 hb with rfl|hb
    ·exact hxy
    ·exact hw.lt_le hxy (h1 b hb)
   exact this.symm
  |false=>exact StEq.append (s:= [y]) (l:= [y]) (.refl _) (An8 hw h2)
theorem Ai3 (hw:Swo lt): ∀ {l acc:List α},Sd lt acc→Sd lt (l.foldl (insS lt) acc)∧StEq lt (l.foldl (insS lt) acc) (acc++l)
 | [],acc,h=>⟨h,by simpa using StEq.refl acc⟩
 |x::l,acc,h=>by
  obtain ⟨h1,h2⟩:=Ai3 hw (l:=l) (An7 hw (x:=x) h);refine ⟨h1,h2.trans ?_⟩;have:=StEq.append (An8 hw (x:=x) h) (StEq.refl (lt:=lt) l);simpa using this
theorem Ab6 (hw:Swo lt) (l:List α):Sd lt (sortS lt l):=(Ai3 hw (by simp [Sd])).1
theorem Abm (hw:Swo lt) (l:List α):StEq lt (sortS lt l) l:=by
 have:=(Ai3 hw (l:=l) (acc:= []) (by simp [Sd])).2;simpa [sortS] using this
theorem Aga (hw:Swo lt) {s l:List α} (h:Sd lt s) (k:StEq lt s l):s=sortS lt l:=uniq hw h (Ab6 hw l) (k.trans (Abm hw l).symm)
theorem StEq.len (hw:Swo lt): ∀ {s l:List α},Sd lt s→StEq lt s l→s.length=l.length:=by
 intro s l hs h;rw [Aga hw hs h];have: ∀(l acc:List α),(l.foldl (insS lt) acc).length=acc.length+l.length:=by
  intro l;induction l with
  |nil=>simp
  |cons x l ih=>
   intro acc;have: ∀acc:List α,(insS lt acc x).length=acc.length+1:=by
    intro acc;induction acc with
    |nil=>rfl
    |cons y acc ih=>simp only [insS];cases lt x y<;>simp [ih]
   simp [ih,this];omega
 simpa [sortS] using this l []
theorem Ack (hw:Swo lt) (l:List α):(sortS lt l).length=l.length:=StEq.len hw (Ab6 hw l) (Abm hw l)
theorem AaO (hw:Swo lt) {l:List α} (h:Sd lt l):sortS lt l=l:=(Aga hw h (.refl l)).symm
theorem Ak9 (hw:Swo lt) {u1 u2 v1 v2:List α} (h1: ∀x∈v1,∀y∈u2,lt x y=true) (h2: ∀x∈u1++v1,∀y∈u2++v2,lt y x=false):
  sortS lt (u1++v1)++sortS lt (u2++v2)=sortS lt ((u1++u2)++(v1++v2)):=by
 refine Aga hw ?_ ?_
 ·refine vn.2 ⟨Ab6 hw _,Ab6 hw _,fun x hx y hy=> ?_⟩;exact h2 x ((Abm hw _).mem hw hx) y ((Abm hw _).mem hw hy)
 ·refine ((Abm hw _).append (Abm hw _)).trans ?_;have h3:StEq lt (v1++u2) (u2++v1):=(StEq.swap hw h1).symm;have:=((StEq.refl (lt:=lt) u1).append h3).append (StEq.refl v2);simpa [ql] using this
end
end Go.Eva
namespace Go.Eva
theorem AoV:Swo Cross.less:=by
 refine ⟨fun {x y} h=> ?_,fun {x y z} h k=> ?_⟩
 ·rw [Ai8] at h;rw [←u9,Ai8];omega
 ·rw [←u9,Ai8] at*;omega
theorem Aal:Swo Cross.less:=AoV
def Entity.cmp (a b:Entity):Int:=cmpI a.id b.id
def Entity.less (a b:Entity):Bool:=decide (a.cmp b<0)
def bs (P:Nat→Bool):Nat→Nat→Nat→Nat
 |0,i,_=>i
 |d+1,i,j=>if i<j then (match P ((i+j)/2) with|true=>bs P d ((i+j)/2+1) j|false=>bs P d i ((i+j)/2)) else i
theorem bs_ok {P:Nat→Bool}: ∀ {d i j:Nat},i≤j→j≤i+d→(∀h h',i≤h→h≤h'→h'<j→P h'=true→P h=true)→
  i≤bs P d i j∧bs P d i j≤j∧(∀h,i≤h→h<bs P d i j→P h=true)∧(∀h,bs P d i j≤h→h<j→P h=false)
 |0,i,j,h1,h2,_=>by
  simp only [bs];exact ⟨qn _,h1,fun h a b=>by omega,fun h a b=>by omega⟩
 |d+1,i,j,h1,h2,hm=>by
  simp only [bs];by_cases hij:i<j
  ·rw [if_pos hij];have hh:i≤(i+j)/2∧(i+j)/2<j:=by omega
   cases hp:P ((i+j)/2) with
   |true=>
    simp only;obtain ⟨k1,k2,k3,k4⟩:=bs_ok (P:=P) (d:=d) (i:=(i+j)/2+1) (j:=j) (by omega) (by omega) (fun h h' a b c e=>hm h h' (by omega) b c e);refine ⟨by omega,k2,fun h a b=> ?_,k4⟩;by_cases hc:h≤(i+j)/2
    ·exact hm h _ a hc hh.2 hp
    ·exact k3 h (by omega) b
   |false=>
    simp only;obtain ⟨k1,k2,k3,k4⟩:=bs_ok (P:=P) (d:=d) (i:=i) (j:=(i+j)/2) (by omega) (by omega) (fun h h' a b c e=>hm h h' a b (by omega) e);refine ⟨k1,by omega,k3,fun h a b=> ?_⟩;by_cases hc:h<(i+j)/2
    ·exact k4 h a hc
    ·cases hq:P h with
     |false=>rfl
     |true=>
      have:=hm _ h hh.1 (by omega) b hq;rw [hp] at this;contradiction
  ·rw [if_neg hij];exact ⟨qn _,h1,fun h a b=>by omega,fun h a b=>by omega⟩
section
variable {α:Type} [Inhabited α]
def sw (A:List α) (i j:Nat):List α:=(A.set i (gt A j)).set j (gt A i)
theorem AcB (A:List α) (i j:Nat):(sw A i j).length=A.length:=by simp [sw]
theorem An4 {A:List α} {i k:Nat} {x:α} (h:i<A.length):gt (A.set i x) k=if k=i then x else gt A k:=by
 unfold gt;rw [ue];by_cases hk:i=k
 ·subst hk;simp [h]
 ·simp [hk,show¬k=i by omega]
theorem gt_sw {A:List α} {i j k:Nat} (hi:i<A.length) (hj:j<A.length):gt (sw A i j) k=if k=j then gt A i else if k=i then gt A j else gt A k:=by
 unfold sw;rw [An4 (by simpa using hj),An4 hi]
theorem Akx {A B:List α} (h:A.length=B.length) (k: ∀i,i<A.length→gt A i=gt B i):A=B:=by
 apply List.ext_getElem h;intro i h1 h2;have:=k i h1
 rwa [gt_eq h1,gt_eq h2] at this
theorem Ajp {A B:List α} {i:Nat}:gt (A++B) i=if i<A.length then gt A i else gt B (i-A.length):=by
 unfold gt;rw [List.getElem?_append];split<;>rfl
def swR:Nat→List α→Nat→Nat→List α
 |0,A,_,_=>A
 |n+1,A,a,b=>swR n (sw A a b) (a+1) (b+1)
theorem AbV: ∀(n:Nat) (A:List α) (a b:Nat),(swR n A a b).length=A.length
 |0,_,_,_=>rfl
 |n+1,A,a,b=>by rw [swR,AbV,AcB]
theorem Ap0: ∀ {n:Nat} {A:List α} {a b k:Nat},a+n≤b→b+n≤A.length→
  gt (swR n A a b) k=if a≤k∧k<a+n then gt A (b+(k-a)) else if b≤k∧k<b+n then gt A (a+(k-b)) else gt A k
 |0,A,a,b,k,_,_=>by
  simp only [swR];rw [if_neg (by omega),if_neg (by omega)]
 |n+1,A,a,b,k,h1,h2=>by
  rw [swR,Ap0 (by omega) (by rw [AcB];omega)];have g:=fun k=>gt_sw (A:=A) (i:=a) (j:=b) (k:=k) (by omega) (by omega);rw [g,g,g]
  repeat' split
  all_goals first|omega|rfl|(congr 1<;>omega)
theorem Aoz {P X M Y Q:List α} (h:X.length=Y.length):swR X.length (P++X++M++Y++Q) P.length (P.length+X.length+M.length)=P++Y++M++X++Q:=by
 refine Akx (by rw [AbV];simp;omega) fun k hk=> ?_;rw [Ap0 (by omega) (by simp;omega)];simp only [Ajp,jx]
 repeat' split
 all_goals first|omega|rfl|(congr 1<;>omega)
def up:Nat→List α→Nat→List α
 |0,A,_=>A
 |n+1,A,k=>up n (sw A k (k+1)) (k+1)
theorem up_eq {Q:List α} {x:α}: ∀ {V:List α} {P:List α},up V.length (P++x::V++Q) P.length=P++V++x::Q
 | [],P=>by simp [up]
 |y::V,P=>by
  rw [j5,up];have e:sw (P++x::y::V++Q) P.length (P.length+1)=(P++ [y])++x::V++Q:=by
   refine Akx (by rw [AcB];simp) fun k hk=> ?_;rw [gt_sw (by simp) (by simp)];have g0:gt (P++x::y::V++Q) P.length=x:=by unfold gt;simp
   have g1:gt (P++x::y::V++Q) (P.length+1)=y:=by unfold gt;simp
   rw [g0,g1];unfold gt;rcases Nat.lt_trichotomy k P.length with h|h|h
   ·rw [if_neg (by omega),if_neg (by omega)];rw [ql,ql,ql,qq h,qq h]
   ·subst h;simp
   ·by_cases h1:k=P.length+1
    ·subst h1;simp
    ·rw [if_neg h1,if_neg (by omega)];obtain ⟨j,rfl⟩: ∃j,k=P.length+(j+2):=⟨k-P.length-2,by omega⟩
     simp [List.getElem?_append_right]
  rw [e];have:=up_eq (Q:=Q) (x:=x) (V:=V) (P:=P++ [y]);simp only [jx,j5,xk,Nat.zero_add] at this;exact this.trans (by simp)
def down:Nat→List α→Nat→List α
 |0,A,_=>A
 |n+1,A,k=>down n (sw A k (k-1)) (k-1)
end
end Go.Eva
namespace Go.Eva.S8
theorem AcJ (x:Int):Fn cx 276 [ti x] (.bool zq):=by
 refine za (rT (a:=zl qm [vb (x !=x)] []) ?_);simp
theorem AaA (x y:Int):Fn cx 231 [ti x,ti y] (ti (cmpI x y)):=by
 refine za (gg [.a _ _,.a _ _,.ff,.ff] ⟨o_a (AcJ x),o_a (AcJ y),tI⟩ ?_);refine brp (p:=x<y) (by kernel_rfl) (fun h1=> ?_) (fun h1=> ?_)
 ·refine rT (a:=zl qm [vi (-1)] []) ?_
  (simp_all [cmpI];try omega)
 ·refine brp (p:=x>y) (by kernel_rfl) (fun h2=> ?_) (fun h2=> ?_)
  ·refine rT (a:=zl qm [vi 1] []) ?_
   (simp_all [cmpI];try omega)
  ·refine rT (a:=zl qm [vi 0] []) ?_
   (simp_all [cmpI];try omega)
theorem Afz (x y:Int):Fn cx 230 [.sl 1 [ti x,ti y]] (ti (orI [x,y])):=by
 by_cases hx:x=0
 ·subst hx;by_cases hy:y=0
  ·subst hy;have h2:Is cx (.loop 230 [0,1,0,1,1] 0 [vi 0,vi 0,.t (.sl 1 [ti 0,ti 0]),vi 2,vi 2] []) ⟨.exit 0,[vi 0,vi 0,.t (.sl 1 [ti 0,ti 0]),vi 2,vi 2],[]⟩:=by
    exact za (gg [.b (decide (2<2)) zq] ⟨bK,tI⟩ ge)
   have h1:Is cx (.loop 230 [0,1,0,1,1] 0 [vi 0,vi 0,.t (.sl 1 [ti 0,ti 0]),vi 2,vi 1] []) ⟨.exit 0,[vi 0,vi 0,.t (.sl 1 [ti 0,ti 0]),vi 2,vi 2],[]⟩:=by
    exact za (gg [.b (decide (1<2)) zg,.w (0≤(1:Int)),.l 1,.g [ti 0,ti 0] 1 (ti 0),.b (0 !=0) zq,.i zy 2 2,.a _ _] ⟨bK,oW,oG,bK,oK,o_a h2,tI⟩ ge)
   have h0:Is cx (.loop 230 [0,1,0,1,1] 0 [vi 0,vi 0,.t (.sl 1 [ti 0,ti 0]),vi 2,vi 0] []) ⟨.exit 0,[vi 0,vi 0,.t (.sl 1 [ti 0,ti 0]),vi 2,vi 2],[]⟩:=by
    exact za (gg [.b (decide (0<2)) zg,.w (0≤(0:Int)),.l 0,.g [ti 0,ti 0] 0 (ti 0),.b (0 !=0) zq,.i zy 1 1,.a _ _] ⟨bK,oW,oG,bK,oK,o_a h1,tI⟩ ge)
   exact za (gg [.l 2,.a _ _] ⟨o_a h0,tI⟩ ge)
  ·have h1:Is cx (.loop 230 [0,1,0,1,1] 0 [vi 0,vi 0,.t (.sl 1 [ti 0,ti y]),vi 2,vi 1] []) ⟨.ret,[vi y,vi 0,.t (.sl 1 [ti 0,ti y]),vi 2,vi 1],[]⟩:=by
    exact za (gg [.b (decide (1<2)) zg,.w (0≤(1:Int)),.l 1,.g [ti 0,ti y] 1 (ti y),.b (y !=0) zg] ⟨bK,oW,oG,tC,tI⟩ ge)
   have h0:Is cx (.loop 230 [0,1,0,1,1] 0 [vi 0,vi 0,.t (.sl 1 [ti 0,ti y]),vi 2,vi 0] []) ⟨.ret,[vi y,vi 0,.t (.sl 1 [ti 0,ti y]),vi 2,vi 1],[]⟩:=by
    exact za (gg [.b (decide (0<2)) zg,.w (0≤(0:Int)),.l 0,.g [ti 0,ti y] 0 (ti 0),.b (0 !=0) zq,.i zy 1 1,.a _ _] ⟨bK,oW,oG,bK,oK,o_a h1,tI⟩ ge)
   refine za (gg [.l 2,.a _ _] ⟨o_a h0,tI⟩ (rT (a:=zl qm [vi y] []) ?_));simp [orI,hy]
 ·have h0:Is cx (.loop 230 [0,1,0,1,1] 0 [vi 0,vi 0,.t (.sl 1 [ti x,ti y]),vi 2,vi 0] []) ⟨.ret,[vi x,vi 0,.t (.sl 1 [ti x,ti y]),vi 2,vi 0],[]⟩:=by
   exact za (gg [.b (decide (0<2)) zg,.w (0≤(0:Int)),.l 0,.g [ti x,ti y] 0 (ti x),.b (x !=0) zg] ⟨bK,oW,oG,tC,tI⟩ ge)
  refine za (gg [.l 2,.a _ _] ⟨o_a h0,tI⟩ (rT (a:=zl qm [vi x] []) ?_));simp [orI,hx]
theorem Aaz (a b:Cross):Fn cx 186 [a.enc,b.enc] (ti (a.cmp b)):=by
 refine za (gg [.a _ _,.a _ _,.a _ _] ⟨o_a (AaA a.to b.to),o_a (AaA a.kind b.kind),o_a (Afz (cmpI a.to b.to) (cmpI a.kind b.kind)),tI⟩ ?_);refine brn (x:=orI [cmpI a.to b.to,cmpI a.kind b.kind]) (y:=0) (by kernel_rfl) (fun h1=> ?_) (fun h1=> ?_)
 ·refine rT (a:=zl qm [vi (orI [cmpI a.to b.to,cmpI a.kind b.kind])] []) ?_;simp_all [Cross.cmp]
 ·refine bre (x:=a.kind) (y:=1) (by kernel_rfl) (fun h2=> ?_) (fun h2=> ?_)
  ·refine gg [.a _ _] ⟨o_a (AaA a.ent.id b.ent.id),tI⟩ (rT (a:=zl qm [vi (cmpI a.ent.id b.ent.id)] []) ?_);simp_all [Cross.cmp]
  ·refine gg [.a _ _,.a _ _,.a _ _] ⟨o_a (AaA a.x b.x),o_a (AaA a.y b.y),o_a (Afz (cmpI a.x b.x) (cmpI a.y b.y)),tI⟩ (rT (a:=zl qm [vi (orI [cmpI a.x b.x,cmpI a.y b.y])] []) ?_);simp_all [Cross.cmp]
theorem Ajf (c:Cross) (r:Int):Fn cx 233 [c.enc,.ip 1 (ti r) 0] (.bool (c.to !=r)):=by
 exact za ge
theorem Amm (l:List Cross) (r:Int) (hl:small l):Is cx (.call 187 [.t (.sl 15 (l.map zd)),.t (ti r)] []) ⟨.ret,[.all 0 zx],[.arr 15 ((toL l r).map zd) zx zq]⟩:=by
 have h:=AbQ l 233 [.ip 1 (ti r) 0] (fun c=>c.to !=r) (by kernel_rfl) hl (fun c _=>Ajf c r);have e:(l.filter fun c=> !(c.to !=r))=toL l r:=by
  unfold toL;congr 1;funext c;rw [bned];simp
 rw [e] at h;exact za (gg [.a _ _,.s (pe 233 [T.ip 1 (ti r) 0]),.a _ _] ⟨o_a (Aas l (by assumption)),o_a h,tI⟩ ge)
end Go.Eva.S8
namespace Go.Eva
def colsL (base col:Int):Nat→List Int
 |0=> []
 |d+1=>(base+col)::colsL base (col+1) d
def rowsL (cols lo:Int) (w:Nat) (row:Int):Nat→List Int
 |0=> []
 |d+1=>colsL (row*cols) lo w++rowsL cols lo w (row+1) d
def loI (q:Int):Int:=maxI (q-1) 0
def hiI (q n:Int):Int:=minI (q+1) (n-1)
def nearP (cols rows r:Int):List Int:=
 rowsL cols (loI (r.tmod cols)) (hiI (r.tmod cols) cols+1-loI (r.tmod cols)).toNat (loI (r.tdiv cols)) (hiI (r.tdiv cols) rows+1-loI (r.tdiv cols)).toNat
def isNear (cols r n:Int):Bool:=decide (-1≤n.tmod cols-r.tmod cols∧n.tmod cols-r.tmod cols≤1∧ -1≤n.tdiv cols-r.tdiv cols∧n.tdiv cols-r.tdiv cols≤1)
def nearR (cols r:Int) (n:Int):Nat→List Int
 |0=> []
 |d+1=>(if isNear cols r n=true then [n] else [])++nearR cols r (n+1) d
def Config.near (c:Config) (r:Int):List Int:=if c.is r=true then nearP c.cols c.rows r else []
theorem Aqg {cols rows r:Int} (hc:1≤cols∧cols≤4) (hr:1≤rows∧rows≤4) (h:0≤r∧r<cols*rows):nearR cols r 0 (cols*rows).toNat=nearP cols rows r:=by
 have key: ∀a∈ [1,2,3,4],∀b∈ [1,2,3,4],∀k∈List.range (a*b),nearR (a:Nat) (k:Nat) 0 ((a:Int)*(b:Nat)).toNat=nearP (a:Nat) (b:Nat) (k:Nat):=by decide+kernel
 obtain ⟨a,rfl⟩: ∃a:Nat,cols=a:=⟨cols.toNat,by omega⟩
 obtain ⟨b,rfl⟩: ∃b:Nat,rows=b:=⟨rows.toNat,by omega⟩
 obtain ⟨k,rfl⟩: ∃k:Nat,r=k:=⟨r.toNat,by omega⟩
 refine key a ?_ b ?_ k ?_
 ·have:a=1∨a=2∨a=3∨a=4:=by omega
  simpa using this
 ·have:b=1∨b=2∨b=3∨b=4:=by omega
  simpa using this
 ·rw [List.mem_range];have:=h.2
  exact_mod_cast this
theorem Apc {cols rows r:Int} (hc:1≤cols∧cols≤4) (hr:1≤rows∧rows≤4) (h:0≤r∧r<cols*rows):(nearP cols rows r).length≤9:=by
 have key: ∀a∈ [1,2,3,4],∀b∈ [1,2,3,4],∀k∈List.range (a*b),(nearP (a:Nat) (b:Nat) (k:Nat)).length≤9:=by decide+kernel
 obtain ⟨a,rfl⟩: ∃a:Nat,cols=a:=⟨cols.toNat,by omega⟩
 obtain ⟨b,rfl⟩: ∃b:Nat,rows=b:=⟨rows.toNat,by omega⟩
 obtain ⟨k,rfl⟩: ∃k:Nat,r=k:=⟨r.toNat,by omega⟩
 refine key a ?_ b ?_ k ?_
 ·have:a=1∨a=2∨a=3∨a=4:=by omega
  simpa using this
 ·have:b=1∨b=2∨b=3∨b=4:=by omega
  simpa using this
 ·rw [List.mem_range];have:=h.2
  exact_mod_cast this
theorem Config.is_iff {c:Config} {r:Int} (h:c.right=true):c.is r=true↔0≤r∧r<c.cols*c.rows:=by
 simp only [du,Aah,xw,h,if_true];omega
theorem Config.is_right {c:Config} {r:Int} (h:c.is r=true):c.right=true:=by
 cases hr:c.right with
 |true=>rfl
 |false=>
  exfalso;simp only [du,Aah,xw,hr,xq,if_false] at h;omega
theorem AaI {c:Config} {r:Int}:(c.near r).length≤9:=by
 unfold Config.near;split
 ·rename_i h;have hr:=Config.is_right h;obtain ⟨hc,hrr,_⟩:=ju.1 hr;exact Apc hc hrr ((Config.is_iff hr).1 h)
 ·simp
def Entity.zero:Entity:=⟨0,0,0,0,0,0,0,0,0⟩
def Cross.right (c:Config) (m:Cross):Bool:=has (c.near m.frm) m.to&&within m.frame 0 9999&&
 (if m.kind=1 then m.ent.right c&&decide (c.of m.ent.x m.ent.y=m.to)&&decide (m.x=0)&&decide (m.y=0)&& !decide (m.to=m.frm)
  else if m.kind=2 then c.inside m.x m.y&&decide (m.ent=Entity.zero) else false)
theorem Abb {e:Entity}:teq e.enc (.agg [ti 0,ti 0,ti 0,ti 0,ti 0,ti 0,ti 0,ti 0,ti 0])=decide (e=Entity.zero):=Ao0 (b:=Entity.zero)
theorem teq_zero' {e:Entity}:teq (.agg [ti e.id,ti e.kind,ti e.x,ti e.y,ti e.vx,ti e.vy,ti e.health,ti e.age,ti e.owner]) (.agg [ti 0,ti 0,ti 0,ti 0,ti 0,ti 0,ti 0,ti 0,ti 0])=decide (e=Entity.zero):=Ao0 (b:=Entity.zero)
end Go.Eva
namespace Go.Eva.S8
theorem AeX (c:Config) (r q H row:Int) (hc:1≤c.cols∧c.cols≤4) (hq:r.tmod c.cols=q) (hH:minI (q+1) (c.cols-1)=H) (hq1:0≤q∧q≤3) (hH1:H≤3) (hrow:0≤row∧row≤3) (hm:0≤row*c.cols∧row*c.cols≤16):
  ∀(d:Nat) (col:Int) (A:List Int),0≤col→col+d=H+1→A.length+d≤1000→
  Is cx (.loop 80 [0,1,0,0,1,0,0,1,0,1,1,1] 0 [vi r,.ptr 0 0 0,.all 1 zx,vi row,vi col] [.one 5 (.t c.enc) zq,.arr 1 (A.map ti) zx zq])
   ⟨.exit 2,[vi r,.ptr 0 0 0,.all 1 zx,vi row,vi (H+1)],[.one 5 (.t c.enc) zq,.arr 1 ((A++colsL (row*c.cols) col d).map ti) zx zq]⟩:=by
 intro d;induction d with
 |zero=>
  intro col A h0 h1 h2;refine za (gg [.w (c.cols≠(0:Int)),.t (ti (yw r c.cols)) (ti q),.i zy (q+1) (q+1),.i zy (c.cols-1) (c.cols-1),.t (ti (minI (q+1) (c.cols-1))) (ti H),.b (decide (col≤H)) zq] ⟨oW,o_t (by rw [hq]),oI,oI,o_t (by rw [hH]),fP,tI⟩ (rT (a:=zl (jr 2) [vi r,yn 0 0 0,xz 1 zx,vi row,vi col] [vh 5 (V.t (wi c)) zq,jy 1 (zw ti A) zx zq]) ?_))
  ((have e:col=H+1:=by omega);subst e;simp [colsL])
 |succ d ih=>
  intro col A h0 h1 h2;have ih1:=ih (col+1) (A++ [row*c.cols+col]) (by omega) (by omega) (by simp;omega);clear ih;refine za (gg [.w (c.cols≠(0:Int)),.t (ti (yw r c.cols)) (ti q),.i zy (q+1) (q+1),.i zy (c.cols-1) (c.cols-1),.t (ti (minI (q+1) (c.cols-1))) (ti H),.b (decide (col≤H)) zg,.i zy (row*c.cols) (row*c.cols),.i zy (row*c.cols+col) (row*c.cols+col),.w ((0:Nat)<(8:Nat)),.t (T.sl 0 [ti (row*c.cols+col)]) (T.sl 0 (zw (xc zy) [row*c.cols+col])),.t (T.sl 0 (zw ti A++zw (xc zy) [row*c.cols+col])) (T.sl 0 (zw ti (A++ [row*c.cols+col]))),.w (room (zj (zw ti (A++ [row*c.cols+col]))) (8:Nat)),.i zy (col+1) (col+1),.a _ _] ⟨oR,o_t (by rw [hq]),oJ,oJ,o_t (by rw [hH]),tP,oJ,oJ,oW,o_l (Aa1 rfl AaC),o_l (Aa3 rfl rfl),oR,oJ,o_a ih1,tI⟩ (rT (a:=zl (jr 2) [vi r,yn 0 0 0,xz 1 zx,vi row,vi (H+1)] [vh 5 (V.t (wi c)) zq,jy 1 (zw ti (A++ [row*c.cols+col]++colsL (row*c.cols) (col+1) d)) zx zq]) ?_));simp [colsL]
theorem Ajb (b:Int): ∀(d:Nat) (c:Int),(colsL b c d).length=d
 |0,_=>rfl
 |d+1,c=>by simp [colsL,Ajb b d]
theorem AeY (c:Config) (r q H p G:Int) (w:Nat) (hc:1≤c.cols∧c.cols≤4) (hr0:1≤c.rows∧c.rows≤4) (hq:r.tmod c.cols=q) (hp:r.tdiv c.cols=p) (hH:minI (q+1) (c.cols-1)=H) (hG:minI (p+1) (c.rows-1)=G) (hq1:0≤q∧q≤3) (hp1:0≤p∧p≤3) (hH1:H≤3) (hG1:G≤3) (hw:maxI (q-1) 0+w=H+1) (hl:0≤maxI (q-1) 0):
  ∀(d:Nat) (row:Int) (A:List Int),0≤row→row+d=G+1→A.length+d*100≤900→
  Is cx (.loop 80 [0,1,0,1,1,1] 0 [vi r,.ptr 0 0 0,.all 1 zx,vi row] [.one 5 (.t c.enc) zq,.arr 1 (A.map ti) zx zq])
   ⟨.exit 0,[vi r,.ptr 0 0 0,.all 1 zx,vi (G+1)],[.one 5 (.t c.enc) zq,.arr 1 ((A++rowsL c.cols (maxI (q-1) 0) w row d).map ti) zx zq]⟩:=by
 intro d;induction d with
 |zero=>
  intro row A h0 h1 h2;refine za (gg [.w (c.cols≠(0:Int)),.i zy (wt r c.cols) p,.i zy (p+1) (p+1),.i zy (c.rows-1) (c.rows-1),.t (ti (minI (p+1) (c.rows-1))) (ti G),.b (decide (row≤G)) zq] ⟨oW,oI,oI,oI,o_t (by rw [hG]),fP,tI⟩ (rT (a:=zl (jr 0) [vi r,yn 0 0 0,xz 1 zx,vi row] [vh 5 (V.t (wi c)) zq,jy 1 (zw ti A) zx zq]) ?_))
  ((have e:row=G+1:=by omega);subst e;simp [rowsL])
 |succ d ih=>
  intro row A h0 h1 h2;have hm:=mul4 (a:=row) (b:=c.cols) (by omega) (by omega);have hi:=AeX c r q H row hc hq hH hq1 hH1 (by omega) hm w (maxI (q-1) 0) A hl hw (by omega);have ih1:=ih (row+1) (A++colsL (row*c.cols) (maxI (q-1) 0) w) (by omega) (by omega) (by simp [Ajb];omega);clear ih;refine za (gg [.w (c.cols≠(0:Int)),.i zy (wt r c.cols) p,.i zy (p+1) (p+1),.i zy (c.rows-1) (c.rows-1),.t (ti (minI (p+1) (c.rows-1))) (ti G),.b (decide (row≤G)) zg,.w (c.cols≠(0:Int)),.t (ti (yw r c.cols)) (ti q),.i zy (q-1) (q-1),.s (ti (maxI (q-1) 0)),.a _ _,.i zy (row+1) (row+1),.a _ _] ⟨oW,oI,oI,oI,o_t (by rw [hG]),tP,oW,o_t (by rw [hq]),oI,o_a hi,oI,o_a ih1,tI⟩ (rT (a:=zl (jr 0) [vi r,yn 0 0 0,xz 1 zx,vi (G+1)] [vh 5 (V.t (wi c)) zq,jy 1 (zw ti (A++colsL (row*c.cols) (maxI (q-1) 0) w++rowsL c.cols (maxI (q-1) 0) w (row+1) d)) zx zq]) ?_));simp [rowsL]
theorem AaS (c:Config) (r:Int):Fn cx 80 [c.enc,ti r] (.sl 1 ((c.near r).map ti)):=by
 cases h:c.is r with
 |false=>
  have hN:c.near r= []:=by simp [Config.near,h]
  rw [hN];exact za (gg [.a _ _,.b (!Config.is c r) zg] ⟨o_a (Agt c r),AbW (by assumption),tI⟩ ge)
 |true=>
  have hr:=Config.is_right h;have hi:=(Config.is_iff hr).1 h;obtain ⟨hc,hrr,_⟩:=ju.1 hr;have hml:=u5 hr;have hN:c.near r=nearP c.cols c.rows r:=by simp [Config.near,h]
  rw [hN];have k1:=Ac5 (v:=r) (k:=c.cols) (m:=c.rows) (by omega) (by omega) (by omega);have k2:=AbX (v:=r) (k:=c.cols) (by omega) (by omega);have hH1:minI (r.tmod c.cols+1) (c.cols-1)≤3∧maxI (r.tmod c.cols-1) 0≤minI (r.tmod c.cols+1) (c.cols-1)∧0≤maxI (r.tmod c.cols-1) 0:=by unfold minI maxI;split<;>split<;>omega
  have hG1:minI (r.tdiv c.cols+1) (c.rows-1)≤3∧maxI (r.tdiv c.cols-1) 0≤minI (r.tdiv c.cols+1) (c.rows-1)∧0≤maxI (r.tdiv c.cols-1) 0:=by unfold minI maxI;split<;>split<;>omega
  have hO:=AeY c r _ _ _ _ (minI (r.tmod c.cols+1) (c.cols-1)+1-maxI (r.tmod c.cols-1) 0).toNat hc hrr rfl rfl rfl rfl (by omega) (by omega) hH1.1 hG1.1 (by omega) hH1.2.2
   (minI (r.tdiv c.cols+1) (c.rows-1)+1-maxI (r.tdiv c.cols-1) 0).toNat (maxI (r.tdiv c.cols-1) 0) [] (by omega) (by omega) (by simp;omega)
  rw [jj] at hO;exact za (gg [.a _ _,.b (!Config.is c r) zq,.w (c.cols≠(0:Int)),.i zy (wt r c.cols) (wt r c.cols),.i zy (wt r c.cols-1) (wt r c.cols-1),.s (ti (maxI (wt r c.cols-1) 0)),.a _ _] ⟨o_a (Agt c r),Abe (by assumption),oW,oI,oI,o_a hO,tI⟩ ge)
end Go.Eva.S8
namespace Go.Eva.S8
theorem Aiq (c:Config) (m:Cross):Fn cx 73 [c.enc,m.enc] (.bool (m.right c)):=by
 have hn:= @AaI c m.frm;have hs:small (c.near m.frm):=by unfold small;omega
 refine za (gg [.a _ _,.a _ _] ⟨o_a (AaS c m.frm),o_a (AcS (Config.near c m.frm) m.to (by assumption)),tI⟩ ?_);refine brnot (b:=has (Config.near c m.frm) m.to) (by kernel_rfl) (fun h1=> ?_) (fun h1=> ?_)
 ·refine gg [.tt,.tt,.tt,.tt,.tt,.tt,.tt,.tt] tI (rT (a:=zl qm [vb zq] []) ?_)
  (simp_all [Cross.right,within,beqd,bned,Abb,teq_zero'];try omega)
 ·refine gg [.ff,.ff,.ff] tI ?_;refine brp (p:=m.frame<0) (by kernel_rfl) (fun h2=> ?_) (fun h2=> ?_)
  ·refine gg [.tt,.tt,.tt,.tt] tI (rT (a:=zl qm [vb zq] []) ?_)
   (simp_all [Cross.right,within,beqd,bned,Abb,teq_zero'];try omega)
  ·refine gg [.ff,.ff,.ff] tI ?_;refine brp (p:=m.frame≥10000) (by kernel_rfl) (fun h3=> ?_) (fun h3=> ?_)
   ·refine rT (a:=zl qm [vb zq] []) ?_
    (simp_all [Cross.right,within,beqd,bned,Abb,teq_zero'];try omega)
   ·refine bre (x:=m.kind) (y:=1) (by kernel_rfl) (fun h4=> ?_) (fun h4=> ?_)
    ·refine gg [.a _ _] ⟨o_a (AbP c m.ent),tI⟩ ?_;refine br (b:=Entity.right c m.ent) (by kernel_rfl) (fun h5=> ?_) (fun h5=> ?_)
     ·refine gg [.tt,.tt,.tt,.tt,.tt,.tt,.tt,.tt,.tt,.a _ _,.tt,.tt] ⟨o_a (Acb c m.ent.x m.ent.y),tI⟩ ?_;refine bre (x:=uw c m.ent.x m.ent.y) (y:=m.to) (by kernel_rfl) (fun h6=> ?_) (fun h6=> ?_)
      ·refine gg [.tt,.tt,.tt] tI ?_;refine bre (x:=m.x) (y:=0) (by kernel_rfl) (fun h7=> ?_) (fun h7=> ?_)
       ·refine gg [.tt,.tt,.tt] tI ?_;refine bre (x:=m.y) (y:=0) (by kernel_rfl) (fun h8=> ?_) (fun h8=> ?_)
        ·refine gg [.tt,.tt,.tt,.tt,.tt] tI (rT (a:=zl qm [vb (m.to !=m.frm)] []) ?_)
         (simp_all [Cross.right,within,beqd,bned,Abb,teq_zero'];try omega)
        ·refine gg [.ff,.ff,.ff,.ff,.ff] tI (rT (a:=zl qm [vb zq] []) ?_)
         (simp_all [Cross.right,within,beqd,bned,Abb,teq_zero'];try omega)
       ·refine gg [.ff,.ff,.ff,.ff,.ff,.ff,.ff,.ff,.ff] tI (rT (a:=zl qm [vb zq] []) ?_)
        (simp_all [Cross.right,within,beqd,bned,Abb,teq_zero'];try omega)
      ·refine gg [.ff,.ff,.ff,.ff,.ff,.ff,.ff,.ff,.ff,.ff,.ff,.ff,.ff] tI (rT (a:=zl qm [vb zq] []) ?_)
       (simp_all [Cross.right,within,beqd,bned,Abb,teq_zero'];try omega)
     ·refine gg [.ff,.ff,.ff,.ff,.ff,.ff,.ff,.ff,.ff,.ff,.ff,.ff,.ff,.ff,.ff,.ff] tI (gg [.ff,.ff,.ff,.ff,.ff,.ff,.ff,.ff,.ff] tI (rT (a:=zl qm [vb zq] []) ?_))
      (simp_all [Cross.right,within,beqd,bned,Abb,teq_zero'];try omega)
    ·refine bre (x:=m.kind) (y:=2) (by kernel_rfl) (fun h5=> ?_) (fun h5=> ?_)
     ·refine gg [.a _ _] ⟨o_a (Aco c m.x m.y),tI⟩ ?_;refine br (b:=gv c m.x m.y) (by kernel_rfl) (fun h6=> ?_) (fun h6=> ?_)
      ·refine gg [.tt,.tt,.tt,.w (conform cx (40:Nat) (79:Nat) (qe [ti m.ent.id,ti m.ent.kind,ti m.ent.x,ti m.ent.y,ti m.ent.vx,ti m.ent.vy,ti m.ent.health,ti m.ent.age,ti m.ent.owner])=zg∧conform cx (40:Nat) (79:Nat) (qe [ti (0:Int),ti (0:Int),ti (0:Int),ti (0:Int),ti (0:Int),ti (0:Int),ti (0:Int),ti (0:Int),ti (0:Int)])=zg),.tt] ⟨o_w ⟨(by kernel_rfl),(by kernel_rfl)⟩,tI⟩ (rT (a:=zl qm [vb (teq (qe [ti m.ent.id,ti m.ent.kind,ti m.ent.x,ti m.ent.y,ti m.ent.vx,ti m.ent.vy,ti m.ent.health,ti m.ent.age,ti m.ent.owner]) (qe [ti 0,ti 0,ti 0,ti 0,ti 0,ti 0,ti 0,ti 0,ti 0]))] []) ?_)
       (simp_all [Cross.right,within,beqd,bned,Abb,teq_zero'];try omega)
      ·refine gg [.ff,.ff,.ff,.ff] tI (rT (a:=zl qm [vb zq] []) ?_)
       (simp_all [Cross.right,within,beqd,bned,Abb,teq_zero'];try omega)
     ·refine rT (a:=zl qm [vb zq] []) ?_
      (simp_all [Cross.right,within,beqd,bned,Abb,teq_zero'];try omega)
end Go.Eva.S8
namespace Go.Eva
abbrev w64u (n:Int):Int:=IntKind.u64.wrap n
def x33 (x:Int):Int:=w64u ((qv 64 x^^^qv 64 (x.fdiv 8589934592)).toNat:Nat)
def mix (x:Int):Int:=x33 (w64u (x33 (w64u (x33 x*18397679294719823053))*14181476777654086739))
def atStep (h v:Int):Int:=mix (w64u (w64u (h+w64u v)+11400714819323198485))
def chanceAt (seed:Int) (l:List Int):Int:=l.foldl atStep (mix seed)
def below (n seed:Int) (l:List Int):Int:=if n<1 then 0 else (chanceAt seed l).tmod n
theorem AqF {x:Int}:0≤x33 x∧x33 x≤18446744073709551615:=by
 unfold x33 w64u;simp [z8,IntKind.bits,IntKind.signed];omega
theorem Ap4 {x:Int}:0≤mix x∧mix x≤18446744073709551615:=AqF
theorem at_le {seed:Int} {l:List Int}:0≤chanceAt seed l∧chanceAt seed l≤18446744073709551615:=by
 unfold chanceAt;rcases List.eq_nil_or_concat l with rfl|⟨l',v,rfl⟩
 ·exact Ap4
 ·rw [List.concat_eq_append,List.foldl_append];exact Ap4
theorem Aif {n seed:Int} {l:List Int} (h:1≤n):0≤below n seed l∧below n seed l<n:=by
 unfold below;rw [if_neg (by omega)];exact AbX (by omega) at_le.1
def held (v:Int):Int:=clamp v (-2147483647) 2147483647
def subH (a b:Int):Int:=held (held a-held b)
def sumStep (s v:Int):Int:=held (s+held v)
def sumH (l:List Int):Int:=l.foldl sumStep 0
def sizeI (v:Int):Int:=maxI v (0-v)
def farI (ax ay bx y:Int):Int:=maxI (sizeI (subH ax bx)) (sizeI (subH ay y))
theorem Afg {v:Int}: -2147483647≤held v∧held v≤2147483647:=Ads (by decide)
theorem Ai4 {v:Int} (h: -2147483647≤v∧v≤2147483647):held v=v:=by unfold held clamp;rw [if_neg (by omega),if_neg (by omega)]
theorem AmL {x v:Int} (hx: -1000000000≤x∧x≤1000000000) (hv: -1000000000≤v∧v≤1000000000):sumH [x,v]=x+v:=by
 simp only [sumH,sumStep,wb,List.foldl_nil];rw [Ai4 (v:=x) (by omega),Ai4 (v:=v) (by omega),Ai4 (v:=0+x) (by omega),Ai4 (by omega)];omega
def Input.right (i:Input):Bool:=within i.dx (-2) 2&&within i.dy (-2) 2
def Input.zero:Input:=⟨0,0,false⟩
def steerE (e:Entity) (i:Input):Entity×Bool:=
 if e.kind≠1∨i.right=false then (e,false)
 else if i.fire=true∧e.age=0 then ({e with vx:=i.dx*32,vy:=i.dy*32,age:=6},true)
 else ({e with vx:=i.dx*32,vy:=i.dy*32,age:=maxI e.age 1-1},false)
def paceD (d:Int):Int:=clamp d (-1) 1*160
def shootE (e:Entity) (i:Input) (id:Int):Entity:=⟨id,2,e.x,e.y,if paceD i.dx=0∧paceD i.dy=0 then 160 else paceD i.dx,paceD i.dy,1,0,e.id⟩
def goE (c:Config) (e:Entity):Entity×Bool:=
 if e.right c=false then (Entity.zero,false)
 else if e.kind=2 then
  (if e.age+1>12∨c.inside (sumH [e.x,e.vx]) (sumH [e.y,e.vy])=false then (Entity.zero,false)
   else ({e with x:=clamp (sumH [e.x,e.vx]) 0 (c.width-1),y:=clamp (sumH [e.y,e.vy]) 0 (c.height-1),age:=e.age+1},true))
 else ({e with x:=clamp (sumH [e.x,e.vx]) 0 (c.width-1),y:=clamp (sumH [e.y,e.vy]) 0 (c.height-1)},true)
def nearE (e:Entity) (x y far:Int):Bool:=decide (farI e.x e.y x y≤far)
section
variable (kind far:Int) (other:Entity→Entity→Bool) (turn:Int→Int)
def meetP (t p:Entity):Bool:=decide (p.kind=1)&&(other t p&&nearE p t.x t.y far)
def meet1 (out:List Entity) (gone:List Bool) (i:Nat):List Entity×List Bool:=
 if (gt out i).kind=kind then (match out.findIdx? (meetP far other (gt out i)) with
  |some k=>(out.set k {gt out k with health:=turn (gt out k).health},gone.set i true)
  |none=>(out,gone))
 else (out,gone)
def meetN:Nat→Nat→List Entity→List Bool→List Entity×List Bool
 |0,_,out,gone=>(out,gone)
 |d+1,i,out,gone=>meetN d (i+1) (meet1 kind far other turn out gone i).1 (meet1 kind far other turn out gone i).2
end
def keepL:List Entity→List Bool→List Entity
 |e::l,b::g=>(if b=true then [] else [e])++keepL l g
 |_,_=> []
def meetL (kind far:Int) (other:Entity→Entity→Bool) (turn:Int→Int) (l:List Entity):List Entity:=
 keepL (meetN kind far other turn l.length 0 l (zn l.length false)).1 (meetN kind far other turn l.length 0 l (zn l.length false)).2
def shotsL (l:List Entity):List Entity:=meetL 2 24 (fun s p=>decide (p.id≠s.owner)) (fun h=>subH h 20) l
def gemsL (l:List Entity):List Entity:=meetL 3 32 (fun _ _=>true) (fun h=>minI (sumH [h,25]) 100) l
def hurtE (b:Cross) (e:Entity):Entity:=if b.kind=2∧e.kind=1∧nearE e b.x b.y 128=true then {e with health:=subH e.health 10} else e
def blastsL (l:List Entity) (bs:List Cross):List Entity:=bs.foldl (fun l b=>l.map (hurtE b)) l
def fallenP (e:Entity):Bool:=decide (e.kind=1)&&decide (e.health≤0)
def fallenL (l:List Entity):List Int:=(l.filter fallenP).map xm
def regionRight (c:Config) (r:Int) (s:Region):Bool:=
 c.is r&&within s.frame 0 10000&&sortedL s.ents&&decide (things s.ents≤24)&&s.ents.all fun e=>e.right c&&decide (c.of e.x e.y=r)
def arrive1 (l:List Entity) (m:Cross):List Entity:=if m.kind=1∧(m.ent.kind=1∨things l<24) then put1 l m.ent else l
def arriveL (l:List Entity) (inbox:List Cross):List Entity:=inbox.foldl arrive1 l
def presentL (l:List Entity) (inbox:List Cross):List Int:=((arriveL l inbox).filter fun e=>decide (e.kind=1)).map xm
def askedE (c:Config) (r:Int) (s:Region) (ins:List Input) (inbox:List Cross):Int:=
 if c.is r=false then 13
 else if regionRight c r s=false then 4
 else if (ins.length:Int)≠c.players∨(ins.any fun i=> !i.right)=true then 11
 else if (inbox.any fun m=> !(m.right c&&decide (m.to=r)&&decide (m.frame=s.frame-1)))=true then 1
 else if s.frame=10000 then 16
 else 0
end Go.Eva
namespace Go.Eva
set_option linter.unusedSectionVars false
section
variable {α:Type} [Inhabited α]
theorem Ag9 {P Q:List α} {x:α} {k:Nat} (h:k=P.length):gt (P++x::Q) k=x:=by subst h;unfold gt;simp
theorem ApD {P Q:List α} {x y:α} {i j:Nat} (hi:i=P.length+1) (hj:j=P.length):sw (P++x::y::Q) i j=P++y::x::Q:=by
 subst hi hj;have g0:gt (P++x::y::Q) P.length=x:=Ag9 rfl;have g1:gt (P++x::y::Q) (P.length+1)=y:=by unfold gt;simp
 unfold sw;rw [g0,g1];have e1:(P++x::y::Q).set (P.length+1) x=P++x::x::Q:=by
  rw [List.set_append,if_neg (by omega)];simp
 rw [e1,List.set_append,if_neg (by omega)];simp
theorem ApL {Q:List α} {x:α}: ∀ {n:Nat} {V P:List α} {k:Nat},n=V.length→k=P.length+V.length→down n (P++V++x::Q) k=P++x::V++Q:=by
 intro n;induction n generalizing Q with
 |zero=>
  intro V P k h1 h2;have:V= []:=qi h1.symm;subst this;simp [down]
 |succ n ih=>
  intro V P k h1 h2;obtain ⟨V',y,rfl⟩: ∃V' y,V=V'++ [y]:=⟨V.dropLast,V.getLast (by intro h;subst h;simp at h1),(pm _).symm⟩
  simp only [jx,j5,xk] at h1 h2;rw [down];have e:sw (P++(V'++ [y])++x::Q) k (k-1)=P++V'++x::(y::Q):=by
   have:=ApD (P:=P++V') (Q:=Q) (x:=y) (y:=x) (i:=k) (j:=k-1) (by simp;omega) (by simp;omega);simpa using this
  rw [e,ih (V:=V') (P:=P) (by omega) (by omega)];simp
variable (lt:α→α→Bool)
def insIn (a:Nat):Nat→List α→List α
 |0,A=>A
 |j+1,A=>if a<j+1 then (match lt (gt A (j+1)) (gt A j) with|true=>insIn a j (sw A (j+1) j)|false=>A) else A
def insOut (a:Nat):Nat→Nat→List α→List α
 |0,_,A=>A
 |d+1,i,A=>insOut a d (i+1) (insIn lt a i A)
variable {lt}
theorem AeB (a:Nat): ∀(j:Nat) (A:List α),(insIn lt a j A).length=A.length
 |0,_=>rfl
 |j+1,A=>by
  rw [insIn];split
  ·split
   ·rw [AeB,AcB]
   ·rfl
  ·rfl
theorem AmC (S:List α) (x:α):sortS lt (S++ [x])=insS lt (sortS lt S) x:=by simp [sortS]
theorem Ah8 {x y:α} (h:lt x y=true): ∀(S:List α),insS lt (S++ [y]) x=insS lt S x++ [y]
 | []=>by simp [insS,h]
 |z::S=>by
  simp only [xr,insS];cases lt x z with
  |true=>simp
  |false=>simp [Ah8 h S]
theorem Alm {x:α}: ∀ {S:List α},(∀z∈S,lt x z=false)→insS lt S x=S++ [x]
 | [],_=>rfl
 |z::S,h=>by
  simp only [insS,h z (jh ..),Alm fun w hw=>h w (qu _ hw),xr]
theorem AoR (hw:Swo lt) {P:List α} {x:α}: ∀ {n:Nat} {S Q:List α} {j:Nat},n=S.length→Sd lt S→j=P.length+S.length→insIn lt P.length j (P++S++x::Q)=P++insS lt S x++Q:=by
 intro n;induction n with
 |zero=>
  intro S Q j h1 _ h2;have:S= []:=qi h1.symm;subst this;simp only [xk,Nat.add_zero] at h2;subst h2;have: ∀A:List α,insIn lt P.length P.length A=A:=by
   intro A;cases hp:P.length with
   |zero=>rfl
   |succ k=>simp [insIn]
  rw [this];simp [insS]
 |succ n ih=>
  intro S Q j h1 hs h2;obtain ⟨S',y,rfl⟩: ∃S' y,S=S'++ [y]:=⟨S.dropLast,S.getLast (by intro h;subst h;simp at h1),(pm _).symm⟩
  simp only [jx,j5,xk] at h1 h2;obtain ⟨k,rfl⟩: ∃k,j=k+1:=⟨j-1,by omega⟩
  obtain ⟨hs1,_,hs3⟩:=vn.1 hs;rw [insIn,if_pos (by omega)];have g1:gt (P++(S'++ [y])++x::Q) (k+1)=x:=Ag9 (by simp;omega);have g0:gt (P++(S'++ [y])++x::Q) k=y:=by
   have:=Ag9 (P:=P++S') (Q:=x::Q) (x:=y) (k:=k) (by simp;omega);simpa using this
  rw [g1,g0];cases h:lt x y with
  |true=>
   have e:sw (P++(S'++ [y])++x::Q) (k+1) k=P++S'++x::(y::Q):=by
    have:=ApD (P:=P++S') (Q:=Q) (x:=y) (y:=x) (i:=k+1) (j:=k) (by simp;omega) (by simp;omega);simpa using this
   simp only;rw [e,ih (by omega) hs1 (by omega),Ah8 h];simp
  |false=>
   simp only;rw [Alm]
   ·simp
   ·intro z hz;rcases jp.1 hz with hz|hz
    ·exact hw.ntrans h (hs3 z hz y (by simp))
    ·simp at hz;subst hz;exact h
theorem An6 (hw:Swo lt) {P Q:List α}: ∀ {T S:List α} {d i:Nat},d=T.length→i=P.length+S.length→insOut lt P.length d i (P++sortS lt S++(T++Q))=P++sortS lt (S++T)++Q:=by
 intro T;induction T with
 |nil=>intro S d i h1 _;subst h1;simp [insOut]
 |cons x T ih=>
  intro S d i h1 h2;simp only [j5] at h1;subst h1;rw [insOut];have:=AoR hw (P:=P) (x:=x) (n:=(sortS lt S).length) (S:=sortS lt S) (Q:=T++Q) (j:=i) rfl (Ab6 hw S) (by rw [Ack hw];omega);rw [xr,this,←AmC,ih rfl (by simp;omega)];simp
abbrev seg (A:List α) (a b:Nat):List α:=(A.drop a).take (b-a)
def srt (lt:α→α→Bool) (A:List α) (a b:Nat):List α:=A.take a++sortS lt (seg A a b)++A.drop b
theorem AeN {A:List α} {a b:Nat} (h:a≤b):A=A.take a++seg A a b++A.drop b:=by
 have:A.drop b=(A.drop a).drop (b-a):=by rw [yc];congr 1;omega
 rw [this,ql,jd,jd]
theorem Aov (P S Q:List α) {a b:Nat} (ha:a=P.length) (hb:b=P.length+S.length):srt lt (P++S++Q) a b=P++sortS lt S++Q:=by
 subst ha hb;unfold srt seg;simp
theorem Aow (hw:Swo lt) {A:List α} {a b:Nat} (h:b≤a+1) (h2:a≤b):srt lt A a b=A:=by
 have e:sortS lt (seg A a b)=seg A a b:=AaO hw (by
  have:(seg A a b).length≤1:=by simp;omega
  match seg A a b,this with
  | [],_=>exact .nil
  | [x],_=>exact List.pairwise_singleton ..)
 unfold srt;rw [e,←AeN h2]
theorem Amw (hw:Swo lt) {A:List α} {a b:Nat} (h1:a<b) (h2:b≤A.length):insOut lt a (b-a-1) (a+1) A=srt lt A a b:=by
 have hs:=AeN (A:=A) (a:=a) (b:=b) (by omega);have hp:(A.take a).length=a:=by simp;omega
 have hl:(seg A a b).length=b-a:=by simp;omega
 obtain ⟨x,T,hT⟩: ∃x T,seg A a b=x::T:=by
  cases h:seg A a b with
  |nil=>rw [h] at hl;simp at hl;omega
  |cons x T=>exact ⟨x,T,rfl⟩
 have hd:b-a-1=T.length:=by rw [hT] at hl;simp at hl;omega
 have:=An6 hw (P:=A.take a) (Q:=A.drop b) (T:=T) (S:= [x]) (d:=b-a-1) (i:=a+1) hd (by rw [hp];simp);rw [hp] at this;unfold srt;rw [hT]
 conv=>lhs;rw [hs,hT]
 simpa [sortS,insS] using this
def rotL:Nat→List α→Nat→Nat→Nat→List α
 |0,A,_,_,_=>A
 |d+1,A,m,i,j=>if i=j then swR i A (m-i) m else if j<i then rotL d (swR j A (m-i) m) m (i-j) j else rotL d (swR i A (m-i) (m+j-i)) m i (j-i)
theorem Aqq: ∀ {d:Nat} {P X Y Q:List α} {m i j:Nat},i=X.length→j=Y.length→m=P.length+i→0<i→0<j→i+j≤d→
  rotL d (P++X++Y++Q) m i j=P++Y++X++Q:=by
 intro d;induction d with
 |zero=>intros;omega
 |succ d ih=>
  intro P X Y Q m i j h1 h2 h3 h4 h5 h6;rw [rotL];by_cases hij:i=j
  ·rw [if_pos hij];have:=Aoz (P:=P) (X:=X) (M:= []) (Y:=Y) (Q:=Q) (by omega);simp only [ye,xk,Nat.add_zero] at this;rw [show m-i=P.length by omega,show m=P.length+X.length by omega,h1];exact this
  ·rw [if_neg hij];by_cases hj:j<i
   ·rw [if_pos hj];have hX:X=X.take j++X.drop j:=(jd ..).symm;have l1:(X.take j).length=j:=by simp;omega
    have l2:(X.drop j).length=i-j:=by simp;omega
    have:=Aoz (P:=P) (X:=X.take j) (M:=X.drop j) (Y:=Y) (Q:=Q) (by omega);rw [l1,l2] at this;have e:swR j (P++X++Y++Q) (m-i) m=(P++Y)++X.drop j++X.take j++Q:=by
     rw [show m-i=P.length by omega,show m=P.length+j+(i-j) by omega]
     conv=>lhs;rw [hX]
     rw [←this];simp
    rw [e,ih (by omega) (by omega) (by simp;omega) (by omega) h5 (by omega)]
    conv=>rhs;rw [hX]
    simp
   ·rw [if_neg hj];have hY:Y=Y.take (j-i)++Y.drop (j-i):=(jd ..).symm;have l1:(Y.take (j-i)).length=j-i:=by simp;omega
    have l2:(Y.drop (j-i)).length=i:=by simp;omega
    have:=Aoz (P:=P) (X:=X) (M:=Y.take (j-i)) (Y:=Y.drop (j-i)) (Q:=Q) (by omega);rw [l1,←h1] at this;have e:swR i (P++X++Y++Q) (m-i) (m+j-i)=P++Y.drop (j-i)++Y.take (j-i)++(X++Q):=by
     rw [show m-i=P.length by omega,show m+j-i=P.length+i+(j-i) by omega]
     conv=>lhs;rw [hY]
     have:=this.trans (b:=_) rfl;simp only [ql] at this⊢;exact this
    rw [e,ih (by omega) (by omega) (by omega) h4 (by omega) (by omega)]
    conv=>rhs;rw [hY]
    simp
theorem Apl {A:List α} {a m b d:Nat} (h1:a<m) (h2:m<b) (h3:b≤A.length) (h4:b-a≤d):rotL d A m (m-a) (b-m)=A.take a++seg A m b++seg A a m++A.drop b:=by
 have hs:A=A.take a++seg A a m++seg A m b++A.drop b:=by
  conv=>lhs;rw [AeN (A:=A) (a:=m) (b:=b) (by omega)]
  congr 2;have:=AeN (A:=A.take m) (a:=a) (b:=m) (by omega);rw [dz,bd (by omega)] at this;rw [this];unfold seg;simp [List.drop_take,dz]
 have:=Aqq (d:=d) (P:=A.take a) (X:=seg A a m) (Y:=seg A m b) (Q:=A.drop b) (m:=m) (i:=m-a) (j:=b-m) (by simp;omega) (by simp;omega) (by simp;omega) (by omega) (by omega) (by omega);rw [←this,←hs]
end
end Go.Eva
namespace Go.Eva
set_option linter.unusedSectionVars false
theorem bs_t {P:Nat→Bool} {d i j h:Nat} (h1:i<j) (h2:(i+j)/2=h) (h3:P h=true):bs P (d+1) i j=bs P d (h+1) j:=by rw [bs,if_pos h1,h2,h3]
theorem bs_f {P:Nat→Bool} {d i j h:Nat} (h1:i<j) (h2:(i+j)/2=h) (h3:P h=false):bs P (d+1) i j=bs P d i h:=by rw [bs,if_pos h1,h2,h3]
section
variable {α:Type} [Inhabited α] {lt:α→α→Bool}
theorem Aed (hw:Swo lt) {U1 U2 V1 V2:List α} (hU:Sd lt (U1++U2)) (hV:Sd lt (V1++V2)) (h1: ∀x∈V1,∀y∈U2,lt x y=true) (h2: ∀x∈U1,∀y∈V2,lt y x=false):
  sortS lt (U1++V1)++sortS lt (U2++V2)=sortS lt ((U1++U2)++(V1++V2)):=by
 refine Ak9 hw h1 fun x hx y hy=> ?_;rcases jp.1 hx with hx|hx<;>rcases jp.1 hy with hy|hy
 ·exact (vn.1 hU).2.2 x hx y hy
 ·exact h2 x hx y hy
 ·exact hw.asymm (h1 x hx y hy)
 ·exact (vn.1 hV).2.2 x hx y hy
theorem sd_gt {P U Q:List α} (hU:Sd lt U) (hw:Swo lt) {p q:Nat} (h1:P.length≤p) (h2:p≤q) (h3:q<P.length+U.length):lt (gt (P++U++Q) q) (gt (P++U++Q) p)=false:=by
 by_cases hpq:p=q
 ·subst hpq;exact hw.irr _
 ·have e: ∀k,P.length≤k→k<P.length+U.length→ ∃h:k-P.length<U.length,gt (P++U++Q) k=U[k-P.length]:=by
   intro k h h';refine ⟨by omega,?_⟩;rw [ql,Ajp,if_neg (by omega),Ajp,if_pos (by omega),gt_eq (by omega)]
  obtain ⟨b1,e1⟩:=e p h1 (by omega);obtain ⟨b2,e2⟩:=e q (by omega) h3;rw [e1,e2];exact List.pairwise_iff_getElem.1 hU _ _ b1 b2 (by omega)
theorem Aoo {U:List α} {x y:α} (hU:Sd lt (U++ [y])) (hw:Swo lt) (hx:x∈U++ [y]):lt y x=false:=by
 rcases jp.1 hx with h|h
 ·exact (vn.1 hU).2.2 x h y (by simp)
 ·simp at h;subst h;exact hw.irr _
theorem Aon {U:List α} {x y:α} (hU:Sd lt (y::U)) (hw:Swo lt) (hx:x∈y::U):lt x y=false:=by
 rcases qf.1 hx with h|h
 ·subst h;exact hw.irr _
 ·exact (xd.1 hU).1 x h
theorem Aos {U:List α} (h:U≠ []): ∃U' y,U=U'++ [y]:=⟨U.dropLast,U.getLast h,(pm _).symm⟩
theorem cross1 (hw:Swo lt) {V1 U2:List α} (hV:Sd lt V1) (hU:Sd lt U2) (h:V1≠ []→U2≠ []→lt (gt V1 (V1.length-1)) (gt U2 0)=true): ∀x∈V1,∀y∈U2,lt x y=true:=by
 intro x hx y hy;have hV1:V1≠ []:=by intro e;subst e;simp at hx
 have hU2:U2≠ []:=by intro e;subst e;simp at hy
 have h:=h hV1 hU2;obtain ⟨V',v,rfl⟩:=Aos hV1;obtain ⟨u,U',rfl⟩: ∃u U',U2=u::U':=by
  cases U2 with
  |nil=>exact absurd rfl hU2
  |cons u U'=>exact ⟨u,U',rfl⟩
 have g1:gt (V'++ [v]) ((V'++ [v]).length-1)=v:=Ag9 (Q:= []) (by simp);have g2:gt (u::U') 0=u:=rfl;rw [g1,g2] at h;exact hw.le_lt (Aoo hV hw hx) (hw.lt_le h (Aon hU hw hy))
theorem cross2 (hw:Swo lt) {U1 V2:List α} (hU:Sd lt U1) (hV:Sd lt V2) (h:U1≠ []→V2≠ []→lt (gt V2 0) (gt U1 (U1.length-1))=false): ∀x∈U1,∀y∈V2,lt y x=false:=by
 intro x hx y hy;have hU1:U1≠ []:=by intro e;subst e;simp at hx
 have hV2:V2≠ []:=by intro e;subst e;simp at hy
 have h:=h hU1 hV2;obtain ⟨U',u,rfl⟩:=Aos hU1;obtain ⟨v,V',rfl⟩: ∃v V',V2=v::V':=by
  cases V2 with
  |nil=>exact absurd rfl hV2
  |cons v V'=>exact ⟨v,V',rfl⟩
 have g1:gt (U'++ [u]) ((U'++ [u]).length-1)=u:=Ag9 (Q:= []) (by simp);have g2:gt (v::V') 0=v:=rfl;rw [g1,g2] at h;exact hw.ntrans (Aon hV hw hy) (hw.ntrans h (Aoo hU hw hx))
end
end Go.Eva
namespace Go.Eva
set_option linter.unusedSectionVars false
section
variable {α:Type} [Inhabited α] {lt:α→α→Bool}
theorem gt_in {P U Q:List α} {k:Nat} (h:P.length≤k) (h':k<P.length+U.length):gt (P++U++Q) k=gt U (k-P.length):=by
 rw [ql,Ajp,if_neg (by omega),Ajp,if_pos (by omega)]
theorem Ak0 (hw:Swo lt) {P V Q:List α} {x:α} {a m b d s:Nat} (ha:a=P.length) (hm:m=a+1) (hb:b=m+V.length) (hd:b≤m+d) (hV:Sd lt V)
  (hs:s=bs (fun h=>lt (gt (P++ [x]++V++Q) h) (gt (P++ [x]++V++Q) a)) d m b):
  m≤s∧s≤b∧up (s-1-a) (P++ [x]++V++Q) a=P++sortS lt ([x]++V)++Q:=by
 have ga:gt (P++ [x]++V++Q) a=x:=by
  have:=Ag9 (P:=P) (Q:=V++Q) (x:=x) (k:=a) ha;simpa using this
 rw [ga] at hs;have hg: ∀h,m≤h→h<b→gt (P++ [x]++V++Q) h=gt V (h-m):=by
  intro h h1 h2;rw [gt_in (P:=P++ [x]) (U:=V) (by simp;omega) (by simp;omega)];congr 1;simp;omega
 have hsd: ∀h h',m≤h→h≤h'→h'<b→lt (gt (P++ [x]++V++Q) h') (gt (P++ [x]++V++Q) h)=false:=by
  intro h h' h1 h2 h3;exact sd_gt (P:=P++ [x]) hV hw (by simp;omega) h2 (by simp;omega)
 obtain ⟨k1,k2,k3,k4⟩:=bs_ok (P:=fun h=>lt (gt (P++ [x]++V++Q) h) x) (d:=d) (i:=m) (j:=b) (by omega) (by omega)
  (fun h h' c1 c2 c3 c4=>hw.le_lt (hsd h h' c1 c2 c3) c4)
 rw [←hs] at k1 k2 k3 k4;refine ⟨k1,k2,?_⟩;have hVs:V=V.take (s-m)++V.drop (s-m):=(jd ..).symm;have l1:(V.take (s-m)).length=s-m:=by simp;omega
 have hV':=hV;rw [hVs] at hV';have c1: ∀y∈V.take (s-m),lt y x=true:=by
  intro y hy;obtain ⟨i,hi,rfl⟩:=xn hy;have:=k3 (m+i) (by omega) (by omega);rw [hg _ (by omega) (by omega),Nat.add_sub_cancel_left] at this;rw [cd,←gt_eq];exact this
 have c2: ∀y∈V.drop (s-m),lt y x=false:=by
  intro y hy;obtain ⟨i,hi,rfl⟩:=xn hy;rw [pz] at hi;have:=k4 (s+i) (by omega) (by omega);rw [hg _ (by omega) (by omega)] at this;rw [List.getElem_drop,←gt_eq,show s-m+i=s+i-m by omega];exact this
 have hxV:Sd lt (x::V.drop (s-m)):=xd.2 ⟨c2,(vn.1 hV').2.1⟩;have e:=Aed hw (U1:= []) (U2:= [x]) (V1:=V.take (s-m)) (V2:=V.drop (s-m)) (by simp [Sd]) hV' (fun y hy z hz=>by simp at hz;subst hz;exact c1 y hy) (fun _ h=>by simp at h);rw [jd,jj,jj,AaO hw (vn.1 hV').1,List.singleton_append,AaO hw hxV] at e;rw [←e];have:=up_eq (Q:=V.drop (s-m)++Q) (x:=x) (V:=V.take (s-m)) (P:=P);rw [l1,←ha] at this;rw [show s-1-a=s-m by omega];have e2:P++ [x]++V++Q=P++x::V.take (s-m)++(V.drop (s-m)++Q):=by
  simp only [ql,xr,jj];rw [←ql (V.take _),jd]
 rw [e2,this];simp
theorem Am1 (hw:Swo lt) {P U Q:List α} {y:α} {a m d s:Nat} (ha:a=P.length) (hm:m=a+U.length) (hd:m≤a+d) (hU:Sd lt U)
  (hs:s=bs (fun h=> !lt (gt (P++U++ [y]++Q) m) (gt (P++U++ [y]++Q) h)) d a m):
  a≤s∧s≤m∧down (m-s) (P++U++ [y]++Q) m=P++sortS lt (U++ [y])++Q:=by
 have gm:gt (P++U++ [y]++Q) m=y:=by
  have:=Ag9 (P:=P++U) (Q:=Q) (x:=y) (k:=m) (by simp;omega);simpa using this
 rw [gm] at hs;have hg: ∀h,a≤h→h<m→gt (P++U++ [y]++Q) h=gt U (h-a):=by
  intro h h1 h2;rw [ql (P++U),gt_in (by omega) (by omega),ha]
 have hsd: ∀h h',a≤h→h≤h'→h'<m→lt (gt (P++U++ [y]++Q) h') (gt (P++U++ [y]++Q) h)=false:=by
  intro h h' h1 h2 h3;rw [ql (P++U)];exact sd_gt hU hw (by omega) h2 (by omega)
 obtain ⟨k1,k2,k3,k4⟩:=bs_ok (P:=fun h=> !lt y (gt (P++U++ [y]++Q) h)) (d:=d) (i:=a) (j:=m) (by omega) (by omega)
  (fun h h' c1 c2 c3 c4=>by
   simp only [wv] at c4⊢;exact hw.ntrans c4 (hsd h h' c1 c2 c3))
 rw [←hs] at k1 k2 k3 k4;refine ⟨k1,k2,?_⟩;have hUs:U=U.take (s-a)++U.drop (s-a):=(jd ..).symm;have l1:(U.take (s-a)).length=s-a:=by simp;omega
 have l2:(U.drop (s-a)).length=m-s:=by simp;omega
 have hU':=hU;rw [hUs] at hU';have c1: ∀z∈U.take (s-a),lt y z=false:=by
  intro z hz;obtain ⟨i,hi,rfl⟩:=xn hz;have:=k3 (a+i) (by omega) (by omega);rw [hg _ (by omega) (by omega),Nat.add_sub_cancel_left] at this;rw [cd,←gt_eq];simpa using this
 have c2: ∀z∈U.drop (s-a),lt y z=true:=by
  intro z hz;obtain ⟨i,hi,rfl⟩:=xn hz;rw [pz] at hi;have:=k4 (s+i) (by omega) (by omega);rw [hg _ (by omega) (by omega)] at this;rw [List.getElem_drop,←gt_eq,show s-a+i=s+i-a by omega];simpa using this
 have hUy:Sd lt (U.take (s-a)++ [y]):=vn.2 ⟨(vn.1 hU').1,by simp,fun z hz w hw'=>by simp at hw';subst hw';exact c1 z hz⟩;have e:=Aed hw (U1:=U.take (s-a)) (U2:=U.drop (s-a)) (V1:= [y]) (V2:= []) hU' (by simp [Sd]) (fun w hw' z hz=>by simp at hw';subst hw';exact c2 z hz) (fun _ _ _ h=>by simp at h);rw [jd,ye,ye,AaO hw (vn.1 hU').2.1,AaO hw hUy] at e;rw [←e];have:=ApL (Q:=Q) (x:=y) (n:=m-s) (V:=U.drop (s-a)) (P:=P++U.take (s-a)) (k:=m) (by omega) (by simp;omega);have e2:P++U++ [y]++Q=P++U.take (s-a)++U.drop (s-a)++y::Q:=by
  simp only [ql,xr,jj];rw [←ql (U.take _),jd]
 rw [e2,this];simp
end
end Go.Eva
namespace Go.Eva
set_option linter.unusedSectionVars false
section
variable {α:Type} [Inhabited α] {lt:α→α→Bool}
theorem AnI (hw:Swo lt) {P U V Q:List α} {a m b mid s0 r0 d s:Nat} (ha:a=P.length) (hm:m=a+U.length) (hb:b=m+V.length) (hU:Sd lt U) (hV:Sd lt V)
  (h1:0<U.length) (h2:0<V.length) (hmid:(a+b)/2=mid) (hs0:m≤mid∧s0=a∧r0=m∨mid<m∧s0=mid+m-b∧r0=mid) (hd:r0≤s0+d)
  (hs:s=bs (fun c=> !lt (gt (P++U++V++Q) (mid+m-1-c)) (gt (P++U++V++Q) c)) d s0 r0):
  s0≤s∧s≤r0∧ ∃U1 U2 V1 V2,U=U1++U2∧V=V1++V2∧U1.length=s-a∧V1.length=mid-s∧sortS lt (U1++V1)++sortS lt (U2++V2)=sortS lt (U++V)∧
   Sd lt U1∧Sd lt U2∧Sd lt V1∧Sd lt V2:=by
 have hgU: ∀h,a≤h→h<m→gt (P++U++V++Q) h=gt U (h-a):=by
  intro h c1 c2;rw [ql (P++U),gt_in (by omega) (by omega),ha]
 have hgV: ∀h,m≤h→h<b→gt (P++U++V++Q) h=gt V (h-m):=by
  intro h c1 c2;rw [gt_in (P:=P++U) (U:=V) (by simp;omega) (by simp;omega)];congr 1;simp;omega
 have hsU: ∀h h',a≤h→h≤h'→h'<m→lt (gt (P++U++V++Q) h') (gt (P++U++V++Q) h)=false:=by
  intro h h' c1 c2 c3;rw [ql (P++U)];exact sd_gt hU hw (by omega) c2 (by omega)
 have hsV: ∀h h',m≤h→h≤h'→h'<b→lt (gt (P++U++V++Q) h') (gt (P++U++V++Q) h)=false:=by
  intro h h' c1 c2 c3;exact sd_gt (P:=P++U) hV hw (by simp;omega) c2 (by simp;omega)
 obtain ⟨k1,k2,k3,k4⟩:=bs_ok (P:=fun c=> !lt (gt (P++U++V++Q) (mid+m-1-c)) (gt (P++U++V++Q) c)) (d:=d) (i:=s0) (j:=r0) (by omega) (by omega)
  (fun h h' c1 c2 c3 c4=>by
   simp only [wv] at c4⊢;exact hw.ntrans (hw.ntrans (hsV (mid+m-1-h') (mid+m-1-h) (by omega) (by omega) (by omega)) c4) (hsU h h' (by omega) c2 (by omega)))
 rw [←hs] at k1 k2 k3 k4;refine ⟨k1,k2,U.take (s-a),U.drop (s-a),V.take (mid-s),V.drop (mid-s),(jd ..).symm,(jd ..).symm,by simp;omega,by simp;omega,?_⟩;have hUs:U=U.take (s-a)++U.drop (s-a):=(jd ..).symm;have hVs:V=V.take (mid-s)++V.drop (mid-s):=(jd ..).symm;have hU':=hU;rw [hUs] at hU';have hV':=hV;rw [hVs] at hV';obtain ⟨u1,u2,_⟩:=vn.1 hU';obtain ⟨v1,v2,_⟩:=vn.1 hV';refine ⟨?_,u1,u2,v1,v2⟩;have lu1:(U.take (s-a)).length=s-a:=by simp;omega
 have lu2:(U.drop (s-a)).length=m-s:=by simp;omega
 have lv1:(V.take (mid-s)).length=mid-s:=by simp;omega
 have lv2:(V.drop (mid-s)).length=b-(mid+m-s):=by simp;omega
 have gtk: ∀ {L:List α} {n i:Nat},i<n→gt (L.take n) i=gt L i:=by
  intro L n i h;unfold gt;rw [List.getElem?_take,if_pos h]
 have gdr: ∀ {L:List α} {n i:Nat},gt (L.drop n) i=gt L (n+i):=by
  intro L n i;unfold gt;rw [List.getElem?_drop]
 have:=Aed hw hU' hV' (cross1 hw v1 u2 fun c1 c2=> ?_) (cross2 hw u1 v2 fun c1 c2=> ?_)
 ·rw [jd,jd] at this;exact this
 ·have n1:0<mid-s:=by rw [←lv1];exact vp.2 c1
  have n2:0<m-s:=by rw [←lu2];exact vp.2 c2
  have:=k4 s (qn _) (by omega);simp only [Bool.not_eq_false'] at this;rw [hgV _ (by omega) (by omega),hgU _ (by omega) (by omega)] at this;rw [gtk (by omega),gdr,lv1,show mid-s-1=mid+m-1-s-m by omega];exact this
 ·have n1:0<s-a:=by rw [←lu1];exact vp.2 c1
  have n2:0<b-(mid+m-s):=by rw [←lv2];exact vp.2 c2
  have:=k3 (s-1) (by omega) (by omega);simp only [wv] at this;rw [hgV _ (by omega) (by omega),hgU _ (by omega) (by omega)] at this;rw [gtk (by omega),gdr,lu1,show mid-s+0=mid+m-1-(s-1)-m by omega,show s-a-1=s-1-a by omega];exact this
end
end Go.Eva
namespace Go.Eva
set_option linter.unusedSectionVars false
section
variable {α:Type} [Inhabited α] {lt:α→α→Bool}
inductive Blks (lt:α→α→Bool) (n:Nat):List α→Prop
 |last {R:List α}:R.length≤n→Sd lt R→Blks lt n R
 |cons {S R:List α}:S.length=n→Sd lt S→Blks lt n R→Blks lt n (S++R)
inductive Full (lt:α→α→Bool) (n:Nat):List α→Prop
 |nil:Full lt n []
 |snoc {P S:List α}:Full lt n P→S.length=n→Sd lt S→Full lt n (P++S)
theorem Full.blks {n:Nat} {P:List α} (h:Full lt n P): ∀ {R:List α},Blks lt n R→Blks lt n (P++R):=by
 induction h with
 |nil=>intro R h;exact h
 |snoc _ h2 h3 ih=>intro R h;rw [ql];exact ih (.cons h2 h3 h)
theorem Blks.more {n:Nat} {R:List α} (h:Blks lt n R) (hl:n<R.length): ∃S R',R=S++R'∧S.length=n∧Sd lt S∧Blks lt n R':=by
 cases h with
 |last h _=>omega
 |cons h1 h2 h3=>exact ⟨_,_,rfl,h1,h2,h3⟩
theorem Blks.more' {n:Nat} {R:List α} (h:Blks lt n R) (hl:n≤R.length): ∃S R',R=S++R'∧S.length=n∧Sd lt S∧Blks lt n R':=by
 by_cases hx:n<R.length
 ·exact h.more hx
 ·cases h with
  |last h2 h3=>exact ⟨R,[],by simp,by omega,h3,.last (by simp) (by simp [Sd])⟩
  |cons h1 h2 h3=>exact ⟨_,_,rfl,h1,h2,h3⟩
theorem Blks.sd {n:Nat} {R:List α} (h:Blks lt n R) (hl:R.length≤n):Sd lt R:=by
 cases h with
 |last _ h=>exact h
 | @cons S R' h1 h2 h3=>
  have:R'= []:=by
   rw [jx] at hl;exact qi (by omega)
  subst this;simpa using h2
theorem Blks.two {n:Nat} {R:List α} (h:Blks lt n R) (hn:0<n) (hl:2*n≤R.length): ∃S1 S2 R',R=S1++S2++R'∧S1.length=n∧S2.length=n∧Sd lt S1∧Sd lt S2∧Blks lt n R':=by
 obtain ⟨S1,R1,rfl,h1,h2,h3⟩:=h.more (by omega);rw [jx] at hl;obtain ⟨S2,R2,rfl,h4,h5,h6⟩:=h3.more' (by omega);exact ⟨S1,S2,R2,by simp,h1,h4,h2,h5,h6⟩
theorem Blks.one {n:Nat} {R:List α} (h:Blks lt n R) (hl:n<R.length) (h2:R.length<2*n): ∃S1 S2,R=S1++S2∧S1.length=n∧Sd lt S1∧Sd lt S2∧0<S2.length:=by
 obtain ⟨S1,R1,rfl,h3,h4,h5⟩:=h.more hl;rw [jx] at hl h2;exact ⟨S1,R1,rfl,h3,h4,h5.sd (by omega),by omega⟩
theorem StEq.mid {P S S' Q:List α} (h:StEq lt S' S):StEq lt (P++S'++Q) (P++S++Q):=((StEq.refl _).append h).append (.refl _)
theorem App (R:List α) {n:Nat} (h:n≤R.length): ∃S R',R=S++R'∧S.length=n:=⟨R.take n,R.drop n,(jd ..).symm,by simp;omega⟩
end
end Go.Eva
namespace Go.Eva
def total (ls:List (List Cross)):Nat:=(ls.map zj).sum
theorem AlM {ls:List (List Cross)} {i:Nat} (h:i<ls.length):total (ls.drop i)=(gt ls i).length+total (ls.drop (i+1)):=by
 unfold total;rw [Aaf h];simp
theorem Ao4 {ls:List (List Cross)} {i:Nat} (h:ls.length≤i):total (ls.drop i)=0:=by
 unfold total;rw [Aad h];rfl
theorem ApU {ls:List (List Cross)} {i:Nat} (h:i<ls.length):(ls.drop i).flatten=gt ls i++(ls.drop (i+1)).flatten:=by
 rw [Aaf h];simp
theorem AoI {ls:List (List Cross)}:ls.flatten.length=total ls:=by
 unfold total;simp [List.length_flatten]
def parts (s:List Cross) (r:Int):Nat→List Cross
 |0=> []
 |d+1=>toL s r++parts s (r+1) d
theorem Aqu {s:List Cross} {r:Int}:(toL s r).length≤s.length:=fy ..
def alike (l:List Cross) (x:Cross):Nat→List Cross
 |0=> []
 |d+1=>alike l x d++ [{x with frame:=(d:Int),frm:=(gt l d).frm}]
end Go.Eva
namespace Go.Eva
structure Stg where
 l:List Entity
 made:Int
 out:List Cross
def Stg.room (s:Stg):Bool:=decide (s.made<8)&&decide (things s.l<24)
section
variable (c:Config) (r f:Int)
def numI (made:Int):Int:=1000+(f*c.regions+r)*8+(made+1)-1
def placeX (a o:Int):Int:=c.cornerX r+below 1024 c.seed [a,f,o]
def placeY (b o:Int):Int:=c.cornerY r+below 1024 c.seed [b,f,o]
def setId (l:List Entity) (id:Int) (e:Entity):List Entity:=l.set (find l id).toNat e
def inAt (ins:List Input) (id:Int):Input:=gt ins (id-1).toNat
def steer1 (ins:List Input) (s:Stg) (p:Entity):Stg:=
 if p.kind≠1 then s
 else if (steerE p (inAt ins p.id)).2=true then
  (if s.room=true then {s with l:=setId (put1 s.l (shootE (steerE p (inAt ins p.id)).1 (inAt ins p.id) (numI c r f s.made))) p.id (steerE p (inAt ins p.id)).1,made:=s.made+1}
   else {s with l:=setId s.l p.id {(steerE p (inAt ins p.id)).1 with age:=0}})
 else {s with l:=setId s.l p.id (steerE p (inAt ins p.id)).1}
def steerS (ins:List Input) (s:Stg):Stg:=s.l.foldl (steer1 c r f ins) s
def moveL (l:List Entity):List Entity:=(l.filter fun e=>(goE c e).2).map fun e=>(goE c e).1
def blastsAt (e:Entity):List Cross:=(c.near r).map fun q=>⟨2,r,q,f,Entity.zero,e.x,e.y⟩
def anewE (id:Int) (e:Entity):Entity:= {e with health:=100,vx:=0,vy:=0,age:=0,x:=placeX c r f 1 id,y:=placeY c r f 2 id}
def fall1 (s:Stg) (id:Int):Stg:= {s with l:=s.l.set (find s.l id).toNat (anewE c r f id (gt s.l (find s.l id).toNat)),out:=s.out++blastsAt c r f (gt s.l (find s.l id).toNat)}
def fallS (s:Stg):Stg:=(fallenL s.l).foldl (fall1 c r f) s
def gemE (made:Int):Entity:=⟨numI c r f made,3,placeX c r f 4 r,placeY c r f 5 r,0,0,1,0,0⟩
def growS (s:Stg):Stg:=
 if below 8 c.seed [3,f,r]≠0∨3≤(s.l.countP fun e=>e.kind==3)∨s.room=false then s
 else {s with l:=put1 s.l (gemE c r f s.made),made:=s.made+1}
def handE (e:Entity):Cross:=⟨1,r,c.of e.x e.y,f,e,0,0⟩
def leaveS (s:Stg):Stg:= {s with l:=s.l.filter fun e=>decide (c.of e.x e.y=r),out:=s.out++(s.l.filter fun e=> !decide (c.of e.x e.y=r)).map (handE c r f)}
def restS (inbox:List Cross) (s:Stg):Stg:=leaveS c r f (growS c r f (fallS c r f {s with l:=blastsL (gemsL (shotsL (moveL c s.l))) inbox}))
end
def stepS (c:Config) (r:Int) (s:Region) (ins:List Input) (inbox:List Cross):Stg:=
 restS c r s.frame inbox (steerS c r s.frame ins ⟨arriveL s.ents inbox,0,[]⟩)
def Region.zero:Region:=⟨0,[]⟩
def stepP (c:Config) (r:Int) (s:Region) (ins:List Input) (inbox:List Cross):Region×List Cross×Int:=
 if askedE c r s ins inbox≠0 then (Region.zero,[],askedE c r s ins inbox)
 else (⟨s.frame+1,(stepS c r s ins inbox).l⟩,sortS Cross.less (stepS c r s ins inbox).out,0)
end Go.Eva
namespace Go.Eva
theorem AbT {l:List Entity} {id:Int} (h: ∃x∈l,x.id=id): ∃k:Nat,find l id=k∧k<l.length∧(gt l k).id=id:=by
 obtain ⟨k,hk⟩:=AoP h;obtain ⟨h1,h2,_⟩:=an_id hk;exact ⟨k,AbJ hk,h1,h2⟩
theorem Afh {l:List Entity} {k:Nat} {e:Entity} (hk:k<l.length) (h:(gt l k).id=e.id):(l.set k e).map xm=l.map xm:=by
 rw [gq];apply vq;intro i;rw [ue];split
 ·rename_i hik;subst hik;rw [wj,if_pos hk,qb,Aa7 hk,ul,h]
 ·rfl
theorem AjM {l:List Entity} {e:Entity} (h: ∃x∈l,x.id=e.id):(setId l e.id e).map xm=l.map xm:=by
 obtain ⟨k,h1,h2,h3⟩:=AbT h;unfold setId;rw [h1];exact Afh h2 h3
theorem AeO {l:List Entity} {id:Int} {e:Entity}:(setId l id e).length=l.length:=by simp [setId]
theorem AkA {l m:List Entity} (h:l.map xm=m.map xm) (hs:Srt l):Srt m:=by
 have:(l.map xm).Pairwise (· < ·):=fx.2 hs;rw [h] at this;exact fx.1 this
theorem Akz {l m:List Entity} (h:l.map xm=m.map xm) {id:Int} (hx: ∃x∈l,x.id=id): ∃x∈m,x.id=id:=by
 obtain ⟨x,h1,h2⟩:=hx;have:id∈l.map xm:=vg.2 ⟨x,h1,h2⟩;rw [h] at this;obtain ⟨y,h3,h4⟩:=vg.1 this;exact ⟨y,h3,h4⟩
theorem Aop {α:Type} {l:List α} {k:Nat} {e x:α} (h:x∈l.set k e):x=e∨x∈l:=by
 rcases List.mem_or_eq_of_mem_set h with h|h
 ·exact .inr h
 ·exact .inl h
theorem AgS {l:List Entity} {id:Int} {e x:Entity} (h:x∈setId l id e):x=e∨x∈l:=Aop h
theorem Af6 {l:List Entity} {e x:Entity} (h:x∈put1 l e):x=e∨x∈l:=by
 unfold put1 at h;split at h
 ·exact .inr h
 ·exact Ai5.1 h
theorem ApX {l:List Entity}: ∀ {a b:Int},Srt l→(∀x∈l,a≤x.id∧x.id≤b)→(l.length:Int)≤max 0 (b-a+1):=by
 induction l with
 |nil=>intro a b _ _;simp;omega
 |cons e l ih=>
  intro a b hs h;obtain ⟨h1,h2⟩:=xd.1 hs;have:=ih (a:=a+1) (b:=b) h2 fun x hx=>by
   have k1:=h1 x hx;have k2:=h e (jh ..);have k3:=h x (qu _ hx);omega
  have k2:=h e (jh ..);simp only [j5];omega
theorem AhX {l:List Entity} {p:Entity→Bool} (h:Srt l):Srt (l.filter p):=List.Pairwise.filter _ h
theorem Am7 {l:List Entity} {n:Int} (hs:Srt l) (h: ∀x∈l,x.kind=1→1≤x.id∧x.id≤n) (hn:0≤n):((l.countP fun e=>e.kind==1:Nat):Int)≤n:=by
 rw [List.countP_eq_length_filter];have:=ApX (a:=1) (b:=n) (AhX (p:=fun e=>e.kind==1) hs) fun x hx=>by
  obtain ⟨h1,h2⟩:=wu.1 hx;exact h x h1 (by simpa using h2)
 omega
theorem Ap3 {l:List Entity} {n:Int} (hs:Srt l) (h: ∀x∈l,x.kind=1→1≤x.id∧x.id≤n) (hn:0≤n):(l.length:Int)≤things l+n:=by
 have h1:=Am7 hs h hn;have h2:= @Ahp l;unfold things;omega
theorem Entity.right_player {c:Config} {e:Entity} (h:e.right c=true) (hk:e.kind=1):1≤e.id∧e.id≤c.players:=by
 simp only [Entity.right,hk,if_true,zf,Aah] at h;omega
theorem Adh {c:Config} {r:Int} {s:Region}:regionRight c r s=true↔c.is r=true∧(0≤s.frame∧s.frame≤10000)∧Srt s.ents∧things s.ents≤24∧ ∀e∈s.ents,e.right c=true∧c.of e.x e.y=r:=by
 simp only [regionRight,zf,Aah,AhW,decide_eq_true_eq,List.all_eq_true];constructor
 ·rintro ⟨⟨⟨⟨h1,h2⟩,h3⟩,h4⟩,h5⟩;exact ⟨h1,h2,h3,h4,h5⟩
 ·rintro ⟨h1,h2,h3,h4,h5⟩;exact ⟨⟨⟨⟨h1,h2⟩,h3⟩,h4⟩,h5⟩
structure Fine (c:Config) (r:Int) (s:Region) (ins:List Input) (inbox:List Cross):Prop where
 is:c.is r=true
 frame:0≤s.frame∧s.frame<10000
 srt:Srt s.ents
 things:things s.ents≤24
 ents: ∀e∈s.ents,e.right c=true∧c.of e.x e.y=r
 len:(ins.length:Int)=c.players
 ins: ∀i∈ins,i.right=true
 box: ∀m∈inbox,m.right c=true∧m.to=r∧m.frame=s.frame-1
theorem AlZ {c:Config} {r:Int} {s:Region} {ins:List Input} {inbox:List Cross} (h:askedE c r s ins inbox=0):Fine c r s ins inbox:=by
 unfold askedE at h;split at h
 ·omega
 ·rename_i h1;split at h
  ·omega
  ·rename_i h2;split at h
   ·omega
   ·rename_i h3;split at h
    ·omega
    ·rename_i h4;split at h
     ·omega
     ·rename_i h5;obtain ⟨k1,k2,k3,k4,k5⟩:=Adh.1 (by simpa using h2);refine ⟨k1,by omega,k3,k4,k5,by omega,fun i hi=> ?_,fun m hm=> ?_⟩
      ·have h3: ¬(ins.any fun i=> !i.right)=true:=fun e=>h3 (.inr e);cases hr:i.right with
       |true=>rfl
       |false=>exact absurd (kz.2 ⟨i,hi,by simp [hr]⟩) h3
      ·have:(m.right c&&decide (m.to=r)&&decide (m.frame=s.frame-1))=true:=by
        cases hr:(m.right c&&decide (m.to=r)&&decide (m.frame=s.frame-1)) with
        |true=>rfl
        |false=>exact absurd (kz.2 ⟨m,hm,by simp [hr]⟩) h4
       simp only [zf,decide_eq_true_eq] at this;exact ⟨this.1.1,this.1.2,this.2⟩
structure Sane (c:Config) (r:Int) (l:List Entity):Prop where
 srt:Srt l
 things:things l≤24
 ents: ∀e∈l,e.right c=true∧c.of e.x e.y=r
theorem AgO {l:List Entity} {e:Entity}:things (put1 l e)≤things l+(if e.kind=1 then 0 else 1):=by
 have ins_things: ∀l:List Entity,things (ins l e)=things l+(if e.kind=1 then 0 else 1):=by
  intro l;unfold ins things;split
  ·rename_i k hk;have:(l.take k++e::l.drop k).countP (fun e=>e.kind !=1)=l.countP (fun e=>e.kind !=1)+(if e.kind=1 then 0 else 1):=by
    rw [cj,fc]
    conv=>rhs;rw [←jd k l,cj]
    by_cases h:e.kind=1<;>simp [h]<;>omega
   rw [this];split<;>simp
  ·rw [cj,fc,List.countP_nil];by_cases h:e.kind=1<;>simp [h]
 unfold put1;split
 ·split<;>omega
 ·rw [ins_things];omega
theorem AiV {c:Config} {r:Int} {l:List Entity} {m:Cross} (h:Sane c r l) (hm:m.right c=true) (ht:m.to=r):Sane c r (arrive1 l m):=by
 unfold arrive1;split
 ·rename_i hk;have hp:= @AgO l m.ent;have ht2:=h.things;simp only [Cross.right,hk.1,if_true,zf,decide_eq_true_eq] at hm;refine ⟨AgN h.srt,by split at hp<;>omega,fun e he=> ?_⟩;rcases Af6 he with rfl|he
  ·exact ⟨hm.2.1.1.1.1,by omega⟩
  ·exact h.ents e he
 ·exact h
theorem Ake {c:Config} {r:Int} {inbox:List Cross}: ∀ {l:List Entity},Sane c r l→(∀m∈inbox,m.right c=true∧m.to=r)→Sane c r (arriveL l inbox):=by
 induction inbox with
 |nil=>intro l h _;exact h
 |cons m inbox ih=>
  intro l h hm;have h1:=hm m (jh ..);exact ih (AiV h h1.1 h1.2) fun x hx=>hm x (qu _ hx)
theorem Fine.sane {c:Config} {r:Int} {s:Region} {ins:List Input} {inbox:List Cross} (h:Fine c r s ins inbox):Sane c r (arriveL s.ents inbox):=
 Ake ⟨h.srt,h.things,h.ents⟩ fun m hm=>⟨(h.box m hm).1,(h.box m hm).2.1⟩
theorem Sane.len {c:Config} {r:Int} {l:List Entity} (h:Sane c r l) (hc:c.right=true):l.length≤30:=by
 have h1:=Ap3 (n:=c.players) h.srt (fun x hx hk=>Entity.right_player (h.ents x hx).1 hk) (by have:=ju.1 hc;omega);have h2:=h.things;have h3:=ju.1 hc;omega
end Go.Eva
namespace Go.Eva
theorem Aqx {l:List Entity} (h:Srt l): ∀ {x y:Entity},x∈l→y∈l→x.id=y.id→x=y:=by
 induction l with
 |nil=>intro x y hx;simp at hx
 |cons a l ih=>
  intro x y hx hy e;obtain ⟨h1,h2⟩:=xd.1 h;rcases qf.1 hx with kx|kx<;>rcases qf.1 hy with ky|ky
  ·rw [kx,ky]
  ·have:=h1 y ky;rw [kx] at e;omega
  ·have:=h1 x kx;rw [ky] at e;omega
  ·exact ih h2 kx ky e
theorem Aks {l:List Entity} {p:Entity} (hs:Srt l) (h:p∈l): ∃k:Nat,find l p.id=k∧k<l.length∧gt l k=p:=by
 obtain ⟨k,h1,h2,h3⟩:=AbT (l:=l) (id:=p.id) ⟨p,h,rfl⟩;exact ⟨k,h1,h2,Aqx hs (Aat h2) h h3⟩
theorem AgT {l:List Entity} {p e:Entity} (hs:Srt l) (h:p∈l) (he:e.id=p.id):Srt (setId l p.id e):=by
 rw [←he];exact AkA (AjM ⟨p,h,he.symm⟩).symm hs
theorem Adm {l:List Entity} {p e:Entity} (hs:Srt l) (h:p∈l) (hk:e.kind=p.kind):things (setId l p.id e)=things l:=by
 obtain ⟨k,h1,h2,h3⟩:=Aks hs h;unfold setId things;rw [h1,Int.toNat_natCast,List.countP_set h2,hk];rw [gt_eq h2] at h3;rw [h3];have:(if (p.kind !=1)=true then 1 else 0)≤l.countP fun e=>e.kind !=1:=by
  split
  ·rename_i hp;exact List.countP_pos_iff.2 ⟨p,h,hp⟩
  ·omega
 omega
theorem Afq {l:List Entity} {p e x:Entity} (hs:Srt l) (h:p∈l) (hx:x∈l) (hne:x.id≠p.id):x∈setId l p.id e:=by
 obtain ⟨k,h1,h2,h3⟩:=Aks hs h;obtain ⟨j,j1,j2,j3⟩:=Aks hs hx;unfold setId;rw [h1,Int.toNat_natCast];have hjk:j≠k:=fun e=>hne (by rw [←j3,←h3,e]);rw [List.mem_iff_getElem?];refine ⟨j,?_⟩;rw [qy (by omega),Aa7 j2,j3]
theorem AgX {p:Entity} {i:Input}:(steerE p i).1.id=p.id∧(steerE p i).1.kind=p.kind∧(steerE p i).1.x=p.x∧(steerE p i).1.y=p.y∧(steerE p i).1.health=p.health:=by
 unfold steerE;split
 ·simp
 ·split<;>simp
theorem Aky {a b:Int}:a≤maxI a b∧b≤maxI a b∧(maxI a b=a∨maxI a b=b):=by unfold maxI;split<;>omega
theorem AjR {c:Config} {p:Entity} {i:Input} (h:p.right c=true) (hk:p.kind=1) (hi:i.right=true):(steerE p i).1.right c=true∧({(steerE p i).1 with age:=0}:Entity).right c=true:=by
 simp only [Input.right,zf,Aah] at hi;simp only [Entity.right,hk,if_true,zf,Aah,decide_eq_true_eq] at h;have hm:= @Aky p.age 1;unfold steerE;split
 ·simp only [Entity.right,hk,if_true,zf,Aah,decide_eq_true_eq];refine ⟨⟨h.1,?_⟩,⟨h.1,?_⟩⟩<;>omega
 ·split
  ·simp only [Entity.right,hk,if_true,zf,Aah,decide_eq_true_eq];refine ⟨⟨h.1,?_⟩,⟨h.1,?_⟩⟩<;>omega
  ·simp only [Entity.right,hk,if_true,zf,Aah,decide_eq_true_eq];refine ⟨⟨h.1,?_⟩,⟨h.1,?_⟩⟩<;>omega
theorem AiZ (d:Int):clamp d (-1) 1= -1∨clamp d (-1) 1=0∨clamp d (-1) 1=1:=by unfold clamp;split<;>(try split)<;>omega
theorem AjN {c:Config} {p:Entity} {i:Input} {id:Int} (h:p.right c=true) (hk:p.kind=1) (hid:1000≤id∧id≤2147483647):(shootE p i id).right c=true:=by
 have hp:=Entity.right_player h hk;simp only [Entity.right,zf] at h;have h1:=AiZ i.dx;have h2:=AiZ i.dy;have hh:within id 1000 2147483647=true:=Aah.2 hid;have ho:within p.id 1 c.players=true:=Aah.2 hp;have h0:within 0 0 12=true:=by decide
 unfold shootE paceD;simp only [Entity.right,h.1,hh,ho,h0,pace];rcases h1 with h1|h1|h1<;>rcases h2 with h2|h2|h2<;>simp [h1,h2]
structure Steer (c:Config) (r:Int) (s:Stg):Prop where
 sane:Sane c r s.l
 made:0≤s.made∧s.made≤8
theorem Aq9 {c:Config} {r f made:Int} (hr:0≤r∧r<c.regions) (hf:0≤f∧f<10000) (hm:0≤made∧made≤8):1000≤numI c r f made∧numI c r f made≤2147483647:=by
 have h:= @Config.regions_le c;have h1:0≤f*c.regions:=fq hf.1 h.1;have h2:f*c.regions≤10000*16:=cq (by omega) h.2 h.1 (by omega);unfold numI;omega
theorem Config.is_le {c:Config} {r:Int} (h:c.is r=true):0≤r∧r<c.regions:=by
 simp only [du,Aah] at h;omega
theorem Stg.room_iff {s:Stg}:s.room=true↔s.made<8∧things s.l<24:=by simp [Stg.room]
theorem Aox {c:Config} {r f:Int} {ins:List Input} {s:Stg} {p:Entity} (hs:Steer c r s) (hr:c.is r=true) (hf:0≤f∧f<10000) (hp:p∈s.l) (hi:p.kind=1→(inAt ins p.id).right=true):
  Steer c r (steer1 c r f ins s p)∧(∀x∈s.l,x.id≠p.id→x∈(steer1 c r f ins s p).l)∧(steer1 c r f ins s p).out=s.out:=by
 unfold steer1;split
 ·exact ⟨hs,fun x hx _=>hx,rfl⟩
 ·rename_i hk;have hk:p.kind=1:=by omega
  obtain ⟨hpr,hpo⟩:=hs.sane.ents p hp;have hi:=hi hk;obtain ⟨e1,e2⟩:=AjR hpr hk hi;obtain ⟨i1,i2,i3,i4,i5⟩:= @AgX p (inAt ins p.id);split
  ·split
   ·rename_i hroom;have hroom:=Stg.room_iff.1 hroom;have hn:=Aq9 (made:=s.made) (Config.is_le hr) hf hs.made;have hsh:=AjN (i:=inAt ins p.id) e1 (by omega) hn;have hs1:Srt (put1 s.l (shootE (steerE p (inAt ins p.id)).1 (inAt ins p.id) (numI c r f s.made))):=AgN hs.sane.srt;have hp1:p∈put1 s.l (shootE (steerE p (inAt ins p.id)).1 (inAt ins p.id) (numI c r f s.made)):=AiD p hp;have ht:= @AgO s.l (shootE (steerE p (inAt ins p.id)).1 (inAt ins p.id) (numI c r f s.made));refine ⟨⟨⟨AgT hs1 hp1 i1,?_,fun e he=> ?_⟩,by have:=hs.made;simp only;omega⟩,fun x hx hne=>Afq hs1 hp1 (AiD x hx) hne,rfl⟩
    ·simp only;rw [Adm hs1 hp1 i2];have:=hs.sane.things;split at ht<;>omega
    ·rcases AgS he with rfl|he
     ·exact ⟨e1,by rw [i3,i4];exact hpo⟩
     ·rcases Af6 he with rfl|he
      ·refine ⟨hsh,?_⟩;show c.of (steerE p (inAt ins p.id)).1.x (steerE p (inAt ins p.id)).1.y=r;rw [i3,i4];exact hpo
      ·exact hs.sane.ents e he
   ·refine ⟨⟨⟨AgT hs.sane.srt hp i1,?_,fun e he=> ?_⟩,hs.made⟩,fun x hx hne=>Afq hs.sane.srt hp hx hne,rfl⟩
    ·simp only;rw [Adm hs.sane.srt hp (by exact i2)];exact hs.sane.things
    ·rcases AgS he with rfl|he
     ·refine ⟨e2,?_⟩;show c.of (steerE p (inAt ins p.id)).1.x (steerE p (inAt ins p.id)).1.y=r;rw [i3,i4];exact hpo
     ·exact hs.sane.ents e he
  ·refine ⟨⟨⟨AgT hs.sane.srt hp i1,?_,fun e he=> ?_⟩,hs.made⟩,fun x hx hne=>Afq hs.sane.srt hp hx hne,rfl⟩
   ·simp only;rw [Adm hs.sane.srt hp i2];exact hs.sane.things
   ·rcases AgS he with rfl|he
    ·exact ⟨e1,by rw [i3,i4];exact hpo⟩
    ·exact hs.sane.ents e he
theorem AmE {c:Config} {r f:Int} {ins:List Input} (hr:c.is r=true) (hf:0≤f∧f<10000) (hins:(ins.length:Int)=c.players) (hi: ∀i∈ins,i.right=true): ∀ {R:List Entity} {s:Stg},Steer c r s→Srt R→(∀p∈R,p∈s.l)→
  Steer c r (R.foldl (steer1 c r f ins) s)∧(R.foldl (steer1 c r f ins) s).out=s.out:=by
 intro R;induction R with
 |nil=>intro s h _ _;exact ⟨h,rfl⟩
 |cons p R ih=>
  intro s h hR hm;have hp:=hm p (jh ..);obtain ⟨h1,h2,h3⟩:=Aox (f:=f) (ins:=ins) h hr hf hp fun hk=>by
   have:=Entity.right_player (h.sane.ents p hp).1 hk;unfold inAt;exact hi _ (Aat (by omega))
  obtain ⟨hR1,hR2⟩:=xd.1 hR;have:=ih h1 hR2 fun q hq=>h2 q (hm q (qu _ hq)) (by have:=hR1 q hq;omega);exact ⟨this.1,by rw [wb,this.2,h3]⟩
theorem Apq {c:Config} {r:Int} {s:Region} {ins:List Input} {inbox:List Cross} (h:Fine c r s ins inbox):
  Steer c r (steerS c r s.frame ins ⟨arriveL s.ents inbox,0,[]⟩)∧(steerS c r s.frame ins ⟨arriveL s.ents inbox,0,[]⟩).out= []:=
 AmE (ins:=ins) h.is h.frame h.len h.ins ⟨h.sane,by simp⟩ h.sane.srt fun p hp=>hp
end Go.Eva
namespace Go.Eva.S8
theorem Afy (x:Int):Fn cx 298 [.int .u64 x] (.int .u64 (mix x)):=by
 exact za (gg [.w (0≤(33:Int)),.s (xc zr (j7 x 8589934592)),.i zr ((↑(j9 (qv 64 x^^^qv 64 (j7 x 8589934592))):Int)) (z8 zr (↑(j9 (qv 64 x^^^qv 64 (j7 x 8589934592))):Int)),.i zr (z8 zr (↑(j9 (qv 64 x^^^qv 64 (j7 x 8589934592))):Int)*18397679294719823053) (z8 zr (z8 zr (↑(j9 (qv 64 x^^^qv 64 (j7 x 8589934592))):Int)*18397679294719823053)),.w (0≤(33:Int)),.s (xc zr (j7 (z8 zr (z8 zr (↑(j9 (qv 64 x^^^qv 64 (j7 x 8589934592))):Int)*18397679294719823053)) 8589934592)),.i zr ((↑(j9 (qv 64 (z8 zr (z8 zr (↑(j9 (qv 64 x^^^qv 64 (j7 x 8589934592))):Int)*18397679294719823053))^^^qv 64 (j7 (z8 zr (z8 zr (↑(j9 (qv 64 x^^^qv 64 (j7 x 8589934592))):Int)*18397679294719823053)) 8589934592))):Int)) (z8 zr (↑(j9 (qv 64 (z8 zr (z8 zr (↑(j9 (qv 64 x^^^qv 64 (j7 x 8589934592))):Int)*18397679294719823053))^^^qv 64 (j7 (z8 zr (z8 zr (↑(j9 (qv 64 x^^^qv 64 (j7 x 8589934592))):Int)*18397679294719823053)) 8589934592))):Int)),.i zr (z8 zr (↑(j9 (qv 64 (z8 zr (z8 zr (↑(j9 (qv 64 x^^^qv 64 (j7 x 8589934592))):Int)*18397679294719823053))^^^qv 64 (j7 (z8 zr (z8 zr (↑(j9 (qv 64 x^^^qv 64 (j7 x 8589934592))):Int)*18397679294719823053)) 8589934592))):Int)*14181476777654086739) (z8 zr (z8 zr (↑(j9 (qv 64 (z8 zr (z8 zr (↑(j9 (qv 64 x^^^qv 64 (j7 x 8589934592))):Int)*18397679294719823053))^^^qv 64 (j7 (z8 zr (z8 zr (↑(j9 (qv 64 x^^^qv 64 (j7 x 8589934592))):Int)*18397679294719823053)) 8589934592))):Int)*14181476777654086739)),.w (0≤(33:Int)),.s (xc zr (j7 (z8 zr (z8 zr (↑(j9 (qv 64 (z8 zr (z8 zr (↑(j9 (qv 64 x^^^qv 64 (j7 x 8589934592))):Int)*18397679294719823053))^^^qv 64 (j7 (z8 zr (z8 zr (↑(j9 (qv 64 x^^^qv 64 (j7 x 8589934592))):Int)*18397679294719823053)) 8589934592))):Int)*14181476777654086739)) 8589934592))] ⟨oW,o_i rfl,o_i rfl,oW,o_i rfl,o_i rfl,oW,tI⟩ (gg [.i zr ((↑(j9 (qv 64 (z8 zr (z8 zr (↑(j9 (qv 64 (z8 zr (z8 zr (↑(j9 (qv 64 x^^^qv 64 (j7 x 8589934592))):Int)*18397679294719823053))^^^qv 64 (j7 (z8 zr (z8 zr (↑(j9 (qv 64 x^^^qv 64 (j7 x 8589934592))):Int)*18397679294719823053)) 8589934592))):Int)*14181476777654086739))^^^qv 64 (j7 (z8 zr (z8 zr (↑(j9 (qv 64 (z8 zr (z8 zr (↑(j9 (qv 64 x^^^qv 64 (j7 x 8589934592))):Int)*18397679294719823053))^^^qv 64 (j7 (z8 zr (z8 zr (↑(j9 (qv 64 x^^^qv 64 (j7 x 8589934592))):Int)*18397679294719823053)) 8589934592))):Int)*14181476777654086739)) 8589934592))):Int)) (z8 zr (↑(j9 (qv 64 (z8 zr (z8 zr (↑(j9 (qv 64 (z8 zr (z8 zr (↑(j9 (qv 64 x^^^qv 64 (j7 x 8589934592))):Int)*18397679294719823053))^^^qv 64 (j7 (z8 zr (z8 zr (↑(j9 (qv 64 x^^^qv 64 (j7 x 8589934592))):Int)*18397679294719823053)) 8589934592))):Int)*14181476777654086739))^^^qv 64 (j7 (z8 zr (z8 zr (↑(j9 (qv 64 (z8 zr (z8 zr (↑(j9 (qv 64 x^^^qv 64 (j7 x 8589934592))):Int)*18397679294719823053))^^^qv 64 (j7 (z8 zr (z8 zr (↑(j9 (qv 64 x^^^qv 64 (j7 x 8589934592))):Int)*18397679294719823053)) 8589934592))):Int)*14181476777654086739)) 8589934592))):Int))] ⟨o_i rfl,tI⟩ ge))
theorem AfD (l:List Int) (hn:small l): ∀(d i:Nat) (h:Int),i+d=l.length→
  Is cx (.loop 287 [0,1,0,1,1] 0 [.t (.int .u64 h),.t (.sl 1 (l.map ti)),vi l.length,vi i] [])
   ⟨.exit 0,[.t (.int .u64 ((l.drop i).foldl atStep h)),.t (.sl 1 (l.map ti)),vi l.length,vi l.length],[]⟩:=by
 unfold small at hn;intro d;induction d with
 |zero=>
  intro i h hi;rw [Aad (by omega)];refine za (gg [.b (decide ((i:Int)<(↑(zj l):Int))) zq] ⟨fP,tI⟩ (rT (a:=zl (jr 0) [V.t (xc zr h),V.t (T.sl 1 (zw ti l)),vi (↑(zj l):Int),vi (i:Int)] []) ?_))
  ((have hq:i=l.length:=by omega);subst hq;rfl)
 |succ d ih=>
  intro i h hi;have hlt:i<l.length:=by omega
  have ih1:=ih (i+1) (atStep h (gt l i)) (by omega);clear ih;rw [Aaf hlt,wb];unfold atStep at ih1⊢;exact za (gg [.b (decide ((i:Int)<(↑(zj l):Int))) zg,.w (0≤(i:Int)),.n (zm (i:Int)) i,.g (zw ti l) i (ti (gt l i)),.i zr (gt l i) (z8 zr (gt l i)),.i zr (h+z8 zr (gt l i)) (z8 zr (h+z8 zr (gt l i))),.i zr (z8 zr (h+z8 zr (gt l i))+11400714819323198485) (z8 zr (z8 zr (h+z8 zr (gt l i))+11400714819323198485)),.a _ _,.i zy ((i:Int)+1) (↑(i+1):Int),.a _ _] ⟨tP,oW,nK,oH,o_i rfl,o_i rfl,o_i rfl,o_a (Afy (z8 zr (z8 zr (h+z8 zr (gt l i))+11400714819323198485))),oI,o_a ih1,tI⟩ ge)
theorem Akm (seed:Int) (l:List Int) (hn:small l):Fn cx 287 [.int .u64 seed,.sl 1 (l.map ti)] (.int .u64 (chanceAt seed l)):=by
 have h:=AfD l hn l.length 0 (mix seed) (by omega);rw [qr] at h;exact za (gg [.a _ _,.n (zj (zw ti l)) (zj l),.a _ _] ⟨o_a (Afy seed),oM,o_a h,tI⟩ ge)
theorem AaF (n seed:Int) (l:List Int) (hn:n≤1000000) (hl:small l):Fn cx 257 [ti n,.int .u64 seed,.sl 1 (l.map ti)] (ti (below n seed l)):=by
 by_cases h:n<1
 ·have e:below n seed l=0:=by simp [below,h]
  rw [e];exact za (gg [.b (decide (n<1)) zg] ⟨tA,tI⟩ ge)
 ·have e:below n seed l=(chanceAt seed l).tmod n:=by simp [below,h]
  have hle:= @Aif n seed l (by omega);rw [e] at hle⊢;exact za (gg [.b (decide (n<1)) zq,.a _ _,.i zr n n,.w (n≠(0:Int)),.s (xc zr (yw (chanceAt seed l) n)),.i zy (yw (chanceAt seed l) n) (yw (chanceAt seed l) n)] ⟨fA,o_a (Akm seed l (by assumption)),oU,oW,oI,tI⟩ ge)
theorem Abo (v:Int):Fn cx 284 [ti v] (ti (held v)):=by
 exact za (gg [.a _ _] ⟨o_a (Aa5 v (-2147483647) 2147483647),tI⟩ ge)
theorem Acn (a b:Int):Fn cx 247 [ti a,ti b] (ti (subH a b)):=by
 have h1:= @Afg a;have h2:= @Afg b;exact za (gg [.a _ _,.a _ _,.i zy (held a-held b) (held a-held b),.a _ _] ⟨o_a (Abo a),o_a (Abo b),oI,o_a (Abo (held a-held b)),tI⟩ ge)
theorem Af1 (v:Int) (h: -2147483647≤v∧v≤2147483647):Fn cx 297 [ti v] (ti (sizeI v)):=by
 exact za (gg [.i zy (0-v) (0-v),.s (ti (maxI v (0-v)))] ⟨oI,tI⟩ ge)
theorem Akn (ax ay bx y:Int):Fn cx 283 [ti ax,ti ay,ti bx,ti y] (ti (farI ax ay bx y)):=by
 have h1: -2147483647≤subH ax bx∧subH ax bx≤2147483647:=Afg;have h2: -2147483647≤subH ay y∧subH ay y≤2147483647:=Afg;exact za (gg [.a _ _,.a _ _,.a _ _,.a _ _,.s (ti (maxI (sizeI (subH ax bx)) (sizeI (subH ay y))))] ⟨o_a (Acn ax bx),o_a (Af1 (subH ax bx) ⟨(by omega),(by omega)⟩),o_a (Acn ay y),o_a (Af1 (subH ay y) ⟨(by omega),(by omega)⟩),tI⟩ ge)
theorem AfF (l:List Int) (hn:small l): ∀(d i:Nat) (s:Int),i+d=l.length→ -2147483647≤s∧s≤2147483647→
  Is cx (.loop 251 [0,1,0,1,1] 0 [vi s,.t (.sl 1 (l.map ti)),vi l.length,vi i] [])
   ⟨.exit 0,[vi ((l.drop i).foldl sumStep s),.t (.sl 1 (l.map ti)),vi l.length,vi l.length],[]⟩:=by
 unfold small at hn;intro d;induction d with
 |zero=>
  intro i s hi hs;rw [Aad (by omega)];refine za (gg [.b (decide ((i:Int)<(↑(zj l):Int))) zq] ⟨fP,tI⟩ (rT (a:=zl (jr 0) [vi s,V.t (T.sl 1 (zw ti l)),vi (↑(zj l):Int),vi (i:Int)] []) ?_))
  ((have hq:i=l.length:=by omega);subst hq;rfl)
 |succ d ih=>
  intro i s hi hs;have hlt:i<l.length:=by omega
  have ih1:=ih (i+1) (sumStep s (gt l i)) (by omega) Afg;clear ih;rw [Aaf hlt,wb];unfold sumStep at ih1⊢;have h2:= @Afg (gt l i);exact za (gg [.b (decide ((i:Int)<(↑(zj l):Int))) zg,.w (0≤(i:Int)),.n (zm (i:Int)) i,.g (zw ti l) i (ti (gt l i)),.a _ _,.i zy (s+held (gt l i)) (s+held (gt l i)),.a _ _,.i zy ((i:Int)+1) (↑(i+1):Int),.a _ _] ⟨tP,oW,nK,oH,o_a (Abo (gt l i)),oI,o_a (Abo (s+held (gt l i))),oI,o_a ih1,tI⟩ ge)
theorem Ags (l:List Int) (hn:small l):Fn cx 251 [.sl 1 (l.map ti)] (ti (sumH l)):=by
 have h:=AfF l hn l.length 0 0 (by omega) (by omega);rw [qr] at h;exact za (gg [.n (zj (zw ti l)) (zj l),.a _ _] ⟨oM,o_a h,tI⟩ ge)
theorem Ab2 (i:Input):Fn cx 125 [i.enc] (.bool i.right):=by
 refine za ?_;refine brp (p:=i.dx≥ -2) (by kernel_rfl) (fun h1=> ?_) (fun h1=> ?_)
 ·refine gg [.tt,.tt,.tt] tI ?_;refine brp (p:=i.dx≤2) (by kernel_rfl) (fun h2=> ?_) (fun h2=> ?_)
  ·refine gg [.tt,.tt,.tt] tI ?_;refine brp (p:=i.dy≥ -2) (by kernel_rfl) (fun h3=> ?_) (fun h3=> ?_)
   ·refine gg [.tt,.tt,.tt] tI (rT (a:=zl qm [vb (decide (i.dy≤2))] []) ?_)
    (simp_all [Input.right,within];(try (rw [jn];simp only [decide_eq_true_eq,zf];omega));(try (intros;omega)))
   ·refine gg [.ff,.ff,.ff] tI (rT (a:=zl qm [vb zq] []) ?_)
    (simp_all [Input.right,within];(try (rw [jn];simp only [decide_eq_true_eq,zf];omega));(try (intros;omega)))
  ·refine gg [.ff,.ff,.ff,.ff,.ff,.ff,.ff] tI (rT (a:=zl qm [vb zq] []) ?_)
   (simp_all [Input.right,within];(try (rw [jn];simp only [decide_eq_true_eq,zf];omega));(try (intros;omega)))
 ·refine gg [.ff,.ff,.ff,.ff,.ff,.ff,.ff,.ff,.ff,.ff,.ff] tI (rT (a:=zl qm [vb zq] []) ?_)
  (simp_all [Input.right,within];(try (rw [jn];simp only [decide_eq_true_eq,zf];omega));(try (intros;omega)))
theorem Ae2 (i:Input):Fn cx 53 [i.enc] (.bool i.right):=by
 refine za ?_;refine brp (p:=i.dx≥ -2) (by kernel_rfl) (fun h1=> ?_) (fun h1=> ?_)
 ·refine gg [.tt,.tt,.tt] tI ?_;refine brp (p:=i.dx≤2) (by kernel_rfl) (fun h2=> ?_) (fun h2=> ?_)
  ·refine gg [.tt,.tt,.tt] tI ?_;refine brp (p:=i.dy≥ -2) (by kernel_rfl) (fun h3=> ?_) (fun h3=> ?_)
   ·refine gg [.tt,.tt,.tt] tI (rT (a:=zl qm [vb (decide (i.dy≤2))] []) ?_)
    (simp_all [Input.right,within];(try (rw [jn];simp only [decide_eq_true_eq,zf];omega));(try (intros;omega)))
   ·refine gg [.ff,.ff,.ff] tI (rT (a:=zl qm [vb zq] []) ?_)
    (simp_all [Input.right,within];(try (rw [jn];simp only [decide_eq_true_eq,zf];omega));(try (intros;omega)))
  ·refine gg [.ff,.ff,.ff,.ff,.ff,.ff,.ff] tI (rT (a:=zl qm [vb zq] []) ?_)
   (simp_all [Input.right,within];(try (rw [jn];simp only [decide_eq_true_eq,zf];omega));(try (intros;omega)))
 ·refine gg [.ff,.ff,.ff,.ff,.ff,.ff,.ff,.ff,.ff,.ff,.ff] tI (rT (a:=zl qm [vb zq] []) ?_)
  (simp_all [Input.right,within];(try (rw [jn];simp only [decide_eq_true_eq,zf];omega));(try (intros;omega)))
theorem AdP (e:Entity) (i:Input) (he: -1000000≤e.age∧e.age≤1000000):Is cx (.call 240 [.t e.enc,.t i.enc] []) ⟨.ret,[.t (steerE e i).1.enc,vb (steerE e i).2],[]⟩:=by
 have hR:=Ab2 i;have hm:= @Aky e.age 1;have hm2:= @Aky 1 e.age;have hmm:maxI 1 e.age=maxI e.age 1:=by unfold maxI;split<;>split<;>omega
 by_cases hk:e.kind=1
 ·cases hr:i.right with
  |true=>
   rw [hr] at hR;have hi:=hr;simp only [Input.right,zf,Aah] at hi;cases hf:i.fire with
   |true=>
    by_cases ha:e.age=0
    ·have e1:steerE e i=({e with vx:=i.dx*32,vy:=i.dy*32,age:=6},zg):=by simp [steerE,hk,hr,hf,ha]
     rw [e1];refine za (gg [.b (e.kind !=1) zq,.ff,.a _ _,.ff,.ff,.b (!Bool.true) zq,.i zy (i.dx*32) (i.dx*32)] ⟨fC,o_a hR,bK,oI,tI⟩ (bO ?_ ?_))
     all_goals
      exact gg [.i zy (i.dy*32) (i.dy*32),.b i.fire zg,.tt,.tt,.tt,.b (e.age==0) zg] ⟨oI,tB,tQ,tI⟩ ge
    ·have e1:steerE e i=({e with vx:=i.dx*32,vy:=i.dy*32,age:=maxI e.age 1-1},zq):=by simp [steerE,hk,hr,ha]
     rw [e1];refine za (gg [.b (e.kind !=1) zq,.ff,.a _ _,.ff,.ff,.b (!Bool.true) zq,.i zy (i.dx*32) (i.dx*32)] ⟨fC,o_a hR,bK,oI,tI⟩ (bO ?_ ?_))
     all_goals
      refine gg [.i zy (i.dy*32) (i.dy*32),.b i.fire zg,.tt,.tt,.tt,.b (e.age==0) zq,.s (ti (maxI e.age 1)),.i zy (maxI e.age 1-1) (maxI e.age 1-1)] ⟨oI,tB,fQ,oI,tI⟩ (rT (a:=zl qm [V.t (qe [ti e.id,ti e.kind,ti e.x,ti e.y,ti (i.dx*32),ti (i.dy*32),ti e.health,ti (maxI e.age 1-1),ti e.owner]),vb zq] []) ?_)
      (first|rfl|(simp [zk,hmm];done))
   |false=>
    have e1:steerE e i=({e with vx:=i.dx*32,vy:=i.dy*32,age:=maxI e.age 1-1},zq):=by simp [steerE,hk,hr,hf]
    rw [e1];refine za (gg [.b (e.kind !=1) zq,.ff,.a _ _,.ff,.ff,.b (!Bool.true) zq,.i zy (i.dx*32) (i.dx*32)] ⟨fC,o_a hR,bK,oI,tI⟩ (bO ?_ ?_))
    all_goals
     refine gg [.i zy (i.dy*32) (i.dy*32),.b i.fire zq,.ff,.ff,.ff,.ff,.s (ti (maxI e.age 1)),.i zy (maxI e.age 1-1) (maxI e.age 1-1)] ⟨oI,fB,oI,tI⟩ (rT (a:=zl qm [V.t (qe [ti e.id,ti e.kind,ti e.x,ti e.y,ti (i.dx*32),ti (i.dy*32),ti e.health,ti (maxI e.age 1-1),ti e.owner]),vb zq] []) ?_)
     (first|rfl|(simp [zk,hmm];done))
  |false=>
   rw [hr] at hR;have e1:steerE e i=(e,zq):=by simp [steerE,hr]
   rw [e1];exact za (gg [.b (e.kind !=1) zq,.ff,.a _ _,.ff,.ff,.b (!Bool.false) zg] ⟨fC,o_a hR,bK,tI⟩ ge)
 ·have e1:steerE e i=(e,zq):=by simp [steerE,hk]
  rw [e1];exact za (gg [.b (e.kind !=1) zg,.tt,.tt,.tt,.tt] ⟨tC,tI⟩ ge)
theorem Ab3 (d:Int):Fn cx 280 [ti d] (ti (paceD d)):=by
 have h:= @Ads d (-1) 1 (by decide);exact za (gg [.a _ _,.i zy (clamp d (-1) 1*160) (clamp d (-1) 1*160)] ⟨o_a (Aa5 d (-1) 1),oI,tI⟩ ge)
theorem AdO (e:Entity) (i:Input) (id:Int):Fn cx 242 [e.enc,i.enc,ti id] ((shootE e i id).enc):=by
 refine za (bO ?_ ?_)
 ·refine gg [.a _ _] ⟨o_a (Ab3 i.dx),tI⟩ (bO ?_ ?_)
  all_goals
   refine gg [.a _ _] ⟨o_a (Ab3 i.dy),tI⟩ ?_;refine bre (x:=paceD i.dx) (y:=0) (by kernel_rfl) (fun h1=> ?_) (fun h1=> ?_)
   ·refine gg [.tt,.tt,.tt] tI ?_;refine bre (x:=paceD i.dy) (y:=0) (by kernel_rfl) (fun h2=> ?_) (fun h2=> ?_)
    ·refine rT (a:=zl qm [V.t (qe [ti id,ti 2,ti e.x,ti e.y,ti 160,ti (paceD i.dy),ti 1,ti 0,ti e.id])] []) ?_
     (unfold shootE;first|(rw [if_pos (by simp_all)];rfl)|(rw [if_neg (by simp_all)];rfl))
    ·refine rT (a:=zl qm [V.t (qe [ti id,ti 2,ti e.x,ti e.y,ti (paceD i.dx),ti (paceD i.dy),ti 1,ti 0,ti e.id])] []) ?_
     (unfold shootE;first|(rw [if_pos (by simp_all)];rfl)|(rw [if_neg (by simp_all)];rfl))
   ·refine gg [.ff,.ff,.ff,.ff] tI (rT (a:=zl qm [V.t (qe [ti id,ti 2,ti e.x,ti e.y,ti (paceD i.dx),ti (paceD i.dy),ti 1,ti 0,ti e.id])] []) ?_)
    (unfold shootE;first|(rw [if_pos (by simp_all)];rfl)|(rw [if_neg (by simp_all)];rfl))
 ·refine gg [.a _ _,.a _ _] ⟨o_a (Ab3 i.dx),o_a (Ab3 i.dy),tI⟩ ?_;refine bre (x:=paceD i.dx) (y:=0) (by kernel_rfl) (fun h1=> ?_) (fun h1=> ?_)
  ·refine gg [.tt,.tt,.tt] tI ?_;refine bre (x:=paceD i.dy) (y:=0) (by kernel_rfl) (fun h2=> ?_) (fun h2=> ?_)
   ·refine rT (a:=zl qm [V.t (qe [ti id,ti 2,ti e.x,ti e.y,ti 160,ti (paceD i.dy),ti 1,ti 0,ti e.id])] []) ?_
    (unfold shootE;first|(rw [if_pos (by simp_all)];rfl)|(rw [if_neg (by simp_all)];rfl))
   ·refine rT (a:=zl qm [V.t (qe [ti id,ti 2,ti e.x,ti e.y,ti (paceD i.dx),ti (paceD i.dy),ti 1,ti 0,ti e.id])] []) ?_
    (unfold shootE;first|(rw [if_pos (by simp_all)];rfl)|(rw [if_neg (by simp_all)];rfl))
  ·refine gg [.ff,.ff,.ff,.ff] tI (rT (a:=zl qm [V.t (qe [ti id,ti 2,ti e.x,ti e.y,ti (paceD i.dx),ti (paceD i.dy),ti 1,ti 0,ti e.id])] []) ?_)
   (unfold shootE;first|(rw [if_pos (by simp_all)];rfl)|(rw [if_neg (by simp_all)];rfl))
theorem Af2 (l:List Int) (hn:small l):Fn cx 282 [.sl 1 (l.map ti)] (ti (sumH l)):=by
 exact za (gg [.a _ _] ⟨o_a (Ags l (by assumption)),tI⟩ ge)
theorem Akp (c:Config) (e:Entity) (he: -1000000≤e.age∧e.age≤1000000):Is cx (.call 245 [.t c.enc,.t e.enc] []) ⟨.ret,[.t (goE c e).1.enc,vb (goE c e).2],[]⟩:=by
 have hR:=AbP c e;cases hr:e.right c with
 |false=>
  rw [hr] at hR;have e1:goE c e=(Entity.zero,zq):=by simp [goE,hr]
  rw [e1];exact za (gg [.a _ _,.b (!Bool.false) zg] ⟨o_a hR,bK,tI⟩ ge)
 |true=>
  rw [hr] at hR;have h1:= @Config.width_le c;have h2:= @Config.height_le c;have hx:=Af2 [e.x,e.vx] (by simp [small]);have hy:=Af2 [e.y,e.vy] (by simp [small]);have hI:=Aco c (sumH [e.x,e.vx]) (sumH [e.y,e.vy]);by_cases hk:e.kind=2
  ·by_cases ha:e.age+1>12
   ·have e1:goE c e=(Entity.zero,zq):=by simp [goE,hr,hk,ha]
    rw [e1];refine za (gg [.a _ _,.b (!Bool.true) zq] ⟨o_a hR,bK,tI⟩ (bO (bO ?_ ?_) ?_))
    all_goals
     exact gg [.a _ _,.a _ _,.b (e.kind==2) zg,.i zy (e.age+1) (e.age+1),.b (decide (e.age+1>12)) zg,.tt,.tt,.tt,.tt,.tt,.tt] ⟨o_a hx,o_a hy,tQ,oI,tA,tI⟩ ge
   ·cases hi:c.inside (sumH [e.x,e.vx]) (sumH [e.y,e.vy]) with
    |true=>
     rw [hi] at hI;have e1:goE c e=({e with x:=clamp (sumH [e.x,e.vx]) 0 (c.width-1),y:=clamp (sumH [e.y,e.vy]) 0 (c.height-1),age:=e.age+1},zg):=by simp [goE,hr,hk,ha,hi]
     rw [e1];refine za (gg [.a _ _,.b (!Bool.true) zq] ⟨o_a hR,bK,tI⟩ (bO (bO ?_ ?_) ?_))
     all_goals
      exact gg [.a _ _,.a _ _,.b (e.kind==2) zg,.i zy (e.age+1) (e.age+1),.b (decide (e.age+1>12)) zq,.ff,.ff,.ff,.a _ _,.ff,.ff,.b (!Bool.true) zq,.a _ _,.i zy (xi c-1) (xi c-1),.a _ _,.a _ _] ⟨o_a hx,o_a hy,tQ,oI,fA,o_a hI,bK,o_a (AbG c),oI,o_a (Aa5 (sumH [e.x,e.vx]) 0 (xi c-1)),o_a (Abz c),tI⟩ (gg [.i zy (xb c-1) (xb c-1),.a _ _] ⟨oI,o_a (Aa5 (sumH [e.y,e.vy]) 0 (xb c-1)),tI⟩ ge)
    |false=>
     rw [hi] at hI;have e1:goE c e=(Entity.zero,zq):=by simp [goE,hr,hk,hi]
     rw [e1];refine za (gg [.a _ _,.b (!Bool.true) zq] ⟨o_a hR,bK,tI⟩ (bO (bO ?_ ?_) ?_))
     all_goals
      exact gg [.a _ _,.a _ _,.b (e.kind==2) zg,.i zy (e.age+1) (e.age+1),.b (decide (e.age+1>12)) zq,.ff,.ff,.ff,.a _ _,.ff,.ff,.b (!Bool.false) zg] ⟨o_a hx,o_a hy,tQ,oI,fA,o_a hI,bK,tI⟩ ge
  ·have e1:goE c e=({e with x:=clamp (sumH [e.x,e.vx]) 0 (c.width-1),y:=clamp (sumH [e.y,e.vy]) 0 (c.height-1)},zg):=by simp [goE,hr,hk]
   rw [e1];refine za (gg [.a _ _,.b (!Bool.true) zq] ⟨o_a hR,bK,tI⟩ (bO (bO ?_ ?_) ?_))
   all_goals
    exact gg [.a _ _,.a _ _,.b (e.kind==2) zq,.a _ _,.i zy (xi c-1) (xi c-1),.a _ _,.a _ _,.i zy (xb c-1) (xb c-1),.a _ _] ⟨o_a hx,o_a hy,fQ,o_a (AbG c),oI,o_a (Aa5 (sumH [e.x,e.vx]) 0 (xi c-1)),o_a (Abz c),oI,o_a (Aa5 (sumH [e.y,e.vy]) 0 (xb c-1)),tI⟩ ge
end Go.Eva.S8
namespace Go.Eva
theorem Anz {c:Config} {e:Entity} (h:(goE c e).2=true):(goE c e).1.id=e.id∧(goE c e).1.kind=e.kind∧(goE c e).1.health=e.health∧(goE c e).1.owner=e.owner:=by
 unfold goE at h⊢;split
 ·rename_i h1;rw [if_pos h1] at h;simp at h
 ·rename_i h1;rw [if_neg h1] at h;split
  ·rename_i h2;rw [if_pos h2] at h;split
   ·rename_i h3;rw [if_pos h3] at h;simp at h
   ·simp
  ·simp
theorem Aei {c:Config} {e:Entity} (h:e.right c=true):c.right=true∧(0≤e.x∧e.x<c.width)∧(0≤e.y∧e.y<c.height):=by
 simp only [Entity.right,zf] at h;have hr:=Config.inside_right h.1;have:=h.1;simp only [gv,zf,Aah] at this;exact ⟨hr,by omega,by omega⟩
theorem Am9 {c:Config} {e:Entity} (h:e.right c=true):(-160≤e.vx∧e.vx≤160)∧(-160≤e.vy∧e.vy≤160)∧(e.kind=1∨e.kind=2∨e.kind=3)∧(e.kind=3→e.vx=0∧e.vy=0):=by
 simp only [Entity.right,zf] at h;have h2:=h.2;by_cases k1:e.kind=1
 ·rw [if_pos k1] at h2;simp only [zf,Aah,decide_eq_true_eq] at h2;omega
 ·rw [if_neg k1] at h2;by_cases k2:e.kind=2
  ·rw [if_pos k2] at h2;simp only [zf,Aah,decide_eq_true_eq,pace,Bool.or_eq_true] at h2;omega
  ·rw [if_neg k2] at h2;by_cases k3:e.kind=3
   ·rw [if_pos k3] at h2;simp only [zf,Aah,decide_eq_true_eq] at h2;omega
   ·rw [if_neg k3] at h2;contradiction
theorem AkM {v hi:Int} (h:0≤v∧v≤hi):clamp v 0 hi=v:=by unfold clamp;rw [if_neg (by omega),if_neg (by omega)]
theorem Ahv {v d hi:Int} (h:0≤v∧v≤hi) (hd: -160≤d∧d≤160):v-160≤clamp (v+d) 0 hi∧clamp (v+d) 0 hi≤v+160:=by unfold clamp;split<;>(try split)<;>omega
theorem Ali {c:Config} {e:Entity} (h:(goE c e).2=true):(goE c e).1.right c=true∧e.right c=true∧(e.x-160≤(goE c e).1.x∧(goE c e).1.x≤e.x+160)∧(e.y-160≤(goE c e).1.y∧(goE c e).1.y≤e.y+160):=by
 have hr:e.right c=true:=by
  cases hq:e.right c with
  |true=>rfl
  |false=>unfold goE at h;rw [if_pos hq] at h;simp at h
 obtain ⟨hc,hx,hy⟩:=Aei hr;obtain ⟨vx,vy,hk,_⟩:=Am9 hr;have hw:= @Config.width_le c;have hh:= @Config.height_le c;have ax:sumH [e.x,e.vx]=e.x+e.vx:=AmL (by omega) (by omega);have ay:sumH [e.y,e.vy]=e.y+e.vy:=AmL (by omega) (by omega);have cx:=Ahv (v:=e.x) (d:=e.vx) (hi:=c.width-1) (by omega) vx;have cy:=Ahv (v:=e.y) (d:=e.vy) (hi:=c.height-1) (by omega) vy;have bx:=Ads (v:=e.x+e.vx) (lo:=0) (hi:=c.width-1) (by omega);have bY:=Ads (v:=e.y+e.vy) (lo:=0) (hi:=c.height-1) (by omega);refine ⟨?_,hr,?_⟩
 ·have hin:c.inside (clamp (e.x+e.vx) 0 (c.width-1)) (clamp (e.y+e.vy) 0 (c.height-1))=true:=by
   simp only [gv,zf,Aah];exact ⟨bx,bY⟩
  unfold goE at h⊢;rw [ax,ay] at h⊢;rw [if_neg (by simp [hr])] at h⊢;simp only [Entity.right,zf] at hr;have hr2:=hr.2;by_cases k2:e.kind=2
  ·rw [if_pos k2] at h⊢;by_cases k3:e.age+1>12∨c.inside (e.x+e.vx) (e.y+e.vy)=false
   ·rw [if_pos k3] at h;simp at h
   ·rw [if_neg k3];simp only [Entity.right,hin,u4,if_neg (show¬e.kind=1 by omega),if_pos k2] at hr2⊢;simp only [zf,Aah] at hr2⊢;refine ⟨⟨hr2.1.1,?_⟩,hr2.2⟩;have:=hr2.1.2;omega
  ·rw [if_neg k2];simp only [Entity.right,hin,u4];exact hr2
 ·unfold goE at h⊢;rw [ax,ay] at h⊢;rw [if_neg (by simp [hr])] at h⊢;by_cases k2:e.kind=2
  ·rw [if_pos k2] at h⊢;by_cases k3:e.age+1>12∨c.inside (e.x+e.vx) (e.y+e.vy)=false
   ·rw [if_pos k3] at h;simp at h
   ·rw [if_neg k3];exact ⟨cx,cy⟩
  ·rw [if_neg k2];exact ⟨cx,cy⟩
def weak (c:Config) (e:Entity):Prop:=({e with health:=1}:Entity).right c=true∧e.health≤100∧(e.kind≠1→e.health=1)
theorem AhQ {c:Config} {e:Entity} (h:e.right c=true):weak c e∧1≤e.health:=by
 unfold weak;simp only [Entity.right,zf] at h⊢;by_cases k1:e.kind=1
 ·simp only [k1,if_true,zf,Aah,decide_eq_true_eq] at h⊢;obtain ⟨h0,h⟩:=h;refine ⟨⟨⟨h0,?_⟩,?_,fun q=>absurd rfl q⟩,?_⟩<;>omega
 ·simp only [if_neg k1] at h⊢;by_cases k2:e.kind=2
  ·simp only [if_pos k2,zf,decide_eq_true_eq] at h⊢;simp only [h,and_self,true_and,implies_true,and_true];omega
  ·simp only [if_neg k2] at h⊢;by_cases k3:e.kind=3
   ·simp only [if_pos k3,zf,decide_eq_true_eq] at h⊢;simp only [h,and_self,true_and,implies_true,and_true];omega
   ·simp [k3] at h
structure Moved (c:Config) (r:Int) (l:List Entity):Prop where
 srt:Srt l
 things:things l≤24
 ents: ∀e∈l,weak c e∧has (c.near r) (c.of e.x e.y)=true
theorem AhZ {l m:List Entity} (h:l.Sublist m):things l≤things m:=by
 unfold things;have:=h.countP_le (p:=fun e:Entity=>e.kind !=1);omega
end Go.Eva
namespace Go.Eva
theorem Aj1 {cols r m:Int}: ∀ {d:Nat} {n:Int},has (nearR cols r n d) m=true↔(n≤m∧m<n+d)∧isNear cols r m=true
 |0,n=>by simp [nearR,has];omega
 |d+1,n=>by
  have ih:= @Aj1 cols r m d (n+1);unfold has at ih⊢;rw [nearR,List.any_append,Bool.or_eq_true,ih];constructor
  ·rintro (h|⟨h1,h2⟩)
   ·split at h
    ·rename_i hn;simp only [List.any_cons,List.any_nil,Bool.or_false,beq_iff_eq] at h;subst h;exact ⟨by omega,hn⟩
    ·simp at h
   ·exact ⟨by omega,h2⟩
  ·rintro ⟨h1,h2⟩;by_cases hnm:n=m
   ·subst hnm;left;rw [if_pos h2];simp
   ·right;exact ⟨by omega,h2⟩
theorem AiB {c:Config} {r m:Int} (h:c.is r=true):has (c.near r) m=true↔(0≤m∧m<c.cols*c.rows)∧isNear c.cols r m=true:=by
 have hr:=Config.is_right h;have hi:=(Config.is_iff hr).1 h;obtain ⟨hc,hrr,_⟩:=ju.1 hr;have hN:c.near r=nearR c.cols r 0 (c.cols*c.rows).toNat:=by rw [Aqg hc hrr hi];simp [Config.near,h]
 rw [hN,Aj1];have:=u5 hr;constructor
 ·rintro ⟨h1,h2⟩;exact ⟨by omega,h2⟩
 ·rintro ⟨h1,h2⟩;exact ⟨by omega,h2⟩
theorem Aol {a q p:Int} (ha:0<a) (hp:0≤p∧p<a) (hq:0≤q):(q*a+p).tmod a=p∧(q*a+p).tdiv a=q:=by
 have h0:0≤q*a:=fq hq (by omega);rw [Int.tmod_eq_emod_of_nonneg (by omega),yh (by omega)];constructor
 ·rw [Int.add_comm,Int.add_mul_emod_self_right,Int.emod_eq_of_lt hp.1 hp.2]
 ·rw [Int.add_comm,Int.add_mul_ediv_right _ _ (by omega),Int.ediv_eq_zero_of_lt hp.1 hp.2];omega
theorem of_eq {c:Config} {x y:Int} (hr:c.right=true) (hx:0≤x∧x<c.width) (hy:0≤y∧y<c.height):c.of x y=y.tdiv 1024*c.cols+x.tdiv 1024∧(0≤x.tdiv 1024∧x.tdiv 1024<c.cols)∧(0≤y.tdiv 1024∧y.tdiv 1024<c.rows):=by
 have h:=ju.1 hr;have hw:c.width=c.cols*1024:=by simp [xi,hr]
 have hh:c.height=c.rows*1024:=by simp [xb,hr]
 refine ⟨?_,Ac5 (by omega) hx.1 (by omega),Ac5 (by omega) hy.1 (by omega)⟩;unfold uw;rw [if_pos hr,AkM (by omega),AkM (by omega)]
theorem of_is {c:Config} {x y:Int} (hr:c.right=true) (hx:0≤x∧x<c.width) (hy:0≤y∧y<c.height):c.is (c.of x y)=true:=by
 obtain ⟨h1,h2,h3⟩:=of_eq hr hx hy;obtain ⟨hc,hrr,_⟩:=ju.1 hr;rw [Config.is_iff hr,h1];have h4:y.tdiv 1024*c.cols≤(c.rows-1)*c.cols:=Int.mul_le_mul_of_nonneg_right (by omega) (by omega);have h5:0≤y.tdiv 1024*c.cols:=fq (by omega) (by omega);have h6:(c.rows-1)*c.cols=c.cols*c.rows-c.cols:=by rw [Int.sub_mul,Int.one_mul,Int.mul_comm]
 omega
theorem AnL {c:Config} {x y u v:Int} (hr:c.right=true) (hx:0≤x∧x<c.width) (hy:0≤y∧y<c.height) (hu:0≤u∧u<c.width) (hv:0≤v∧v<c.height)
  (h1:x-160≤u∧u≤x+160) (h2:y-160≤v∧v≤y+160):has (c.near (c.of x y)) (c.of u v)=true:=by
 rw [AiB (of_is hr hx hy)];have hi:=(Config.is_iff hr).1 (of_is hr hu hv);refine ⟨hi,?_⟩;obtain ⟨a1,a2,a3⟩:=of_eq hr hx hy;obtain ⟨b1,b2,b3⟩:=of_eq hr hu hv;obtain ⟨hc,hrr,_⟩:=ju.1 hr;have p:=Aol (a:=c.cols) (q:=y.tdiv 1024) (p:=x.tdiv 1024) (by omega) a2 a3.1;have q:=Aol (a:=c.cols) (q:=v.tdiv 1024) (p:=u.tdiv 1024) (by omega) b2 b3.1;unfold isNear;rw [a1,b1,p.1,p.2,q.1,q.2,decide_eq_true_eq];rw [yh hx.1,yh hy.1,yh hu.1,yh hv.1];omega
theorem AnK {c:Config} {r:Int} (h:c.is r=true):has (c.near r) r=true:=by
 rw [AiB h];exact ⟨(Config.is_iff (Config.is_right h)).1 h,by simp [isNear]⟩
end Go.Eva
namespace Go.Eva
theorem Akv {α:Type} [Inhabited α] {l:List α} {i:Nat} (h:i<l.length):l.set i (gt l i)=l:=by
 rw [gt_eq h];exact List.set_getElem_self h
def core (e:Entity):Entity:=if e.kind=1 then {e with health:=0} else e
theorem Agg {a b:Entity} (h:core a=core b):a.id=b.id∧a.kind=b.kind∧a.x=b.x∧a.y=b.y∧a.vx=b.vx∧a.vy=b.vy∧a.age=b.age∧a.owner=b.owner∧(a.kind≠1→a=b):=by
 have hk: ∀e:Entity,(core e).kind=e.kind:=fun e=>by unfold core;split<;>rfl
 have e1:a.kind=b.kind:=by rw [←hk a,←hk b,h]
 unfold core at h;by_cases k:a.kind=1
 ·rw [if_pos k,if_pos (by omega)] at h;cases a;cases b;simp only [Entity.mk.injEq] at h⊢;simp_all
 ·rw [if_neg k,if_neg (by omega)] at h;subst h;simp
theorem Agh {e:Entity} {n:Int} (h:e.kind=1):core {e with health:=n}=core e:=by
 unfold core;simp only [h,if_true]
theorem AoD {l:List Entity} {k:Nat} {n:Int} (hk:k<l.length) (h:(gt l k).kind=1):(l.set k {gt l k with health:=n}).map core=l.map core:=by
 rw [gq,Agh h];apply vq;intro i;rw [ue];split
 ·rename_i hik;subst hik;rw [wj,if_pos hk,qb,Aa7 hk,ul]
 ·rfl
theorem AkR {l m:List Entity} (h:l.map core=m.map core) {e:Entity} (he:e∈l): ∃x∈m,core e=core x:=by
 have:core e∈l.map core:=List.mem_map_of_mem he;rw [h] at this;obtain ⟨x,h1,h2⟩:=vg.1 this;exact ⟨x,h1,h2.symm⟩
theorem AkQ {l m:List Entity} (h:l.map core=m.map core):l.map xm=m.map xm:=by
 have hk: ∀e:Entity,(core e).id=e.id:=fun e=>by unfold core;split<;>rfl
 have h2:=congrArg (zw xm) h;rw [yf,yf] at h2;have e:xm∘core=xm:=funext hk
 rwa [e] at h2
theorem Ami {l m:List Entity} (h:l.map core=m.map core):l.map f9=m.map f9:=by
 have hk: ∀e:Entity,(core e).kind=e.kind:=fun e=>by unfold core;split<;>rfl
 have h2:=congrArg (zw f9) h;rw [yf,yf] at h2;have e:f9∘core=f9:=funext hk
 rwa [e] at h2
theorem Agi {l m:List Entity} (h:l.map core=m.map core):things l=things m:=by
 have h2:=Ami h;have e: ∀l:List Entity,things l=((l.map f9).countP fun k=>k !=1:Nat):=fun l=>by
  unfold things;rw [List.countP_map];rfl
 rw [e,e,h2]
theorem Ana {l m:List Entity} (h:l.map core=m.map core) {i:Nat} (hi:i<l.length):core (gt l i)=core (gt m i):=by
 have hl:l.length=m.length:=by simpa using congrArg zj h
 have:=congrArg (fun x=>x[i]?) h;simp only [qb,Aa7 hi,Aa7 (l:=m) (i:=i) (by omega),ul,Option.some.injEq] at this;exact this
theorem AjZ {c:Config} {a b:Entity} (h:core a=core b) (hb:weak c b) (ha:a.kind=1→a.health≤100):weak c a:=by
 obtain ⟨h1,h2,h3,h4,h5,h6,h7,h8,h9⟩:=Agg h;by_cases k:a.kind=1
 ·refine ⟨?_,ha k,fun q=>absurd k q⟩;have:=hb.1;have e:({a with health:=1}:Entity)= {b with health:=1}:=by cases a;cases b;simp_all
  rw [e];exact this
 ·rw [h9 k];exact hb
theorem Am4 {c:Config} {r:Int} {l m:List Entity} (h:l.map core=m.map core) (hm:Moved c r m) (hh: ∀e∈l,e.kind=1→e.health≤100):Moved c r l:=by
 refine ⟨AkA (AkQ h).symm hm.srt,by rw [Agi h];exact hm.things,fun e he=> ?_⟩;obtain ⟨x,hx,hc⟩:=AkR h he;obtain ⟨h1,h2⟩:=hm.ents x hx;refine ⟨AjZ hc h1 (hh e he),?_⟩;obtain ⟨_,_,k3,k4,_⟩:=Agg hc;rw [k3,k4];exact h2
section
variable {kind far:Int} {other:Entity→Entity→Bool} {turn:Int→Int}
theorem Apa {out:List Entity} {gone:List Bool} {i:Nat} (hk:kind≠1) (hi:i<out.length) (hg:gone.length=out.length) (ht: ∀n,n≤100→turn n≤100) (hh: ∀e∈out,e.kind=1→e.health≤100) (hf: ∀j,gt gone j=true→(gt out j).kind=kind):
  (meet1 kind far other turn out gone i).1.map core=out.map core∧(∀e∈(meet1 kind far other turn out gone i).1,e.kind=1→e.health≤100)∧
   (meet1 kind far other turn out gone i).2.length=out.length∧ ∀j,gt (meet1 kind far other turn out gone i).2 j=true→(gt (meet1 kind far other turn out gone i).1 j).kind=kind:=by
 unfold meet1;split
 ·rename_i hki;split
  ·rename_i k hq;obtain ⟨hk1,hk2,_⟩:=j8.1 hq;simp only [meetP,zf,decide_eq_true_eq] at hk2;rw [←gt_eq hk1] at hk2;have hc:=AoD (n:=turn (gt out k).health) hk1 hk2.1;refine ⟨hc,fun e he hek=> ?_,by simpa using hg,fun j hj=> ?_⟩
   ·rcases Aop he with rfl|he
    ·exact ht _ (hh _ (Aat hk1) hk2.1)
    ·exact hh e he hek
   ·have hlen:(out.set k {gt out k with health:=turn (gt out k).health}).length=out.length:=by simp
    by_cases hij:j=i
    ·subst hij;have:=Agg (Ana hc (i:=j) (by rw [hlen];exact hi));simp only;rw [this.2.1];exact hki
    ·simp only at hj⊢;rw [An4 (by omega),if_neg hij] at hj;have hj2:=hf j hj;by_cases hjl:j<out.length
     ·have:=Agg (Ana hc (i:=j) (by rw [hlen];exact hjl));rw [this.2.1];exact hj2
     ·exfalso;unfold gt at hj;rw [List.getElem?_eq_none (by omega)] at hj;simp at hj
  ·exact ⟨rfl,hh,hg,hf⟩
 ·exact ⟨rfl,hh,hg,hf⟩
theorem Alu (hk:kind≠1) (ht: ∀n,n≤100→turn n≤100): ∀ {d i:Nat} {out:List Entity} {gone:List Bool},i+d=out.length→gone.length=out.length→(∀e∈out,e.kind=1→e.health≤100)→(∀j,gt gone j=true→(gt out j).kind=kind)→
  (meetN kind far other turn d i out gone).1.map core=out.map core∧(∀e∈(meetN kind far other turn d i out gone).1,e.kind=1→e.health≤100)∧
   (meetN kind far other turn d i out gone).2.length=out.length∧ ∀j,gt (meetN kind far other turn d i out gone).2 j=true→(gt (meetN kind far other turn d i out gone).1 j).kind=kind
 |0,i,out,gone,_,hg,hh,hf=>⟨rfl,hh,hg,hf⟩
 |d+1,i,out,gone,hi,hg,hh,hf=>by
  obtain ⟨h1,h2,h3,h4⟩:=Apa (far:=far) (other:=other) (turn:=turn) (i:=i) hk (by omega) hg ht hh hf;have hl:(meet1 kind far other turn out gone i).1.length=out.length:=by simpa using congrArg zj h1
  obtain ⟨k1,k2,k3,k4⟩:=Alu hk ht (d:=d) (i:=i+1) (by omega) (by omega) h2 h4;rw [meetN];exact ⟨k1.trans h1,k2,by omega,k4⟩
theorem AeD: ∀ {l:List Entity} {g:List Bool},(keepL l g).Sublist l
 | [],_=>by simp [keepL]
 |e::l,[]=>by simp [keepL]
 |e::l,b::g=>by
  rw [keepL];split
  ·exact (AeD (l:=l) (g:=g)).cons _
  ·exact (AeD (l:=l) (g:=g)).cons_cons _
theorem AeC: ∀ {l:List Entity} {g:List Bool},g.length=l.length→(∀j,gt g j=true→(gt l j).kind≠1)→(keepL l g).filter (fun e=>decide (e.kind=1))=l.filter fun e=>decide (e.kind=1)
 | [],_,_,_=>by simp [keepL]
 |e::l,[],h,_=>by simp at h
 |e::l,b::g,h,hf=>by
  rw [keepL,kg,AeC (l:=l) (g:=g) (by simpa using h) fun j hj=>hf (j+1) hj];split
  ·rename_i hb;have:=hf 0 hb;rw [xp,if_neg (by simpa [gt] using this)];simp
  ·rw [xp,xp];split<;>simp
end
structure Hit (l m:List Entity):Prop where
 sub: ∃k:List Entity,l.Sublist k∧k.map core=m.map core∧l.filter (fun e=>decide (e.kind=1))=k.filter fun e=>decide (e.kind=1)
 low: ∀e∈l,e.kind=1→e.health≤100
theorem Ajy {kind far:Int} {other:Entity→Entity→Bool} {turn:Int→Int} {l:List Entity} (hk:kind≠1) (ht: ∀n,n≤100→turn n≤100) (hh: ∀e∈l,e.kind=1→e.health≤100):Hit (meetL kind far other turn l) l:=by
 obtain ⟨h1,h2,h3,h4⟩:=Alu (far:=far) (other:=other) (turn:=turn) hk ht (d:=l.length) (i:=0) (out:=l) (gone:=zn l.length false) (by omega) (by simp) hh fun j hj=>by
  exfalso;unfold gt at hj;rw [yk] at hj;split at hj<;>simp at hj
 have hl:(meetN kind far other turn l.length 0 l (zn l.length false)).1.length=l.length:=by simpa using congrArg zj h1
 refine ⟨⟨_,AeD,h1,AeC (by omega) fun j hj=>by rw [h4 j hj];exact hk⟩,fun e he=>h2 e (AeD.subset he)⟩
theorem Hit.moved {c:Config} {r:Int} {l m:List Entity} (h:Hit l m) (hm:Moved c r m):Moved c r l:=by
 obtain ⟨⟨k,h1,h2,h3⟩,h4⟩:=h;refine ⟨(AkA (AkQ h2).symm hm.srt).sublist h1,?_,fun e he=> ?_⟩
 ·have:=AhZ h1;rw [Agi h2] at this;have:=hm.things;omega
 ·obtain ⟨x,hx,hc⟩:=AkR h2 (h1.subset he);obtain ⟨g1,g2⟩:=hm.ents x hx;refine ⟨AjZ hc g1 (h4 e he),?_⟩;obtain ⟨_,_,k3,k4,_⟩:=Agg hc;rw [k3,k4];exact g2
theorem ApB {k m:List Entity} (h:k.map core=m.map core):(k.filter fun e=>decide (e.kind=1)).map xm=(m.filter fun e=>decide (e.kind=1)).map xm:=by
 have hk: ∀e:Entity,(core e).kind=e.kind:=fun e=>by unfold core;split<;>rfl
 have hi: ∀e:Entity,(core e).id=e.id:=fun e=>by unfold core;split<;>rfl
 have e: ∀l:List Entity,(l.filter fun e=>decide (e.kind=1)).map xm=((l.map core).filter fun e=>decide (e.kind=1)).map xm:=fun l=>by
  rw [List.filter_map,yf];have e1:xm∘core=xm:=funext hi;have e2:(fun e:Entity=>decide (e.kind=1))∘core=fun e=>decide (e.kind=1):=funext fun e=>by simp [hk]
  rw [e1,e2]
 rw [e k,e m,h]
theorem Hit.players {l m:List Entity} (h:Hit l m):(l.filter fun e=>decide (e.kind=1)).map xm=(m.filter fun e=>decide (e.kind=1)).map xm:=by
 obtain ⟨⟨k,h1,h2,h3⟩,h4⟩:=h;rw [h3,ApB h2]
theorem AgU {l:List Entity} (hh: ∀e∈l,e.kind=1→e.health≤100):Hit (shotsL l) l:=
 Ajy (by decide) (fun n hn=>by
  unfold subH;have h1:held n≤100:=by unfold held clamp;split<;>(try split)<;>omega
  rw [show held 20=20 by decide];unfold held clamp at*;split<;>(try split)<;>omega) hh
theorem Alh {l:List Entity} (hh: ∀e∈l,e.kind=1→e.health≤100):Hit (gemsL l) l:=
 Ajy (by decide) (fun n hn=>by unfold minI;split<;>omega) hh
theorem Akf {bs:List Cross}: ∀ {l:List Entity},(∀e∈l,e.kind=1→e.health≤100)→(blastsL l bs).map core=l.map core∧ ∀e∈blastsL l bs,e.kind=1→e.health≤100:=by
 induction bs with
 |nil=>intro l h;exact ⟨rfl,h⟩
 |cons b bs ih=>
  intro l h;have h1:(l.map (hurtE b)).map core=l.map core:=by
   rw [yf];congr 1;funext e;simp only [Function.comp,hurtE];split
   ·rename_i hq;exact Agh hq.2.1
   ·rfl
  have h2: ∀e∈l.map (hurtE b),e.kind=1→e.health≤100:=by
   intro e he hk;obtain ⟨x,hx,rfl⟩:=vg.1 he;unfold hurtE at hk⊢;split
   ·rename_i hq;have:=h x hx hq.2.1;simp only [subH];have h1:held x.health≤100:=by unfold held clamp;split<;>(try split)<;>omega
    rw [show held 10=10 by decide];unfold held clamp at*;split<;>(try split)<;>omega
   ·rename_i hq;rw [if_neg hq] at hk;exact h x hx hk
  obtain ⟨k1,k2⟩:=ih h2;exact ⟨k1.trans h1,k2⟩
end Go.Eva
namespace Go.Eva.S8
theorem AdM (e:Entity) (x y far:Int):Fn cx 246 [e.enc,ti x,ti y,ti far] (.bool (nearE e x y far)):=by
 exact za (gg [.a _ _] ⟨o_a (Akn e.x e.y x y),tI⟩ ge)
theorem AfJ (t p:Entity) (g:Nat) (other:Entity→Entity→Bool) (far:Int) (hb:isFnB cx g=zg) (hg:Fn cx g [t.enc,p.enc] (.bool (other t p))):
  Fn cx 285 [p.enc,.ip 1 (.clo g []) 0,.ip 9 t.enc 0,.ip 1 (ti far) 0] (.bool (meetP far other t p)):=by
 have hn:=AdM p t.x t.y far;by_cases hk:p.kind=1
 ·cases ho:other t p with
  |true=>
   rw [ho] at hg;refine za (gg [.b (p.kind==1) zg,.tt,.tt,.tt,.w (isFnB cx g=zg),.a _ _,.tt,.tt,.tt,.tt,.tt,.tt,.tt,.tt,.a _ _,.tt] ⟨tQ,oA,o_a hg,o_a hn,tI⟩ (rT (a:=zl qm [vb (nearE p t.x t.y far)] []) ?_));simp [meetP,hk,ho]
  |false=>
   rw [ho] at hg;refine za (gg [.b (p.kind==1) zg,.tt,.tt,.tt,.w (isFnB cx g=zg),.a _ _,.tt,.ff,.ff,.ff,.ff,.ff,.ff,.ff,.ff] ⟨tQ,oA,o_a hg,tI⟩ (rT (a:=zl qm [vb zq] []) ?_));simp [meetP,hk,ho]
 ·refine za (gg [.b (p.kind==1) zq,.ff,.ff,.ff,.ff,.ff,.ff,.ff,.ff,.ff,.ff,.ff,.ff] ⟨fQ,tI⟩ (rT (a:=zl qm [vb zq] []) ?_));simp [meetP,hk]
theorem Ad6 (kind far:Int) (g h:Nat) (other:Entity→Entity→Bool) (turn:Int→Int) (n:Nat) (hn:n≤1000000) (hb:isFnB cx g=zg) (hb2:isFnB cx h=zg)
  (hg: ∀t p:Entity,Fn cx g [t.enc,p.enc] (.bool (other t p))) (hh: ∀v:Int,Fn cx h [ti v] (ti (turn v))): ∀(d i:Nat) (out:List Entity) (gone:List Bool),i+d=n→out.length=n→gone.length=n→
  Is cx (.loop 248 [0,1,0,1,1,1] 0 [vi kind,.t (.clo h []),.ptr 0 0 0,.ptr 1 0 0,.all 2 zx,.all 3 zx,.all 2 zx,vi n,vi i] [.one 1 (.t (ti far)) zq,.one 1 (.t (.clo g [])) zq,.arr 9 (out.map zk) zx zq,.arr 1 (gone.map zi) (zb 0) zq])
   ⟨.exit 0,[vi kind,.t (.clo h []),.ptr 0 0 0,.ptr 1 0 0,.all 2 zx,.all 3 zx,.all 2 zx,vi n,vi n],[.one 1 (.t (ti far)) zq,.one 1 (.t (.clo g [])) zq,.arr 9 ((meetN kind far other turn d i out gone).1.map zk) zx zq,.arr 1 ((meetN kind far other turn d i out gone).2.map zi) (zb 0) zq]⟩:=by
 intro d;induction d with
 |zero=>
  intro i out gone hi ho hgo;unfold meetN;refine za (gg [.b (decide ((i:Int)<(n:Int))) zq] ⟨fP,tI⟩ (rT (a:=zl (jr 0) [vi kind,V.t (pe h []),yn 0 0 0,yn 1 0 0,xz 2 zx,xz 3 zx,xz 2 zx,vi (n:Int),vi (i:Int)] [vh 1 (vi far) zq,vh 1 (V.t (pe g [])) zq,jy 9 (zw zk out) zx zq,jy 1 (zw zi gone) (zb 0) zq]) ?_))
  ((have hq:i=n:=by omega);subst hq;rfl)
 |succ d ih=>
  intro i out gone hi ho hgo;rw [meetN];have hlt:i<out.length:=by omega
  by_cases hk:(gt out i).kind=kind
  ·have hI:=Aay out 285 [.ip 1 (.clo g []) 0,.ip 9 (gt out i).enc 0,.ip 1 (ti far) 0] (meetP far other (gt out i)) (by kernel_rfl) (by unfold small;omega) (fun p _=>AfJ (gt out i) p g other far hb (hg _ _));cases hq:out.findIdx? (meetP far other (gt out i)) with
   |some k=>
    have e1:meet1 kind far other turn out gone i=(out.set k {gt out k with health:=turn (gt out k).health},gone.set i zg):=by simp [meet1,hk,hq]
    rw [e1];rw [AbJ hq] at hI;have hkl:=(j8.1 hq).1;have ht:=hh (gt out k).health;have ih1:=ih (i+1) (out.set k {gt out k with health:=turn (gt out k).health}) (gone.set i zg) (by omega) (by simpa using ho) (by simpa using hgo);clear ih hg hh hq e1;exact za (gg [.b (decide ((i:Int)<(n:Int))) zg,.w (0≤(i:Int)),.n (zm (i:Int)) i,.w (i<zj (zw zk out)),.g (zw zk out) i (zk (gt out i)),.b ((gt out i).kind !=kind) zq,.a _ _,.b (flats [ti (k:Int)]) zg,.b (decide ((k:Int)≥0)) zg,.w (0≤(k:Int)),.n (zm (k:Int)) k,.w (k<zj (zw zk out)),.g (zw zk out) k (zk (gt out k)),.w (isFnB cx h=zg),.a _ _,.w (0≤(k:Int))] ⟨tP,oW,nK,oS,oH,fC,o_a hI,bK,bK,oW,nK,oS,oH,oA,o_a ht,oW,tI⟩ (gg [.n (zm (k:Int)) k,.w (k<zj (zw zk out)),.g (zw zk out) k (zk (gt out k)),.t (T.sl 0 (qz (zw zk out) k (qe [ti (gt out k).id,ti (gt out k).kind,ti (gt out k).x,ti (gt out k).y,ti (gt out k).vx,ti (gt out k).vy,ti (turn (gt out k).health),ti (gt out k).age,ti (gt out k).owner]))) (T.sl 0 (zw zk (qz out k (qh (gt out k).id (gt out k).kind (gt out k).x (gt out k).y (gt out k).vx (gt out k).vy (turn (gt out k).health) (gt out k).age (gt out k).owner)))),.w (0≤(i:Int)),.n (zm (i:Int)) i,.w (i<zj (zw zi gone)),.g (zw zi gone) i (zi (gt gone i)),.t (T.sl 0 (qz (zw zi gone) i (zi zg))) (T.sl 0 (zw zi (qz gone i zg))),.i zy ((i:Int)+1) (↑(i+1):Int),.a _ _] ⟨nK,oS,oH,o_l (Aaq (e:=qh (gt out k).id (gt out k).kind (gt out k).x (gt out k).y (gt out k).vx (gt out k).vy (turn (gt out k).health) (gt out k).age (gt out k).owner) rfl rfl),oW,nK,oS,oT,o_l (Aaq rfl rfl),oI,o_a ih1,tI⟩ ge))
   |none=>
    have e1:meet1 kind far other turn out gone i=(out,gone):=by simp [meet1,hk,hq]
    rw [e1];rw [Acw hq] at hI;have ih1:=ih (i+1) out gone (by omega) ho hgo;clear ih hg hh hq e1;exact za (gg [.b (decide ((i:Int)<(n:Int))) zg,.w (0≤(i:Int)),.n (zm (i:Int)) i,.w (i<zj (zw zk out)),.g (zw zk out) i (zk (gt out i)),.b ((gt out i).kind !=kind) zq,.a _ _,.b (flats [ti (-1)]) zg,.b (decide (-1≥0)) zq,.i zy ((i:Int)+1) (↑(i+1):Int),.a _ _] ⟨tP,oW,nK,oS,oH,fC,o_a hI,bK,bK,oI,o_a ih1,tI⟩ ge)
  ·have e1:meet1 kind far other turn out gone i=(out,gone):=by simp [meet1,hk]
   rw [e1];have ih1:=ih (i+1) out gone (by omega) ho hgo;clear ih hg hh e1;exact za (gg [.b (decide ((i:Int)<(n:Int))) zg,.w (0≤(i:Int)),.n (zm (i:Int)) i,.w (i<zj (zw zk out)),.g (zw zk out) i (zk (gt out i)),.b ((gt out i).kind !=kind) zg,.i zy ((i:Int)+1) (↑(i+1):Int),.a _ _] ⟨tP,oW,nK,oS,oH,tC,oI,o_a ih1,tI⟩ ge)
theorem Ad7 (out:List Entity) (gone:List Bool) (hn:small out) (hgo:gone.length=out.length): ∀(d i:Nat) (A:List Entity),i+d=out.length→A.length≤i→
  Is cx (.loop 248 [0,1,0,1,1,1,1,1] 0 [.all 0 zx,.all 1 zx,.all 2 zx,vi out.length,vi i] [.arr 1 (gone.map zi) (zb 0) zq,.arr 9 (A.map zk) zx zq,.arr 9 (out.map zk) zx zq])
   ⟨.exit 2,[.all 0 zx,.all 1 zx,.all 2 zx,vi out.length,vi out.length],[.arr 1 (gone.map zi) (zb 0) zq,.arr 9 ((A++keepL (out.drop i) (gone.drop i)).map zk) zx zq,.arr 9 (out.map zk) zx zq]⟩:=by
 unfold small at hn;intro d;induction d with
 |zero=>
  intro i A hi hA;rw [Aad (l:=out) (by omega)];refine za (gg [.b (decide ((i:Int)<(↑(zj out):Int))) zq] ⟨fP,tI⟩ (rT (a:=zl (jr 2) [xz 0 zx,xz 1 zx,xz 2 zx,vi (↑(zj out):Int),vi (i:Int)] [jy 1 (zw zi gone) (zb 0) zq,jy 9 (zw zk A) zx zq,jy 9 (zw zk out) zx zq]) ?_))
  ((have hq:i=out.length:=by omega);subst hq;simp [keepL])
 |succ d ih=>
  intro i A hi hA;have hlt:i<out.length:=by omega
  have hlt2:i<gone.length:=by omega
  have ih1:=ih (i+1) A (by omega) (by omega);have ih2:=ih (i+1) (A++ [gt out i]) (by omega) (by simp;omega);clear ih;rw [Aaf hlt,Aaf hlt2,keepL];cases hg:gt gone i with
  |true=>
   have hx:(gone.map zi)[i]?=zb (zi zg):=by rw [qb,Aa7 hlt2,hg];rfl
   simp only [if_true,jj];clear ih2;exact za (gg [.b (decide ((i:Int)<(↑(zj out):Int))) zg,.w (0≤(i:Int)),.n (zm (i:Int)) i,.w (i<zj (zw zk out)),.g (zw zk out) i (zk (gt out i)),.w (0≤(i:Int)),.n (zm (i:Int)) i,.w (i<zj (zw zi gone)),.g (zw zi gone) i (zi (gt gone i)),.b (!gt gone i) zq,.i zy ((i:Int)+1) (↑(i+1):Int),.a _ _] ⟨tP,oW,nK,oS,oH,oW,nK,oS,oH,Abe (by assumption),oI,o_a ih1,tI⟩ ge)
  |false=>
   have hx:(gone.map zi)[i]?=zb (zi zq):=by rw [qb,Aa7 hlt2,hg];rfl
   simp only [xq,if_false];rw [←ql];clear ih1;exact za (gg [.b (decide ((i:Int)<(↑(zj out):Int))) zg,.w (0≤(i:Int)),.n (zm (i:Int)) i,.w (i<zj (zw zk out)),.g (zw zk out) i (zk (gt out i)),.w (0≤(i:Int)),.n (zm (i:Int)) i,.w (i<zj (zw zi gone)),.g (zw zi gone) i (zi (gt gone i)),.b (!gt gone i) zg,.w ((0:Nat)<(72:Nat)),.t (T.sl 0 [zk (gt out i)]) (T.sl 0 (zw zk [gt out i])),.t (T.sl 0 (zw zk A++zw zk [gt out i])) (T.sl 0 (zw zk (A++ [gt out i]))),.w (room (zj (zw zk (A++ [gt out i]))) (72:Nat)),.i zy ((i:Int)+1) (↑(i+1):Int),.a _ _] ⟨tP,oW,nK,oR,oH,oW,nK,oR,oH,AbW (by assumption),oW,o_l (Aa1 rfl AaC),o_l (Aa3 rfl rfl),oR,oJ,o_a ih2,tI⟩ ge)
theorem AdL (l:List Entity) (kind far:Int) (g h:Nat) (other:Entity→Entity→Bool) (turn:Int→Int) (hn:small l) (hb:isFnB cx g=zg) (hb2:isFnB cx h=zg)
  (hg: ∀t p:Entity,Fn cx g [t.enc,p.enc] (.bool (other t p))) (hh: ∀v:Int,Fn cx h [ti v] (ti (turn v))):
  Is cx (.call 248 [.t (.sl 9 (l.map zk)),vi kind,vi far,.t (.clo g []),.t (.clo h [])] []) ⟨.ret,[.all 0 zx],[.arr 9 ((meetL kind far other turn l).map zk) zx zq]⟩:=by
 have hn':l.length≤1000000:=hn;have h0:=Ad6 kind far g h other turn l.length hn hb hb2 hg hh l.length 0 l (zn l.length zq) (by omega) rfl (by simp);unfold meetL;have hlen: ∀(d i:Nat) (out:List Entity) (gone:List Bool),(meetN kind far other turn d i out gone).1.length=out.length∧(meetN kind far other turn d i out gone).2.length=gone.length:=by
  intro d;induction d with
  |zero=>intros;exact ⟨rfl,rfl⟩
  |succ d ih=>
   intro i out gone;rw [meetN];obtain ⟨h1,h2⟩:=ih (i+1) (meet1 kind far other turn out gone i).1 (meet1 kind far other turn out gone i).2;rw [h1,h2];unfold meet1;split
   ·split<;>simp
   ·exact ⟨rfl,rfl⟩
 obtain ⟨l1,l2⟩:=hlen l.length 0 l (zn l.length zq);simp only [kr] at l2;rw [wl] at h0;generalize (meetN kind far other turn l.length 0 l (zn l.length zq)).1=X at*;generalize (meetN kind far other turn l.length 0 l (zn l.length zq)).2=Y at*;have h1:=Ad7 X Y (by unfold small;omega) (by omega) X.length 0 [] (by omega) (by simp);rw [qr,qr,jj] at h1;clear hlen hg hh;exact za (gg [.a _ _,.n (zj (zw zk l)) (zj l),.w (0≤(↑(zj l):Int)∧(↑(zj l):Int)≤(↑(zj l):Int)∧room (zm (↑(zj l):Int)) (1:Nat)),.n (zm (↑(zj l):Int)) (zj l),.n (zj (zw zk l)) (zj l),.a _ _,.n (zj (zw zk X)) (zj X),.a _ _] ⟨o_a (Aa0 l (by assumption)),oM,o_w ⟨(by omega),⟨(by omega),(by (simp [room,appendMax];omega))⟩⟩,nK,oM,o_a h0,oM,o_a h1,tI⟩ ge)
theorem AeZ (t p:Entity):Fn cx 252 [t.enc,p.enc] (.bool (decide (p.id≠t.owner))):=by
 refine za (rT (a:=zl qm [vb (p.id !=t.owner)] []) ?_);simp [bned]
theorem Afa (v:Int):Fn cx 253 [ti v] (ti (subH v 20)):=by
 exact za (gg [.a _ _] ⟨o_a (Acn v 20),tI⟩ ge)
theorem AfH (t p:Entity):Fn cx 249 [t.enc,p.enc] (.bool zg):=by
 exact za ge
theorem AfI (v:Int):Fn cx 250 [ti v] (ti (minI (sumH [v,25]) 100)):=by
 have h:=Ags [v,25] (by simp [small]);exact za (gg [.a _ _,.s (ti (minI (sumH [v,25]) 100))] ⟨o_a h,tI⟩ ge)
theorem Agu (l:List Entity) (hn:small l):Is cx (.call 199 [.t (.sl 9 (l.map zk))] []) ⟨.ret,[.all 0 zx],[.arr 9 ((shotsL l).map zk) zx zq]⟩:=by
 have h:=AdL l 2 24 252 253 (fun s p=>decide (p.id≠s.owner)) (fun h=>subH h 20) hn (by kernel_rfl) (by kernel_rfl) (fun t p=>AeZ t p) (fun v=>Afa v);change Is cx _ ⟨_,_,[.arr 9 ((shotsL l).map zk) zx zq]⟩ at h;generalize shotsL l=X at*;exact za (gg [.a _ _] ⟨o_a h,tI⟩ ge)
theorem Ahg (l:List Entity) (hn:small l):Is cx (.call 198 [.t (.sl 9 (l.map zk))] []) ⟨.ret,[.all 0 zx],[.arr 9 ((gemsL l).map zk) zx zq]⟩:=by
 have h:=AdL l 3 32 249 250 (fun _ _=>zg) (fun h=>minI (sumH [h,25]) 100) hn (by kernel_rfl) (by kernel_rfl) (fun t p=>AfH t p) (fun v=>AfI v);change Is cx _ ⟨_,_,[.arr 9 ((gemsL l).map zk) zx zq]⟩ at h;generalize gemsL l=X at*;exact za (gg [.a _ _] ⟨o_a h,tI⟩ ge)
theorem AoZ {b:Cross} {A:List Entity} {j:Nat} (h:j<A.length):(A.set j (hurtE b (gt A j))).take (j+1)++((A.set j (hurtE b (gt A j))).drop (j+1)).map (hurtE b)=A.take j++(A.drop j).map (hurtE b):=by
 rw [Aaf h,qo,List.drop_set_of_lt (by omega),List.take_add_one,List.take_set_of_le (by omega)];simp [h]
theorem AcD (b:Cross) (bl:List Cross) (i:Nat): ∀(d j:Nat) (A:List Entity),j+d=A.length→small A→
  Is cx (.loop 197 [0,1,1,0,0,1,1,0,0,1,0,1,1] 0 [.all 0 zx,.ptr 1 0 0,.t (.sl 15 (bl.map zd)),vi bl.length,vi i,vi A.length,vi j] [.arr 9 (A.map zk) zx zq,.one 15 (.t b.enc) zq])
   ⟨.exit 2,[.all 0 zx,.ptr 1 0 0,.t (.sl 15 (bl.map zd)),vi bl.length,vi i,vi A.length,vi A.length],[.arr 9 ((A.take j++(A.drop j).map (hurtE b)).map zk) zx zq,.one 15 (.t b.enc) zq]⟩:=by
 intro d;induction d with
 |zero=>
  intro j A hj hn;unfold small at hn;rw [Aad (by omega),vz (by omega)];refine za (gg [.b (decide ((j:Int)<(↑(zj A):Int))) zq] ⟨fP,tI⟩ (rT (a:=zl (jr 2) [xz 0 zx,yn 1 0 0,V.t (T.sl 15 (zw zd bl)),vi (↑(zj bl):Int),vi (i:Int),vi (↑(zj A):Int),vi (j:Int)] [jy 9 (zw zk A) zx zq,vh 15 (V.t (zd b)) zq]) ?_))
  ((have hq:j=A.length:=by omega);subst hq;simp)
 |succ d ih=>
  intro j A hj hn;have hlt:j<A.length:=by omega
  have ih1:=ih (j+1) (A.set j (hurtE b (gt A j))) (by simp;omega) (by unfold small at*;simpa using hn);rw [AoZ hlt,List.length_set] at ih1;clear ih;unfold small at hn;have hN:=AdM (gt A j) b.x b.y 128;have hS:=Acn (gt A j).health 10;by_cases hk:b.kind=2
  ·by_cases hp:(gt A j).kind=1
   ·cases hq:nearE (gt A j) b.x b.y 128 with
    |true=>
     rw [hq] at hN;have e:hurtE b (gt A j)= {gt A j with health:=subH (gt A j).health 10}:=by simp [hurtE,hk,hp,hq]
     rw [e] at ih1;exact za (gg [.b (decide ((j:Int)<(↑(zj A):Int))) zg,.w (0≤(j:Int)),.n (zm (j:Int)) j,.w (j<zj (zw zk A)),.b (b.kind==2) zg,.tt,.tt,.tt,.g (zw zk A) j (zk (gt A j)),.tt,.tt,.b ((gt A j).kind==1) zg,.tt,.tt,.tt,.tt] ⟨tP,oW,nK,oS,tQ,oH,tQ,tI⟩ (gg [.g (zw zk A) j (zk (gt A j)),.tt,.tt,.tt,.a _ _,.tt,.tt,.g (zw zk A) j (zk (gt A j)),.a _ _,.g (zw zk A) j (zk (gt A j)),.t (T.sl 0 (qz (zw zk A) j (qe [ti (gt A j).id,ti (gt A j).kind,ti (gt A j).x,ti (gt A j).y,ti (gt A j).vx,ti (gt A j).vy,ti (subH (gt A j).health 10),ti (gt A j).age,ti (gt A j).owner]))) (T.sl 0 (zw zk (qz A j (qh (gt A j).id (gt A j).kind (gt A j).x (gt A j).y (gt A j).vx (gt A j).vy (subH (gt A j).health 10) (gt A j).age (gt A j).owner)))),.i zy ((j:Int)+1) (↑(j+1):Int),.a _ _] ⟨oH,o_a hN,oH,o_a hS,oH,o_l (Aaq (e:=qh (gt A j).id (gt A j).kind (gt A j).x (gt A j).y (gt A j).vx (gt A j).vy (subH (gt A j).health 10) (gt A j).age (gt A j).owner) rfl rfl),oI,o_a ih1,tI⟩ ge))
    |false=>
     rw [hq] at hN;have e:hurtE b (gt A j)=gt A j:=by simp [hurtE,hq]
     rw [e,Akv hlt] at ih1;exact za (gg [.b (decide ((j:Int)<(↑(zj A):Int))) zg,.w (0≤(j:Int)),.n (zm (j:Int)) j,.w (j<zj (zw zk A)),.b (b.kind==2) zg,.tt,.tt,.tt,.g (zw zk A) j (zk (gt A j)),.tt,.tt,.b ((gt A j).kind==1) zg,.tt,.tt,.tt,.tt] ⟨tP,oW,nK,oS,tQ,oH,tQ,tI⟩ (gg [.g (zw zk A) j (zk (gt A j)),.tt,.tt,.tt,.a _ _,.tt,.ff,.i zy ((j:Int)+1) (↑(j+1):Int),.a _ _] ⟨oH,o_a hN,oI,o_a ih1,tI⟩ ge))
   ·have e:hurtE b (gt A j)=gt A j:=by simp [hurtE,hp]
    rw [e,Akv hlt] at ih1;exact za (gg [.b (decide ((j:Int)<(↑(zj A):Int))) zg,.w (0≤(j:Int)),.n (zm (j:Int)) j,.w (j<zj (zw zk A)),.b (b.kind==2) zg,.tt,.tt,.tt,.g (zw zk A) j (zk (gt A j)),.tt,.tt,.b ((gt A j).kind==1) zq,.ff,.ff,.ff,.ff] ⟨tP,oW,nK,oS,tQ,oH,fQ,tI⟩ (gg [.ff,.ff,.ff,.ff,.ff,.i zy ((j:Int)+1) (↑(j+1):Int),.a _ _] ⟨oI,o_a ih1,tI⟩ ge))
  ·have e:hurtE b (gt A j)=gt A j:=by simp [hurtE,hk]
   rw [e,Akv hlt] at ih1;exact za (gg [.b (decide ((j:Int)<(↑(zj A):Int))) zg,.w (0≤(j:Int)),.n (zm (j:Int)) j,.w (j<zj (zw zk A)),.b (b.kind==2) zq,.ff,.ff,.ff,.ff,.ff,.ff,.ff,.ff,.ff,.ff,.ff] ⟨tP,oW,nK,oS,fQ,tI⟩ (gg [.ff,.ff,.ff,.ff,.i zy ((j:Int)+1) (↑(j+1):Int),.a _ _] ⟨oI,o_a ih1,tI⟩ ge))
theorem AcE (bl:List Cross) (hb:small bl): ∀(d i:Nat) (A:List Entity),i+d=bl.length→small A→
  Is cx (.loop 197 [0,1,0,1,1] 0 [.all 0 zx,.t (.sl 15 (bl.map zd)),vi bl.length,vi i] [.arr 9 (A.map zk) zx zq])
   ⟨.exit 0,[.all 0 zx,.t (.sl 15 (bl.map zd)),vi bl.length,vi bl.length],[.arr 9 ((blastsL A (bl.drop i)).map zk) zx zq]⟩:=by
 unfold small at hb;intro d;induction d with
 |zero=>
  intro i A hi hn;rw [Aad (by omega)];refine za (gg [.b (decide ((i:Int)<(↑(zj bl):Int))) zq] ⟨fP,tI⟩ (rT (a:=zl (jr 0) [xz 0 zx,V.t (T.sl 15 (zw zd bl)),vi (↑(zj bl):Int),vi (i:Int)] [jy 9 (zw zk A) zx zq]) ?_))
  ((have hq:i=bl.length:=by omega);subst hq;rfl)
 |succ d ih=>
  intro i A hi hn;have hlt:i<bl.length:=by omega
  have ih1:=ih (i+1) (A.map (hurtE (gt bl i))) (by omega) (by unfold small at*;simpa using hn);have h1:=AcD (gt bl i) bl i A.length 0 A (by omega) hn;rw [List.take_zero,qr,jj] at h1;clear ih;unfold small at hn;rw [Aaf hlt];change Is cx _ ⟨_,_,[.arr 9 ((blastsL (A.map (hurtE (gt bl i))) (bl.drop (i+1))).map zk) zx zq]⟩;generalize A.map (hurtE (gt bl i))=B at*;exact za (gg [.b (decide ((i:Int)<(↑(zj bl):Int))) zg,.w (0≤(i:Int)),.n (zm (i:Int)) i,.g (zw zd bl) i (zd (gt bl i)),.n (zj (zw zk A)) (zj A),.a _ _,.i zy ((i:Int)+1) (↑(i+1):Int),.a _ _] ⟨tP,oW,nK,oH,oM,o_a h1,oI,o_a ih1,tI⟩ ge)
theorem AfG (l:List Entity) (bl:List Cross) (hn:small l) (hb:small bl):Is cx (.call 197 [.t (.sl 9 (l.map zk)),.t (.sl 15 (bl.map zd))] []) ⟨.ret,[.all 0 zx],[.arr 9 ((blastsL l bl).map zk) zx zq]⟩:=by
 have h:=AcE bl hb bl.length 0 l (by omega) hn;rw [qr] at h;exact za (gg [.a _ _,.n (zj (zw zd bl)) (zj bl),.a _ _] ⟨o_a (Aa0 l (by assumption)),oM,o_a h,tI⟩ ge)
theorem AcM (l:List Entity) (hn:small l): ∀(d i:Nat) (A:List Int),i+d=l.length→A.length≤i→
  Is cx (.loop 254 [0,1,0,1,1] 1 [.all 1 zx,.all 0 zx,vi l.length,vi i] [.arr 9 (l.map zk) zx zq,.arr 1 (A.map ti) zx zq])
   ⟨.exit 0,[.all 1 zx,.all 0 zx,vi l.length,vi l.length],[.arr 9 (l.map zk) zx zq,.arr 1 ((A++fallenL (l.drop i)).map ti) zx zq]⟩:=by
 unfold small at hn;intro d;induction d with
 |zero=>
  intro i A hi hA;rw [Aad (by omega)];refine za (gg [.b (decide ((i:Int)<(↑(zj l):Int))) zq] ⟨fP,tI⟩ (rT (a:=zl (jr 0) [xz 1 zx,xz 0 zx,vi (↑(zj l):Int),vi (i:Int)] [jy 9 (zw zk l) zx zq,jy 1 (zw ti A) zx zq]) ?_))
  ((have hq:i=l.length:=by omega);subst hq;simp [fallenL])
 |succ d ih=>
  intro i A hi hA;have hlt:i<l.length:=by omega
  have ih1:=ih (i+1) A (by omega) (by omega);have ih2:=ih (i+1) (A++ [(gt l i).id]) (by omega) (by simp;omega);clear ih;unfold fallenL at*;rw [Ajl _ hlt];refine za (gg [.b (decide ((i:Int)<(↑(zj l):Int))) zg,.w (0≤(i:Int)),.n (zm (i:Int)) i,.w (i<zj (zw zk l)),.g (zw zk l) i (zk (gt l i))] ⟨tP,oW,nK,oR,oH,tI⟩ ?_);refine bre (x:=(gt l i).kind) (y:=1) (by kernel_rfl) (fun h1=> ?_) (fun h1=> ?_)
  ·refine gg [.tt,.tt,.tt] tI ?_;refine brp (p:=(gt l i).health≤0) (by kernel_rfl) (fun h2=> ?_) (fun h2=> ?_)
   ·refine gg [.w ((0:Nat)<(8:Nat)),.t (T.sl 0 [ti (gt l i).id]) (T.sl 0 (zw (xc zy) [(gt l i).id])),.t (T.sl 0 (zw ti A++zw (xc zy) [(gt l i).id])) (T.sl 0 (zw ti (A++ [(gt l i).id]))),.w (room (zj (zw ti (A++ [(gt l i).id]))) (8:Nat)),.i zy ((i:Int)+1) (↑(i+1):Int),.a _ _] ⟨oW,o_l (Aa1 rfl AaC),o_l (Aa3 rfl rfl),oR,oJ,o_a ih2,tI⟩ (rT (a:=zl (jr 0) [xz 1 zx,xz 0 zx,vi (↑(zj l):Int),vi (↑(zj l):Int)] [jy 9 (zw zk l) zx zq,jy 1 (zw ti (A++ [(gt l i).id]++zw xm (cg fallenP (z6 (i+1) l)))) zx zq]) ?_)
    (simp_all [fallenP];try omega)
   ·refine gg [.i zy ((i:Int)+1) (↑(i+1):Int),.a _ _] ⟨oJ,o_a ih1,tI⟩ (rT (a:=zl (jr 0) [xz 1 zx,xz 0 zx,vi (↑(zj l):Int),vi (↑(zj l):Int)] [jy 9 (zw zk l) zx zq,jy 1 (zw ti (A++zw xm (cg fallenP (z6 (i+1) l)))) zx zq]) ?_)
    (simp_all [fallenP];try omega)
  ·refine gg [.ff,.ff,.ff,.ff,.i zy ((i:Int)+1) (↑(i+1):Int),.a _ _] ⟨oJ,o_a ih1,tI⟩ (rT (a:=zl (jr 0) [xz 1 zx,xz 0 zx,vi (↑(zj l):Int),vi (↑(zj l):Int)] [jy 9 (zw zk l) zx zq,jy 1 (zw ti (A++zw xm (cg fallenP (z6 (i+1) l)))) zx zq]) ?_)
   (simp_all [fallenP];try omega)
theorem Ac7 (l:List Entity) (hn:small l):Is cx (.call 254 [.all 0 zx] [.arr 9 (l.map zk) zx zq]) ⟨.ret,[.all 1 zx],[.arr 9 (l.map zk) zx zq,.arr 1 ((fallenL l).map ti) zx zq]⟩:=by
 have h:=AcM l hn l.length 0 [] (by omega) (by simp);rw [qr,jj] at h;generalize fallenL l=X at*;exact za (gg [.n (zj (zw zk l)) (zj l),.a _ _] ⟨oM,o_a h,tI⟩ ge)
end Go.Eva.S8
namespace Go.Eva
theorem ApR {l:List Entity} {id:Int} {i k:Nat} (hi:i<l.length) (h:(gt l i).id=id) (hk:find l id=k):k≤i:=by
 unfold find pos at hk;cases hq:l.findIdx? fun e=>e.id==id with
 |none=>
  have:=vu.1 hq _ (Aat hi);simp [h] at this
 |some j=>
  rw [hq] at hk;simp only at hk;obtain rfl:j=k:=by omega
  obtain ⟨hj,_,h2⟩:=j8.1 hq;rcases Nat.lt_or_ge i j with hlt|hge
  ·have:=h2 i hlt;rw [←gt_eq hi] at this;simp [h] at this
  ·exact hge
theorem AfX {l:List Entity} {e:Entity} {id:Int} (h: ∃x∈l,x.id=id): ∃x∈put1 l e,x.id=id:=by
 obtain ⟨x,h1,h2⟩:=h;exact ⟨x,AiD x h1,h2⟩
theorem Adl {l:List Entity} {p e:Entity} {id:Int} (hp: ∃x∈l,x.id=p.id) (he:e.id=p.id) (h: ∃x∈l,x.id=id): ∃x∈setId l p.id e,x.id=id:=by
 refine Akz ?_ h;rw [←he];rw [←he] at hp;exact (AjM hp).symm
theorem Ac2 {l:List Entity} {id:Int} {e:Entity} {k:Nat} (h:find l id=k):setId l id e=l.set k e:=by
 unfold setId;rw [h];rfl
theorem Ajq {α:Type} [Inhabited α] {l:List α} {k j:Nat} {x:α} (h:j≠k):gt (l.set k x) j=gt l j:=by
 unfold gt;rw [qy (by omega)]
theorem Anc {α:Type} [Inhabited α] {A B:List α} {i:Nat} (hl:A.length=B.length) (h: ∀j,i≤j→j<B.length→gt A j=gt B j):A.drop i=B.drop i:=by
 refine Akx (by simp [hl]) fun j hj=> ?_;have e: ∀l:List α,gt (l.drop i) j=gt l (i+j):=fun l=>by unfold gt;rw [List.getElem?_drop]
 rw [e,e];simp only [pz] at hj;exact h _ (by omega) (by omega)
end Go.Eva
namespace Go.Eva
theorem AmH {l:List Entity} {g:Entity→Entity} (h: ∀e∈l,(g e).kind=e.kind):things (l.map g)=things l:=by
 unfold things;rw [List.countP_map];congr 1;refine List.countP_congr fun e he=> ?_;simp [h e he]
theorem Am3 {c:Config} {r:Int} {A:List Entity} (h:Sane c r A):Moved c r (moveL c A)∧ ∀e∈moveL c A,e.right c=true:=by
 have hmem: ∀e∈moveL c A,∃x∈A,(goE c x).2=true∧e=(goE c x).1:=by
  intro e he;unfold moveL at he;obtain ⟨x,hx,rfl⟩:=vg.1 he;obtain ⟨h1,h2⟩:=wu.1 hx;exact ⟨x,h1,h2,rfl⟩
 have hr: ∀e∈moveL c A,e.right c=true:=by
  intro e he;obtain ⟨x,hx,hg,rfl⟩:=hmem e he;exact (Ali hg).1
 refine ⟨⟨?_,?_,fun e he=>⟨(AhQ (hr e he)).1,?_⟩⟩,hr⟩
 ·unfold moveL;rw [Srt,fx];refine List.Pairwise.imp_of_mem ?_ (AhX h.srt);intro a b ha hb hab;have h1:=(Anz (wu.1 ha).2).1;have h2:=(Anz (wu.1 hb).2).1;omega
 ·unfold moveL;rw [AmH fun e he=>(Anz (wu.1 he).2).2.1];have:=AhZ (List.filter_sublist (p:=fun e=>(goE c e).2) (l:=A));have:=h.things;omega
 ·obtain ⟨x,hx,hg,rfl⟩:=hmem e he;obtain ⟨g1,g2,g3,g4⟩:=Ali hg;obtain ⟨hxr,hxo⟩:=h.ents x hx;obtain ⟨hc,p1,p2⟩:=Aei hxr;obtain ⟨_,q1,q2⟩:=Aei g1;have:=AnL hc p1 p2 q1 q2 g3 g4
  rwa [hxo] at this
theorem Moved.len {c:Config} {r:Int} {l:List Entity} (h:Moved c r l) (hc:c.right=true):l.length≤30:=by
 have h3:=ju.1 hc;have h1:=Ap3 (n:=c.players) h.srt (fun x hx hk=>by
  have:=Entity.right_player (h.ents x hx).1.1 hk;exact this) (by omega)
 have h2:=h.things;omega
theorem AjG {c:Config} {e:Entity} (h:e.right c=true):e.health≤100:=(AhQ h).1.2.1
theorem Amv {c:Config} {r:Int} {M:List Entity} {inbox:List Cross} (h:Moved c r M):Moved c r (blastsL (gemsL (shotsL M)) inbox)∧((blastsL (gemsL (shotsL M)) inbox).filter fun e=>decide (e.kind=1)).map xm=(M.filter fun e=>decide (e.kind=1)).map xm:=by
 have l0: ∀e∈M,e.kind=1→e.health≤100:=fun e he _=>(h.ents e he).1.2.1;have h1:=AgU l0;have m1:=h1.moved h;have h2:=Alh (l:=shotsL M) h1.low;have m2:=h2.moved m1;obtain ⟨b1,b2⟩:=Akf (bs:=inbox) (l:=gemsL (shotsL M)) h2.low;refine ⟨Am4 b1 m2 b2,?_⟩;rw [ApB b1,h2.players,h1.players]
theorem AoH {c:Config} {r f:Int}: ∀ {ids:List Int} {s:Stg},(ids.foldl (fall1 c r f) s).l.length=s.l.length∧(ids.foldl (fall1 c r f) s).made=s.made∧(ids.foldl (fall1 c r f) s).out.length=s.out.length+ids.length*(c.near r).length:=by
 intro ids;induction ids with
 |nil=>intro s;simp
 |cons id ids ih=>
  intro s;obtain ⟨h1,h2,h3⟩:= @ih (fall1 c r f s id);rw [wb];refine ⟨by rw [h1];simp [fall1],by rw [h2];rfl,?_⟩;rw [h3];simp only [fall1,blastsAt,jx,wj,j5];rw [Nat.add_mul];omega
theorem Apd {c:Config} {r:Int} (h:c.is r=true):0<(c.near r).length:=by
 have:=AnK h;cases hn:c.near r with
 |nil=>rw [hn] at this;simp [has] at this
 |cons a l=>simp
structure Still2 (c:Config) (r:Int) (l:List Entity):Prop where
 srt:Srt l
 things:things l≤24
 ents: ∀e∈l,e.right c=true∧has (c.near r) (c.of e.x e.y)=true
def blastOk (c:Config) (r f:Int) (m:Cross):Prop:=m.right c=true∧m.frm=r∧m.frame=f∧has (c.near r) m.to=true
theorem ApV {l:List Int} {x:Int}:has l x=true↔x∈l:=by
 unfold has;rw [kz];constructor
 ·rintro ⟨y,h1,h2⟩;simp at h2;subst h2;exact h1
 ·intro h;exact ⟨x,h,by simp⟩
theorem AjF {c:Config} {e:Entity} (h:e.right c=true):0≤e.age∧e.age≤12:=by
 simp only [Entity.right,zf] at h;have h2:=h.2;by_cases k1:e.kind=1
 ·rw [if_pos k1] at h2;simp only [zf,Aah,decide_eq_true_eq] at h2;omega
 ·rw [if_neg k1] at h2;by_cases k2:e.kind=2
  ·rw [if_pos k2] at h2;simp only [zf,Aah] at h2;omega
  ·rw [if_neg k2] at h2;by_cases k3:e.kind=3
   ·rw [if_pos k3] at h2;simp only [zf,decide_eq_true_eq] at h2;omega
   ·rw [if_neg k3] at h2;contradiction
theorem AeF {c:Config} {r f:Int} {s:Stg}:(leaveS c r f s).out.length≤s.out.length+s.l.length:=by
 simp only [leaveS,jx,wj];have:=fy (fun e=> !decide (c.of e.x e.y=r)) s.l;omega
theorem AhB {c:Config} {r f:Int} {s:Stg} (h:(s.l.filter fun e=> !decide (c.of e.x e.y=r))= []):(leaveS c r f s).out=s.out:=by
 simp [leaveS,h]
end Go.Eva
namespace Go.Eva
end Go.Eva
namespace Go.Eva
structure World where
 regions:List Region
 outs:List CrossL
deriving DecidableEq,Inhabited
def World.enc (w:World):T:= .agg [.sl 2 (w.regions.map Region.enc),.sl 1 (w.outs.map encL)]
def playerP (cols n i:Int):Entity:=⟨i,1,((i-1).tmod n).tmod cols*1024+512,((i-1).tmod n).tdiv cols*1024+512,0,0,100,0,0⟩
def begin1 (cols n:Int) (rs:List Region) (i:Int):List Region:=rs.set ((i-1).tmod n).toNat ⟨(gt rs ((i-1).tmod n).toNat).frame,put1 (gt rs ((i-1).tmod n).toNat).ents (playerP cols n i)⟩
def beginP (cols n:Int):Nat→Int→List Region→List Region
 |0,_,rs=>rs
 |d+1,i,rs=>beginP cols n d (i+1) (begin1 cols n rs i)
def beginW (cols n:Int) (players:Nat):World:=⟨beginP cols n players 1 (zn n.toNat ⟨0,[]⟩),zn n.toNat []⟩
def handed (l:List Cross):List Entity:=(l.filter fun m=>decide (m.kind=1)).map Cross.ent
end Go.Eva
namespace Go.Eva
structure Col where
 l:List Input
 fin:Int
 ended:Bool
instance:Inhabited Col:=⟨⟨[],0,false⟩⟩
def Col.enc (c:Col):T:= .agg [.sl 3 (c.l.map zo),ti c.fin,.bool c.ended]
def Col.new:Col:=⟨[],0,false⟩
structure Eng where
 c:Config
 cols:List Col
 outs:List T
 ks:List T
 xs:List T
 now:Int
 dirty:Int
 steps:Int
def Eng.enc (e:Eng):T:= .agg [.box 1 (.agg [.row 3 (e.cols.map Col.enc)]),ti e.c.cols,ti e.c.rows,ti e.c.players,ti e.c.window,.int .u64 e.c.seed,.box 1 (.agg [.vrow 1 e.outs]),.dict e.ks e.xs,ti e.now,ti e.dirty,ti e.steps]
abbrev Eng.ob (e:Eng):Ob:= .one 11 (.t e.enc) false
def Eng.new (c:Config):Eng:=⟨c,zn c.players.toNat Col.new,zn c.regions.toNat (.dict [] []),[],[],0,0,0⟩
end Go.Eva
namespace Go.Eva
abbrev um (n k:Int):Int:=(IntKind.u64.wrap n).tmod k
theorem um_le {n k:Int} (h:0<k):0≤um n k∧um n k<k:=AlQ h
def playInput (i:Input):Input:=if i.right=true then i else ⟨um i.dx 5-2,um i.dy 5-2,i.fire⟩
theorem AgL (i:Input):(playInput i).right=true:=by
 unfold playInput;split
 ·assumption
 ·have h1:= @um_le i.dx 5 (by decide);have h2:= @um_le i.dy 5 (by decide);simp only [Input.right,zf,Aah];omega
theorem Agj {c:Config} {r:Int}:(0≤c.cornerX r∧c.cornerX r≤4096)∧(0≤c.cornerY r∧c.cornerY r≤4096):=by
 unfold pi po;cases hr:c.is r with
 |false=>simp
 |true=>
  have h:=Config.is_right hr;have hi:=(Config.is_iff h).1 hr;obtain ⟨hc,hrr,_⟩:=ju.1 h;have k1:=Ac5 (v:=r) (k:=c.cols) (m:=c.rows) (by omega) (by omega) (by omega);have k2:=AbX (v:=r) (k:=c.cols) (by omega) (by omega);simp only [if_true];omega
end Go.Eva
namespace Go.Eva
def plI (l:List Entity):List Int:=(l.filter fun e=>decide (e.kind=1)).map xm
def times (l:List Int) (x:Int):Nat:=l.countP fun y=>decide (y=x)
end Go.Eva
namespace Go.Eva
structure WFine (c:Config) (w:World) (f:Int):Prop where
 right:c.right=true
 regs:(w.regions.length:Int)=c.regions
 outs:w.outs.length=w.regions.length
 sane: ∀r:Nat,r<w.regions.length→Sane c r (gt w.regions r).ents∧(gt w.regions r).frame=f∧(gt w.regions r).ents.length≤31
 sent: ∀q:Nat,q<w.outs.length→(∀m∈gt w.outs q,blastOk c q (f-1) m)∧(gt w.outs q).length≤400
theorem Ak2 {c:Config} {r q:Int} (hr:c.is r=true) (h:q∈c.near r):0≤q∧q<c.regions:=by
 have:=((AiB hr).1 (ApV.2 h)).1;have e:c.regions=c.cols*c.rows:=by simp [xw,Config.is_right hr]
 omega
end Go.Eva
namespace Go.Eva
structure Rec where
 st:Region
 inb:List Cross
 ins:List Input
 nx:Region
 out:List Cross
deriving DecidableEq
instance:Inhabited Rec:=⟨⟨Region.zero,[],[],Region.zero,[]⟩⟩
def Rec.enc (x:Rec):T:= .agg [ti x.st.frame,.sl 9 (x.st.ents.map zk),.sl 15 (x.inb.map zd),.sl 3 (x.ins.map zo),ti x.nx.frame,.sl 9 (x.nx.ents.map zk),.sl 15 (x.out.map zd)]
def Rec.ip (x:Rec):T:= .ip 7 x.enc 0
def Rec.asks (x:Rec) (s:Region) (inb:List Cross) (ins:List Input):Bool:=decide (x.st.frame=s.frame)&&decide (x.st.ents=s.ents)&&decide (x.inb=inb)&&decide (x.ins=ins)
structure Sub where
 base:Region
 recs:List Rec
 sure:List Bool
 settled:Bool
 now:Int
 inb:Option (List Cross)
 mark:Int
 ready:Int
instance:Inhabited Sub:=⟨⟨Region.zero,[],[],false,0,none,0,0⟩⟩
def inbT:Option (List Cross)→T
 |none=> .sl 15 []
 |some l=> .row 15 (l.map zd)
def Sub.enc (s:Sub):T:= .agg [ti s.base.frame,.sl 9 (s.base.ents.map zk),.sl 15 [],.row 1 (s.recs.map Rec.ip),.row 1 (s.sure.map zi),.bool s.settled,ti s.now,inbT s.inb,ti s.mark,ti s.ready]
def Sub.flat (s:Sub):T:= .agg [ti s.base.frame,.sl 9 (s.base.ents.map zk),.sl 15 [],.sl 1 (s.recs.map Rec.ip),.sl 1 (s.sure.map zi),.bool s.settled,ti s.now,(inbT s.inb).deep,ti s.mark,ti s.ready]
theorem Sub.deep (s:Sub):s.enc.deep=s.flat:=rfl
def Sub.at (s:Sub) (f:Int):Region:=if f=s.base.frame then s.base else (gt s.recs (f-s.base.frame-1).toNat).nx
def Sub.top (s:Sub):Int:=s.base.frame+s.recs.length
structure Sub.Fit (s:Sub):Prop where
 base:0≤s.base.frame∧s.base.frame≤10000
 recs:s.recs.length≤10000
 sure:s.sure.length=s.recs.length
def guessI (i:Input) (known:Bool):Input:=if known&&i.right then {i with fire:=false} else ⟨0,0,false⟩
def Col.at (k:Col) (f:Int):Input×Bool:=
 if f<0 then (⟨0,0,false⟩,false)
 else if f<k.l.length then (gt k.l f.toNat,true)
 else if k.ended&&decide (k.fin≤f) then (⟨0,0,false⟩,true)
 else if k.l= [] then (guessI ⟨0,0,false⟩ false,false)
 else (guessI (gt k.l (k.l.length-1)) true,false)
structure EngP where
 c:Config
 cols:List Col
 rs:List Int
 subs:List Sub
 now:Int
 dirty:Int
 steps:Int
def Sub.new (s:Region):Sub:=⟨s,[],[],false,0,none,0,0⟩
def Sub.shut (s:Sub):T:= .box 10 s.enc
def noneT (c:Config):List T:=zn c.regions.toNat (.dict [] [])
def EngP.eng (p:EngP):Eng:=⟨p.c,p.cols,noneT p.c,p.rs.map ti,p.subs.map Sub.shut,p.now,p.dirty,p.steps⟩
abbrev EngP.ob (p:EngP):Ob:=p.eng.ob
def EngP.new (c:Config):EngP:=⟨c,zn c.players.toNat Col.new,[],[],0,0,0⟩
def EngP.add (p:EngP) (r:Int) (s:Region):EngP:= {p with rs:=p.rs++ [r],subs:=p.subs++ [Sub.new s],dirty:=minI p.dirty s.frame}
theorem AaR: ∀(l:List Int),keysB .i64 (l.map ti)=true
 | []=>rfl
 |x::r=>by simp [keysB,AaR r]
theorem AiL: ∀ {l:List Int} {r:Int},r∉l→findIx .i64 r (l.map ti)=none
 | [],_,_=>rfl
 |x::l,r,h=>by
  simp only [qf,not_or] at h;simp only [qo,findIx,decide_true];rw [show (r==x)=false by simpa using h.1,AiL h.2]
theorem AlL: ∀ {l:List Int} {i:Nat},i<l.length→l.Nodup→findIx .i64 (gt l i) (l.map ti)=some i
 | [],_,h,_=>by simp at h
 |x::l,0,_,_=>by simp [gt,findIx]
 |x::l,i+1,h,hn=>by
  have hi:i<l.length:=by simpa using h
  obtain ⟨h1,h2⟩:=List.nodup_cons.1 hn;have e:gt (x::l) (i+1)=gt l i:=by simp [gt]
  have hne:gt l i≠x:=fun e2=>h1 (e2 ▸ Aat hi);rw [e];simp only [qo,findIx,decide_true];rw [show (gt l i==x)=false by simpa using hne,AlL hi h2]
theorem Ak7 {α:Type} {l:List α} {a b:α} {n:Nat} (h:n=l.length):(l++ [a]).set n b=l++ [b]:=by subst h;simp
def Sub.out (s:Sub) (f:Int):List Cross:=if s.base.frame≤f∧f-s.base.frame<s.recs.length then (gt s.recs (f-s.base.frame).toNat).out else []
def EngP.put (p:EngP) (k:Nat) (s:Sub):EngP:= {p with subs:=p.subs.set k s}
def EngP.emit (p:EngP) (q f:Int):List Cross:=match findIx .i64 q (p.rs.map ti) with
 |some i=>(gt p.subs i).out f
 |none=> []
theorem Add {c:Config} {i:Nat} (h:(i:Int)<c.regions):(deeps (noneT c))[i]?=some (.mp [] []):=by
 rw [AaE,noneT,wl,yk,if_pos (by omega)];rfl
theorem Ade {c:Config}:(deeps (noneT c)).length≤16:=by
 have:= @Config.regions_le c;rw [AaE,noneT,wl,kr];omega
theorem AhE {α β:Type} [Inhabited α] {f:α→β} {l:List α} {i:Nat} (h:i<l.length):(l.map f).set i (f (gt l i))=l.map f:=by
 rw [←gq];congr 1;apply vq;intro j;by_cases hj:i=j
 ·subst hj;rw [List.getElem?_set_self h,Aa7 h]
 ·rw [qy hj]
structure EngP.Fit (p:EngP):Prop where
 right:p.c.right=true
 len:p.subs.length=p.rs.length
 nd:p.rs.Nodup
 few:p.rs.length≤16
 rs: ∀r∈p.rs,0≤r∧r<p.c.regions
 subs: ∀i,i<p.subs.length→(gt p.subs i).Fit
theorem gtSetSelf {α:Type} [Inhabited α] {l:List α} {i:Nat} {x:α} (h:i<l.length):gt (l.set i x) i=x:=by simp [gt,h]
theorem gtSetNe {α:Type} [Inhabited α] {l:List α} {i j:Nat} {x:α} (h:i≠j):gt (l.set i x) j=gt l j:=by simp [gt,qy h]
theorem Ang {p:EngP} {k:Nat} {s:Sub} {q f:Int} (h:findIx .i64 q (p.rs.map ti)=none):(p.put k s).emit q f= []:=by simp [EngP.emit,EngP.put,h]
theorem Anf {p:EngP} {k:Nat} {s:Sub} {q f:Int} (h:findIx .i64 q (p.rs.map ti)=some k) (hk:k<p.subs.length):(p.put k s).emit q f=s.out f:=by simp [EngP.emit,EngP.put,h,gtSetSelf hk]
theorem Ane {p:EngP} {k i:Nat} {s:Sub} {q f:Int} (h:findIx .i64 q (p.rs.map ti)=some i) (hi:i≠k):(p.put k s).emit q f=(gt p.subs i).out f:=by simp [EngP.emit,EngP.put,h,gtSetNe (Ne.symm hi)]
def comeL (out:Int→List Cross) (r:Int) (l:List Int):List Cross:=(l.map fun q=>toL (out q) r).flatten
def EngP.come (p:EngP) (r:Int) (s:Sub) (f:Int):List Cross:=if f=s.base.frame then [] else comeL (fun q=>p.emit q (f-1)) r (p.c.near r)
end Go.Eva
namespace Go.Eva.S8
theorem AbF (a b:List Entity) (hn:small a) (hl:a.length=b.length): ∀(d i:Nat),i+d=a.length→
  ∃k:Nat,Is cx (.loop 191 [0,1,0,1,1] 0 [.t (.sl 9 (a.map zk)),.t (.sl 9 (b.map zk)),vb zq,vi a.length,vi i] [])
   (match sameL (fun x y=>decide (x=y)) (a.drop i) (b.drop i) with
    |true=>⟨.exit 0,[.t (.sl 9 (a.map zk)),.t (.sl 9 (b.map zk)),vb zq,vi a.length,vi a.length],[]⟩
    |false=>⟨.ret,[.t (.sl 9 (a.map zk)),.t (.sl 9 (b.map zk)),vb zq,vi a.length,vi k],[]⟩):=by
 unfold small at hn;intro d;induction d with
 |zero=>
  intro i hi;refine ⟨0,?_⟩;rw [Aad (by omega),Aad (by omega)];refine za (gg [.b (decide ((i:Int)<(↑(zj a):Int))) zq] ⟨fP,tI⟩ (rT (a:=zl (jr 0) [V.t (T.sl 9 (zw zk a)),V.t (T.sl 9 (zw zk b)),vb zq,vi (↑(zj a):Int),vi (i:Int)] []) ?_))
  ((have hq:i=a.length:=by omega);subst hq;rfl)
 |succ d ih=>
  intro i hi;have hlt:i<a.length:=by omega
  have hlt':i<b.length:=by omega
  obtain ⟨k,ih1⟩:=ih (i+1) (by omega);clear ih;rw [Ak6 hlt hlt'];by_cases hp:gt a i=gt b i
  ·have ht:teq (gt a i).enc (gt b i).enc=zg:=by rw [teqIff];rw [hp]
   refine ⟨k,?_⟩;rw [decide_eq_true hp,u4];cases hq:sameL (fun x y=>decide (x=y)) (a.drop (i+1)) (b.drop (i+1)) with
   |true=>
    rw [hq] at ih1;exact za (gg [.b (decide ((i:Int)<(↑(zj a):Int))) zg,.w (0≤(i:Int)),.n (zm (i:Int)) i,.g (zw zk a) i (zk (gt a i)),.w (0≤(i:Int)),.n (zm (i:Int)) i,.g (zw zk b) i (zk (gt b i)),.w (conform cx (40:Nat) (79:Nat) (qe [ti (gt a i).id,ti (gt a i).kind,ti (gt a i).x,ti (gt a i).y,ti (gt a i).vx,ti (gt a i).vy,ti (gt a i).health,ti (gt a i).age,ti (gt a i).owner])=zg∧conform cx (40:Nat) (79:Nat) (qe [ti (gt b i).id,ti (gt b i).kind,ti (gt b i).x,ti (gt b i).y,ti (gt b i).vx,ti (gt b i).vy,ti (gt b i).health,ti (gt b i).age,ti (gt b i).owner])=zg),.b (!teq (zk (gt a i)) (zk (gt b i))) zq,.i zy ((i:Int)+1) (↑(i+1):Int),.a _ _] ⟨tP,oW,nK,oH,oW,nK,oH,o_w ⟨(by kernel_rfl),(by kernel_rfl)⟩,Abe (by assumption),oI,o_a ih1,tI⟩ ge)
   |false=>
    rw [hq] at ih1;exact za (gg [.b (decide ((i:Int)<(↑(zj a):Int))) zg,.w (0≤(i:Int)),.n (zm (i:Int)) i,.g (zw zk a) i (zk (gt a i)),.w (0≤(i:Int)),.n (zm (i:Int)) i,.g (zw zk b) i (zk (gt b i)),.w (conform cx (40:Nat) (79:Nat) (qe [ti (gt a i).id,ti (gt a i).kind,ti (gt a i).x,ti (gt a i).y,ti (gt a i).vx,ti (gt a i).vy,ti (gt a i).health,ti (gt a i).age,ti (gt a i).owner])=zg∧conform cx (40:Nat) (79:Nat) (qe [ti (gt b i).id,ti (gt b i).kind,ti (gt b i).x,ti (gt b i).y,ti (gt b i).vx,ti (gt b i).vy,ti (gt b i).health,ti (gt b i).age,ti (gt b i).owner])=zg),.b (!teq (zk (gt a i)) (zk (gt b i))) zq,.i zy ((i:Int)+1) (↑(i+1):Int),.a _ _] ⟨tP,oW,nK,oH,oW,nK,oH,o_w ⟨(by kernel_rfl),(by kernel_rfl)⟩,Abe (by assumption),oI,o_a ih1,tI⟩ ge)
  ·have ht:teq (gt a i).enc (gt b i).enc=zq:=by
    rw [←u9,teqIff,Entity.enc_inj];exact hp
   refine ⟨i,?_⟩;rw [decide_eq_false hp,uf];exact za (gg [.b (decide ((i:Int)<(↑(zj a):Int))) zg,.w (0≤(i:Int)),.n (zm (i:Int)) i,.g (zw zk a) i (zk (gt a i)),.w (0≤(i:Int)),.n (zm (i:Int)) i,.g (zw zk b) i (zk (gt b i)),.w (conform cx (40:Nat) (79:Nat) (qe [ti (gt a i).id,ti (gt a i).kind,ti (gt a i).x,ti (gt a i).y,ti (gt a i).vx,ti (gt a i).vy,ti (gt a i).health,ti (gt a i).age,ti (gt a i).owner])=zg∧conform cx (40:Nat) (79:Nat) (qe [ti (gt b i).id,ti (gt b i).kind,ti (gt b i).x,ti (gt b i).y,ti (gt b i).vx,ti (gt b i).vy,ti (gt b i).health,ti (gt b i).age,ti (gt b i).owner])=zg),.b (!teq (zk (gt a i)) (zk (gt b i))) zg] ⟨tP,oW,nK,oH,oW,nK,oH,o_w ⟨(by kernel_rfl),(by kernel_rfl)⟩,AbW (by assumption),tI⟩ ge)
theorem AcT (a b:List Entity) (hn:small a) (hm:small b):Fn cx 191 [.sl 9 (a.map zk),.sl 9 (b.map zk)] (.bool (decide (a=b))):=by
 by_cases hl:a.length=b.length
 ·obtain ⟨k,h⟩:=AbF a b hn hl a.length 0 (by omega);rw [qr,qr,AiI hl] at h;unfold small at hn hm;cases hq:decide (a=b) with
  |true=>
   rw [hq] at h;exact za (gg [.n (zj (zw zk a)) (zj a),.n (zj (zw zk b)) (zj b),.b ((↑(zj a):Int) !=(↑(zj b):Int)) zq,.n (zj (zw zk a)) (zj a),.a _ _] ⟨oM,oM,fN,oM,o_a h,tI⟩ ge)
  |false=>
   rw [hq] at h;exact za (gg [.n (zj (zw zk a)) (zj a),.n (zj (zw zk b)) (zj b),.b ((↑(zj a):Int) !=(↑(zj b):Int)) zq,.n (zj (zw zk a)) (zj a),.a _ _] ⟨oM,oM,fN,oM,o_a h,tI⟩ ge)
 ·have hq:decide (a=b)=zq:=decide_eq_false fun h=>hl (by rw [h]);rw [hq];unfold small at hn hm;exact za (gg [.n (zj (zw zk a)) (zj a),.n (zj (zw zk b)) (zj b),.b ((↑(zj a):Int) !=(↑(zj b):Int)) zg] ⟨oM,oM,tN,tI⟩ ge)
theorem AbR (a b:List Cross) (hn:small a) (hl:a.length=b.length): ∀(d i:Nat),i+d=a.length→
  ∃k:Nat,Is cx (.loop 192 [0,1,0,1,1] 0 [.t (.sl 15 (a.map zd)),.t (.sl 15 (b.map zd)),vb zq,vi a.length,vi i] [])
   (match sameL (fun x y=>decide (x=y)) (a.drop i) (b.drop i) with
    |true=>⟨.exit 0,[.t (.sl 15 (a.map zd)),.t (.sl 15 (b.map zd)),vb zq,vi a.length,vi a.length],[]⟩
    |false=>⟨.ret,[.t (.sl 15 (a.map zd)),.t (.sl 15 (b.map zd)),vb zq,vi a.length,vi k],[]⟩):=by
 unfold small at hn;intro d;induction d with
 |zero=>
  intro i hi;refine ⟨0,?_⟩;rw [Aad (by omega),Aad (by omega)];refine za (gg [.b (decide ((i:Int)<(↑(zj a):Int))) zq] ⟨fP,tI⟩ (rT (a:=zl (jr 0) [V.t (T.sl 15 (zw zd a)),V.t (T.sl 15 (zw zd b)),vb zq,vi (↑(zj a):Int),vi (i:Int)] []) ?_))
  ((have hq:i=a.length:=by omega);subst hq;rfl)
 |succ d ih=>
  intro i hi;have hlt:i<a.length:=by omega
  have hlt':i<b.length:=by omega
  obtain ⟨k,ih1⟩:=ih (i+1) (by omega);clear ih;rw [Ak6 hlt hlt'];by_cases hp:gt a i=gt b i
  ·have ht:teq (gt a i).enc (gt b i).enc=zg:=by rw [teqIff];rw [hp]
   refine ⟨k,?_⟩;rw [decide_eq_true hp,u4];cases hq:sameL (fun x y=>decide (x=y)) (a.drop (i+1)) (b.drop (i+1)) with
   |true=>
    rw [hq] at ih1;exact za (gg [.b (decide ((i:Int)<(↑(zj a):Int))) zg,.w (0≤(i:Int)),.n (zm (i:Int)) i,.g (zw zd a) i (zd (gt a i)),.w (0≤(i:Int)),.n (zm (i:Int)) i,.g (zw zd b) i (zd (gt b i)),.w (conform cx (40:Nat) (81:Nat) (qe [ti (gt a i).kind,ti (gt a i).frm,ti (gt a i).to,ti (gt a i).frame,ti (gt a i).ent.id,ti (gt a i).ent.kind,ti (gt a i).ent.x,ti (gt a i).ent.y,ti (gt a i).ent.vx,ti (gt a i).ent.vy,ti (gt a i).ent.health,ti (gt a i).ent.age,ti (gt a i).ent.owner,ti (gt a i).x,ti (gt a i).y])=zg∧conform cx (40:Nat) (81:Nat) (qe [ti (gt b i).kind,ti (gt b i).frm,ti (gt b i).to,ti (gt b i).frame,ti (gt b i).ent.id,ti (gt b i).ent.kind,ti (gt b i).ent.x,ti (gt b i).ent.y,ti (gt b i).ent.vx,ti (gt b i).ent.vy,ti (gt b i).ent.health,ti (gt b i).ent.age,ti (gt b i).ent.owner,ti (gt b i).x,ti (gt b i).y])=zg),.b (!teq (zd (gt a i)) (zd (gt b i))) zq,.i zy ((i:Int)+1) (↑(i+1):Int),.a _ _] ⟨tP,oW,nK,oH,oW,nK,oH,o_w ⟨(by kernel_rfl),(by kernel_rfl)⟩,Abe (by assumption),oI,o_a ih1,tI⟩ ge)
   |false=>
    rw [hq] at ih1;exact za (gg [.b (decide ((i:Int)<(↑(zj a):Int))) zg,.w (0≤(i:Int)),.n (zm (i:Int)) i,.g (zw zd a) i (zd (gt a i)),.w (0≤(i:Int)),.n (zm (i:Int)) i,.g (zw zd b) i (zd (gt b i)),.w (conform cx (40:Nat) (81:Nat) (qe [ti (gt a i).kind,ti (gt a i).frm,ti (gt a i).to,ti (gt a i).frame,ti (gt a i).ent.id,ti (gt a i).ent.kind,ti (gt a i).ent.x,ti (gt a i).ent.y,ti (gt a i).ent.vx,ti (gt a i).ent.vy,ti (gt a i).ent.health,ti (gt a i).ent.age,ti (gt a i).ent.owner,ti (gt a i).x,ti (gt a i).y])=zg∧conform cx (40:Nat) (81:Nat) (qe [ti (gt b i).kind,ti (gt b i).frm,ti (gt b i).to,ti (gt b i).frame,ti (gt b i).ent.id,ti (gt b i).ent.kind,ti (gt b i).ent.x,ti (gt b i).ent.y,ti (gt b i).ent.vx,ti (gt b i).ent.vy,ti (gt b i).ent.health,ti (gt b i).ent.age,ti (gt b i).ent.owner,ti (gt b i).x,ti (gt b i).y])=zg),.b (!teq (zd (gt a i)) (zd (gt b i))) zq,.i zy ((i:Int)+1) (↑(i+1):Int),.a _ _] ⟨tP,oW,nK,oH,oW,nK,oH,o_w ⟨(by kernel_rfl),(by kernel_rfl)⟩,Abe (by assumption),oI,o_a ih1,tI⟩ ge)
  ·have ht:teq (gt a i).enc (gt b i).enc=zq:=by
    rw [←u9,teqIff,Cross.enc_inj];exact hp
   refine ⟨i,?_⟩;rw [decide_eq_false hp,uf];exact za (gg [.b (decide ((i:Int)<(↑(zj a):Int))) zg,.w (0≤(i:Int)),.n (zm (i:Int)) i,.g (zw zd a) i (zd (gt a i)),.w (0≤(i:Int)),.n (zm (i:Int)) i,.g (zw zd b) i (zd (gt b i)),.w (conform cx (40:Nat) (81:Nat) (qe [ti (gt a i).kind,ti (gt a i).frm,ti (gt a i).to,ti (gt a i).frame,ti (gt a i).ent.id,ti (gt a i).ent.kind,ti (gt a i).ent.x,ti (gt a i).ent.y,ti (gt a i).ent.vx,ti (gt a i).ent.vy,ti (gt a i).ent.health,ti (gt a i).ent.age,ti (gt a i).ent.owner,ti (gt a i).x,ti (gt a i).y])=zg∧conform cx (40:Nat) (81:Nat) (qe [ti (gt b i).kind,ti (gt b i).frm,ti (gt b i).to,ti (gt b i).frame,ti (gt b i).ent.id,ti (gt b i).ent.kind,ti (gt b i).ent.x,ti (gt b i).ent.y,ti (gt b i).ent.vx,ti (gt b i).ent.vy,ti (gt b i).ent.health,ti (gt b i).ent.age,ti (gt b i).ent.owner,ti (gt b i).x,ti (gt b i).y])=zg),.b (!teq (zd (gt a i)) (zd (gt b i))) zg] ⟨tP,oW,nK,oH,oW,nK,oH,o_w ⟨(by kernel_rfl),(by kernel_rfl)⟩,AbW (by assumption),tI⟩ ge)
theorem AdB (a b:List Cross) (hn:small a) (hm:small b):Fn cx 192 [.sl 15 (a.map zd),.sl 15 (b.map zd)] (.bool (decide (a=b))):=by
 by_cases hl:a.length=b.length
 ·obtain ⟨k,h⟩:=AbR a b hn hl a.length 0 (by omega);rw [qr,qr,AiI hl] at h;unfold small at hn hm;cases hq:decide (a=b) with
  |true=>
   rw [hq] at h;exact za (gg [.n (zj (zw zd a)) (zj a),.n (zj (zw zd b)) (zj b),.b ((↑(zj a):Int) !=(↑(zj b):Int)) zq,.n (zj (zw zd a)) (zj a),.a _ _] ⟨oM,oM,fN,oM,o_a h,tI⟩ ge)
  |false=>
   rw [hq] at h;exact za (gg [.n (zj (zw zd a)) (zj a),.n (zj (zw zd b)) (zj b),.b ((↑(zj a):Int) !=(↑(zj b):Int)) zq,.n (zj (zw zd a)) (zj a),.a _ _] ⟨oM,oM,fN,oM,o_a h,tI⟩ ge)
 ·have hq:decide (a=b)=zq:=decide_eq_false fun h=>hl (by rw [h]);rw [hq];unfold small at hn hm;exact za (gg [.n (zj (zw zd a)) (zj a),.n (zj (zw zd b)) (zj b),.b ((↑(zj a):Int) !=(↑(zj b):Int)) zg] ⟨oM,oM,tN,tI⟩ ge)
theorem AbS (a b:List Input) (hn:small a) (hl:a.length=b.length): ∀(d i:Nat),i+d=a.length→
  ∃k:Nat,Is cx (.loop 193 [0,1,0,1,1] 0 [.t (.sl 3 (a.map zo)),.t (.sl 3 (b.map zo)),vb zq,vi a.length,vi i] [])
   (match sameL (fun x y=>decide (x=y)) (a.drop i) (b.drop i) with
    |true=>⟨.exit 0,[.t (.sl 3 (a.map zo)),.t (.sl 3 (b.map zo)),vb zq,vi a.length,vi a.length],[]⟩
    |false=>⟨.ret,[.t (.sl 3 (a.map zo)),.t (.sl 3 (b.map zo)),vb zq,vi a.length,vi k],[]⟩):=by
 unfold small at hn;intro d;induction d with
 |zero=>
  intro i hi;refine ⟨0,?_⟩;rw [Aad (by omega),Aad (by omega)];refine za (gg [.b (decide ((i:Int)<(↑(zj a):Int))) zq] ⟨fP,tI⟩ (rT (a:=zl (jr 0) [V.t (T.sl 3 (zw zo a)),V.t (T.sl 3 (zw zo b)),vb zq,vi (↑(zj a):Int),vi (i:Int)] []) ?_))
  ((have hq:i=a.length:=by omega);subst hq;rfl)
 |succ d ih=>
  intro i hi;have hlt:i<a.length:=by omega
  have hlt':i<b.length:=by omega
  obtain ⟨k,ih1⟩:=ih (i+1) (by omega);clear ih;rw [Ak6 hlt hlt'];by_cases hp:gt a i=gt b i
  ·have ht:teq (gt a i).enc (gt b i).enc=zg:=by rw [teqIff];rw [hp]
   refine ⟨k,?_⟩;rw [decide_eq_true hp,u4];cases hq:sameL (fun x y=>decide (x=y)) (a.drop (i+1)) (b.drop (i+1)) with
   |true=>
    rw [hq] at ih1;exact za (gg [.b (decide ((i:Int)<(↑(zj a):Int))) zg,.w (0≤(i:Int)),.n (zm (i:Int)) i,.g (zw zo a) i (zo (gt a i)),.w (0≤(i:Int)),.n (zm (i:Int)) i,.g (zw zo b) i (zo (gt b i)),.w (conform cx (40:Nat) (23:Nat) (qe [ti (gt a i).dx,ti (gt a i).dy,zi (gt a i).fire])=zg∧conform cx (40:Nat) (23:Nat) (qe [ti (gt b i).dx,ti (gt b i).dy,zi (gt b i).fire])=zg),.b (!teq (zo (gt a i)) (zo (gt b i))) zq,.i zy ((i:Int)+1) (↑(i+1):Int),.a _ _] ⟨tP,oW,nK,oH,oW,nK,oH,o_w ⟨(by kernel_rfl),(by kernel_rfl)⟩,Abe (by assumption),oI,o_a ih1,tI⟩ ge)
   |false=>
    rw [hq] at ih1;exact za (gg [.b (decide ((i:Int)<(↑(zj a):Int))) zg,.w (0≤(i:Int)),.n (zm (i:Int)) i,.g (zw zo a) i (zo (gt a i)),.w (0≤(i:Int)),.n (zm (i:Int)) i,.g (zw zo b) i (zo (gt b i)),.w (conform cx (40:Nat) (23:Nat) (qe [ti (gt a i).dx,ti (gt a i).dy,zi (gt a i).fire])=zg∧conform cx (40:Nat) (23:Nat) (qe [ti (gt b i).dx,ti (gt b i).dy,zi (gt b i).fire])=zg),.b (!teq (zo (gt a i)) (zo (gt b i))) zq,.i zy ((i:Int)+1) (↑(i+1):Int),.a _ _] ⟨tP,oW,nK,oH,oW,nK,oH,o_w ⟨(by kernel_rfl),(by kernel_rfl)⟩,Abe (by assumption),oI,o_a ih1,tI⟩ ge)
  ·have ht:teq (gt a i).enc (gt b i).enc=zq:=by
    rw [←u9,teqIff,Input.enc_inj];exact hp
   refine ⟨i,?_⟩;rw [decide_eq_false hp,uf];exact za (gg [.b (decide ((i:Int)<(↑(zj a):Int))) zg,.w (0≤(i:Int)),.n (zm (i:Int)) i,.g (zw zo a) i (zo (gt a i)),.w (0≤(i:Int)),.n (zm (i:Int)) i,.g (zw zo b) i (zo (gt b i)),.w (conform cx (40:Nat) (23:Nat) (qe [ti (gt a i).dx,ti (gt a i).dy,zi (gt a i).fire])=zg∧conform cx (40:Nat) (23:Nat) (qe [ti (gt b i).dx,ti (gt b i).dy,zi (gt b i).fire])=zg),.b (!teq (zo (gt a i)) (zo (gt b i))) zg] ⟨tP,oW,nK,oH,oW,nK,oH,o_w ⟨(by kernel_rfl),(by kernel_rfl)⟩,AbW (by assumption),tI⟩ ge)
theorem AdC (a b:List Input) (hn:small a) (hm:small b):Fn cx 193 [.sl 3 (a.map zo),.sl 3 (b.map zo)] (.bool (decide (a=b))):=by
 by_cases hl:a.length=b.length
 ·obtain ⟨k,h⟩:=AbS a b hn hl a.length 0 (by omega);rw [qr,qr,AiI hl] at h;unfold small at hn hm;cases hq:decide (a=b) with
  |true=>
   rw [hq] at h;exact za (gg [.n (zj (zw zo a)) (zj a),.n (zj (zw zo b)) (zj b),.b ((↑(zj a):Int) !=(↑(zj b):Int)) zq,.n (zj (zw zo a)) (zj a),.a _ _] ⟨oM,oM,fN,oM,o_a h,tI⟩ ge)
  |false=>
   rw [hq] at h;exact za (gg [.n (zj (zw zo a)) (zj a),.n (zj (zw zo b)) (zj b),.b ((↑(zj a):Int) !=(↑(zj b):Int)) zq,.n (zj (zw zo a)) (zj a),.a _ _] ⟨oM,oM,fN,oM,o_a h,tI⟩ ge)
 ·have hq:decide (a=b)=zq:=decide_eq_false fun h=>hl (by rw [h]);rw [hq];unfold small at hn hm;exact za (gg [.n (zj (zw zo a)) (zj a),.n (zj (zw zo b)) (zj b),.b ((↑(zj a):Int) !=(↑(zj b):Int)) zg] ⟨oM,oM,tN,tI⟩ ge)
theorem Akq (x:Rec) (s:Region) (inb:List Cross) (ins:List Input) (h1:small x.st.ents) (h2:small s.ents) (h3:small x.inb) (h4:small inb) (h5:small x.ins) (h6:small ins):
  Fn cx 119 [.ip 7 x.enc 0,s.enc,.sl 15 (inb.map zd),.sl 3 (ins.map zo)] (.bool (x.asks s inb ins)):=by
 have q1:=AcT x.st.ents s.ents h1 h2;have q2:=AdB x.inb inb h3 h4;have q3:=AdC x.ins ins h5 h6;unfold Rec.asks;obtain ⟨⟨f,l⟩,i,n,⟨g,m⟩,o⟩:=x;obtain ⟨f2,l2⟩:=s;simp only at*;generalize decide (l=l2)=b1 at*;generalize decide (i=inb)=b2 at*;generalize decide (n=ins)=b3 at*;by_cases hf:f=f2
 ·refine za (gg [.b (!Bool.false) zg,.tt,.tt,.tt,.tt,.tt,.tt,.tt,.tt,.b (f==f2) zg,.tt,.tt,.tt,.tt,.tt,.tt] ⟨bK,tQ,tI⟩ (gg [.tt,.a _ _,.tt] ⟨o_a q1,tI⟩ ?_));refine br (b:=b1) (by kernel_rfl) (fun h1=> ?_) (fun h1=> ?_)
  ·refine gg [.tt,.tt,.tt,.tt,.tt,.a _ _,.tt] ⟨o_a q2,tI⟩ ?_;refine br (b:=b2) (by kernel_rfl) (fun h2=> ?_) (fun h2=> ?_)
   ·refine gg [.tt,.tt,.tt,.tt,.tt,.a _ _,.tt] ⟨o_a q3,tI⟩ (rT (a:=zl qm [vb b3] []) ?_)
    (simp_all [bned])
   ·refine gg [.ff,.ff,.ff,.ff,.ff,.ff] tI (rT (a:=zl qm [vb zq] []) ?_)
    (simp_all [bned])
  ·refine gg [.ff,.ff,.ff,.ff,.ff,.ff,.ff,.ff,.ff,.ff,.ff,.ff,.ff] tI (rT (a:=zl qm [vb zq] []) ?_)
   (simp_all [bned])
 ·refine za (gg [.b (!Bool.false) zg,.tt,.tt,.tt,.tt,.tt,.tt,.tt,.tt,.b (f==f2) zq,.ff,.ff,.ff,.ff,.ff,.ff] ⟨bK,fQ,tI⟩ (gg [.ff,.ff,.ff,.ff,.ff,.ff,.ff,.ff,.ff,.ff,.ff,.ff,.ff,.ff,.ff,.ff] tI (rT (a:=zl qm [vb zq] []) ?_)))
  (simp_all [bned])
end Go.Eva.S8
namespace Go.Eva.S8
abbrev sA (b:Int) (x1 x2 x3 x4 x5 x6 x7 x8 x9:T):T:= .agg [ti b,x1,x2,x3,x4,x5,x6,x7,x8,x9]
theorem Aax (b:Int) (x1 x2 x3 x4 x5 x6 x7 x8 x9:T):Fn cx 62 [.ip 10 (sA b x1 x2 x3 x4 x5 x6 x7 x8 x9) 0] (ti b):=by
 exact za ge
theorem Ajk (b f:Int) (st:List T) (x1 x2 x4 x5 x6 x7 x8 x9:T) (hb:0≤b∧b≤10000) (hf: -100≤f∧f≤20000) (hs:st.length≤10000):
  Fn cx 179 [.ip 10 (sA b x1 x2 (.sl 1 st) x4 x5 x6 x7 x8 x9) 0,ti f] (.bool (decide (b≤f)&&decide (f-b<st.length))):=by
 have h:=Aax b x1 x2 (.sl 1 st) x4 x5 x6 x7 x8 x9;refine za (gg [.a _ _] ⟨o_a h,tI⟩ ?_);refine brp (p:=f≥b) (by kernel_rfl) (fun h1=> ?_) (fun h1=> ?_)
 ·refine gg [.tt,.tt,.tt,.tt,.tt,.tt,.l (zj st),.tt,.a _ _,.tt,.i zy (f-b) (f-b),.tt,.tt] ⟨o_a h,oI,tI⟩ (rT (a:=zl qm [vb (decide (f-b<(↑(zj st):Int)))] []) ?_)
  (simp_all;try omega)
 ·refine gg [.ff,.ff,.ff,.ff,.ff,.ff,.ff,.ff,.ff,.ff] tI (rT (a:=zl qm [vb zq] []) ?_)
  (simp_all;try omega)
theorem AfR (s:Sub):Is cx (.call 69 [.ptr 0 0 0,vi s.base.frame] [.one 10 (.t s.enc) zq]) ⟨.ret,[.t s.base.enc],[.one 10 (.t s.enc) zq]⟩:=by
 have h:=Aax s.base.frame;exact za (gg [.s (T.ip 10 (qe [ti s.base.frame,T.sl 9 (zw zk s.base.ents),T.sl 15 [],T.sl 1 (zw Rec.ip s.recs),T.sl 1 (zw zi s.sure),zi s.settled,ti s.now,jz (inbT s.inb),ti s.mark,ti s.ready]) 0),.a _ _,.b (s.base.frame==s.base.frame) zg] ⟨o_a (h (T.sl 9 (zw zk s.base.ents)) (T.sl 15 []) (T.sl 1 (zw Rec.ip s.recs)) (T.sl 1 (zw zi s.sure)) (zi s.settled) (ti s.now) (jz (inbT s.inb)) (ti s.mark) (ti s.ready)),t_bre rfl,tI⟩ ge)
theorem AfS (s:Sub) (f:Int) (hs:s.Fit) (k:Nat) (hk:k<s.recs.length) (hf:f=s.base.frame+k+1):Is cx (.call 69 [.ptr 0 0 0,vi f] [.one 10 (.t s.enc) zq]) ⟨.ret,[.t (gt s.recs k).nx.enc],[.one 10 (.t s.enc) zq]⟩:=by
 have h:=Aax s.base.frame;obtain ⟨⟨b1,b2⟩,b3,b4⟩:=hs;have e:(f-s.base.frame-1).toNat=k:=by omega
 refine za (gg [.s (T.ip 10 (qe [ti s.base.frame,T.sl 9 (zw zk s.base.ents),T.sl 15 [],T.sl 1 (zw Rec.ip s.recs),T.sl 1 (zw zi s.sure),zi s.settled,ti s.now,jz (inbT s.inb),ti s.mark,ti s.ready]) 0),.a _ _,.b (f==s.base.frame) zq,.s (T.ip 10 (qe [ti s.base.frame,T.sl 9 (zw zk s.base.ents),T.sl 15 [],T.sl 1 (zw Rec.ip s.recs),T.sl 1 (zw zi s.sure),zi s.settled,ti s.now,jz (inbT s.inb),ti s.mark,ti s.ready]) 0),.a _ _,.i zy (f-s.base.frame) (f-s.base.frame),.i zy (f-s.base.frame-1) (f-s.base.frame-1),.w (0≤f-s.base.frame-(1:Int)),.l (zm (f-s.base.frame-1)),.w (zm (f-s.base.frame-(1:Int))<zj (zw Rec.ip s.recs)),.g (zw Rec.ip s.recs) (zm (f-s.base.frame-1)) (Rec.ip (gt s.recs (zm (f-s.base.frame-1))))] ⟨o_a (h (T.sl 9 (zw zk s.base.ents)) (T.sl 15 []) (T.sl 1 (zw Rec.ip s.recs)) (T.sl 1 (zw zi s.sure)) (zi s.settled) (ti s.now) (jz (inbT s.inb)) (ti s.mark) (ti s.ready)),fE,o_a (h (T.sl 9 (zw zk s.base.ents)) (T.sl 15 []) (T.sl 1 (zw Rec.ip s.recs)) (T.sl 1 (zw zi s.sure)) (zi s.settled) (ti s.now) (jz (inbT s.inb)) (ti s.mark) (ti s.ready)),oI,oI,oW,oS,oT,tI⟩ (rT (a:=zl qm [V.t (Region.enc (gt s.recs (zm (f-s.base.frame-1))).nx)] [vh 10 (V.t (qe [ti s.base.frame,T.sl 9 (zw zk s.base.ents),T.sl 15 [],T.row 1 (zw Rec.ip s.recs),T.row 1 (zw zi s.sure),zi s.settled,ti s.now,inbT s.inb,ti s.mark,ti s.ready])) zq]) ?_))
 (rw [e];rfl)
theorem Ae0 (i:Input) (known:Bool):Is cx (.call 235 [.t i.enc,vb known] []) ⟨.ret,[.t (guessI i known).enc],[]⟩:=by
 have h:=Ab2 i;unfold guessI;generalize i.right=r at*;cases known with
 |false=>
  exact za (gg [.b (!Bool.false) zg,.tt,.tt,.tt,.tt] ⟨bK,tI⟩ ge)
 |true=>
  cases r with
  |false=>
   exact za (gg [.b (!Bool.true) zq,.ff,.a _ _,.ff,.ff,.b (!Bool.false) zg] ⟨bK,o_a h,bK,tI⟩ ge)
  |true=>
   exact za (gg [.b (!Bool.true) zq,.ff,.a _ _,.ff,.ff,.b (!Bool.true) zq] ⟨bK,o_a h,bK,tI⟩ ge)
theorem Aml (cols:List Col) (p:Nat) (hp:p<cols.length) (h6:cols.length≤6):Is cx (.call 206 [.t (.ip 1 (.agg [.sl 3 (cols.map Col.enc)]) 0),vi (p+1:Nat)] []) ⟨.ret,[.t (.ip 3 (gt cols p).enc 0)],[]⟩:=by
 have e:(((p+1:Nat):Int)-1).toNat=p:=by omega
 exact za (gg [.b (decide ((↑(p+1):Int)<1)) zq,.ff,.ff,.ff,.ff,.ff,.n (zj (zw Col.enc cols)) (zj cols),.ff,.ff,.b (decide ((↑(p+1):Int)>(↑(zj cols):Int))) zq,.i zy ((↑(p+1):Int)-1) ((↑(p+1):Int)-1),.w (0≤(↑(p+(1:Nat)):Int)-(1:Int)),.n (zm ((↑(p+1):Int)-1)) p,.g (zw Col.enc cols) p (Col.enc (gt cols p))] ⟨bK,oM,fP,oI,oW,oN,oH,tI⟩ ge)
theorem AdJ (cols:List Col) (p:Nat) (hp:p<cols.length) (h6:cols.length≤6):Is cx (.call 124 [.t (.ip 1 (.agg [.sl 3 (cols.map Col.enc)]) 0),vi (p+1:Nat)] []) ⟨.ret,[.t (.ip 3 (gt cols p).enc 0)],[]⟩:=by
 have h:=Aml cols p hp h6;exact za (gg [.ff,.a _ _] ⟨o_a h,tI⟩ ge)
theorem Amk (cols:List Col) (p:Nat) (f:Int) (hp:p<cols.length) (h6:cols.length≤6) (hl:(gt cols p).l.length≤10000):
  Is cx (.call 189 [.t (.ip 1 (.agg [.sl 3 (cols.map Col.enc)]) 0),vi (p+1:Nat),vi f] []) ⟨.ret,[.t ((gt cols p).at f).1.enc,vb ((gt cols p).at f).2],[]⟩:=by
 have h:=AdJ cols p hp h6;generalize gt cols p=k at*;obtain ⟨l,fin,ended⟩:=k;simp only [Col.at] at*;have g1:=Ae0 ⟨0,0,zq⟩ zq;have g2:=Ae0 (gt l (l.length-1)) zg;have e:((l.length:Int)-1).toNat=l.length-1:=by omega
 by_cases h1:f<0
 ·rw [if_pos h1];clear g1 g2;exact za (gg [.a _ _,.ff,.ff,.ff,.b (decide (f<0)) zg] ⟨o_a h,tA,tI⟩ ge)
 ·rw [if_neg h1];by_cases h2:f<l.length
  ·rw [if_pos h2];clear g1 g2;exact za (gg [.a _ _,.ff,.ff,.ff,.b (decide (f<0)) zq,.n (zj (zw zo l)) (zj l),.b (decide (f<(↑(zj l):Int))) zg,.w (0≤f),.l (zm f),.g (zw zo l) (zm f) (zo (gt l (zm f)))] ⟨o_a h,fA,oM,tA,oW,oT,tI⟩ ge)
  ·rw [if_neg h2];by_cases h4:l= []
   ·subst h4;clear g2;cases ended with
    |false=>
     rw [if_neg (by simp),if_pos rfl];exact za (gg [.a _ _,.ff,.ff,.ff,.b (decide (f<0)) zq,.l 0,.b (decide (f<0)) zq,.ff,.ff,.ff,.ff,.ff,.ff,.ff,.ff,.l 0] ⟨o_a h,fA,fA,tI⟩ (gg [.b (0==0) zg,.a _ _] ⟨bK,o_a g1,tI⟩ ge))
    |true=>
     by_cases h3:fin≤f
     ·rw [if_pos (by simp [h3])];exact za (gg [.a _ _,.ff,.ff,.ff,.b (decide (f<0)) zq,.l 0,.b (decide (f<0)) zq,.tt,.tt,.tt,.tt,.tt,.tt,.tt,.b (decide (f≥fin)) zg] ⟨o_a h,fA,fA,tA,tI⟩ ge)
     ·rw [if_neg (by simp [h3]),if_pos rfl];exact za (gg [.a _ _,.ff,.ff,.ff,.b (decide (f<0)) zq,.l 0,.b (decide (f<0)) zq,.tt,.tt,.tt,.tt,.tt,.tt,.tt,.b (decide (f≥fin)) zq,.l 0] ⟨o_a h,fA,fA,fA,tI⟩ (gg [.b (0==0) zg,.a _ _] ⟨bK,o_a g1,tI⟩ ge))
   ·have hl0:0<l.length:=vp.2 h4;have hl1: ¬(l.length:Int)=0:=by omega
    clear g1;cases ended with
    |false=>
     rw [if_neg (by simp),if_neg h4];exact za (gg [.a _ _,.ff,.ff,.ff,.b (decide (f<0)) zq,.n (zj (zw zo l)) (zj l),.b (decide (f<(↑(zj l):Int))) zq,.ff,.ff,.ff,.ff,.ff,.ff,.ff,.ff,.n (zj (zw zo l)) (zj l)] ⟨o_a h,fA,oM,fA,oM,tI⟩ (gg [.b ((↑(zj l):Int)==0) zq,.n (zj (zw zo l)) (zj l),.i zy ((↑(zj l):Int)-1) ((↑(zj l):Int)-1),.w (0≤(↑(zj l):Int)-(1:Int)),.n (zm ((↑(zj l):Int)-1)) (zj l-1),.g (zw zo l) (zj l-1) (zo (gt l (zj l-1))),.a _ _] ⟨fQ,oM,oI,oW,oN,oT,o_a g2,tI⟩ ge))
    |true=>
     by_cases h3:fin≤f
     ·rw [if_pos (by simp [h3])];exact za (gg [.a _ _,.ff,.ff,.ff,.b (decide (f<0)) zq,.n (zj (zw zo l)) (zj l),.b (decide (f<(↑(zj l):Int))) zq,.tt,.tt,.tt,.tt,.tt,.tt,.tt,.b (decide (f≥fin)) zg] ⟨o_a h,fA,oM,fA,tA,tI⟩ ge)
     ·rw [if_neg (by simp [h3]),if_neg h4];exact za (gg [.a _ _,.ff,.ff,.ff,.b (decide (f<0)) zq,.n (zj (zw zo l)) (zj l),.b (decide (f<(↑(zj l):Int))) zq,.tt,.tt,.tt,.tt,.tt,.tt,.tt,.b (decide (f≥fin)) zq,.n (zj (zw zo l)) (zj l)] ⟨o_a h,fA,oM,fA,fA,oM,tI⟩ (gg [.b ((↑(zj l):Int)==0) zq,.n (zj (zw zo l)) (zj l),.i zy ((↑(zj l):Int)-1) ((↑(zj l):Int)-1),.w (0≤(↑(zj l):Int)-(1:Int)),.n (zm ((↑(zj l):Int)-1)) (zj l-1),.g (zw zo l) (zj l-1) (zo (gt l (zj l-1))),.a _ _] ⟨fQ,oM,oI,oW,oN,oT,o_a g2,tI⟩ ge))
end Go.Eva.S8
namespace Go.Eva.S8
theorem Ab4 (l:List Entity) (g:Nat) (cs:List T) (p:Entity→Bool) (hb:isFnB cx g=zg) (hn:small l)
  (hg: ∀e∈l,Fn cx g (e.enc::cs) (.bool (p e))):Fn cx 184 [.sl 9 (l.map zk),.clo g cs] (.bool (l.any p)):=by
 have h:=Aay l g cs p hb hn hg;clear hg;cases hq:l.findIdx? p with
 |some k=>
  rw [AbJ hq] at h;have e:l.any p=zg:=by
   obtain ⟨hk,h1,_⟩:=j8.1 hq;exact kz.2 ⟨_,wm hk,h1⟩
  rw [e];exact za (gg [.a _ _] ⟨o_a h,tI⟩ ge)
 |none=>
  rw [Acw hq] at h;have e:l.any p=zq:=by
   rw [pa];intro x hx;simpa using vu.1 hq x hx
  rw [e];exact za (gg [.a _ _] ⟨o_a h,tI⟩ ge)
theorem AbC (l:List Cross) (g:Nat) (cs:List T) (p:Cross→Bool) (hb:isFnB cx g=zg) (hn:small l)
  (hg: ∀e∈l,Fn cx g (e.enc::cs) (.bool (p e))):Fn cx 71 [.sl 15 (l.map zd),.clo g cs] (.bool (l.any p)):=by
 have h:=AaV l g cs p hb hn hg;clear hg;cases hq:l.findIdx? p with
 |some k=>
  rw [AbJ hq] at h;have e:l.any p=zg:=by
   obtain ⟨hk,h1,_⟩:=j8.1 hq;exact kz.2 ⟨_,wm hk,h1⟩
  rw [e];exact za (gg [.a _ _] ⟨o_a h,tI⟩ ge)
 |none=>
  rw [Acw hq] at h;have e:l.any p=zq:=by
   rw [pa];intro x hx;simpa using vu.1 hq x hx
  rw [e];exact za (gg [.a _ _] ⟨o_a h,tI⟩ ge)
theorem AbD (l:List Input) (g:Nat) (cs:List T) (p:Input→Bool) (hb:isFnB cx g=zg) (hn:small l)
  (hg: ∀e∈l,Fn cx g (e.enc::cs) (.bool (p e))):Fn cx 237 [.sl 3 (l.map zo),.clo g cs] (.bool (l.any p)):=by
 have h:=Ace l g cs p hb hn hg;clear hg;cases hq:l.findIdx? p with
 |some k=>
  rw [AbJ hq] at h;have e:l.any p=zg:=by
   obtain ⟨hk,h1,_⟩:=j8.1 hq;exact kz.2 ⟨_,wm hk,h1⟩
  rw [e];exact za (gg [.a _ _] ⟨o_a h,tI⟩ ge)
 |none=>
  rw [Acw hq] at h;have e:l.any p=zq:=by
   rw [pa];intro x hx;simpa using vu.1 hq x hx
  rw [e];exact za (gg [.a _ _] ⟨o_a h,tI⟩ ge)
theorem Ag6 (c:Config) (r:Int):Fn cx 181 [c.enc,ti r] (.bool (c.is r)):=by
 have h1:= @Config.regions_le c;refine za ?_;refine brp (p:=r≥0) (by kernel_rfl) (fun h1=> ?_) (fun h1=> ?_)
 ·refine gg [.tt,.tt,.a _ _,.tt,.tt] ⟨o_a (AaH c),tI⟩ (rT (a:=zl qm [vb (decide (r<xw c))] []) ?_)
  (simp only [du,within];first|rfl|(congr 3;rw [jn];simp;omega))
 ·refine gg [.ff,.ff,.ff,.ff] tI (rT (a:=zl qm [vb zq] []) ?_)
  (simp only [du,within];first|rfl|(congr 3;rw [jn];simp;omega))
theorem AfN (c:Config) (r:Int) (e:Entity):Fn cx 185 [e.enc,.ip 5 c.enc 0,.ip 1 (ti r) 0] (.bool (!(e.right c&&decide (c.of e.x e.y=r)))):=by
 have h1:=AbP c e;have h2:=Acb c e.x e.y;cases hr:e.right c with
 |true=>
  rw [hr] at h1;refine za (gg [.a _ _,.b (!Bool.true) zq,.ff,.ff,.ff,.ff,.ff,.ff,.a _ _,.ff,.ff] ⟨o_a h1,bK,o_a h2,tI⟩ (rT (a:=zl qm [vb (uw c e.x e.y !=r)] []) ?_));simp [bned]
 |false=>
  rw [hr] at h1;refine za (gg [.a _ _,.b (!Bool.false) zg,.tt,.tt,.tt,.tt,.tt,.tt,.tt,.tt] ⟨o_a h1,bK,tI⟩ (rT (a:=zl qm [vb zg] []) ?_));simp
theorem AdQ (c:Config) (r:Int) (s:Region) (hn:small s.ents):Fn cx 113 [c.enc,ti r,s.enc] (.bool (regionRight c r s)):=by
 have q1:=Ag6 c r;have q2:=Agr s.ents hn;have q3:=AbB s.ents hn;have q4:=Ab4 s.ents 185 [.ip 5 c.enc 0,.ip 1 (ti r) 0] (fun e=> !(e.right c&&decide (c.of e.x e.y=r))) (by kernel_rfl) hn (fun e _=>AfN c r e);have e4:(s.ents.any fun e=> !(e.right c&&decide (c.of e.x e.y=r)))= !(s.ents.all fun e=>e.right c&&decide (c.of e.x e.y=r)):=by rw [List.any_eq_not_all_not];simp
 rw [e4] at q4;unfold regionRight within;generalize c.is r=b1 at*;generalize sortedL s.ents=b2 at*;generalize things s.ents=n3 at*;generalize (s.ents.all fun e=>e.right c&&decide (c.of e.x e.y=r))=b4 at*;obtain ⟨f,l⟩:=s;refine za (gg [.a _ _] ⟨o_a q1,tI⟩ ?_);refine brnot (b:=b1) (by kernel_rfl) (fun h1=> ?_) (fun h1=> ?_)
 ·refine gg [.tt,.tt,.tt,.tt,.tt,.tt,.tt,.tt,.tt,.tt,.tt,.tt,.tt,.tt,.tt,.tt] tI (gg [.tt,.tt] tI (rT (a:=zl qm [vb zq] []) ?_))
  (simp_all;try omega)
 ·refine gg [.ff,.ff,.ff] tI ?_;refine brp (p:=f<0) (by kernel_rfl) (fun h2=> ?_) (fun h2=> ?_)
  ·refine gg [.tt,.tt,.tt,.tt,.tt,.tt,.tt,.tt,.tt,.tt,.tt,.tt,.tt,.tt] tI (rT (a:=zl qm [vb zq] []) ?_)
   (simp_all;try omega)
  ·refine gg [.ff,.ff,.ff] tI ?_;refine brp (p:=f>10000) (by kernel_rfl) (fun h3=> ?_) (fun h3=> ?_)
   ·refine gg [.tt,.tt,.tt,.tt,.tt,.tt,.tt,.tt,.tt,.tt] tI (rT (a:=zl qm [vb zq] []) ?_)
    (simp_all;try omega)
   ·refine gg [.ff,.ff,.a _ _,.ff,.ff] ⟨o_a q2,tI⟩ ?_;refine brnot (b:=b2) (by kernel_rfl) (fun h4=> ?_) (fun h4=> ?_)
    ·refine gg [.tt,.tt,.tt,.tt,.tt] tI (rT (a:=zl qm [vb zq] []) ?_)
     (simp_all;try omega)
    ·refine gg [.ff,.ff,.a _ _,.ff,.ff] ⟨o_a q3,tI⟩ ?_;refine brp (p:=n3>24) (by kernel_rfl) (fun h5=> ?_) (fun h5=> ?_)
     ·refine rT (a:=zl qm [vb zq] []) ?_
      (simp_all;try omega)
     ·refine gg [.a _ _,.b (flats [zi !b4]) zg] ⟨o_a q4,bK,tI⟩ (rT (a:=zl qm [vb !!b4] []) ?_)
      (simp_all;try omega)
theorem AfP (i:Input):Fn cx 238 [i.enc] (.bool (!i.right)):=by
 exact za (gg [.a _ _] ⟨o_a (Ab2 i),tI⟩ ge)
theorem AfQ (c:Config) (r:Int) (s:Region) (m:Cross) (hf:0≤s.frame∧s.frame≤10000):Fn cx 239 [m.enc,.ip 5 c.enc 0,.ip 1 (ti r) 0,.ip 2 s.enc 0] (.bool (!(m.right c&&decide (m.to=r)&&decide (m.frame=s.frame-1)))):=by
 have h:=Aiq c m;obtain ⟨f,l⟩:=s;simp only at hf;generalize m.right c=b at*;cases b with
 |true=>
  refine za (gg [.a _ _,.b (!Bool.true) zq,.ff,.ff,.ff,.ff] ⟨o_a h,bK,tI⟩ ?_);refine brn (x:=m.to) (y:=r) (by kernel_rfl) (fun h1=> ?_) (fun h1=> ?_)
  ·refine gg [.tt,.tt,.tt,.tt,.tt,.tt] tI (rT (a:=zl qm [vb zg] []) ?_)
   (simp_all [bned];try omega)
  ·refine gg [.ff,.ff,.ff,.ff,.i zy (f-1) (f-1),.ff,.ff] ⟨oI,tI⟩ (rT (a:=zl qm [vb (m.frame !=f-1)] []) ?_)
   (simp_all [bned];try omega)
 |false=>
  refine za (gg [.a _ _,.b (!Bool.false) zg,.tt,.tt,.tt,.tt,.tt,.tt,.tt,.tt,.tt,.tt,.tt] ⟨o_a h,bK,tI⟩ (rT (a:=zl qm [vb zg] []) ?_));simp
theorem AdR (c:Config) (r:Int) (s:Region) (ins:List Input) (inbox:List Cross) (hn:small s.ents) (hi:small ins) (hb:small inbox):
  Fn cx 194 [c.enc,ti r,s.enc,.sl 3 (ins.map zo),.sl 15 (inbox.map zd)] (ti (askedE c r s ins inbox)):=by
 have h1:=Ag6 c r;have h2:=AdQ c r s hn;have h3:=AbD ins 238 [] (fun i=> !i.right) (by kernel_rfl) hi (fun i _=>AfP i);unfold askedE;cases q1:c.is r with
 |false=>
  rw [q1] at h1;clear h2 h3;rw [if_pos rfl];obtain ⟨f,l⟩:=s;exact za (gg [.a _ _,.b (!Bool.false) zg] ⟨o_a h1,bK,tI⟩ ge)
 |true=>
  rw [q1] at h1;rw [if_neg (by simp)];cases q2:regionRight c r s with
  |false=>
   rw [q2] at h2;clear h3;rw [if_pos rfl];obtain ⟨f,l⟩:=s;exact za (gg [.a _ _,.b (!Bool.true) zq,.a _ _,.b (!Bool.false) zg] ⟨o_a h1,bK,o_a h2,bK,tI⟩ ge)
  |true=>
   rw [q2] at h2;rw [if_neg (by simp)];have hf:=(Adh.1 q2).2.1;have h4:=AbC inbox 239 [.ip 5 c.enc 0,.ip 1 (ti r) 0,.ip 2 s.enc 0] (fun m=> !(m.right c&&decide (m.to=r)&&decide (m.frame=s.frame-1))) (by kernel_rfl) hb (fun m _=>AfQ c r s m hf);clear q2;obtain ⟨f,l⟩:=s;simp only at hf h4⊢;unfold small at hi;generalize (ins.any fun i=> !i.right)=b3 at*;generalize (inbox.any fun m=> !(m.right c&&decide (m.to=r)&&decide (m.frame=f-1)))=b4 at*;refine za (gg [.a _ _,.b (!Bool.true) zq,.a _ _,.b (!Bool.true) zq,.n (zj (zw zo ins)) (zj ins)] ⟨o_a h1,bK,o_a h2,bK,oM,tI⟩ ?_);refine brn (x:=(↑(zj ins):Int)) (y:=c.players) (by kernel_rfl) (fun h1=> ?_) (fun h1=> ?_)
   ·refine gg [.tt,.tt,.tt] tI (rT (a:=zl qm [vi 11] []) ?_)
    (simp_all;try omega)
   ·refine gg [.ff,.a _ _,.ff] ⟨o_a h3,tI⟩ ?_;refine br (b:=b3) (by kernel_rfl) (fun h2=> ?_) (fun h2=> ?_)
    ·refine rT (a:=zl qm [vi 11] []) ?_
     (simp_all;try omega)
    ·refine gg [.a _ _,.b (flats [zi b4]) zg] ⟨o_a h4,bK,tI⟩ ?_;refine br (b:=b4) (by kernel_rfl) (fun h3=> ?_) (fun h3=> ?_)
     ·refine rT (a:=zl qm [vi 1] []) ?_
      (simp_all;try omega)
     ·refine bre (x:=f) (y:=10000) (by kernel_rfl) (fun h4=> ?_) (fun h4=> ?_)
      ·refine rT (a:=zl qm [vi 16] []) ?_
       (simp_all;try omega)
      ·refine rT (a:=zl qm [vi 0] []) ?_
       (simp_all;try omega)
theorem AdA (inbox:List Cross) (hb:inbox.length≤100000): ∀(d i:Nat) (A:List Entity),i+d=inbox.length→A.length≤100000+i→
  Is cx (.loop 190 [0,1,0,1,1] 0 [.all 0 zx,.t (.sl 15 (inbox.map zd)),vi inbox.length,vi i] [.arr 9 (A.map zk) zx zq])
   ⟨.exit 0,[.all 0 zx,.t (.sl 15 (inbox.map zd)),vi inbox.length,vi inbox.length],[.arr 9 ((arriveL A (inbox.drop i)).map zk) zx zq]⟩:=by
 intro d;induction d with
 |zero=>
  intro i A hi hA;rw [Aad (by omega)];refine za (gg [.b (decide ((i:Int)<(↑(zj inbox):Int))) zq] ⟨fP,tI⟩ (rT (a:=zl (jr 0) [xz 0 zx,V.t (T.sl 15 (zw zd inbox)),vi (↑(zj inbox):Int),vi (i:Int)] [jy 9 (zw zk A) zx zq]) ?_))
  ((have hq:i=inbox.length:=by omega);subst hq;rfl)
 |succ d ih=>
  intro i A hi hA;have hlt:i<inbox.length:=by omega
  rw [Aaf hlt];change Is cx _ ⟨_,_,[.arr 9 ((arriveL (arrive1 A (gt inbox i)) (inbox.drop (i+1))).map zk) zx zq]⟩;have hT:=AbB A (by unfold small;omega);have hP:=Abn A [(gt inbox i).ent] (by omega) (by simp);change Is cx _ ⟨_,_,[.arr 9 ((put1 A (gt inbox i).ent).map zk) zx zq]⟩ at hP;have hl:= @Acx A (gt inbox i).ent;have ih1:=ih (i+1) A (by omega) (by omega);have ih2:=ih (i+1) (put1 A (gt inbox i).ent) (by omega) (by omega);clear ih hl;by_cases hk:(gt inbox i).kind=1
  ·by_cases he:(gt inbox i).ent.kind=1
   ·have e:arrive1 A (gt inbox i)=put1 A (gt inbox i).ent:=by simp [arrive1,hk,he]
    rw [e];generalize put1 A (gt inbox i).ent=B at*;exact za (gg [.b (decide ((i:Int)<(↑(zj inbox):Int))) zg,.w (0≤(i:Int)),.n (zm (i:Int)) i,.g (zw zd inbox) i (zd (gt inbox i)),.b ((gt inbox i).kind==1) zg,.tt,.tt,.tt,.tt,.b ((gt inbox i).ent.kind==1) zg,.tt,.tt,.tt,.tt,.tt,.tt] ⟨tP,oW,nK,oH,tQ,tQ,tI⟩ (gg [.a _ _,.i zy ((i:Int)+1) (↑(i+1):Int),.a _ _] ⟨o_a hP,oI,o_a ih2,tI⟩ ge))
   ·by_cases ht:things A<24
    ·have e:arrive1 A (gt inbox i)=put1 A (gt inbox i).ent:=by simp [arrive1,hk,ht]
     rw [e];generalize put1 A (gt inbox i).ent=B at*;generalize things A=n at*;exact za (gg [.b (decide ((i:Int)<(↑(zj inbox):Int))) zg,.w (0≤(i:Int)),.n (zm (i:Int)) i,.g (zw zd inbox) i (zd (gt inbox i)),.b ((gt inbox i).kind==1) zg,.tt,.tt,.tt,.tt,.b ((gt inbox i).ent.kind==1) zq,.ff,.a _ _,.b (flats [ti n]) zg,.ff,.tt,.ff] ⟨tP,oW,nK,oH,tQ,fQ,o_a hT,bK,tI⟩ (gg [.tt,.b (decide (n<24)) zg,.a _ _,.i zy ((i:Int)+1) (↑(i+1):Int),.a _ _] ⟨tA,o_a hP,oI,o_a ih2,tI⟩ ge))
    ·have e:arrive1 A (gt inbox i)=A:=by simp [arrive1,hk,he,ht]
     rw [e];generalize put1 A (gt inbox i).ent=B at*;generalize things A=n at*;exact za (gg [.b (decide ((i:Int)<(↑(zj inbox):Int))) zg,.w (0≤(i:Int)),.n (zm (i:Int)) i,.g (zw zd inbox) i (zd (gt inbox i)),.b ((gt inbox i).kind==1) zg,.tt,.tt,.tt,.tt,.b ((gt inbox i).ent.kind==1) zq,.ff,.a _ _,.b (flats [ti n]) zg,.ff,.tt,.ff] ⟨tP,oW,nK,oH,tQ,fQ,o_a hT,bK,tI⟩ (gg [.tt,.b (decide (n<24)) zq,.i zy ((i:Int)+1) (↑(i+1):Int),.a _ _] ⟨fA,oI,o_a ih1,tI⟩ ge))
  ·have e:arrive1 A (gt inbox i)=A:=by simp [arrive1,hk]
   rw [e];generalize put1 A (gt inbox i).ent=B at*;exact za (gg [.b (decide ((i:Int)<(↑(zj inbox):Int))) zg,.w (0≤(i:Int)),.n (zm (i:Int)) i,.g (zw zd inbox) i (zd (gt inbox i)),.b ((gt inbox i).kind==1) zq,.ff,.ff,.ff,.ff,.ff,.ff,.ff,.i zy ((i:Int)+1) (↑(i+1):Int),.a _ _] ⟨tP,oW,nK,oH,fQ,oI,o_a ih1,tI⟩ ge)
theorem AcO (c:Config) (r:Int) (s:Region) (inbox:List Cross) (hn:s.ents.length≤100000) (hb:inbox.length≤100000):
  Is cx (.call 190 [.t c.enc,vi r,.t s.enc,.t (.sl 15 (inbox.map zd))] []) ⟨.ret,[.all 0 zx],[.arr 9 ((arriveL s.ents inbox).map zk) zx zq]⟩:=by
 have h:=AdA inbox hb inbox.length 0 s.ents (by omega) (by omega);rw [qr] at h;obtain ⟨f,l⟩:=s;simp only at hn h⊢;have hs:small l:=by unfold small;omega
 exact za (gg [.a _ _,.n (zj (zw zd inbox)) (zj inbox),.a _ _] ⟨o_a (Aa0 l (by assumption)),oM,o_a h,tI⟩ ge)
theorem AcP (l:List Entity) (hn:small l): ∀(d i:Nat) (A:List Int),i+d=l.length→A.length≤i→
  Is cx (.loop 118 [0,1,0,1,1] 0 [.all 0 zx,.all 1 zx,vi l.length,vi i] [.arr 1 (A.map ti) zx zq,.arr 9 (l.map zk) zx zq])
   ⟨.exit 0,[.all 0 zx,.all 1 zx,vi l.length,vi l.length],[.arr 1 ((A++((l.drop i).filter fun e=>decide (e.kind=1)).map xm).map ti) zx zq,.arr 9 (l.map zk) zx zq]⟩:=by
 unfold small at hn;intro d;induction d with
 |zero=>
  intro i A hi hA;rw [Aad (by omega)];refine za (gg [.b (decide ((i:Int)<(↑(zj l):Int))) zq] ⟨fP,tI⟩ (rT (a:=zl (jr 0) [xz 0 zx,xz 1 zx,vi (↑(zj l):Int),vi (i:Int)] [jy 1 (zw ti A) zx zq,jy 9 (zw zk l) zx zq]) ?_))
  ((have hq:i=l.length:=by omega);subst hq;simp)
 |succ d ih=>
  intro i A hi hA;have hlt:i<l.length:=by omega
  have ih1:=ih (i+1) A (by omega) (by omega);have ih2:=ih (i+1) (A++ [(gt l i).id]) (by omega) (by simp;omega);clear ih;rw [Ajl _ hlt];refine za (gg [.b (decide ((i:Int)<(↑(zj l):Int))) zg,.w (0≤(i:Int)),.n (zm (i:Int)) i,.w (i<zj (zw zk l)),.g (zw zk l) i (zk (gt l i))] ⟨tP,oW,nK,oR,oH,tI⟩ ?_);refine bre (x:=(gt l i).kind) (y:=1) (by kernel_rfl) (fun h1=> ?_) (fun h1=> ?_)
  ·refine gg [.w ((0:Nat)<(8:Nat)),.t (T.sl 0 [ti (gt l i).id]) (T.sl 0 (zw (xc zy) [(gt l i).id])),.t (T.sl 0 (zw ti A++zw (xc zy) [(gt l i).id])) (T.sl 0 (zw ti (A++ [(gt l i).id]))),.w (room (zj (zw ti (A++ [(gt l i).id]))) (8:Nat)),.i zy ((i:Int)+1) (↑(i+1):Int),.a _ _] ⟨oW,o_l (Aa1 rfl AaC),o_l (Aa3 rfl rfl),oR,oJ,o_a ih2,tI⟩ (rT (a:=zl (jr 0) [xz 0 zx,xz 1 zx,vi (↑(zj l):Int),vi (↑(zj l):Int)] [jy 1 (zw ti (A++ [(gt l i).id]++zw xm (cg (fun (e:Entity)↦decide (e.kind=1)) (z6 (i+1) l)))) zx zq,jy 9 (zw zk l) zx zq]) ?_);simp_all
  ·refine gg [.i zy ((i:Int)+1) (↑(i+1):Int),.a _ _] ⟨oJ,o_a ih1,tI⟩ (rT (a:=zl (jr 0) [xz 0 zx,xz 1 zx,vi (↑(zj l):Int),vi (↑(zj l):Int)] [jy 1 (zw ti (A++zw xm (cg (fun (e:Entity)↦decide (e.kind=1)) (z6 (i+1) l)))) zx zq,jy 9 (zw zk l) zx zq]) ?_);simp_all
theorem AlY {inbox:List Cross}: ∀ {A:List Entity},(arriveL A inbox).length≤A.length+inbox.length:=by
 induction inbox with
 |nil=>intro A;simp [arriveL]
 |cons m inbox ih=>
  intro A;have h1:(arrive1 A m).length≤A.length+1:=by
   unfold arrive1;split
   ·exact Acx.2
   ·omega
  have:= @ih (arrive1 A m);change (arriveL (arrive1 A m) inbox).length≤_;simp only [j5];omega
theorem AfM (c:Config) (r:Int) (s:Region) (inbox:List Cross) (hn:s.ents.length≤100000) (hb:inbox.length≤100000):
  Fn cx 118 [c.enc,ti r,s.enc,.sl 15 (inbox.map zd)] (.sl 1 ((presentL s.ents inbox).map ti)):=by
 have h1:=AcO c r s inbox hn hb;have hl:= @AlY inbox s.ents;unfold presentL;generalize arriveL s.ents inbox=A at*;have h:=AcP A (by unfold small;omega) A.length 0 [] (by omega) (by simp);rw [qr,jj] at h;obtain ⟨f,l⟩:=s;simp only at hn h1⊢;generalize ((A.filter fun e=>decide (e.kind=1)).map xm)=X at*;exact za (gg [.a _ _,.n (zj (zw zk A)) (zj A),.a _ _] ⟨o_a h1,oM,o_a h,tI⟩ ge)
theorem Ait (c:Config) (r:Int):Is cx (.call 286 [.t c.enc,vi r] []) ⟨.ret,[vi (c.cornerX r),vi (c.cornerY r)],[]⟩:=by
 have h:=Agt c r;unfold pi po;cases hi:c.is r with
 |false=>
  rw [hi] at h;exact za (gg [.a _ _,.b (!Bool.false) zg] ⟨o_a h,bK,tI⟩ ge)
 |true=>
  rw [hi] at h;have hr:=Config.is_right hi;have hi2:=(Config.is_iff hr).1 hi;obtain ⟨hc,hrr,_⟩:=ju.1 hr;have k1:=Ac5 (v:=r) (k:=c.cols) (m:=c.rows) (by omega) (by omega) (by omega);have k2:=AbX (v:=r) (k:=c.cols) (by omega) (by omega);exact za (gg [.a _ _,.b (!Bool.true) zq,.w (c.cols≠(0:Int)),.s (ti (yw r c.cols)),.i zy (yw r c.cols*1024) (yw r c.cols*1024),.w (c.cols≠(0:Int)),.i zy (wt r c.cols) (wt r c.cols),.i zy (wt r c.cols*1024) (wt r c.cols*1024)] ⟨o_a h,bK,oW,oI,oW,oI,oI,tI⟩ ge)
def stepT (c:Config) (r f:Int) (s:Stg):T:= .agg [ti c.cols,ti c.rows,ti c.players,ti c.window,.int .u64 c.seed,ti r,ti f,.sl 9 (s.l.map zk),ti s.made,.sl 15 (s.out.map zd)]
abbrev stepV (c:Config) (r f made:Int) (lv ov:V):V:= .agg [vi c.cols,vi c.rows,vi c.players,vi c.window,.t (.int .u64 c.seed),vi r,vi f,lv,vi made,ov]
theorem Aa6 (c:Config) (r f:Int) (s:Stg) (hn:small s.l):Fn cx 241 [.ip 10 (stepT c r f s) 0] (.bool s.room):=by
 have h:=AbB s.l hn;unfold Stg.room;obtain ⟨l,made,out⟩:=s;simp only at h⊢;unfold stepT;generalize things l=n at*;by_cases h1:made<8
 ·refine za (gg [.b (decide (made<8)) zg,.tt,.tt,.tt,.tt,.a _ _,.tt,.tt] ⟨tA,o_a h,tI⟩ (rT (a:=zl qm [vb (decide (n<24))] []) ?_));simp [h1]
 ·refine za (gg [.b (decide (made<8)) zq,.ff,.ff,.ff,.ff,.ff,.ff] ⟨fA,tI⟩ (rT (a:=zl qm [vb zq] []) ?_));simp [h1]
theorem Agj {c:Config} {r:Int}:(0≤c.cornerX r∧c.cornerX r≤4096)∧0≤c.cornerY r∧c.cornerY r≤4096:=by
 unfold pi po;split
 ·rename_i hi;have hr:=Config.is_right hi;have hi2:=(Config.is_iff hr).1 hi;obtain ⟨hc,hrr,_⟩:=ju.1 hr;have k1:=Ac5 (v:=r) (k:=c.cols) (m:=c.rows) (by omega) (by omega) (by omega);have k2:=AbX (v:=r) (k:=c.cols) (by omega) (by omega);omega
 ·omega
theorem Abl (c:Config) (r f x y o:Int) (s:Stg):Is cx (.call 256 [.t (.ip 10 (stepT c r f s) 0),vi x,vi y,vi o] []) ⟨.ret,[vi (placeX c r f x o),vi (placeY c r f y o)],[]⟩:=by
 have h0:=Ait c r;have h1:=AaF 1024 c.seed [x,f,o] (by decide) (by simp [small]);have h2:=AaF 1024 c.seed [y,f,o] (by decide) (by simp [small]);have b1:=Aif (n:=1024) (seed:=c.seed) (l:= [x,f,o]) (by decide);have b2:=Aif (n:=1024) (seed:=c.seed) (l:= [y,f,o]) (by decide);have b3:= @Agj c r;unfold placeX placeY;obtain ⟨l,made,out⟩:=s;unfold stepT;generalize below 1024 c.seed [x,f,o]=v1 at*;generalize below 1024 c.seed [y,f,o]=v2 at*;generalize c.cornerX r=v3 at*;generalize c.cornerY r=v4 at*;refine za (gg [.a _ _] ⟨o_a h0,tI⟩ (bO (bO ?_ ?_) ?_))
 all_goals
  exact gg [.a _ _,.i zy (v3+v1) (v3+v1),.a _ _,.i zy (v4+v2) (v4+v2)] ⟨o_a h1,oI,o_a h2,oI,tI⟩ ge
theorem Abf (c:Config) (r f made:Int) (l:List Entity) (o:List Cross) (hr:0≤r∧r≤16) (hf:0≤f∧f≤10000) (hm:0≤made∧made≤1000):
  Is cx (.call 243 [.ptr 0 0 0] [.one 10 (stepV c r f made (.all 1 zx) (.fit 15 [])) zq,.arr 9 (l.map zk) zx zq])
   ⟨.ret,[vi (numI c r f made)],[.one 10 (stepV c r f (made+1) (.all 1 zx) (.fit 15 [])) zq,.arr 9 (l.map zk) zx zq]⟩:=by
 have h:=AaH c;have hl:= @Config.regions_le c;unfold numI;generalize c.regions=g at*;have h1:0≤f*g∧f*g≤160000:=⟨fq hf.1 hl.1,Int.le_trans (cq hf.2 hl.2 hl.1 (by omega)) (by omega)⟩
 exact za (gg [.i zy (made+1) (made+1),.a _ _,.i zy (f*g) (f*g),.i zy (f*g+r) (f*g+r),.i zy ((f*g+r)*8) ((f*g+r)*8),.i zy (1000+(f*g+r)*8) (1000+(f*g+r)*8),.i zy (1000+(f*g+r)*8+(made+1)) (1000+(f*g+r)*8+(made+1)),.i zy (1000+(f*g+r)*8+(made+1)-1) (1000+(f*g+r)*8+(made+1)-1)] ⟨oI,o_a h,oI,oI,oI,oI,oI,oI,tI⟩ ge)
theorem Afd (c:Config) (r f made:Int) (l:List Entity) (o:List Cross) (hr:0≤r∧r≤16) (hf:0≤f∧f≤10000) (hm:0≤made∧made≤1000):
  Is cx (.call 243 [.ptr 0 0 0] [.one 10 (stepV c r f made (.all 1 zx) (.all 2 zx)) zq,.arr 9 (l.map zk) zx zq,.arr 15 (o.map zd) zx zq])
   ⟨.ret,[vi (numI c r f made)],[.one 10 (stepV c r f (made+1) (.all 1 zx) (.all 2 zx)) zq,.arr 9 (l.map zk) zx zq,.arr 15 (o.map zd) zx zq]⟩:=by
 have h:=AaH c;have hl:= @Config.regions_le c;unfold numI;generalize c.regions=g at*;have h1:0≤f*g∧f*g≤160000:=⟨fq hf.1 hl.1,Int.le_trans (cq hf.2 hl.2 hl.1 (by omega)) (by omega)⟩
 exact za (gg [.i zy (made+1) (made+1),.a _ _,.i zy (f*g) (f*g),.i zy (f*g+r) (f*g+r),.i zy ((f*g+r)*8) ((f*g+r)*8),.i zy (1000+(f*g+r)*8) (1000+(f*g+r)*8),.i zy (1000+(f*g+r)*8+(made+1)) (1000+(f*g+r)*8+(made+1)),.i zy (1000+(f*g+r)*8+(made+1)-1) (1000+(f*g+r)*8+(made+1)-1)] ⟨oI,o_a h,oI,oI,oI,oI,oI,oI,tI⟩ ge)
theorem AcQ (c:Config) (r f made:Int) (l:List Entity) (m:Cross):
  Is cx (.call 255 [.ptr 0 0 0,.t m.enc] [.one 10 (stepV c r f made (.all 1 zx) (.fit 15 [])) zq,.arr 9 (l.map zk) zx zq])
   ⟨.ret,[],[.one 10 (stepV c r f made (.all 1 zx) (.all 2 zx)) zq,.arr 9 (l.map zk) zx zq,.arr 15 ([{m with frm:=r,frame:=f}].map zd) zx zq]⟩:=by
 refine za (bO ?_ ?_)
 all_goals
  exact gg [.w ((0:Nat)<(120:Nat)),.s (T.sl 0 [qe [ti m.kind,ti r,ti m.to,ti f,ti m.ent.id,ti m.ent.kind,ti m.ent.x,ti m.ent.y,ti m.ent.vx,ti m.ent.vy,ti m.ent.health,ti m.ent.age,ti m.ent.owner,ti m.x,ti m.y]]),.s (T.sl 0 [qe [ti m.kind,ti r,ti m.to,ti f,ti m.ent.id,ti m.ent.kind,ti m.ent.x,ti m.ent.y,ti m.ent.vx,ti m.ent.vy,ti m.ent.health,ti m.ent.age,ti m.ent.owner,ti m.x,ti m.y]]),.w (room (zj [qe [ti m.kind,ti r,ti m.to,ti f,ti m.ent.id,ti m.ent.kind,ti m.ent.x,ti m.ent.y,ti m.ent.vx,ti m.ent.vy,ti m.ent.health,ti m.ent.age,ti m.ent.owner,ti m.x,ti m.y]]) (120:Nat))] ⟨o_w (by (simp [room,appendMax])),o_w (by (simp [room,appendMax])),tI⟩ ge
theorem AaZ (c:Config) (r f made:Int) (l:List Entity) (o:List Cross) (m:Cross) (ho:o.length≤100000):
  Is cx (.call 255 [.ptr 0 0 0,.t m.enc] [.one 10 (stepV c r f made (.all 1 zx) (.all 2 zx)) zq,.arr 9 (l.map zk) zx zq,.arr 15 (o.map zd) zx zq])
   ⟨.ret,[],[.one 10 (stepV c r f made (.all 1 zx) (.all 3 zx)) zq,.arr 9 (l.map zk) zx zq,.dead,.arr 15 ((o++ [{m with frm:=r,frame:=f}]).map zd) zx zq]⟩:=by
 refine za (bO ?_ ?_)
 all_goals
  exact gg [.w ((0:Nat)<(120:Nat)),.s (T.sl 0 [qe [ti m.kind,ti r,ti m.to,ti f,ti m.ent.id,ti m.ent.kind,ti m.ent.x,ti m.ent.y,ti m.ent.vx,ti m.ent.vy,ti m.ent.health,ti m.ent.age,ti m.ent.owner,ti m.x,ti m.y]]),.t (T.sl 0 (zw zd o++ [qe [ti m.kind,ti r,ti m.to,ti f,ti m.ent.id,ti m.ent.kind,ti m.ent.x,ti m.ent.y,ti m.ent.vx,ti m.ent.vy,ti m.ent.health,ti m.ent.age,ti m.ent.owner,ti m.x,ti m.y]])) (T.sl 0 (zw zd (o++ [f0 m.kind r m.to f m.ent m.x m.y]))),.w (room (zj (zw zd (o++ [f0 m.kind r m.to f m.ent m.x m.y]))) (120:Nat))] ⟨oW,o_l (Aa3 rfl (Aa1 (e:=f0 m.kind r m.to f m.ent m.x m.y) rfl AaC)),oR,tI⟩ ge
end Go.Eva.S8
namespace Go.Eva.S8
abbrev eA (c:Config) (x0 x6 x7 x8 x9 x10:T):T:= .agg [x0,ti c.cols,ti c.rows,ti c.players,ti c.window,.int .u64 c.seed,x6,x7,x8,x9,x10]
theorem Acm (e:Eng) (f:Int):Is cx (.call 61 [.ptr 0 0 0,vi f] [e.ob]) ⟨.ret,[],[Eng.ob {e with dirty:=minI e.dirty f}]⟩:=by
 exact za (gg [.s (ti (minI e.dirty f))] tI ge)
theorem AkY (c:Config) (r:Int) (x0 x6 x7 x8 x9 x10:T):Fn cx 57 [.ip 11 (eA c x0 x6 x7 x8 x9 x10) 0,ti r] (.bool (decide (0≤r)&&decide (r<c.regions))):=by
 have h:=AaH c;refine za ?_;refine brp (p:=r≥0) (by kernel_rfl) (fun h1=> ?_) (fun h1=> ?_)
 ·refine gg [.tt,.tt,.tt,.tt,.tt,.a _ _,.tt,.tt] ⟨o_a h,tI⟩ (rT (a:=zl qm [vb (decide (r<xw c))] []) ?_)
  (simp_all;try omega)
 ·refine gg [.ff,.ff,.ff,.ff,.ff,.ff,.ff] tI (rT (a:=zl qm [vb zq] []) ?_)
  (simp_all;try omega)
theorem Anm (c:Config) (now:Int) (x0 x6 x7 x9 x10:T):Fn cx 30 [.ip 11 (eA c x0 x6 x7 (ti now) x9 x10) 0] (ti now):=by
 exact za (gg [.ff] tI ge)
theorem Aer (e:Eng) (n:Int):Is cx (.call 16 [.ptr 0 0 0,vi n] [e.ob]) (if n<e.now then ⟨.ret,[vi 1],[e.ob]⟩ else if n>10000 then ⟨.ret,[vi 16],[e.ob]⟩ else ⟨.ret,[vi 0],[Eng.ob {e with now:=n,dirty:=minI e.dirty e.now}]⟩):=by
 have h:=Acm e e.now;refine za (gg [.ff] tI ?_);refine brp (p:=n<e.now) (by kernel_rfl) (fun h1=> ?_) (fun h1=> ?_)
 ·refine rT (a:=zl qm [vi 1] [vh 11 (V.t (Eng.enc e)) zq]) ?_
  (repeat' split)<;>first|rfl|omega
 ·refine brp (p:=n>10000) (by kernel_rfl) (fun h2=> ?_) (fun h2=> ?_)
  ·refine rT (a:=zl qm [vi 16] [vh 11 (V.t (Eng.enc e)) zq]) ?_
   (repeat' split)<;>first|rfl|omega
  ·refine gg [.a _ _] ⟨o_a h,tI⟩ (rT (a:=zl qm [vi 0] [vh 11 (V.t (qe [dw 1 (qe [T.row 3 (zw Col.enc e.cols)]),ti e.c.cols,ti e.c.rows,ti e.c.players,ti e.c.window,xc zr e.c.seed,dw 1 (qe [T.vrow 1 e.outs]),pt e.ks e.xs,ti n,ti (minI e.dirty e.now),ti e.steps])) zq]) ?_)
   (repeat' split)<;>first|rfl|omega
end Go.Eva.S8
namespace Go.Eva.S8
theorem Ajh (c:Config) (hr:c.right=zg):Is cx (.call 50 [vi c.players] []) ⟨.ret,[.ptr 0 0 0],[.one 1 (.t (.agg [.row 3 (zn c.players.toNat Col.new.enc)])) zq]⟩:=by
 have hp:=(ju.1 hr).2.2.1;have h1:maxI c.players 1=c.players:=by unfold maxI;rw [if_neg (by omega)]
 have h2:minI c.players 6=c.players:=by unfold minI;rw [if_neg (by omega)]
 exact za (gg [.t (ti (maxI c.players 1)) (ti c.players),.t (ti (minI c.players 6)) (ti c.players),.s (qe [T.sl 3 [],ti 0,zi zq]),.w (0≤c.players∧c.players≤c.players∧room (zm c.players) (40:Nat)),.l (zm c.players)] ⟨o_t (by rw [h1]),o_t (by rw [h2]),o_w ⟨(by omega),⟨(by omega),(by (simp [room,appendMax];omega))⟩⟩,tI⟩ ge)
theorem Acd (n:Nat) (hn:n≤16): ∀(d i:Nat),i+d=n→Is cx (.loop 51 [0,1,0,1,1] 0 [.ptr 0 0 0,vi n,vi i] [.one 1 (.t (.agg [.vrow 1 (zn i (.dict [] [])++zn d .nilm)])) zq]) ⟨.exit 0,[.ptr 0 0 0,vi n,vi n],[.one 1 (.t (.agg [.vrow 1 (zn n (.dict [] []))])) zq]⟩
 |0,i,h=>by
  obtain rfl:i=n:=by omega
  have e:zn i (pt [] [])++zn 0 ce=zn i (pt [] []):=by simp
  rw [e];exact za (gg [.b (decide ((i:Int)<(i:Int))) zq] ⟨fP,tI⟩ ge)
 |d+1,i,h=>by
  have ih:=Acd n hn d (i+1) (by omega);have hg:(zn i (pt [] [])++zn (d+1) ce)[i]?=zb ce:=by simp
  have e:(zn i (pt [] [])++zn (d+1) ce).set i (pt [] [])=zn (i+1) (pt [] [])++zn d ce:=by
   rw [List.set_append_right _ _ (by simp),kr,Nat.sub_self,List.replicate_succ,List.set_cons_zero,List.replicate_succ',ql];rfl
  have hl:i<(zn i (pt [] [])++zn (d+1) ce).length:=by simp
  have hll:(zn i (pt [] [])++zn (d+1) ce).length=n:=by simp;omega
  generalize zn (i+1) (pt [] [])++zn d ce=L at e ih;generalize zn i (pt [] [])++zn (d+1) ce=K at*;exact za (gg [.b (decide ((i:Int)<(n:Int))) zg,.w (0≤(i:Int)),.n (zm (i:Int)) i,.w (i<zj K),.g K i ce,.i zy ((i:Int)+1) (↑(i+1):Int),.t (T.sl 0 (qz K i (pt [] []))) (T.sl 0 L),.a _ _] ⟨tP,oW,nK,oA,o_g hg (by intro h;cases h),oI,o_l e,o_a ih,tI⟩ ge)
theorem Ajj (n:Nat) (hn:1≤n∧n≤16):Is cx (.call 51 [vi n] []) ⟨.ret,[.ptr 0 0 0],[.one 1 (.t (.agg [.vrow 1 (zn n (.dict [] []))])) zq]⟩:=by
 have h1:maxI (n:Int) 1=n:=by unfold maxI;rw [if_neg (by omega)]
 have h2:minI (n:Int) 16=n:=by unfold minI;rw [if_neg (by omega)]
 have hL:=Acd n hn.2 n 0 (by omega);simp only [List.replicate_zero,jj] at hL;exact za (gg [.t (ti (maxI (n:Int) 1)) (ti (n:Int)),.t (ti (minI (n:Int) 16)) (ti (n:Int)),.w (0≤(n:Int)∧(n:Int)≤(n:Int)∧room (zm (n:Int)) (8:Nat)),.n (zm (n:Int)) n,.n (zj (zn n ce)) n,.a _ _] ⟨o_t (by rw [h1]),o_t (by rw [h2]),o_w ⟨(by omega),⟨(by omega),(by (simp [room,appendMax];omega))⟩⟩,nK,oM,o_a hL,tI⟩ ge)
theorem AdS (c:Config) (hr:c.right=zg):Is cx (.call 11 [.t c.enc] []) ⟨.ret,[.ptr 0 0 0,vi 0],[(Eng.new c).ob]⟩:=by
 have hgl:= @Config.regions_le c;have hml:=u5 hr;have hre:c.regions=c.cols*c.rows:=by simp [xw,hr]
 have hI:=Ajh c hr;have hO:=Ajj c.regions.toNat (by have:=ju.1 hr;omega)
 have hN:=Amq c;have hG:=AaH c;rw [show ((c.regions.toNat:Nat):Int)=c.regions from Int.toNat_of_nonneg (by omega)] at hO;simp only [mm,Config.err,hr,if_true] at hN;refine za (gg [.a _ _,.b (0 !=0) zq] ⟨o_a hN,bK,tI⟩ (bO ?_ ?_))
 ·refine gg [.a _ _] ⟨o_a hI,tI⟩ (bO ?_ ?_)
  ·refine gg [.a _ _] ⟨o_a hG,tI⟩ (bO ?_ ?_)
   all_goals
    refine gg [.a _ _] ⟨o_a hO,tI⟩ (rT (a:=zl qm [yn 0 0 0,vi 0] [vh 11 (V.t (qe [dw 1 (qe [T.row 3 (zn (zm c.players) (Col.enc Col.new))]),ti c.cols,ti c.rows,ti c.players,ti c.window,xc zr c.seed,dw 1 (qe [T.vrow 1 (zn (zm (xw c)) (pt [] []))]),pt [] [],ti 0,ti 0,ti 0])) zq]) ?_)
    (simp only [Eng.ob,Eng.enc,Eng.new,wl])
  ·refine gg [.a _ _,.a _ _] ⟨o_a hG,o_a hO,tI⟩ (rT (a:=zl qm [yn 0 0 0,vi 0] [vh 11 (V.t (qe [dw 1 (qe [T.row 3 (zn (zm c.players) (Col.enc Col.new))]),ti c.cols,ti c.rows,ti c.players,ti c.window,xc zr c.seed,dw 1 (qe [T.vrow 1 (zn (zm (xw c)) (pt [] []))]),pt [] [],ti 0,ti 0,ti 0])) zq]) ?_)
   (simp only [Eng.ob,Eng.enc,Eng.new,wl])
 ·refine gg [.a _ _,.a _ _,.a _ _] ⟨o_a hI,o_a hG,o_a hO,tI⟩ (rT (a:=zl qm [yn 0 0 0,vi 0] [vh 11 (V.t (qe [dw 1 (qe [T.row 3 (zn (zm c.players) (Col.enc Col.new))]),ti c.cols,ti c.rows,ti c.players,ti c.window,xc zr c.seed,dw 1 (qe [T.vrow 1 (zn (zm (xw c)) (pt [] []))]),pt [] [],ti 0,ti 0,ti 0])) zq]) ?_)
  (simp only [Eng.ob,Eng.enc,Eng.new,wl])
end Go.Eva.S8