/- A reading of the program, proved sound against the model, and what its functions answer by it: part 2. -/
import Derived.Test.YtdlmgaiiheeigaaEva1
set_option linter.unusedSimpArgs false
set_option linter.unusedVariables false
open List renaming length → zq, map → zz, replicate → zj, set → zx, take → zw, drop → zk
open Int renaming toNat → zy, tmod → zg, fdiv → zh
open Go.IntKind renaming i64 → zd, u64 → zf, wrap → zp
open BitVec renaming ofInt → zb
open Go.Eva.Entity renaming enc → zm, less → z8, right → z9, mk → qw
open Go.Eva.Cross renaming enc → zn, less → z7
open Go.Eva.Input renaming enc → zr
open Go.Eva.Region renaming enc → zt
open Go.Eva.Config renaming regions → z0
open Go.Eva.Wp renaming ev → qq
open Go.Eva.Res renaming mk → qz
open Go.Eva.Ex renaming ret → qj, exit → qx
open Go.Eva.Ob renaming arr → qv, one → qg
open Go.Eva.T renaming sl → qk
open Go.Eva.V renaming all → qy
namespace Go.Eva
def colsL (base col:Int):Nat→List Int
 |0=> []
 |d+1=>(base+col)::colsL base (col+1) d
def rowsL (cols lo:Int) (w:Nat) (row:Int):Nat→List Int
 |0=> []
 |d+1=>colsL (row*cols) lo w++rowsL cols lo w (row+1) d
def loI (q:Int):Int:=maxI (q-1) 0
def hiI (q n:Int):Int:=minI (q+1) (n-1)
def nearP (cols rows r:Int):List Int:=
 rowsL cols (loI (r.tmod cols)) (hiI (r.tmod cols) cols+1-loI (r.tmod cols)).toNat (loI (r.tdiv cols)) (hiI (r.tdiv cols) rows+1-loI (r.tdiv cols)).toNat
def isNear (cols r n:Int):Bool:=decide (-1≤n.tmod cols-r.tmod cols∧n.tmod cols-r.tmod cols≤1∧ -1≤n.tdiv cols-r.tdiv cols∧n.tdiv cols-r.tdiv cols≤1)
def nearR (cols r:Int) (n:Int):Nat→List Int
 |0=> []
 |d+1=>(if isNear cols r n=true then [n] else [])++nearR cols r (n+1) d
def Config.near (c:Config) (r:Int):List Int:=if c.is r=true then nearP c.cols c.rows r else []
theorem Aj2 {cols rows r:Int} (hc:1≤cols∧cols≤4) (hr:1≤rows∧rows≤4) (h:0≤r∧r<cols*rows):nearR cols r 0 (cols*rows).toNat=nearP cols rows r:=by
 have key: ∀a∈ [1,2,3,4],∀b∈ [1,2,3,4],∀k∈List.range (a*b),nearR (a:Nat) (k:Nat) 0 ((a:Int)*(b:Nat)).toNat=nearP (a:Nat) (b:Nat) (k:Nat):=by decide+kernel
 obtain ⟨a,rfl⟩: ∃a:Nat,cols=a:=⟨cols.toNat,by omega⟩
 obtain ⟨b,rfl⟩: ∃b:Nat,rows=b:=⟨rows.toNat,by omega⟩
 obtain ⟨k,rfl⟩: ∃k:Nat,r=k:=⟨r.toNat,by omega⟩
 refine key a ?_ b ?_ k ?_
 ·have:a=1∨a=2∨a=3∨a=4:=by omega
  simpa using this
 ·have:b=1∨b=2∨b=3∨b=4:=by omega
  simpa using this
 ·rw [List.mem_range]
  have:=h.2
  exact_mod_cast this
theorem Aja {cols rows r:Int} (hc:1≤cols∧cols≤4) (hr:1≤rows∧rows≤4) (h:0≤r∧r<cols*rows):(nearP cols rows r).length≤9:=by
 have key: ∀a∈ [1,2,3,4],∀b∈ [1,2,3,4],∀k∈List.range (a*b),(nearP (a:Nat) (b:Nat) (k:Nat)).length≤9:=by decide+kernel
 obtain ⟨a,rfl⟩: ∃a:Nat,cols=a:=⟨cols.toNat,by omega⟩
 obtain ⟨b,rfl⟩: ∃b:Nat,rows=b:=⟨rows.toNat,by omega⟩
 obtain ⟨k,rfl⟩: ∃k:Nat,r=k:=⟨r.toNat,by omega⟩
 refine key a ?_ b ?_ k ?_
 ·have:a=1∨a=2∨a=3∨a=4:=by omega
  simpa using this
 ·have:b=1∨b=2∨b=3∨b=4:=by omega
  simpa using this
 ·rw [List.mem_range]
  have:=h.2
  exact_mod_cast this
theorem Config.is_iff {c:Config} {r:Int} (h:c.right=true):c.is r=true↔0≤r∧r<c.cols*c.rows:=by
 simp only [Config.is,Aad,z0,h,if_true];omega
theorem Config.is_right {c:Config} {r:Int} (h:c.is r=true):c.right=true:=by
 cases hr:c.right with
 |true=>rfl
 |false=>
  exfalso
  simp only [Config.is,Aad,z0,hr,Bool.false_eq_true,if_false] at h
  omega
theorem AbX {c:Config} {r:Int}:(c.near r).length≤9:=by
 unfold Config.near
 split
 ·rename_i h
  have hr:=Config.is_right h
  obtain ⟨hc,hrr,_⟩:=Config.right_iff.1 hr
  exact Aja hc hrr ((Config.is_iff hr).1 h)
 ·simp
def Entity.zero:Entity:=⟨0,0,0,0,0,0,0,0,0⟩
def Cross.right (c:Config) (m:Cross):Bool:=has (c.near m.frm) m.to&&within m.frame 0 9999&&
 (if m.kind=1 then m.ent.right c&&decide (c.of m.ent.x m.ent.y=m.to)&&decide (m.x=0)&&decide (m.y=0)&& !decide (m.to=m.frm)
  else if m.kind=2 then c.inside m.x m.y&&decide (m.ent=Entity.zero) else false)
theorem Aa2 {e:Entity}:teq e.enc (.agg [ti 0,ti 0,ti 0,ti 0,ti 0,ti 0,ti 0,ti 0,ti 0])=decide (e=Entity.zero):=AhI (b:=Entity.zero)
theorem teq_zero' {e:Entity}:teq (.agg [ti e.id,ti e.kind,ti e.x,ti e.y,ti e.vx,ti e.vy,ti e.health,ti e.age,ti e.owner]) (.agg [ti 0,ti 0,ti 0,ti 0,ti 0,ti 0,ti 0,ti 0,ti 0])=decide (e=Entity.zero):=AhI (b:=Entity.zero)
end Go.Eva
namespace Go.Eva.S2
theorem Ade (c:Config) (r q H row:Int) (hc:1≤c.cols∧c.cols≤4) (hq:r.tmod c.cols=q) (hH:minI (q+1) (c.cols-1)=H) (hq1:0≤q∧q≤3) (hH1:H≤3) (hrow:0≤row∧row≤3) (hm:0≤row*c.cols∧row*c.cols≤16):
  ∀(d:Nat) (col:Int) (A:List Int),0≤col→col+d=H+1→A.length+d≤1000→
  Is cx (.loop 74 [0,1,0,0,1,0,0,1,0,1,1,1] 0 [vi r,.ptr 0 0 0,.all 1 none,vi row,vi col] [.one 5 (.t c.enc) false,.arr 1 (A.map ti) none false])
   ⟨.exit 2,[vi r,.ptr 0 0 0,.all 1 none,vi row,vi (H+1)],[.one 5 (.t c.enc) false,.arr 1 ((A++colsL (row*c.cols) col d).map ti) none false]⟩:=by
 intro d
 induction d with
 |zero=>
  intro col A h0 h1 h2
  refine qq ?_
  refine gg [.w (c.cols≠(0:Int)),.t (ti (zg r c.cols)) (ti q),.i zd (q+1) (q+1),.i zd (c.cols-1) (c.cols-1),.t (ti (minI (q+1) (c.cols-1))) (ti H),.b (decide (col≤H)) false] ⟨oW,o_t (by rw [hq]),oI,oI,o_t (by rw [hH]),fP,trivial⟩ ?_
  refine rT (a:=qz (qx 2) [vi r,V.ptr 0 0 0,qy 1 none,vi row,vi col] [qg 5 (V.t (Config.enc c)) false,qv 1 (zz ti A) none false]) ?_
  ((have e:col=H+1:=by omega);subst e;simp [colsL])
 |succ d ih=>
  intro col A h0 h1 h2
  have ih1:=ih (col+1) (A++ [row*c.cols+col]) (by omega) (by omega) (by simp;omega)
  clear ih
  refine qq ?_
  refine gg [.w (c.cols≠(0:Int)),.t (ti (zg r c.cols)) (ti q),.i zd (q+1) (q+1),.i zd (c.cols-1) (c.cols-1),.t (ti (minI (q+1) (c.cols-1))) (ti H),.b (decide (col≤H)) true,.i zd (row*c.cols) (row*c.cols),.i zd (row*c.cols+col) (row*c.cols+col),.w ((0:Nat)<(8:Nat)),.t (qk 0 [ti (row*c.cols+col)]) (qk 0 (zz (T.int zd) [row*c.cols+col])),.t (qk 0 (zz ti A++zz (T.int zd) [row*c.cols+col])) (qk 0 (zz ti (A++ [row*c.cols+col]))),.w (room (zq (zz ti (A++ [row*c.cols+col]))) (8:Nat)),.i zd (col+1) (col+1),.a _ _] ⟨o_w (by (simp [room,appendMax];omega)),o_t (by rw [hq]),o_i (w64 (by (simp [room,appendMax];omega))),o_i (w64 (by (simp [room,appendMax];omega))),o_t (by rw [hH]),tP,o_i (w64 (by (simp [room,appendMax];omega))),o_i (w64 (by (simp [room,appendMax];omega))),oW,o_l (AaL rfl Ab4),o_l (Aa6 rfl rfl),o_w (by (simp [room,appendMax];omega)),o_i (w64 (by (simp [room,appendMax];omega))),o_a ih1,trivial⟩ ?_
  refine rT (a:=qz (qx 2) [vi r,V.ptr 0 0 0,qy 1 none,vi row,vi (H+1)] [qg 5 (V.t (Config.enc c)) false,qv 1 (zz ti (A++ [row*c.cols+col]++colsL (row*c.cols) (col+1) d)) none false]) ?_
  simp [colsL]
theorem Af0 (b:Int): ∀(d:Nat) (c:Int),(colsL b c d).length=d
 |0,_=>rfl
 |d+1,c=>by simp [colsL,Af0 b d]
theorem Adf (c:Config) (r q H p G:Int) (w:Nat) (hc:1≤c.cols∧c.cols≤4) (hr0:1≤c.rows∧c.rows≤4) (hq:r.tmod c.cols=q) (hp:r.tdiv c.cols=p) (hH:minI (q+1) (c.cols-1)=H) (hG:minI (p+1) (c.rows-1)=G) (hq1:0≤q∧q≤3) (hp1:0≤p∧p≤3) (hH1:H≤3) (hG1:G≤3) (hw:maxI (q-1) 0+w=H+1) (hl:0≤maxI (q-1) 0):
  ∀(d:Nat) (row:Int) (A:List Int),0≤row→row+d=G+1→A.length+d*100≤900→
  Is cx (.loop 74 [0,1,0,1,1,1] 0 [vi r,.ptr 0 0 0,.all 1 none,vi row] [.one 5 (.t c.enc) false,.arr 1 (A.map ti) none false])
   ⟨.exit 0,[vi r,.ptr 0 0 0,.all 1 none,vi (G+1)],[.one 5 (.t c.enc) false,.arr 1 ((A++rowsL c.cols (maxI (q-1) 0) w row d).map ti) none false]⟩:=by
 intro d
 induction d with
 |zero=>
  intro row A h0 h1 h2
  refine qq ?_
  refine gg [.w (c.cols≠(0:Int)),.i zd (Int.tdiv r c.cols) p,.i zd (p+1) (p+1),.i zd (c.rows-1) (c.rows-1),.t (ti (minI (p+1) (c.rows-1))) (ti G),.b (decide (row≤G)) false] ⟨oW,oI,oI,oI,o_t (by rw [hG]),fP,trivial⟩ ?_
  refine rT (a:=qz (qx 0) [vi r,V.ptr 0 0 0,qy 1 none,vi row] [qg 5 (V.t (Config.enc c)) false,qv 1 (zz ti A) none false]) ?_
  ((have e:row=G+1:=by omega);subst e;simp [rowsL])
 |succ d ih=>
  intro row A h0 h1 h2
  have hm:=mul4 (a:=row) (b:=c.cols) (by omega) (by omega)
  have hi:=Ade c r q H row hc hq hH hq1 hH1 (by omega) hm w (maxI (q-1) 0) A hl hw (by omega)
  have ih1:=ih (row+1) (A++colsL (row*c.cols) (maxI (q-1) 0) w) (by omega) (by omega) (by simp [Af0];omega)
  clear ih
  refine qq ?_
  refine gg [.w (c.cols≠(0:Int)),.i zd (Int.tdiv r c.cols) p,.i zd (p+1) (p+1),.i zd (c.rows-1) (c.rows-1),.t (ti (minI (p+1) (c.rows-1))) (ti G),.b (decide (row≤G)) true,.w (c.cols≠(0:Int)),.t (ti (zg r c.cols)) (ti q),.i zd (q-1) (q-1),.s (ti (maxI (q-1) 0)),.a _ _,.i zd (row+1) (row+1),.a _ _] ⟨oW,oI,oI,oI,o_t (by rw [hG]),tP,oW,o_t (by rw [hq]),oI,o_a hi,oI,o_a ih1,trivial⟩ ?_
  refine rT (a:=qz (qx 0) [vi r,V.ptr 0 0 0,qy 1 none,vi (G+1)] [qg 5 (V.t (Config.enc c)) false,qv 1 (zz ti (A++colsL (row*c.cols) (maxI (q-1) 0) w++rowsL c.cols (maxI (q-1) 0) w (row+1) d)) none false]) ?_
  simp [rowsL]
theorem Acs (c:Config) (r:Int):Fn cx 74 [c.enc,ti r] (.sl 1 ((c.near r).map ti)):=by
 cases h:c.is r with
 |false=>
  have hN:c.near r= []:=by simp [Config.near,h]
  rw [hN]
  refine qq ?_
  refine gg [.a _ _,.b (!Config.is c r) true] ⟨o_a (Aeg c r),Agd (by assumption),trivial⟩ ?_
  exact ge
 |true=>
  have hr:=Config.is_right h
  have hi:=(Config.is_iff hr).1 h
  obtain ⟨hc,hrr,_⟩:=Config.right_iff.1 hr
  have hml:=Config.mul_le hr
  have hN:c.near r=nearP c.cols c.rows r:=by simp [Config.near,h]
  rw [hN]
  have k1:=Ac5 (v:=r) (k:=c.cols) (m:=c.rows) (by omega) (by omega) (by omega)
  have k2:=Aes (v:=r) (k:=c.cols) (by omega) (by omega)
  have hH1:minI (r.tmod c.cols+1) (c.cols-1)≤3∧maxI (r.tmod c.cols-1) 0≤minI (r.tmod c.cols+1) (c.cols-1)∧0≤maxI (r.tmod c.cols-1) 0:=by unfold minI maxI;split<;>split<;>omega
  have hG1:minI (r.tdiv c.cols+1) (c.rows-1)≤3∧maxI (r.tdiv c.cols-1) 0≤minI (r.tdiv c.cols+1) (c.rows-1)∧0≤maxI (r.tdiv c.cols-1) 0:=by unfold minI maxI;split<;>split<;>omega
  have hO:=Adf c r _ _ _ _ (minI (r.tmod c.cols+1) (c.cols-1)+1-maxI (r.tmod c.cols-1) 0).toNat hc hrr rfl rfl rfl rfl (by omega) (by omega) hH1.1 hG1.1 (by omega) hH1.2.2
   (minI (r.tdiv c.cols+1) (c.rows-1)+1-maxI (r.tdiv c.cols-1) 0).toNat (maxI (r.tdiv c.cols-1) 0) [] (by omega) (by omega) (by simp;omega)
  rw [List.nil_append] at hO
  refine qq ?_
  refine gg [.a _ _,.b (!Config.is c r) false,.w (c.cols≠(0:Int)),.i zd (Int.tdiv r c.cols) (Int.tdiv r c.cols),.i zd (Int.tdiv r c.cols-1) (Int.tdiv r c.cols-1),.s (ti (maxI (Int.tdiv r c.cols-1) 0)),.a _ _] ⟨o_a (Aeg c r),AfW (by assumption),oW,oI,oI,o_a hO,trivial⟩ ?_
  exact ge
end Go.Eva.S2
namespace Go.Eva.S2
theorem Afr (c:Config) (m:Cross):Fn cx 58 [c.enc,m.enc] (.bool (m.right c)):=by
 have hn:= @AbX c m.frm
 have hs:small (c.near m.frm):=by unfold small;omega
 refine qq ?_
 refine gg [.a _ _,.a _ _] ⟨o_a (Acs c m.frm),o_a (AbO (Config.near c m.frm) m.to (by assumption)),trivial⟩ ?_
 refine brnot (b:=has (Config.near c m.frm) m.to) (by kernel_rfl) (fun h1=> ?_) (fun h1=> ?_)
 ·refine gg [.tt,.tt,.tt,.tt,.tt,.tt,.tt,.tt] trivial ?_
  refine rT (a:=qz qj [vb false] []) ?_
  (simp_all [Cross.right,within,beqd,bned,Aa2,teq_zero'];try omega)
 ·refine gg [.ff,.ff,.ff] trivial ?_
  refine brp (p:=m.frame<0) (by kernel_rfl) (fun h2=> ?_) (fun h2=> ?_)
  ·refine gg [.tt,.tt,.tt,.tt] trivial ?_
   refine rT (a:=qz qj [vb false] []) ?_
   (simp_all [Cross.right,within,beqd,bned,Aa2,teq_zero'];try omega)
  ·refine gg [.ff,.ff,.ff] trivial ?_
   refine brp (p:=m.frame≥10000) (by kernel_rfl) (fun h3=> ?_) (fun h3=> ?_)
   ·refine rT (a:=qz qj [vb false] []) ?_
    (simp_all [Cross.right,within,beqd,bned,Aa2,teq_zero'];try omega)
   ·refine bre (x:=m.kind) (y:=1) (by kernel_rfl) (fun h4=> ?_) (fun h4=> ?_)
    ·refine gg [.a _ _] ⟨o_a (Abl c m.ent),trivial⟩ ?_
     refine br (b:=z9 c m.ent) (by kernel_rfl) (fun h5=> ?_) (fun h5=> ?_)
     ·refine gg [.tt,.tt,.tt,.tt,.tt,.tt,.tt,.tt,.tt,.a _ _,.tt,.tt] ⟨o_a (Abr c m.ent.x m.ent.y),trivial⟩ ?_
      refine bre (x:=Config.of c m.ent.x m.ent.y) (y:=m.to) (by kernel_rfl) (fun h6=> ?_) (fun h6=> ?_)
      ·refine gg [.tt,.tt,.tt] trivial ?_
       refine bre (x:=m.x) (y:=0) (by kernel_rfl) (fun h7=> ?_) (fun h7=> ?_)
       ·refine gg [.tt,.tt,.tt] trivial ?_
        refine bre (x:=m.y) (y:=0) (by kernel_rfl) (fun h8=> ?_) (fun h8=> ?_)
        ·refine gg [.tt,.tt,.tt,.tt,.tt] trivial ?_
         refine rT (a:=qz qj [vb (m.to !=m.frm)] []) ?_
         (simp_all [Cross.right,within,beqd,bned,Aa2,teq_zero'];try omega)
        ·refine gg [.ff,.ff,.ff,.ff,.ff] trivial ?_
         refine rT (a:=qz qj [vb false] []) ?_
         (simp_all [Cross.right,within,beqd,bned,Aa2,teq_zero'];try omega)
       ·refine gg [.ff,.ff,.ff,.ff,.ff,.ff,.ff,.ff,.ff] trivial ?_
        refine rT (a:=qz qj [vb false] []) ?_
        (simp_all [Cross.right,within,beqd,bned,Aa2,teq_zero'];try omega)
      ·refine gg [.ff,.ff,.ff,.ff,.ff,.ff,.ff,.ff,.ff,.ff,.ff,.ff,.ff] trivial ?_
       refine rT (a:=qz qj [vb false] []) ?_
       (simp_all [Cross.right,within,beqd,bned,Aa2,teq_zero'];try omega)
     ·refine gg [.ff,.ff,.ff,.ff,.ff,.ff,.ff,.ff,.ff,.ff,.ff,.ff,.ff,.ff,.ff,.ff] trivial ?_
      refine gg [.ff,.ff,.ff,.ff,.ff,.ff,.ff,.ff,.ff] trivial ?_
      refine rT (a:=qz qj [vb false] []) ?_
      (simp_all [Cross.right,within,beqd,bned,Aa2,teq_zero'];try omega)
    ·refine bre (x:=m.kind) (y:=2) (by kernel_rfl) (fun h5=> ?_) (fun h5=> ?_)
     ·refine gg [.a _ _] ⟨o_a (Ab1 c m.x m.y),trivial⟩ ?_
      refine br (b:=Config.inside c m.x m.y) (by kernel_rfl) (fun h6=> ?_) (fun h6=> ?_)
      ·refine gg [.tt,.tt,.tt,.w (conform cx (40:Nat) (37:Nat) (T.agg [ti m.ent.id,ti m.ent.kind,ti m.ent.x,ti m.ent.y,ti m.ent.vx,ti m.ent.vy,ti m.ent.health,ti m.ent.age,ti m.ent.owner])=true∧conform cx (40:Nat) (37:Nat) (T.agg [ti (0:Int),ti (0:Int),ti (0:Int),ti (0:Int),ti (0:Int),ti (0:Int),ti (0:Int),ti (0:Int),ti (0:Int)])=true),.tt] ⟨o_w ⟨(by kernel_rfl),(by kernel_rfl)⟩,trivial⟩ ?_
       refine rT (a:=qz qj [vb (teq (T.agg [ti m.ent.id,ti m.ent.kind,ti m.ent.x,ti m.ent.y,ti m.ent.vx,ti m.ent.vy,ti m.ent.health,ti m.ent.age,ti m.ent.owner]) (T.agg [ti 0,ti 0,ti 0,ti 0,ti 0,ti 0,ti 0,ti 0,ti 0]))] []) ?_
       (simp_all [Cross.right,within,beqd,bned,Aa2,teq_zero'];try omega)
      ·refine gg [.ff,.ff,.ff,.ff] trivial ?_
       refine rT (a:=qz qj [vb false] []) ?_
       (simp_all [Cross.right,within,beqd,bned,Aa2,teq_zero'];try omega)
     ·refine rT (a:=qz qj [vb false] []) ?_
      (simp_all [Cross.right,within,beqd,bned,Aa2,teq_zero'];try omega)
end Go.Eva.S2
namespace Go.Eva
abbrev w64u (n:Int):Int:=IntKind.u64.wrap n
def x33 (x:Int):Int:=w64u ((zb 64 x^^^zb 64 (x.fdiv 8589934592)).toNat:Nat)
def mix (x:Int):Int:=x33 (w64u (x33 (w64u (x33 x*18397679294719823053))*14181476777654086739))
def atStep (h v:Int):Int:=mix (w64u (w64u (h+w64u v)+11400714819323198485))
def chanceAt (seed:Int) (l:List Int):Int:=l.foldl atStep (mix seed)
def below (n seed:Int) (l:List Int):Int:=if n<1 then 0 else (chanceAt seed l).tmod n
theorem AjP {x:Int}:0≤x33 x∧x33 x≤18446744073709551615:=by
 unfold x33 w64u
 simp [zp,IntKind.bits,IntKind.signed];omega
theorem Ajl {x:Int}:0≤mix x∧mix x≤18446744073709551615:=AjP
theorem at_le {seed:Int} {l:List Int}:0≤chanceAt seed l∧chanceAt seed l≤18446744073709551615:=by
 unfold chanceAt
 rcases List.eq_nil_or_concat l with rfl|⟨l',v,rfl⟩
 ·exact Ajl
 ·rw [List.concat_eq_append,List.foldl_append];exact Ajl
theorem Afa {n seed:Int} {l:List Int} (h:1≤n):0≤below n seed l∧below n seed l<n:=by
 unfold below
 rw [if_neg (by omega)]
 exact Aes (by omega) at_le.1
def held (v:Int):Int:=clamp v (-2147483647) 2147483647
def subH (a b:Int):Int:=held (held a-held b)
def sumStep (s v:Int):Int:=held (s+held v)
def sumH (l:List Int):Int:=l.foldl sumStep 0
def sizeI (v:Int):Int:=maxI v (0-v)
def farI (ax ay bx y:Int):Int:=maxI (sizeI (subH ax bx)) (sizeI (subH ay y))
theorem Adn {v:Int}: -2147483647≤held v∧held v≤2147483647:=AbW (by decide)
theorem AeZ {v:Int} (h: -2147483647≤v∧v≤2147483647):held v=v:=by unfold held clamp;rw [if_neg (by omega),if_neg (by omega)]
theorem Aie {x v:Int} (hx: -1000000000≤x∧x≤1000000000) (hv: -1000000000≤v∧v≤1000000000):sumH [x,v]=x+v:=by
 simp only [sumH,sumStep,List.foldl_cons,List.foldl_nil]
 rw [AeZ (v:=x) (by omega),AeZ (v:=v) (by omega),AeZ (v:=0+x) (by omega),AeZ (by omega)]
 omega
def Input.right (i:Input):Bool:=within i.dx (-2) 2&&within i.dy (-2) 2
def Input.zero:Input:=⟨0,0,false⟩
def steerE (e:Entity) (i:Input):Entity×Bool:=
 if e.kind≠1∨i.right=false then (e,false)
 else if i.fire=true∧e.age=0 then ({e with vx:=i.dx*32,vy:=i.dy*32,age:=6},true)
 else ({e with vx:=i.dx*32,vy:=i.dy*32,age:=maxI e.age 1-1},false)
def paceD (d:Int):Int:=clamp d (-1) 1*160
def shootE (e:Entity) (i:Input) (id:Int):Entity:=⟨id,2,e.x,e.y,if paceD i.dx=0∧paceD i.dy=0 then 160 else paceD i.dx,paceD i.dy,1,0,e.id⟩
def goE (c:Config) (e:Entity):Entity×Bool:=
 if e.right c=false then (Entity.zero,false)
 else if e.kind=2 then
  (if e.age+1>12∨c.inside (sumH [e.x,e.vx]) (sumH [e.y,e.vy])=false then (Entity.zero,false)
   else ({e with x:=clamp (sumH [e.x,e.vx]) 0 (c.width-1),y:=clamp (sumH [e.y,e.vy]) 0 (c.height-1),age:=e.age+1},true))
 else ({e with x:=clamp (sumH [e.x,e.vx]) 0 (c.width-1),y:=clamp (sumH [e.y,e.vy]) 0 (c.height-1)},true)
def nearE (e:Entity) (x y far:Int):Bool:=decide (farI e.x e.y x y≤far)
section
variable (kind far:Int) (other:Entity→Entity→Bool) (turn:Int→Int)
def meetP (t p:Entity):Bool:=decide (p.kind=1)&&(other t p&&nearE p t.x t.y far)
def meet1 (out:List Entity) (gone:List Bool) (i:Nat):List Entity×List Bool:=
 if (gt out i).kind=kind then (match out.findIdx? (meetP far other (gt out i)) with
  |some k=>(out.set k {gt out k with health:=turn (gt out k).health},gone.set i true)
  |none=>(out,gone))
 else (out,gone)
def meetN:Nat→Nat→List Entity→List Bool→List Entity×List Bool
 |0,_,out,gone=>(out,gone)
 |d+1,i,out,gone=>meetN d (i+1) (meet1 kind far other turn out gone i).1 (meet1 kind far other turn out gone i).2
end
def keepL:List Entity→List Bool→List Entity
 |e::l,b::g=>(if b=true then [] else [e])++keepL l g
 |_,_=> []
def meetL (kind far:Int) (other:Entity→Entity→Bool) (turn:Int→Int) (l:List Entity):List Entity:=
 keepL (meetN kind far other turn l.length 0 l (zj l.length false)).1 (meetN kind far other turn l.length 0 l (zj l.length false)).2
def shotsL (l:List Entity):List Entity:=meetL 2 24 (fun s p=>decide (p.id≠s.owner)) (fun h=>subH h 20) l
def gemsL (l:List Entity):List Entity:=meetL 3 32 (fun _ _=>true) (fun h=>minI (sumH [h,25]) 100) l
def hurtE (b:Cross) (e:Entity):Entity:=if b.kind=2∧e.kind=1∧nearE e b.x b.y 128=true then {e with health:=subH e.health 10} else e
def blastsL (l:List Entity) (bs:List Cross):List Entity:=bs.foldl (fun l b=>l.map (hurtE b)) l
def fallenP (e:Entity):Bool:=decide (e.kind=1)&&decide (e.health≤0)
def fallenL (l:List Entity):List Int:=(l.filter fallenP).map Entity.id
def regionRight (c:Config) (r:Int) (s:Region):Bool:=
 c.is r&&within s.frame 0 10000&&sortedL s.ents&&decide (things s.ents≤24)&&s.ents.all fun e=>e.right c&&decide (c.of e.x e.y=r)
def arrive1 (l:List Entity) (m:Cross):List Entity:=if m.kind=1∧(m.ent.kind=1∨things l<24) then put1 l m.ent else l
def arriveL (l:List Entity) (inbox:List Cross):List Entity:=inbox.foldl arrive1 l
def askedE (c:Config) (r:Int) (s:Region) (ins:List Input) (inbox:List Cross):Int:=
 if c.is r=false then 13
 else if regionRight c r s=false then 4
 else if (ins.length:Int)≠c.players∨(ins.any fun i=> !i.right)=true then 11
 else if (inbox.any fun m=> !(m.right c&&decide (m.to=r)&&decide (m.frame=s.frame-1)))=true then 1
 else if s.frame=10000 then 16
 else 0
end Go.Eva
namespace Go.Eva
set_option linter.unusedSectionVars false
section
variable {α:Type} [Inhabited α]
theorem AdX {P Q:List α} {x:α} {k:Nat} (h:k=P.length):gt (P++x::Q) k=x:=by subst h;unfold gt;simp
theorem Ajm {P Q:List α} {x y:α} {i j:Nat} (hi:i=P.length+1) (hj:j=P.length):sw (P++x::y::Q) i j=P++y::x::Q:=by
 subst hi hj
 have g0:gt (P++x::y::Q) P.length=x:=AdX rfl
 have g1:gt (P++x::y::Q) (P.length+1)=y:=by unfold gt;simp
 unfold sw
 rw [g0,g1]
 have e1:(P++x::y::Q).set (P.length+1) x=P++x::x::Q:=by
  rw [List.set_append,if_neg (by omega)];simp
 rw [e1,List.set_append,if_neg (by omega)];simp
theorem Ajo {Q:List α} {x:α}: ∀ {n:Nat} {V P:List α} {k:Nat},n=V.length→k=P.length+V.length→down n (P++V++x::Q) k=P++x::V++Q:=by
 intro n
 induction n generalizing Q with
 |zero=>
  intro V P k h1 h2
  have:V= []:=List.eq_nil_of_length_eq_zero h1.symm
  subst this
  simp [down]
 |succ n ih=>
  intro V P k h1 h2
  obtain ⟨V',y,rfl⟩: ∃V' y,V=V'++ [y]:=⟨V.dropLast,V.getLast (by intro h;subst h;simp at h1),(List.dropLast_concat_getLast _).symm⟩
  simp only [List.length_append,List.length_cons,List.length_nil] at h1 h2
  rw [down]
  have e:sw (P++(V'++ [y])++x::Q) k (k-1)=P++V'++x::(y::Q):=by
   have:=Ajm (P:=P++V') (Q:=Q) (x:=y) (y:=x) (i:=k) (j:=k-1) (by simp;omega) (by simp;omega)
   simpa using this
  rw [e,ih (V:=V') (P:=P) (by omega) (by omega)]
  simp
variable (lt:α→α→Bool)
def insIn (a:Nat):Nat→List α→List α
 |0,A=>A
 |j+1,A=>if a<j+1 then (match lt (gt A (j+1)) (gt A j) with|true=>insIn a j (sw A (j+1) j)|false=>A) else A
def insOut (a:Nat):Nat→Nat→List α→List α
 |0,_,A=>A
 |d+1,i,A=>insOut a d (i+1) (insIn lt a i A)
variable {lt}
theorem AcJ (a:Nat): ∀(j:Nat) (A:List α),(insIn lt a j A).length=A.length
 |0,_=>rfl
 |j+1,A=>by
  rw [insIn]
  split
  ·split
   ·rw [AcJ,Ab7]
   ·rfl
  ·rfl
theorem Ahj (S:List α) (x:α):sortS lt (S++ [x])=insS lt (sortS lt S) x:=by simp [sortS]
theorem AeS {x y:α} (h:lt x y=true): ∀(S:List α),insS lt (S++ [y]) x=insS lt S x++ [y]
 | []=>by simp [insS,h]
 |z::S=>by
  simp only [List.cons_append,insS]
  cases lt x z with
  |true=>simp
  |false=>simp [AeS h S]
theorem AgV {x:α}: ∀ {S:List α},(∀z∈S,lt x z=false)→insS lt S x=S++ [x]
 | [],_=>rfl
 |z::S,h=>by
  simp only [insS,h z (List.mem_cons_self ..),AgV fun w hw=>h w (List.mem_cons_of_mem _ hw),List.cons_append]
theorem AiJ (hw:Swo lt) {P:List α} {x:α}: ∀ {n:Nat} {S Q:List α} {j:Nat},n=S.length→Sd lt S→j=P.length+S.length→insIn lt P.length j (P++S++x::Q)=P++insS lt S x++Q:=by
 intro n
 induction n with
 |zero=>
  intro S Q j h1 _ h2
  have:S= []:=List.eq_nil_of_length_eq_zero h1.symm
  subst this
  simp only [List.length_nil,Nat.add_zero] at h2
  subst h2
  have: ∀A:List α,insIn lt P.length P.length A=A:=by
   intro A
   cases hp:P.length with
   |zero=>rfl
   |succ k=>simp [insIn]
  rw [this];simp [insS]
 |succ n ih=>
  intro S Q j h1 hs h2
  obtain ⟨S',y,rfl⟩: ∃S' y,S=S'++ [y]:=⟨S.dropLast,S.getLast (by intro h;subst h;simp at h1),(List.dropLast_concat_getLast _).symm⟩
  simp only [List.length_append,List.length_cons,List.length_nil] at h1 h2
  obtain ⟨k,rfl⟩: ∃k,j=k+1:=⟨j-1,by omega⟩
  obtain ⟨hs1,_,hs3⟩:=List.pairwise_append.1 hs
  rw [insIn,if_pos (by omega)]
  have g1:gt (P++(S'++ [y])++x::Q) (k+1)=x:=AdX (by simp;omega)
  have g0:gt (P++(S'++ [y])++x::Q) k=y:=by
   have:=AdX (P:=P++S') (Q:=x::Q) (x:=y) (k:=k) (by simp;omega)
   simpa using this
  rw [g1,g0]
  cases h:lt x y with
  |true=>
   have e:sw (P++(S'++ [y])++x::Q) (k+1) k=P++S'++x::(y::Q):=by
    have:=Ajm (P:=P++S') (Q:=Q) (x:=y) (y:=x) (i:=k+1) (j:=k) (by simp;omega) (by simp;omega)
    simpa using this
   simp only
   rw [e,ih (by omega) hs1 (by omega),AeS h]
   simp
  |false=>
   simp only
   rw [AgV]
   ·simp
   ·intro z hz
    rcases List.mem_append.1 hz with hz|hz
    ·exact hw.ntrans h (hs3 z hz y (by simp))
    ·simp at hz;subst hz;exact h
theorem AhF (hw:Swo lt) {P Q:List α}: ∀ {T S:List α} {d i:Nat},d=T.length→i=P.length+S.length→insOut lt P.length d i (P++sortS lt S++(T++Q))=P++sortS lt (S++T)++Q:=by
 intro T
 induction T with
 |nil=>intro S d i h1 _;subst h1;simp [insOut]
 |cons x T ih=>
  intro S d i h1 h2
  simp only [List.length_cons] at h1
  subst h1
  rw [insOut]
  have:=AiJ hw (P:=P) (x:=x) (n:=(sortS lt S).length) (S:=sortS lt S) (Q:=T++Q) (j:=i) rfl (AaM hw S) (by rw [Abt hw];omega)
  rw [List.cons_append,this,←Ahj,ih rfl (by simp;omega)]
  simp
abbrev seg (A:List α) (a b:Nat):List α:=(A.drop a).take (b-a)
def srt (lt:α→α→Bool) (A:List α) (a b:Nat):List α:=A.take a++sortS lt (seg A a b)++A.drop b
theorem Ac6 {A:List α} {a b:Nat} (h:a≤b):A=A.take a++seg A a b++A.drop b:=by
 have:A.drop b=(A.drop a).drop (b-a):=by rw [List.drop_drop];congr 1;omega
 rw [this,List.append_assoc,List.take_append_drop,List.take_append_drop]
theorem Aih (P S Q:List α) {a b:Nat} (ha:a=P.length) (hb:b=P.length+S.length):srt lt (P++S++Q) a b=P++sortS lt S++Q:=by
 subst ha hb
 unfold srt seg
 simp
theorem Ah0 (hw:Swo lt) {A:List α} {a b:Nat} (h:b≤a+1) (h2:a≤b):srt lt A a b=A:=by
 have e:sortS lt (seg A a b)=seg A a b:=Aa1 hw (by
  have:(seg A a b).length≤1:=by simp;omega
  match seg A a b,this with
  | [],_=>exact .nil
  | [x],_=>exact List.pairwise_singleton ..)
 unfold srt
 rw [e,←Ac6 h2]
theorem Ahh (hw:Swo lt) {A:List α} {a b:Nat} (h1:a<b) (h2:b≤A.length):insOut lt a (b-a-1) (a+1) A=srt lt A a b:=by
 have hs:=Ac6 (A:=A) (a:=a) (b:=b) (by omega)
 have hp:(A.take a).length=a:=by simp;omega
 have hl:(seg A a b).length=b-a:=by simp;omega
 obtain ⟨x,T,hT⟩: ∃x T,seg A a b=x::T:=by
  cases h:seg A a b with
  |nil=>rw [h] at hl;simp at hl;omega
  |cons x T=>exact ⟨x,T,rfl⟩
 have hd:b-a-1=T.length:=by rw [hT] at hl;simp at hl;omega
 have:=AhF hw (P:=A.take a) (Q:=A.drop b) (T:=T) (S:= [x]) (d:=b-a-1) (i:=a+1) hd (by rw [hp];simp)
 rw [hp] at this
 unfold srt
 rw [hT]
 conv=>lhs;rw [hs,hT]
 simpa [sortS,insS] using this
def rotL:Nat→List α→Nat→Nat→Nat→List α
 |0,A,_,_,_=>A
 |d+1,A,m,i,j=>if i=j then swR i A (m-i) m else if j<i then rotL d (swR j A (m-i) m) m (i-j) j else rotL d (swR i A (m-i) (m+j-i)) m i (j-i)
theorem Ajp: ∀ {d:Nat} {P X Y Q:List α} {m i j:Nat},i=X.length→j=Y.length→m=P.length+i→0<i→0<j→i+j≤d→
  rotL d (P++X++Y++Q) m i j=P++Y++X++Q:=by
 intro d
 induction d with
 |zero=>intros;omega
 |succ d ih=>
  intro P X Y Q m i j h1 h2 h3 h4 h5 h6
  rw [rotL]
  by_cases hij:i=j
  ·rw [if_pos hij]
   have:=Ahy (P:=P) (X:=X) (M:= []) (Y:=Y) (Q:=Q) (by omega)
   simp only [List.append_nil,List.length_nil,Nat.add_zero] at this
   rw [show m-i=P.length by omega,show m=P.length+X.length by omega,h1]
   exact this
  ·rw [if_neg hij]
   by_cases hj:j<i
   ·rw [if_pos hj]
    have hX:X=X.take j++X.drop j:=(List.take_append_drop ..).symm
    have l1:(X.take j).length=j:=by simp;omega
    have l2:(X.drop j).length=i-j:=by simp;omega
    have:=Ahy (P:=P) (X:=X.take j) (M:=X.drop j) (Y:=Y) (Q:=Q) (by omega)
    rw [l1,l2] at this
    have e:swR j (P++X++Y++Q) (m-i) m=(P++Y)++X.drop j++X.take j++Q:=by
     rw [show m-i=P.length by omega,show m=P.length+j+(i-j) by omega]
     conv=>lhs;rw [hX]
     rw [←this]
     simp
    rw [e,ih (by omega) (by omega) (by simp;omega) (by omega) h5 (by omega)]
    conv=>rhs;rw [hX]
    simp
   ·rw [if_neg hj]
    have hY:Y=Y.take (j-i)++Y.drop (j-i):=(List.take_append_drop ..).symm
    have l1:(Y.take (j-i)).length=j-i:=by simp;omega
    have l2:(Y.drop (j-i)).length=i:=by simp;omega
    have:=Ahy (P:=P) (X:=X) (M:=Y.take (j-i)) (Y:=Y.drop (j-i)) (Q:=Q) (by omega)
    rw [l1,←h1] at this
    have e:swR i (P++X++Y++Q) (m-i) (m+j-i)=P++Y.drop (j-i)++Y.take (j-i)++(X++Q):=by
     rw [show m-i=P.length by omega,show m+j-i=P.length+i+(j-i) by omega]
     conv=>lhs;rw [hY]
     have:=this.trans (b:=_) rfl
     simp only [List.append_assoc] at this⊢
     exact this
    rw [e,ih (by omega) (by omega) (by omega) h4 (by omega) (by omega)]
    conv=>rhs;rw [hY]
    simp
theorem AiD {A:List α} {a m b d:Nat} (h1:a<m) (h2:m<b) (h3:b≤A.length) (h4:b-a≤d):rotL d A m (m-a) (b-m)=A.take a++seg A m b++seg A a m++A.drop b:=by
 have hs:A=A.take a++seg A a m++seg A m b++A.drop b:=by
  conv=>lhs;rw [Ac6 (A:=A) (a:=m) (b:=b) (by omega)]
  congr 2
  have:=Ac6 (A:=A.take m) (a:=a) (b:=m) (by omega)
  rw [List.take_take,Nat.min_eq_left (by omega)] at this
  rw [this]
  unfold seg
  simp [List.drop_take,List.take_take]
 have:=Ajp (d:=d) (P:=A.take a) (X:=seg A a m) (Y:=seg A m b) (Q:=A.drop b) (m:=m) (i:=m-a) (j:=b-m) (by simp;omega) (by simp;omega) (by simp;omega) (by omega) (by omega) (by omega)
 rw [←this,←hs]
end
end Go.Eva
namespace Go.Eva
set_option linter.unusedSectionVars false
theorem bs_t {P:Nat→Bool} {d i j h:Nat} (h1:i<j) (h2:(i+j)/2=h) (h3:P h=true):bs P (d+1) i j=bs P d (h+1) j:=by rw [bs,if_pos h1,h2,h3]
theorem bs_f {P:Nat→Bool} {d i j h:Nat} (h1:i<j) (h2:(i+j)/2=h) (h3:P h=false):bs P (d+1) i j=bs P d i h:=by rw [bs,if_pos h1,h2,h3]
section
variable {α:Type} [Inhabited α] {lt:α→α→Bool}
theorem Acu (hw:Swo lt) {U1 U2 V1 V2:List α} (hU:Sd lt (U1++U2)) (hV:Sd lt (V1++V2)) (h1: ∀x∈V1,∀y∈U2,lt x y=true) (h2: ∀x∈U1,∀y∈V2,lt y x=false):
  sortS lt (U1++V1)++sortS lt (U2++V2)=sortS lt ((U1++U2)++(V1++V2)):=by
 refine Agf hw h1 fun x hx y hy=> ?_
 rcases List.mem_append.1 hx with hx|hx<;>rcases List.mem_append.1 hy with hy|hy
 ·exact (List.pairwise_append.1 hU).2.2 x hx y hy
 ·exact h2 x hx y hy
 ·exact hw.asymm (h1 x hx y hy)
 ·exact (List.pairwise_append.1 hV).2.2 x hx y hy
theorem sd_gt {P U Q:List α} (hU:Sd lt U) (hw:Swo lt) {p q:Nat} (h1:P.length≤p) (h2:p≤q) (h3:q<P.length+U.length):lt (gt (P++U++Q) q) (gt (P++U++Q) p)=false:=by
 by_cases hpq:p=q
 ·subst hpq;exact hw.irr _
 ·have e: ∀k,P.length≤k→k<P.length+U.length→ ∃h:k-P.length<U.length,gt (P++U++Q) k=U[k-P.length]:=by
   intro k h h'
   refine ⟨by omega,?_⟩
   rw [List.append_assoc,AfF,if_neg (by omega),AfF,if_pos (by omega),gt_eq (by omega)]
  obtain ⟨b1,e1⟩:=e p h1 (by omega)
  obtain ⟨b2,e2⟩:=e q (by omega) h3
  rw [e1,e2]
  exact List.pairwise_iff_getElem.1 hU _ _ b1 b2 (by omega)
theorem Aip {U:List α} {x y:α} (hU:Sd lt (U++ [y])) (hw:Swo lt) (hx:x∈U++ [y]):lt y x=false:=by
 rcases List.mem_append.1 hx with h|h
 ·exact (List.pairwise_append.1 hU).2.2 x h y (by simp)
 ·simp at h;subst h;exact hw.irr _
theorem Aio {U:List α} {x y:α} (hU:Sd lt (y::U)) (hw:Swo lt) (hx:x∈y::U):lt x y=false:=by
 rcases List.mem_cons.1 hx with h|h
 ·subst h;exact hw.irr _
 ·exact (List.pairwise_cons.1 hU).1 x h
theorem Aim {U:List α} (h:U≠ []): ∃U' y,U=U'++ [y]:=⟨U.dropLast,U.getLast h,(List.dropLast_concat_getLast _).symm⟩
theorem cross1 (hw:Swo lt) {V1 U2:List α} (hV:Sd lt V1) (hU:Sd lt U2) (h:V1≠ []→U2≠ []→lt (gt V1 (V1.length-1)) (gt U2 0)=true): ∀x∈V1,∀y∈U2,lt x y=true:=by
 intro x hx y hy
 have hV1:V1≠ []:=by intro e;subst e;simp at hx
 have hU2:U2≠ []:=by intro e;subst e;simp at hy
 have h:=h hV1 hU2
 obtain ⟨V',v,rfl⟩:=Aim hV1
 obtain ⟨u,U',rfl⟩: ∃u U',U2=u::U':=by
  cases U2 with
  |nil=>exact absurd rfl hU2
  |cons u U'=>exact ⟨u,U',rfl⟩
 have g1:gt (V'++ [v]) ((V'++ [v]).length-1)=v:=AdX (Q:= []) (by simp)
 have g2:gt (u::U') 0=u:=rfl
 rw [g1,g2] at h
 exact hw.le_lt (Aip hV hw hx) (hw.lt_le h (Aio hU hw hy))
theorem cross2 (hw:Swo lt) {U1 V2:List α} (hU:Sd lt U1) (hV:Sd lt V2) (h:U1≠ []→V2≠ []→lt (gt V2 0) (gt U1 (U1.length-1))=false): ∀x∈U1,∀y∈V2,lt y x=false:=by
 intro x hx y hy
 have hU1:U1≠ []:=by intro e;subst e;simp at hx
 have hV2:V2≠ []:=by intro e;subst e;simp at hy
 have h:=h hU1 hV2
 obtain ⟨U',u,rfl⟩:=Aim hU1
 obtain ⟨v,V',rfl⟩: ∃v V',V2=v::V':=by
  cases V2 with
  |nil=>exact absurd rfl hV2
  |cons v V'=>exact ⟨v,V',rfl⟩
 have g1:gt (U'++ [u]) ((U'++ [u]).length-1)=u:=AdX (Q:= []) (by simp)
 have g2:gt (v::V') 0=v:=rfl
 rw [g1,g2] at h
 exact hw.ntrans (Aio hV hw hy) (hw.ntrans h (Aip hU hw hx))
end
end Go.Eva
namespace Go.Eva
set_option linter.unusedSectionVars false
section
variable {α:Type} [Inhabited α] {lt:α→α→Bool}
theorem gt_in {P U Q:List α} {k:Nat} (h:P.length≤k) (h':k<P.length+U.length):gt (P++U++Q) k=gt U (k-P.length):=by
 rw [List.append_assoc,AfF,if_neg (by omega),AfF,if_pos (by omega)]
theorem AfR (hw:Swo lt) {P V Q:List α} {x:α} {a m b d s:Nat} (ha:a=P.length) (hm:m=a+1) (hb:b=m+V.length) (hd:b≤m+d) (hV:Sd lt V)
  (hs:s=bs (fun h=>lt (gt (P++ [x]++V++Q) h) (gt (P++ [x]++V++Q) a)) d m b):
  m≤s∧s≤b∧up (s-1-a) (P++ [x]++V++Q) a=P++sortS lt ([x]++V)++Q:=by
 have ga:gt (P++ [x]++V++Q) a=x:=by
  have:=AdX (P:=P) (Q:=V++Q) (x:=x) (k:=a) ha
  simpa using this
 rw [ga] at hs
 have hg: ∀h,m≤h→h<b→gt (P++ [x]++V++Q) h=gt V (h-m):=by
  intro h h1 h2
  rw [gt_in (P:=P++ [x]) (U:=V) (by simp;omega) (by simp;omega)]
  congr 1;simp;omega
 have hsd: ∀h h',m≤h→h≤h'→h'<b→lt (gt (P++ [x]++V++Q) h') (gt (P++ [x]++V++Q) h)=false:=by
  intro h h' h1 h2 h3
  exact sd_gt (P:=P++ [x]) hV hw (by simp;omega) h2 (by simp;omega)
 obtain ⟨k1,k2,k3,k4⟩:=bs_ok (P:=fun h=>lt (gt (P++ [x]++V++Q) h) x) (d:=d) (i:=m) (j:=b) (by omega) (by omega)
  (fun h h' c1 c2 c3 c4=>hw.le_lt (hsd h h' c1 c2 c3) c4)
 rw [←hs] at k1 k2 k3 k4
 refine ⟨k1,k2,?_⟩
 have hVs:V=V.take (s-m)++V.drop (s-m):=(List.take_append_drop ..).symm
 have l1:(V.take (s-m)).length=s-m:=by simp;omega
 have hV':=hV
 rw [hVs] at hV'
 have c1: ∀y∈V.take (s-m),lt y x=true:=by
  intro y hy
  obtain ⟨i,hi,rfl⟩:=List.getElem_of_mem hy
  have:=k3 (m+i) (by omega) (by omega)
  rw [hg _ (by omega) (by omega),Nat.add_sub_cancel_left] at this
  rw [List.getElem_take,←gt_eq];exact this
 have c2: ∀y∈V.drop (s-m),lt y x=false:=by
  intro y hy
  obtain ⟨i,hi,rfl⟩:=List.getElem_of_mem hy
  rw [List.length_drop] at hi
  have:=k4 (s+i) (by omega) (by omega)
  rw [hg _ (by omega) (by omega)] at this
  rw [List.getElem_drop,←gt_eq,show s-m+i=s+i-m by omega];exact this
 have hxV:Sd lt (x::V.drop (s-m)):=List.pairwise_cons.2 ⟨c2,(List.pairwise_append.1 hV').2.1⟩
 have e:=Acu hw (U1:= []) (U2:= [x]) (V1:=V.take (s-m)) (V2:=V.drop (s-m)) (by simp [Sd]) hV' (fun y hy z hz=>by simp at hz;subst hz;exact c1 y hy) (fun _ h=>by simp at h)
 rw [List.take_append_drop,List.nil_append,List.nil_append,Aa1 hw (List.pairwise_append.1 hV').1,List.singleton_append,Aa1 hw hxV] at e
 rw [←e]
 have:=up_eq (Q:=V.drop (s-m)++Q) (x:=x) (V:=V.take (s-m)) (P:=P)
 rw [l1,←ha] at this
 rw [show s-1-a=s-m by omega]
 have e2:P++ [x]++V++Q=P++x::V.take (s-m)++(V.drop (s-m)++Q):=by
  simp only [List.append_assoc,List.cons_append,List.nil_append]
  rw [←List.append_assoc (V.take _),List.take_append_drop]
 rw [e2,this]
 simp
theorem Ahs (hw:Swo lt) {P U Q:List α} {y:α} {a m d s:Nat} (ha:a=P.length) (hm:m=a+U.length) (hd:m≤a+d) (hU:Sd lt U)
  (hs:s=bs (fun h=> !lt (gt (P++U++ [y]++Q) m) (gt (P++U++ [y]++Q) h)) d a m):
  a≤s∧s≤m∧down (m-s) (P++U++ [y]++Q) m=P++sortS lt (U++ [y])++Q:=by
 have gm:gt (P++U++ [y]++Q) m=y:=by
  have:=AdX (P:=P++U) (Q:=Q) (x:=y) (k:=m) (by simp;omega)
  simpa using this
 rw [gm] at hs
 have hg: ∀h,a≤h→h<m→gt (P++U++ [y]++Q) h=gt U (h-a):=by
  intro h h1 h2
  rw [List.append_assoc (P++U),gt_in (by omega) (by omega),ha]
 have hsd: ∀h h',a≤h→h≤h'→h'<m→lt (gt (P++U++ [y]++Q) h') (gt (P++U++ [y]++Q) h)=false:=by
  intro h h' h1 h2 h3
  rw [List.append_assoc (P++U)]
  exact sd_gt hU hw (by omega) h2 (by omega)
 obtain ⟨k1,k2,k3,k4⟩:=bs_ok (P:=fun h=> !lt y (gt (P++U++ [y]++Q) h)) (d:=d) (i:=a) (j:=m) (by omega) (by omega)
  (fun h h' c1 c2 c3 c4=>by
   simp only [Bool.not_eq_true'] at c4⊢
   exact hw.ntrans c4 (hsd h h' c1 c2 c3))
 rw [←hs] at k1 k2 k3 k4
 refine ⟨k1,k2,?_⟩
 have hUs:U=U.take (s-a)++U.drop (s-a):=(List.take_append_drop ..).symm
 have l1:(U.take (s-a)).length=s-a:=by simp;omega
 have l2:(U.drop (s-a)).length=m-s:=by simp;omega
 have hU':=hU
 rw [hUs] at hU'
 have c1: ∀z∈U.take (s-a),lt y z=false:=by
  intro z hz
  obtain ⟨i,hi,rfl⟩:=List.getElem_of_mem hz
  have:=k3 (a+i) (by omega) (by omega)
  rw [hg _ (by omega) (by omega),Nat.add_sub_cancel_left] at this
  rw [List.getElem_take,←gt_eq];simpa using this
 have c2: ∀z∈U.drop (s-a),lt y z=true:=by
  intro z hz
  obtain ⟨i,hi,rfl⟩:=List.getElem_of_mem hz
  rw [List.length_drop] at hi
  have:=k4 (s+i) (by omega) (by omega)
  rw [hg _ (by omega) (by omega)] at this
  rw [List.getElem_drop,←gt_eq,show s-a+i=s+i-a by omega];simpa using this
 have hUy:Sd lt (U.take (s-a)++ [y]):=List.pairwise_append.2 ⟨(List.pairwise_append.1 hU').1,by simp,fun z hz w hw'=>by simp at hw';subst hw';exact c1 z hz⟩
 have e:=Acu hw (U1:=U.take (s-a)) (U2:=U.drop (s-a)) (V1:= [y]) (V2:= []) hU' (by simp [Sd]) (fun w hw' z hz=>by simp at hw';subst hw';exact c2 z hz) (fun _ _ _ h=>by simp at h)
 rw [List.take_append_drop,List.append_nil,List.append_nil,Aa1 hw (List.pairwise_append.1 hU').2.1,Aa1 hw hUy] at e
 rw [←e]
 have:=Ajo (Q:=Q) (x:=y) (n:=m-s) (V:=U.drop (s-a)) (P:=P++U.take (s-a)) (k:=m) (by omega) (by simp;omega)
 have e2:P++U++ [y]++Q=P++U.take (s-a)++U.drop (s-a)++y::Q:=by
  simp only [List.append_assoc,List.cons_append,List.nil_append]
  rw [←List.append_assoc (U.take _),List.take_append_drop]
 rw [e2,this]
 simp
end
end Go.Eva
namespace Go.Eva
set_option linter.unusedSectionVars false
section
variable {α:Type} [Inhabited α] {lt:α→α→Bool}
theorem Ahx (hw:Swo lt) {P U V Q:List α} {a m b mid s0 r0 d s:Nat} (ha:a=P.length) (hm:m=a+U.length) (hb:b=m+V.length) (hU:Sd lt U) (hV:Sd lt V)
  (h1:0<U.length) (h2:0<V.length) (hmid:(a+b)/2=mid) (hs0:m≤mid∧s0=a∧r0=m∨mid<m∧s0=mid+m-b∧r0=mid) (hd:r0≤s0+d)
  (hs:s=bs (fun c=> !lt (gt (P++U++V++Q) (mid+m-1-c)) (gt (P++U++V++Q) c)) d s0 r0):
  s0≤s∧s≤r0∧ ∃U1 U2 V1 V2,U=U1++U2∧V=V1++V2∧U1.length=s-a∧V1.length=mid-s∧sortS lt (U1++V1)++sortS lt (U2++V2)=sortS lt (U++V)∧
   Sd lt U1∧Sd lt U2∧Sd lt V1∧Sd lt V2:=by
 have hgU: ∀h,a≤h→h<m→gt (P++U++V++Q) h=gt U (h-a):=by
  intro h c1 c2
  rw [List.append_assoc (P++U),gt_in (by omega) (by omega),ha]
 have hgV: ∀h,m≤h→h<b→gt (P++U++V++Q) h=gt V (h-m):=by
  intro h c1 c2
  rw [gt_in (P:=P++U) (U:=V) (by simp;omega) (by simp;omega)]
  congr 1;simp;omega
 have hsU: ∀h h',a≤h→h≤h'→h'<m→lt (gt (P++U++V++Q) h') (gt (P++U++V++Q) h)=false:=by
  intro h h' c1 c2 c3
  rw [List.append_assoc (P++U)]
  exact sd_gt hU hw (by omega) c2 (by omega)
 have hsV: ∀h h',m≤h→h≤h'→h'<b→lt (gt (P++U++V++Q) h') (gt (P++U++V++Q) h)=false:=by
  intro h h' c1 c2 c3
  exact sd_gt (P:=P++U) hV hw (by simp;omega) c2 (by simp;omega)
 obtain ⟨k1,k2,k3,k4⟩:=bs_ok (P:=fun c=> !lt (gt (P++U++V++Q) (mid+m-1-c)) (gt (P++U++V++Q) c)) (d:=d) (i:=s0) (j:=r0) (by omega) (by omega)
  (fun h h' c1 c2 c3 c4=>by
   simp only [Bool.not_eq_true'] at c4⊢
   exact hw.ntrans (hw.ntrans (hsV (mid+m-1-h') (mid+m-1-h) (by omega) (by omega) (by omega)) c4) (hsU h h' (by omega) c2 (by omega)))
 rw [←hs] at k1 k2 k3 k4
 refine ⟨k1,k2,U.take (s-a),U.drop (s-a),V.take (mid-s),V.drop (mid-s),(List.take_append_drop ..).symm,(List.take_append_drop ..).symm,by simp;omega,by simp;omega,?_⟩
 have hUs:U=U.take (s-a)++U.drop (s-a):=(List.take_append_drop ..).symm
 have hVs:V=V.take (mid-s)++V.drop (mid-s):=(List.take_append_drop ..).symm
 have hU':=hU
 rw [hUs] at hU'
 have hV':=hV
 rw [hVs] at hV'
 obtain ⟨u1,u2,_⟩:=List.pairwise_append.1 hU'
 obtain ⟨v1,v2,_⟩:=List.pairwise_append.1 hV'
 refine ⟨?_,u1,u2,v1,v2⟩
 have lu1:(U.take (s-a)).length=s-a:=by simp;omega
 have lu2:(U.drop (s-a)).length=m-s:=by simp;omega
 have lv1:(V.take (mid-s)).length=mid-s:=by simp;omega
 have lv2:(V.drop (mid-s)).length=b-(mid+m-s):=by simp;omega
 have gtk: ∀ {L:List α} {n i:Nat},i<n→gt (L.take n) i=gt L i:=by
  intro L n i h
  unfold gt
  rw [List.getElem?_take,if_pos h]
 have gdr: ∀ {L:List α} {n i:Nat},gt (L.drop n) i=gt L (n+i):=by
  intro L n i
  unfold gt
  rw [List.getElem?_drop]
 have:=Acu hw hU' hV' (cross1 hw v1 u2 fun c1 c2=> ?_) (cross2 hw u1 v2 fun c1 c2=> ?_)
 ·rw [List.take_append_drop,List.take_append_drop] at this
  exact this
 ·have n1:0<mid-s:=by rw [←lv1];exact List.length_pos_iff.2 c1
  have n2:0<m-s:=by rw [←lu2];exact List.length_pos_iff.2 c2
  have:=k4 s (Nat.le_refl _) (by omega)
  simp only [Bool.not_eq_false'] at this
  rw [hgV _ (by omega) (by omega),hgU _ (by omega) (by omega)] at this
  rw [gtk (by omega),gdr,lv1,show mid-s-1=mid+m-1-s-m by omega]
  exact this
 ·have n1:0<s-a:=by rw [←lu1];exact List.length_pos_iff.2 c1
  have n2:0<b-(mid+m-s):=by rw [←lv2];exact List.length_pos_iff.2 c2
  have:=k3 (s-1) (by omega) (by omega)
  simp only [Bool.not_eq_true'] at this
  rw [hgV _ (by omega) (by omega),hgU _ (by omega) (by omega)] at this
  rw [gtk (by omega),gdr,lu1,show mid-s+0=mid+m-1-(s-1)-m by omega,show s-a-1=s-1-a by omega]
  exact this
end
end Go.Eva
namespace Go.Eva
set_option linter.unusedSectionVars false
section
variable {α:Type} [Inhabited α] {lt:α→α→Bool}
inductive Blks (lt:α→α→Bool) (n:Nat):List α→Prop
 |last {R:List α}:R.length≤n→Sd lt R→Blks lt n R
 |cons {S R:List α}:S.length=n→Sd lt S→Blks lt n R→Blks lt n (S++R)
inductive Full (lt:α→α→Bool) (n:Nat):List α→Prop
 |nil:Full lt n []
 |snoc {P S:List α}:Full lt n P→S.length=n→Sd lt S→Full lt n (P++S)
theorem Full.blks {n:Nat} {P:List α} (h:Full lt n P): ∀ {R:List α},Blks lt n R→Blks lt n (P++R):=by
 induction h with
 |nil=>intro R h;exact h
 |snoc _ h2 h3 ih=>intro R h;rw [List.append_assoc];exact ih (.cons h2 h3 h)
theorem Blks.more {n:Nat} {R:List α} (h:Blks lt n R) (hl:n<R.length): ∃S R',R=S++R'∧S.length=n∧Sd lt S∧Blks lt n R':=by
 cases h with
 |last h _=>omega
 |cons h1 h2 h3=>exact ⟨_,_,rfl,h1,h2,h3⟩
theorem Blks.more' {n:Nat} {R:List α} (h:Blks lt n R) (hl:n≤R.length): ∃S R',R=S++R'∧S.length=n∧Sd lt S∧Blks lt n R':=by
 by_cases hx:n<R.length
 ·exact h.more hx
 ·cases h with
  |last h2 h3=>exact ⟨R,[],by simp,by omega,h3,.last (by simp) (by simp [Sd])⟩
  |cons h1 h2 h3=>exact ⟨_,_,rfl,h1,h2,h3⟩
theorem Blks.sd {n:Nat} {R:List α} (h:Blks lt n R) (hl:R.length≤n):Sd lt R:=by
 cases h with
 |last _ h=>exact h
 | @cons S R' h1 h2 h3=>
  have:R'= []:=by
   rw [List.length_append] at hl
   exact List.eq_nil_of_length_eq_zero (by omega)
  subst this
  simpa using h2
theorem Blks.two {n:Nat} {R:List α} (h:Blks lt n R) (hn:0<n) (hl:2*n≤R.length): ∃S1 S2 R',R=S1++S2++R'∧S1.length=n∧S2.length=n∧Sd lt S1∧Sd lt S2∧Blks lt n R':=by
 obtain ⟨S1,R1,rfl,h1,h2,h3⟩:=h.more (by omega)
 rw [List.length_append] at hl
 obtain ⟨S2,R2,rfl,h4,h5,h6⟩:=h3.more' (by omega)
 exact ⟨S1,S2,R2,by simp,h1,h4,h2,h5,h6⟩
theorem Blks.one {n:Nat} {R:List α} (h:Blks lt n R) (hl:n<R.length) (h2:R.length<2*n): ∃S1 S2,R=S1++S2∧S1.length=n∧Sd lt S1∧Sd lt S2∧0<S2.length:=by
 obtain ⟨S1,R1,rfl,h3,h4,h5⟩:=h.more hl
 rw [List.length_append] at hl h2
 exact ⟨S1,R1,rfl,h3,h4,h5.sd (by omega),by omega⟩
theorem StEq.mid {P S S' Q:List α} (h:StEq lt S' S):StEq lt (P++S'++Q) (P++S++Q):=((StEq.refl _).append h).append (.refl _)
theorem Ai2 (R:List α) {n:Nat} (h:n≤R.length): ∃S R',R=S++R'∧S.length=n:=⟨R.take n,R.drop n,(List.take_append_drop ..).symm,by simp;omega⟩
end
end Go.Eva
namespace Go.Eva
def total (ls:List (List Cross)):Nat:=(ls.map zq).sum
theorem AgH {ls:List (List Cross)} {i:Nat} (h:i<ls.length):total (ls.drop i)=(gt ls i).length+total (ls.drop (i+1)):=by
 unfold total;rw [Aah h];simp
theorem Aiw {ls:List (List Cross)} {i:Nat} (h:ls.length≤i):total (ls.drop i)=0:=by
 unfold total;rw [Aaf h];rfl
theorem Aj1 {ls:List (List Cross)} {i:Nat} (h:i<ls.length):(ls.drop i).flatten=gt ls i++(ls.drop (i+1)).flatten:=by
 rw [Aah h];simp
theorem Ai3 {ls:List (List Cross)}:ls.flatten.length=total ls:=by
 unfold total;simp [List.length_flatten]
def parts (s:List Cross) (r:Int):Nat→List Cross
 |0=> []
 |d+1=>toL s r++parts s (r+1) d
def alike (l:List Cross) (x:Cross):Nat→List Cross
 |0=> []
 |d+1=>alike l x d++ [{x with frame:=(d:Int),frm:=(gt l d).frm}]
end Go.Eva
namespace Go.Eva
structure Stg where
 l:List Entity
 made:Int
 out:List Cross
def Stg.room (s:Stg):Bool:=decide (s.made<8)&&decide (things s.l<24)
section
variable (c:Config) (r f:Int)
def numI (made:Int):Int:=1000+(f*c.regions+r)*8+(made+1)-1
def placeX (a o:Int):Int:=c.cornerX r+below 1024 c.seed [a,f,o]
def placeY (b o:Int):Int:=c.cornerY r+below 1024 c.seed [b,f,o]
def setId (l:List Entity) (id:Int) (e:Entity):List Entity:=l.set (find l id).toNat e
def inAt (ins:List Input) (id:Int):Input:=gt ins (id-1).toNat
def steer1 (ins:List Input) (s:Stg) (p:Entity):Stg:=
 if p.kind≠1 then s
 else if (steerE p (inAt ins p.id)).2=true then
  (if s.room=true then {s with l:=setId (put1 s.l (shootE (steerE p (inAt ins p.id)).1 (inAt ins p.id) (numI c r f s.made))) p.id (steerE p (inAt ins p.id)).1,made:=s.made+1}
   else {s with l:=setId s.l p.id {(steerE p (inAt ins p.id)).1 with age:=0}})
 else {s with l:=setId s.l p.id (steerE p (inAt ins p.id)).1}
def steerS (ins:List Input) (s:Stg):Stg:=s.l.foldl (steer1 c r f ins) s
def moveL (l:List Entity):List Entity:=(l.filter fun e=>(goE c e).2).map fun e=>(goE c e).1
def blastsAt (e:Entity):List Cross:=(c.near r).map fun q=>⟨2,r,q,f,Entity.zero,e.x,e.y⟩
def anewE (id:Int) (e:Entity):Entity:= {e with health:=100,vx:=0,vy:=0,age:=0,x:=placeX c r f 1 id,y:=placeY c r f 2 id}
def fall1 (s:Stg) (id:Int):Stg:= {s with l:=s.l.set (find s.l id).toNat (anewE c r f id (gt s.l (find s.l id).toNat)),out:=s.out++blastsAt c r f (gt s.l (find s.l id).toNat)}
def fallS (s:Stg):Stg:=(fallenL s.l).foldl (fall1 c r f) s
def gemE (made:Int):Entity:=⟨numI c r f made,3,placeX c r f 4 r,placeY c r f 5 r,0,0,1,0,0⟩
def growS (s:Stg):Stg:=
 if below 8 c.seed [3,f,r]≠0∨3≤(s.l.countP fun e=>e.kind==3)∨s.room=false then s
 else {s with l:=put1 s.l (gemE c r f s.made),made:=s.made+1}
def handE (e:Entity):Cross:=⟨1,r,c.of e.x e.y,f,e,0,0⟩
def leaveS (s:Stg):Stg:= {s with l:=s.l.filter fun e=>decide (c.of e.x e.y=r),out:=s.out++(s.l.filter fun e=> !decide (c.of e.x e.y=r)).map (handE c r f)}
def restS (inbox:List Cross) (s:Stg):Stg:=leaveS c r f (growS c r f (fallS c r f {s with l:=blastsL (gemsL (shotsL (moveL c s.l))) inbox}))
end
def stepS (c:Config) (r:Int) (s:Region) (ins:List Input) (inbox:List Cross):Stg:=
 restS c r s.frame inbox (steerS c r s.frame ins ⟨arriveL s.ents inbox,0,[]⟩)
def Region.zero:Region:=⟨0,[]⟩
end Go.Eva
namespace Go.Eva
theorem Abk {l:List Entity} {id:Int} (h: ∃x∈l,x.id=id): ∃k:Nat,find l id=k∧k<l.length∧(gt l k).id=id:=by
 obtain ⟨k,hk⟩:=AiZ h
 obtain ⟨h1,h2,_⟩:=an_id hk
 exact ⟨k,Abe hk,h1,h2⟩
theorem Adg {l:List Entity} {k:Nat} {e:Entity} (hk:k<l.length) (h:(gt l k).id=e.id):(l.set k e).map Entity.id=l.map Entity.id:=by
 rw [List.map_set]
 apply List.ext_getElem?
 intro i
 rw [List.getElem?_set]
 split
 ·rename_i hik
  subst hik
  rw [List.length_map,if_pos hk,List.getElem?_map,Adx hk,Option.map_some,h]
 ·rfl
theorem AfG {l:List Entity} {e:Entity} (h: ∃x∈l,x.id=e.id):(setId l e.id e).map Entity.id=l.map Entity.id:=by
 obtain ⟨k,h1,h2,h3⟩:=Abk h
 unfold setId
 rw [h1]
 exact Adg h2 h3
theorem AcK {l:List Entity} {id:Int} {e:Entity}:(setId l id e).length=l.length:=by simp [setId]
theorem Ago {l m:List Entity} (h:l.map Entity.id=m.map Entity.id) (hs:Srt l):Srt m:=by
 have:(l.map Entity.id).Pairwise (· < ·):=List.pairwise_map.2 hs
 rw [h] at this
 exact List.pairwise_map.1 this
theorem AfO {l m:List Entity} (h:l.map Entity.id=m.map Entity.id) {id:Int} (hx: ∃x∈l,x.id=id): ∃x∈m,x.id=id:=by
 obtain ⟨x,h1,h2⟩:=hx
 have:id∈l.map Entity.id:=List.mem_map.2 ⟨x,h1,h2⟩
 rw [h] at this
 obtain ⟨y,h3,h4⟩:=List.mem_map.1 this
 exact ⟨y,h3,h4⟩
theorem Aic {α:Type} {l:List α} {k:Nat} {e x:α} (h:x∈l.set k e):x=e∨x∈l:=by
 rcases List.mem_or_eq_of_mem_set h with h|h
 ·exact .inr h
 ·exact .inl h
theorem AdM {l:List Entity} {id:Int} {e x:Entity} (h:x∈setId l id e):x=e∨x∈l:=Aic h
theorem Ady {l:List Entity} {e x:Entity} (h:x∈put1 l e):x=e∨x∈l:=by
 unfold put1 at h
 split at h
 ·exact .inr h
 ·exact Afq.1 h
theorem Aj8 {l:List Entity}: ∀ {a b:Int},Srt l→(∀x∈l,a≤x.id∧x.id≤b)→(l.length:Int)≤max 0 (b-a+1):=by
 induction l with
 |nil=>intro a b _ _;simp;omega
 |cons e l ih=>
  intro a b hs h
  obtain ⟨h1,h2⟩:=List.pairwise_cons.1 hs
  have:=ih (a:=a+1) (b:=b) h2 fun x hx=>by
   have k1:=h1 x hx
   have k2:=h e (List.mem_cons_self ..)
   have k3:=h x (List.mem_cons_of_mem _ hx)
   omega
  have k2:=h e (List.mem_cons_self ..)
  simp only [List.length_cons]
  omega
theorem AeP {l:List Entity} {p:Entity→Bool} (h:Srt l):Srt (l.filter p):=List.Pairwise.filter _ h
theorem Ahv {l:List Entity} {n:Int} (hs:Srt l) (h: ∀x∈l,x.kind=1→1≤x.id∧x.id≤n) (hn:0≤n):((l.countP fun e=>e.kind==1:Nat):Int)≤n:=by
 rw [List.countP_eq_length_filter]
 have:=Aj8 (a:=1) (b:=n) (AeP (p:=fun e=>e.kind==1) hs) fun x hx=>by
  obtain ⟨h1,h2⟩:=List.mem_filter.1 hx
  exact h x h1 (by simpa using h2)
 omega
theorem Ajh {l:List Entity} {n:Int} (hs:Srt l) (h: ∀x∈l,x.kind=1→1≤x.id∧x.id≤n) (hn:0≤n):(l.length:Int)≤things l+n:=by
 have h1:=Ahv hs h hn
 have h2:= @Ae4 l
 unfold things
 omega
theorem Entity.right_player {c:Config} {e:Entity} (h:e.right c=true) (hk:e.kind=1):1≤e.id∧e.id≤c.players:=by
 simp only [z9,hk,if_true,Bool.and_eq_true,Aad] at h
 omega
theorem AbJ {c:Config} {r:Int} {s:Region}:regionRight c r s=true↔c.is r=true∧(0≤s.frame∧s.frame≤10000)∧Srt s.ents∧things s.ents≤24∧ ∀e∈s.ents,e.right c=true∧c.of e.x e.y=r:=by
 simp only [regionRight,Bool.and_eq_true,Aad,AeD,decide_eq_true_eq,List.all_eq_true]
 constructor
 ·rintro ⟨⟨⟨⟨h1,h2⟩,h3⟩,h4⟩,h5⟩;exact ⟨h1,h2,h3,h4,h5⟩
 ·rintro ⟨h1,h2,h3,h4,h5⟩;exact ⟨⟨⟨⟨h1,h2⟩,h3⟩,h4⟩,h5⟩
structure Fine (c:Config) (r:Int) (s:Region) (ins:List Input) (inbox:List Cross):Prop where
 is:c.is r=true
 frame:0≤s.frame∧s.frame<10000
 srt:Srt s.ents
 things:things s.ents≤24
 ents: ∀e∈s.ents,e.right c=true∧c.of e.x e.y=r
 len:(ins.length:Int)=c.players
 ins: ∀i∈ins,i.right=true
 box: ∀m∈inbox,m.right c=true∧m.to=r∧m.frame=s.frame-1
theorem Ahq {c:Config} {r:Int} {s:Region} {ins:List Input} {inbox:List Cross} (h:askedE c r s ins inbox=0):Fine c r s ins inbox:=by
 unfold askedE at h
 split at h
 ·omega
 ·rename_i h1
  split at h
  ·omega
  ·rename_i h2
   split at h
   ·omega
   ·rename_i h3
    split at h
    ·omega
    ·rename_i h4
     split at h
     ·omega
     ·rename_i h5
      obtain ⟨k1,k2,k3,k4,k5⟩:=AbJ.1 (by simpa using h2)
      refine ⟨k1,by omega,k3,k4,k5,by omega,fun i hi=> ?_,fun m hm=> ?_⟩
      ·have h3: ¬(ins.any fun i=> !i.right)=true:=fun e=>h3 (.inr e)
       cases hr:i.right with
       |true=>rfl
       |false=>exact absurd (List.any_eq_true.2 ⟨i,hi,by simp [hr]⟩) h3
      ·have:(m.right c&&decide (m.to=r)&&decide (m.frame=s.frame-1))=true:=by
        cases hr:(m.right c&&decide (m.to=r)&&decide (m.frame=s.frame-1)) with
        |true=>rfl
        |false=>exact absurd (List.any_eq_true.2 ⟨m,hm,by simp [hr]⟩) h4
       simp only [Bool.and_eq_true,decide_eq_true_eq] at this
       exact ⟨this.1.1,this.1.2,this.2⟩
structure Sane (c:Config) (r:Int) (l:List Entity):Prop where
 srt:Srt l
 things:things l≤24
 ents: ∀e∈l,e.right c=true∧c.of e.x e.y=r
theorem Aen {l:List Entity} {e:Entity}:things (put1 l e)≤things l+(if e.kind=1 then 0 else 1):=by
 have ins_things: ∀l:List Entity,things (ins l e)=things l+(if e.kind=1 then 0 else 1):=by
  intro l
  unfold ins things
  split
  ·rename_i k hk
   have:(l.take k++e::l.drop k).countP (fun e=>e.kind !=1)=l.countP (fun e=>e.kind !=1)+(if e.kind=1 then 0 else 1):=by
    rw [List.countP_append,List.countP_cons]
    conv=>rhs;rw [←List.take_append_drop k l,List.countP_append]
    by_cases h:e.kind=1<;>simp [h]<;>omega
   rw [this]
   split<;>simp
  ·rw [List.countP_append,List.countP_cons,List.countP_nil]
   by_cases h:e.kind=1<;>simp [h]
 unfold put1
 split
 ·split<;>omega
 ·rw [ins_things];omega
theorem Af5 {c:Config} {r:Int} {l:List Entity} {m:Cross} (h:Sane c r l) (hm:m.right c=true) (ht:m.to=r):Sane c r (arrive1 l m):=by
 unfold arrive1
 split
 ·rename_i hk
  have hp:= @Aen l m.ent
  have ht2:=h.things
  simp only [Cross.right,hk.1,if_true,Bool.and_eq_true,decide_eq_true_eq] at hm
  refine ⟨Ael h.srt,by split at hp<;>omega,fun e he=> ?_⟩
  rcases Ady he with rfl|he
  ·exact ⟨hm.2.1.1.1.1,by omega⟩
  ·exact h.ents e he
 ·exact h
theorem AfY {c:Config} {r:Int} {inbox:List Cross}: ∀ {l:List Entity},Sane c r l→(∀m∈inbox,m.right c=true∧m.to=r)→Sane c r (arriveL l inbox):=by
 induction inbox with
 |nil=>intro l h _;exact h
 |cons m inbox ih=>
  intro l h hm
  have h1:=hm m (List.mem_cons_self ..)
  exact ih (Af5 h h1.1 h1.2) fun x hx=>hm x (List.mem_cons_of_mem _ hx)
theorem Fine.sane {c:Config} {r:Int} {s:Region} {ins:List Input} {inbox:List Cross} (h:Fine c r s ins inbox):Sane c r (arriveL s.ents inbox):=
 AfY ⟨h.srt,h.things,h.ents⟩ fun m hm=>⟨(h.box m hm).1,(h.box m hm).2.1⟩
theorem Sane.len {c:Config} {r:Int} {l:List Entity} (h:Sane c r l) (hc:c.right=true):l.length≤30:=by
 have h1:=Ajh (n:=c.players) h.srt (fun x hx hk=>Entity.right_player (h.ents x hx).1 hk) (by have:=Config.right_iff.1 hc;omega)
 have h2:=h.things
 have h3:=Config.right_iff.1 hc
 omega
end Go.Eva
namespace Go.Eva
theorem Ajq {l:List Entity} (h:Srt l): ∀ {x y:Entity},x∈l→y∈l→x.id=y.id→x=y:=by
 induction l with
 |nil=>intro x y hx;simp at hx
 |cons a l ih=>
  intro x y hx hy e
  obtain ⟨h1,h2⟩:=List.pairwise_cons.1 h
  rcases List.mem_cons.1 hx with kx|kx<;>rcases List.mem_cons.1 hy with ky|ky
  ·rw [kx,ky]
  ·have:=h1 y ky;rw [kx] at e;omega
  ·have:=h1 x kx;rw [ky] at e;omega
  ·exact ih h2 kx ky e
theorem Agp {l:List Entity} {p:Entity} (hs:Srt l) (h:p∈l): ∃k:Nat,find l p.id=k∧k<l.length∧gt l k=p:=by
 obtain ⟨k,h1,h2,h3⟩:=Abk (l:=l) (id:=p.id) ⟨p,h,rfl⟩
 exact ⟨k,h1,h2,Ajq hs (Ab3 h2) h h3⟩
theorem Aep {l:List Entity} {p e:Entity} (hs:Srt l) (h:p∈l) (he:e.id=p.id):Srt (setId l p.id e):=by
 rw [←he]
 exact Ago (AfG ⟨p,h,he.symm⟩).symm hs
theorem AbR {l:List Entity} {p e:Entity} (hs:Srt l) (h:p∈l) (hk:e.kind=p.kind):things (setId l p.id e)=things l:=by
 obtain ⟨k,h1,h2,h3⟩:=Agp hs h
 unfold setId things
 rw [h1,Int.toNat_natCast,List.countP_set h2,hk]
 rw [gt_eq h2] at h3
 rw [h3]
 have:(if (p.kind !=1)=true then 1 else 0)≤l.countP fun e=>e.kind !=1:=by
  split
  ·rename_i hp
   exact List.countP_pos_iff.2 ⟨p,h,hp⟩
  ·omega
 omega
theorem Adb {l:List Entity} {p e x:Entity} (hs:Srt l) (h:p∈l) (hx:x∈l) (hne:x.id≠p.id):x∈setId l p.id e:=by
 obtain ⟨k,h1,h2,h3⟩:=Agp hs h
 obtain ⟨j,j1,j2,j3⟩:=Agp hs hx
 unfold setId
 rw [h1,Int.toNat_natCast]
 have hjk:j≠k:=fun e=>hne (by rw [←j3,←h3,e])
 rw [List.mem_iff_getElem?]
 refine ⟨j,?_⟩
 rw [List.getElem?_set_ne (by omega),Adx j2,j3]
theorem Aei {p:Entity} {i:Input}:(steerE p i).1.id=p.id∧(steerE p i).1.kind=p.kind∧(steerE p i).1.x=p.x∧(steerE p i).1.y=p.y∧(steerE p i).1.health=p.health:=by
 unfold steerE
 split
 ·simp
 ·split<;>simp
theorem Agh {a b:Int}:a≤maxI a b∧b≤maxI a b∧(maxI a b=a∨maxI a b=b):=by unfold maxI;split<;>omega
theorem Af3 {c:Config} {p:Entity} {i:Input} (h:p.right c=true) (hk:p.kind=1) (hi:i.right=true):(steerE p i).1.right c=true∧({(steerE p i).1 with age:=0}:Entity).right c=true:=by
 simp only [Input.right,Bool.and_eq_true,Aad] at hi
 simp only [z9,hk,if_true,Bool.and_eq_true,Aad,decide_eq_true_eq] at h
 have hm:= @Agh p.age 1
 unfold steerE
 split
 ·simp only [z9,hk,if_true,Bool.and_eq_true,Aad,decide_eq_true_eq]
  refine ⟨⟨h.1,?_⟩,⟨h.1,?_⟩⟩<;>omega
 ·split
  ·simp only [z9,hk,if_true,Bool.and_eq_true,Aad,decide_eq_true_eq]
   refine ⟨⟨h.1,?_⟩,⟨h.1,?_⟩⟩<;>omega
  ·simp only [z9,hk,if_true,Bool.and_eq_true,Aad,decide_eq_true_eq]
   refine ⟨⟨h.1,?_⟩,⟨h.1,?_⟩⟩<;>omega
theorem Afz (d:Int):clamp d (-1) 1= -1∨clamp d (-1) 1=0∨clamp d (-1) 1=1:=by unfold clamp;split<;>(try split)<;>omega
theorem AfC {c:Config} {p:Entity} {i:Input} {id:Int} (h:p.right c=true) (hk:p.kind=1) (hid:1000≤id∧id≤2147483647):(shootE p i id).right c=true:=by
 have hp:=Entity.right_player h hk
 simp only [z9,Bool.and_eq_true] at h
 have h1:=Afz i.dx
 have h2:=Afz i.dy
 have hh:within id 1000 2147483647=true:=Aad.2 hid
 have ho:within p.id 1 c.players=true:=Aad.2 hp
 have h0:within 0 0 12=true:=by decide
 unfold shootE paceD
 simp only [z9,h.1,hh,ho,h0,pace]
 rcases h1 with h1|h1|h1<;>rcases h2 with h2|h2|h2<;>simp [h1,h2]
structure Steer (c:Config) (r:Int) (s:Stg):Prop where
 sane:Sane c r s.l
 made:0≤s.made∧s.made≤8
theorem AjK {c:Config} {r f made:Int} (hr:0≤r∧r<c.regions) (hf:0≤f∧f<10000) (hm:0≤made∧made≤8):1000≤numI c r f made∧numI c r f made≤2147483647:=by
 have h:= @Config.regions_le c
 have h1:0≤f*c.regions:=Int.mul_nonneg hf.1 h.1
 have h2:f*c.regions≤10000*16:=Int.mul_le_mul (by omega) h.2 h.1 (by omega)
 unfold numI
 omega
theorem Config.is_le {c:Config} {r:Int} (h:c.is r=true):0≤r∧r<c.regions:=by
 simp only [Config.is,Aad] at h;omega
theorem Stg.room_iff {s:Stg}:s.room=true↔s.made<8∧things s.l<24:=by simp [Stg.room]
theorem AhJ {c:Config} {r f:Int} {ins:List Input} {s:Stg} {p:Entity} (hs:Steer c r s) (hr:c.is r=true) (hf:0≤f∧f<10000) (hp:p∈s.l) (hi:p.kind=1→(inAt ins p.id).right=true):
  Steer c r (steer1 c r f ins s p)∧(∀x∈s.l,x.id≠p.id→x∈(steer1 c r f ins s p).l)∧(steer1 c r f ins s p).out=s.out:=by
 unfold steer1
 split
 ·exact ⟨hs,fun x hx _=>hx,rfl⟩
 ·rename_i hk
  have hk:p.kind=1:=by omega
  obtain ⟨hpr,hpo⟩:=hs.sane.ents p hp
  have hi:=hi hk
  obtain ⟨e1,e2⟩:=Af3 hpr hk hi
  obtain ⟨i1,i2,i3,i4,i5⟩:= @Aei p (inAt ins p.id)
  split
  ·split
   ·rename_i hroom
    have hroom:=Stg.room_iff.1 hroom
    have hn:=AjK (made:=s.made) (Config.is_le hr) hf hs.made
    have hsh:=AfC (i:=inAt ins p.id) e1 (by omega) hn
    have hs1:Srt (put1 s.l (shootE (steerE p (inAt ins p.id)).1 (inAt ins p.id) (numI c r f s.made))):=Ael hs.sane.srt
    have hp1:p∈put1 s.l (shootE (steerE p (inAt ins p.id)).1 (inAt ins p.id) (numI c r f s.made)):=Afd p hp
    have ht:= @Aen s.l (shootE (steerE p (inAt ins p.id)).1 (inAt ins p.id) (numI c r f s.made))
    refine ⟨⟨⟨Aep hs1 hp1 i1,?_,fun e he=> ?_⟩,by have:=hs.made;simp only;omega⟩,fun x hx hne=>Adb hs1 hp1 (Afd x hx) hne,rfl⟩
    ·simp only
     rw [AbR hs1 hp1 i2]
     have:=hs.sane.things
     split at ht<;>omega
    ·rcases AdM he with rfl|he
     ·exact ⟨e1,by rw [i3,i4];exact hpo⟩
     ·rcases Ady he with rfl|he
      ·refine ⟨hsh,?_⟩
       show c.of (steerE p (inAt ins p.id)).1.x (steerE p (inAt ins p.id)).1.y=r
       rw [i3,i4];exact hpo
      ·exact hs.sane.ents e he
   ·refine ⟨⟨⟨Aep hs.sane.srt hp i1,?_,fun e he=> ?_⟩,hs.made⟩,fun x hx hne=>Adb hs.sane.srt hp hx hne,rfl⟩
    ·simp only
     rw [AbR hs.sane.srt hp (by exact i2)]
     exact hs.sane.things
    ·rcases AdM he with rfl|he
     ·refine ⟨e2,?_⟩
      show c.of (steerE p (inAt ins p.id)).1.x (steerE p (inAt ins p.id)).1.y=r
      rw [i3,i4];exact hpo
     ·exact hs.sane.ents e he
  ·refine ⟨⟨⟨Aep hs.sane.srt hp i1,?_,fun e he=> ?_⟩,hs.made⟩,fun x hx hne=>Adb hs.sane.srt hp hx hne,rfl⟩
   ·simp only
    rw [AbR hs.sane.srt hp i2]
    exact hs.sane.things
   ·rcases AdM he with rfl|he
    ·exact ⟨e1,by rw [i3,i4];exact hpo⟩
    ·exact hs.sane.ents e he
theorem Ahu {c:Config} {r f:Int} {ins:List Input} (hr:c.is r=true) (hf:0≤f∧f<10000) (hins:(ins.length:Int)=c.players) (hi: ∀i∈ins,i.right=true): ∀ {R:List Entity} {s:Stg},Steer c r s→Srt R→(∀p∈R,p∈s.l)→
  Steer c r (R.foldl (steer1 c r f ins) s)∧(R.foldl (steer1 c r f ins) s).out=s.out:=by
 intro R
 induction R with
 |nil=>intro s h _ _;exact ⟨h,rfl⟩
 |cons p R ih=>
  intro s h hR hm
  have hp:=hm p (List.mem_cons_self ..)
  obtain ⟨h1,h2,h3⟩:=AhJ (f:=f) (ins:=ins) h hr hf hp fun hk=>by
   have:=Entity.right_player (h.sane.ents p hp).1 hk
   unfold inAt
   exact hi _ (Ab3 (by omega))
  obtain ⟨hR1,hR2⟩:=List.pairwise_cons.1 hR
  have:=ih h1 hR2 fun q hq=>h2 q (hm q (List.mem_cons_of_mem _ hq)) (by have:=hR1 q hq;omega)
  exact ⟨this.1,by rw [List.foldl_cons,this.2,h3]⟩
theorem AiO {c:Config} {r:Int} {s:Region} {ins:List Input} {inbox:List Cross} (h:Fine c r s ins inbox):
  Steer c r (steerS c r s.frame ins ⟨arriveL s.ents inbox,0,[]⟩)∧(steerS c r s.frame ins ⟨arriveL s.ents inbox,0,[]⟩).out= []:=
 Ahu (ins:=ins) h.is h.frame h.len h.ins ⟨h.sane,by simp⟩ h.sane.srt fun p hp=>hp
end Go.Eva
namespace Go.Eva.S2
theorem Adr (x:Int):Fn cx 109 [.int .u64 x] (.int .u64 (mix x)):=by
 refine qq ?_
 refine gg [.w (0≤(33:Int)),.s (T.int zf (zh x 8589934592)),.i zf ((↑(BitVec.toNat (zb 64 x^^^zb 64 (zh x 8589934592))):Int)) (zp zf (↑(BitVec.toNat (zb 64 x^^^zb 64 (zh x 8589934592))):Int)),.i zf (zp zf (↑(BitVec.toNat (zb 64 x^^^zb 64 (zh x 8589934592))):Int)*18397679294719823053) (zp zf (zp zf (↑(BitVec.toNat (zb 64 x^^^zb 64 (zh x 8589934592))):Int)*18397679294719823053)),.w (0≤(33:Int)),.s (T.int zf (zh (zp zf (zp zf (↑(BitVec.toNat (zb 64 x^^^zb 64 (zh x 8589934592))):Int)*18397679294719823053)) 8589934592)),.i zf ((↑(BitVec.toNat (zb 64 (zp zf (zp zf (↑(BitVec.toNat (zb 64 x^^^zb 64 (zh x 8589934592))):Int)*18397679294719823053))^^^zb 64 (zh (zp zf (zp zf (↑(BitVec.toNat (zb 64 x^^^zb 64 (zh x 8589934592))):Int)*18397679294719823053)) 8589934592))):Int)) (zp zf (↑(BitVec.toNat (zb 64 (zp zf (zp zf (↑(BitVec.toNat (zb 64 x^^^zb 64 (zh x 8589934592))):Int)*18397679294719823053))^^^zb 64 (zh (zp zf (zp zf (↑(BitVec.toNat (zb 64 x^^^zb 64 (zh x 8589934592))):Int)*18397679294719823053)) 8589934592))):Int)),.i zf (zp zf (↑(BitVec.toNat (zb 64 (zp zf (zp zf (↑(BitVec.toNat (zb 64 x^^^zb 64 (zh x 8589934592))):Int)*18397679294719823053))^^^zb 64 (zh (zp zf (zp zf (↑(BitVec.toNat (zb 64 x^^^zb 64 (zh x 8589934592))):Int)*18397679294719823053)) 8589934592))):Int)*14181476777654086739) (zp zf (zp zf (↑(BitVec.toNat (zb 64 (zp zf (zp zf (↑(BitVec.toNat (zb 64 x^^^zb 64 (zh x 8589934592))):Int)*18397679294719823053))^^^zb 64 (zh (zp zf (zp zf (↑(BitVec.toNat (zb 64 x^^^zb 64 (zh x 8589934592))):Int)*18397679294719823053)) 8589934592))):Int)*14181476777654086739)),.w (0≤(33:Int)),.s (T.int zf (zh (zp zf (zp zf (↑(BitVec.toNat (zb 64 (zp zf (zp zf (↑(BitVec.toNat (zb 64 x^^^zb 64 (zh x 8589934592))):Int)*18397679294719823053))^^^zb 64 (zh (zp zf (zp zf (↑(BitVec.toNat (zb 64 x^^^zb 64 (zh x 8589934592))):Int)*18397679294719823053)) 8589934592))):Int)*14181476777654086739)) 8589934592))] ⟨oW,o_i rfl,o_i rfl,oW,o_i rfl,o_i rfl,oW,trivial⟩ ?_
 refine gg [.i zf ((↑(BitVec.toNat (zb 64 (zp zf (zp zf (↑(BitVec.toNat (zb 64 (zp zf (zp zf (↑(BitVec.toNat (zb 64 x^^^zb 64 (zh x 8589934592))):Int)*18397679294719823053))^^^zb 64 (zh (zp zf (zp zf (↑(BitVec.toNat (zb 64 x^^^zb 64 (zh x 8589934592))):Int)*18397679294719823053)) 8589934592))):Int)*14181476777654086739))^^^zb 64 (zh (zp zf (zp zf (↑(BitVec.toNat (zb 64 (zp zf (zp zf (↑(BitVec.toNat (zb 64 x^^^zb 64 (zh x 8589934592))):Int)*18397679294719823053))^^^zb 64 (zh (zp zf (zp zf (↑(BitVec.toNat (zb 64 x^^^zb 64 (zh x 8589934592))):Int)*18397679294719823053)) 8589934592))):Int)*14181476777654086739)) 8589934592))):Int)) (zp zf (↑(BitVec.toNat (zb 64 (zp zf (zp zf (↑(BitVec.toNat (zb 64 (zp zf (zp zf (↑(BitVec.toNat (zb 64 x^^^zb 64 (zh x 8589934592))):Int)*18397679294719823053))^^^zb 64 (zh (zp zf (zp zf (↑(BitVec.toNat (zb 64 x^^^zb 64 (zh x 8589934592))):Int)*18397679294719823053)) 8589934592))):Int)*14181476777654086739))^^^zb 64 (zh (zp zf (zp zf (↑(BitVec.toNat (zb 64 (zp zf (zp zf (↑(BitVec.toNat (zb 64 x^^^zb 64 (zh x 8589934592))):Int)*18397679294719823053))^^^zb 64 (zh (zp zf (zp zf (↑(BitVec.toNat (zb 64 x^^^zb 64 (zh x 8589934592))):Int)*18397679294719823053)) 8589934592))):Int)*14181476777654086739)) 8589934592))):Int))] ⟨o_i rfl,trivial⟩ ?_
 exact ge
theorem Ad5 (l:List Int) (hn:small l): ∀(d i:Nat) (h:Int),i+d=l.length→
  Is cx (.loop 99 [0,1,0,1,1] 0 [.t (.int .u64 h),.t (.sl 1 (l.map ti)),vi l.length,vi i] [])
   ⟨.exit 0,[.t (.int .u64 ((l.drop i).foldl atStep h)),.t (.sl 1 (l.map ti)),vi l.length,vi l.length],[]⟩:=by
 unfold small at hn
 intro d
 induction d with
 |zero=>
  intro i h hi
  rw [Aaf (by omega)]
  refine qq ?_
  refine gg [.b (decide ((i:Int)<(↑(zq l):Int))) false] ⟨fP,trivial⟩ ?_
  refine rT (a:=qz (qx 0) [V.t (T.int zf h),V.t (qk 1 (zz ti l)),vi (↑(zq l):Int),vi (i:Int)] []) ?_
  ((have hq:i=l.length:=by omega);subst hq;rfl)
 |succ d ih=>
  intro i h hi
  have hlt:i<l.length:=by omega
  have ih1:=ih (i+1) (atStep h (gt l i)) (by omega)
  clear ih
  rw [Aah hlt,List.foldl_cons]
  unfold atStep at ih1⊢
  refine qq ?_
  refine gg [.b (decide ((i:Int)<(↑(zq l):Int))) true,.w (0≤(i:Int)),.n (zy (i:Int)) i,.g (zz ti l) i (ti (gt l i)),.i zf (gt l i) (zp zf (gt l i)),.i zf (h+zp zf (gt l i)) (zp zf (h+zp zf (gt l i))),.i zf (zp zf (h+zp zf (gt l i))+11400714819323198485) (zp zf (zp zf (h+zp zf (gt l i))+11400714819323198485)),.a _ _,.i zd ((i:Int)+1) ((↑(i+1):Int)),.a _ _] ⟨tP,oW,nK,o_gt rfl (by assumption) (by intro h;cases h),o_i rfl,o_i rfl,o_i rfl,o_a (Adr (zp zf (zp zf (h+zp zf (gt l i))+11400714819323198485))),oI,o_a ih1,trivial⟩ ?_
  exact ge
theorem AfP (seed:Int) (l:List Int) (hn:small l):Fn cx 99 [.int .u64 seed,.sl 1 (l.map ti)] (.int .u64 (chanceAt seed l)):=by
 have h:=Ad5 l hn l.length 0 (mix seed) (by omega)
 rw [List.drop_zero] at h
 refine qq ?_
 refine gg [.a _ _,.n (zq (zz ti l)) (zq l),.a _ _] ⟨o_a (Adr seed),o_n (by simp),o_a h,trivial⟩ ?_
 exact ge
theorem Aax (n seed:Int) (l:List Int) (hn:n≤1000000) (hl:small l):Fn cx 77 [ti n,.int .u64 seed,.sl 1 (l.map ti)] (ti (below n seed l)):=by
 by_cases h:n<1
 ·have e:below n seed l=0:=by simp [below,h]
  rw [e]
  refine qq ?_
  refine gg [.b (decide (n<1)) true] ⟨t_brp (by assumption),trivial⟩ ?_
  exact ge
 ·have e:below n seed l=(chanceAt seed l).tmod n:=by simp [below,h]
  have hle:= @Afa n seed l (by omega)
  rw [e] at hle⊢
  refine qq ?_
  refine gg [.b (decide (n<1)) false,.a _ _,.i zf n n,.w (n≠(0:Int)),.s (T.int zf (zg (chanceAt seed l) n)),.i zd (zg (chanceAt seed l) n) (zg (chanceAt seed l) n)] ⟨f_brp (by assumption),o_a (AfP seed l (by assumption)),oU,oW,oI,trivial⟩ ?_
  exact ge
theorem AaF (v:Int):Fn cx 97 [ti v] (ti (held v)):=by
 refine qq ?_
 refine gg [.a _ _] ⟨o_a (Aau v (-2147483647) 2147483647),trivial⟩ ?_
 exact ge
theorem Ab2 (a b:Int):Fn cx 66 [ti a,ti b] (ti (subH a b)):=by
 have h1:= @Adn a
 have h2:= @Adn b
 refine qq ?_
 refine gg [.a _ _,.a _ _,.i zd (held a-held b) (held a-held b),.a _ _] ⟨o_a (AaF a),o_a (AaF b),oI,o_a (AaF (held a-held b)),trivial⟩ ?_
 exact ge
theorem Adt (v:Int) (h: -2147483647≤v∧v≤2147483647):Fn cx 108 [ti v] (ti (sizeI v)):=by
 refine qq ?_
 refine gg [.i zd (0-v) (0-v),.s (ti (maxI v (0-v)))] ⟨oI,trivial⟩ ?_
 exact ge
theorem AfX (ax ay bx y:Int):Fn cx 96 [ti ax,ti ay,ti bx,ti y] (ti (farI ax ay bx y)):=by
 have h1: -2147483647≤subH ax bx∧subH ax bx≤2147483647:=Adn
 have h2: -2147483647≤subH ay y∧subH ay y≤2147483647:=Adn
 refine qq ?_
 refine gg [.a _ _,.a _ _,.a _ _,.a _ _,.s (ti (maxI (sizeI (subH ax bx)) (sizeI (subH ay y))))] ⟨o_a (Ab2 ax bx),o_a (Adt (subH ax bx) ⟨(by omega),(by omega)⟩),o_a (Ab2 ay y),o_a (Adt (subH ay y) ⟨(by omega),(by omega)⟩),trivial⟩ ?_
 exact ge
theorem AdB (l:List Int) (hn:small l): ∀(d i:Nat) (s:Int),i+d=l.length→ -2147483647≤s∧s≤2147483647→
  Is cx (.loop 70 [0,1,0,1,1] 0 [vi s,.t (.sl 1 (l.map ti)),vi l.length,vi i] [])
   ⟨.exit 0,[vi ((l.drop i).foldl sumStep s),.t (.sl 1 (l.map ti)),vi l.length,vi l.length],[]⟩:=by
 unfold small at hn
 intro d
 induction d with
 |zero=>
  intro i s hi hs
  rw [Aaf (by omega)]
  refine qq ?_
  refine gg [.b (decide ((i:Int)<(↑(zq l):Int))) false] ⟨fP,trivial⟩ ?_
  refine rT (a:=qz (qx 0) [vi s,V.t (qk 1 (zz ti l)),vi (↑(zq l):Int),vi (i:Int)] []) ?_
  ((have hq:i=l.length:=by omega);subst hq;rfl)
 |succ d ih=>
  intro i s hi hs
  have hlt:i<l.length:=by omega
  have ih1:=ih (i+1) (sumStep s (gt l i)) (by omega) Adn
  clear ih
  rw [Aah hlt,List.foldl_cons]
  unfold sumStep at ih1⊢
  have h2:= @Adn (gt l i)
  refine qq ?_
  refine gg [.b (decide ((i:Int)<(↑(zq l):Int))) true,.w (0≤(i:Int)),.n (zy (i:Int)) i,.g (zz ti l) i (ti (gt l i)),.a _ _,.i zd (s+held (gt l i)) (s+held (gt l i)),.a _ _,.i zd ((i:Int)+1) ((↑(i+1):Int)),.a _ _] ⟨tP,oW,nK,o_gt rfl (by assumption) (by intro h;cases h),o_a (AaF (gt l i)),oI,o_a (AaF (s+held (gt l i))),oI,o_a ih1,trivial⟩ ?_
  exact ge
theorem Aeo (l:List Int) (hn:small l):Fn cx 70 [.sl 1 (l.map ti)] (ti (sumH l)):=by
 have h:=AdB l hn l.length 0 0 (by omega) (by omega)
 rw [List.drop_zero] at h
 refine qq ?_
 refine gg [.n (zq (zz ti l)) (zq l),.a _ _] ⟨o_n (by simp),o_a h,trivial⟩ ?_
 exact ge
theorem AcC (i:Input):Fn cx 55 [i.enc] (.bool i.right):=by
 refine qq ?_
 refine brp (p:=i.dx≥ -2) (by kernel_rfl) (fun h1=> ?_) (fun h1=> ?_)
 ·refine gg [.tt,.tt,.tt] trivial ?_
  refine brp (p:=i.dx≤2) (by kernel_rfl) (fun h2=> ?_) (fun h2=> ?_)
  ·refine gg [.tt,.tt,.tt] trivial ?_
   refine brp (p:=i.dy≥ -2) (by kernel_rfl) (fun h3=> ?_) (fun h3=> ?_)
   ·refine gg [.tt,.tt,.tt] trivial ?_
    refine rT (a:=qz qj [vb (decide (i.dy≤2))] []) ?_
    (simp_all [Input.right,within];(try (rw [Bool.eq_iff_iff];simp only [decide_eq_true_eq,Bool.and_eq_true];omega));(try (intros;omega)))
   ·refine gg [.ff,.ff,.ff] trivial ?_
    refine rT (a:=qz qj [vb false] []) ?_
    (simp_all [Input.right,within];(try (rw [Bool.eq_iff_iff];simp only [decide_eq_true_eq,Bool.and_eq_true];omega));(try (intros;omega)))
  ·refine gg [.ff,.ff,.ff,.ff,.ff,.ff,.ff] trivial ?_
   refine rT (a:=qz qj [vb false] []) ?_
   (simp_all [Input.right,within];(try (rw [Bool.eq_iff_iff];simp only [decide_eq_true_eq,Bool.and_eq_true];omega));(try (intros;omega)))
 ·refine gg [.ff,.ff,.ff,.ff,.ff,.ff,.ff,.ff,.ff,.ff,.ff] trivial ?_
  refine rT (a:=qz qj [vb false] []) ?_
  (simp_all [Input.right,within];(try (rw [Bool.eq_iff_iff];simp only [decide_eq_true_eq,Bool.and_eq_true];omega));(try (intros;omega)))
theorem Acn (e:Entity) (i:Input) (he: -1000000≤e.age∧e.age≤1000000):Is cx (.call 60 [.t e.enc,.t i.enc] []) ⟨.ret,[.t (steerE e i).1.enc,vb (steerE e i).2],[]⟩:=by
 have hR:=AcC i
 have hm:= @Agh e.age 1
 have hm2:= @Agh 1 e.age
 have hmm:maxI 1 e.age=maxI e.age 1:=by unfold maxI;split<;>split<;>omega
 by_cases hk:e.kind=1
 ·cases hr:i.right with
  |true=>
   rw [hr] at hR
   have hi:=hr
   simp only [Input.right,Bool.and_eq_true,Aad] at hi
   cases hf:i.fire with
   |true=>
    by_cases ha:e.age=0
    ·have e1:steerE e i=({e with vx:=i.dx*32,vy:=i.dy*32,age:=6},true):=by simp [steerE,hk,hr,hf,ha]
     rw [e1]
     refine qq ?_
     refine gg [.b (e.kind !=1) false,.ff,.a _ _,.ff,.ff,.b (!true) false,.i zd (i.dx*32) (i.dx*32)] ⟨f_brn (by assumption),o_a hR,bK,oI,trivial⟩ ?_
     refine bO ?_ ?_
     all_goals
      refine gg [.i zd (i.dy*32) (i.dy*32),.b i.fire true,.tt,.tt,.tt,.b (e.age==0) true] ⟨oI,tB,t_bre (by assumption),trivial⟩ ?_
      exact ge
    ·have e1:steerE e i=({e with vx:=i.dx*32,vy:=i.dy*32,age:=maxI e.age 1-1},false):=by simp [steerE,hk,hr,ha]
     rw [e1]
     refine qq ?_
     refine gg [.b (e.kind !=1) false,.ff,.a _ _,.ff,.ff,.b (!true) false,.i zd (i.dx*32) (i.dx*32)] ⟨f_brn (by assumption),o_a hR,bK,oI,trivial⟩ ?_
     refine bO ?_ ?_
     all_goals
      refine gg [.i zd (i.dy*32) (i.dy*32),.b i.fire true,.tt,.tt,.tt,.b (e.age==0) false,.s (ti (maxI e.age 1)),.i zd (maxI e.age 1-1) (maxI e.age 1-1)] ⟨oI,tB,f_bre (by assumption),oI,trivial⟩ ?_
      refine rT (a:=qz qj [V.t (T.agg [ti e.id,ti e.kind,ti e.x,ti e.y,ti (i.dx*32),ti (i.dy*32),ti e.health,ti (maxI e.age 1-1),ti e.owner]),vb false] []) ?_
      (first|rfl|(simp [zm,hmm];done))
   |false=>
    have e1:steerE e i=({e with vx:=i.dx*32,vy:=i.dy*32,age:=maxI e.age 1-1},false):=by simp [steerE,hk,hr,hf]
    rw [e1]
    refine qq ?_
    refine gg [.b (e.kind !=1) false,.ff,.a _ _,.ff,.ff,.b (!true) false,.i zd (i.dx*32) (i.dx*32)] ⟨f_brn (by assumption),o_a hR,bK,oI,trivial⟩ ?_
    refine bO ?_ ?_
    all_goals
     refine gg [.i zd (i.dy*32) (i.dy*32),.b i.fire false,.ff,.ff,.ff,.ff,.s (ti (maxI e.age 1)),.i zd (maxI e.age 1-1) (maxI e.age 1-1)] ⟨oI,fB,oI,trivial⟩ ?_
     refine rT (a:=qz qj [V.t (T.agg [ti e.id,ti e.kind,ti e.x,ti e.y,ti (i.dx*32),ti (i.dy*32),ti e.health,ti (maxI e.age 1-1),ti e.owner]),vb false] []) ?_
     (first|rfl|(simp [zm,hmm];done))
  |false=>
   rw [hr] at hR
   have e1:steerE e i=(e,false):=by simp [steerE,hr]
   rw [e1]
   refine qq ?_
   refine gg [.b (e.kind !=1) false,.ff,.a _ _,.ff,.ff,.b (!false) true] ⟨f_brn (by assumption),o_a hR,bK,trivial⟩ ?_
   exact ge
 ·have e1:steerE e i=(e,false):=by simp [steerE,hk]
  rw [e1]
  refine qq ?_
  refine gg [.b (e.kind !=1) true,.tt,.tt,.tt,.tt] ⟨t_brn (by assumption),trivial⟩ ?_
  exact ge
theorem AaO (d:Int):Fn cx 94 [ti d] (ti (paceD d)):=by
 have h:= @AbW d (-1) 1 (by decide)
 refine qq ?_
 refine gg [.a _ _,.i zd (clamp d (-1) 1*160) (clamp d (-1) 1*160)] ⟨o_a (Aau d (-1) 1),oI,trivial⟩ ?_
 exact ge
theorem Ack (e:Entity) (i:Input) (id:Int):Fn cx 62 [e.enc,i.enc,ti id] ((shootE e i id).enc):=by
 refine qq ?_
 refine bO ?_ ?_
 ·refine gg [.a _ _] ⟨o_a (AaO i.dx),trivial⟩ ?_
  refine bO ?_ ?_
  all_goals
   refine gg [.a _ _] ⟨o_a (AaO i.dy),trivial⟩ ?_
   refine bre (x:=paceD i.dx) (y:=0) (by kernel_rfl) (fun h1=> ?_) (fun h1=> ?_)
   ·refine gg [.tt,.tt,.tt] trivial ?_
    refine bre (x:=paceD i.dy) (y:=0) (by kernel_rfl) (fun h2=> ?_) (fun h2=> ?_)
    ·refine rT (a:=qz qj [V.t (T.agg [ti id,ti 2,ti e.x,ti e.y,ti 160,ti (paceD i.dy),ti 1,ti 0,ti e.id])] []) ?_
     (unfold shootE;first|(rw [if_pos (by simp_all)];rfl)|(rw [if_neg (by simp_all)];rfl))
    ·refine rT (a:=qz qj [V.t (T.agg [ti id,ti 2,ti e.x,ti e.y,ti (paceD i.dx),ti (paceD i.dy),ti 1,ti 0,ti e.id])] []) ?_
     (unfold shootE;first|(rw [if_pos (by simp_all)];rfl)|(rw [if_neg (by simp_all)];rfl))
   ·refine gg [.ff,.ff,.ff,.ff] trivial ?_
    refine rT (a:=qz qj [V.t (T.agg [ti id,ti 2,ti e.x,ti e.y,ti (paceD i.dx),ti (paceD i.dy),ti 1,ti 0,ti e.id])] []) ?_
    (unfold shootE;first|(rw [if_pos (by simp_all)];rfl)|(rw [if_neg (by simp_all)];rfl))
 ·refine gg [.a _ _,.a _ _] ⟨o_a (AaO i.dx),o_a (AaO i.dy),trivial⟩ ?_
  refine bre (x:=paceD i.dx) (y:=0) (by kernel_rfl) (fun h1=> ?_) (fun h1=> ?_)
  ·refine gg [.tt,.tt,.tt] trivial ?_
   refine bre (x:=paceD i.dy) (y:=0) (by kernel_rfl) (fun h2=> ?_) (fun h2=> ?_)
   ·refine rT (a:=qz qj [V.t (T.agg [ti id,ti 2,ti e.x,ti e.y,ti 160,ti (paceD i.dy),ti 1,ti 0,ti e.id])] []) ?_
    (unfold shootE;first|(rw [if_pos (by simp_all)];rfl)|(rw [if_neg (by simp_all)];rfl))
   ·refine rT (a:=qz qj [V.t (T.agg [ti id,ti 2,ti e.x,ti e.y,ti (paceD i.dx),ti (paceD i.dy),ti 1,ti 0,ti e.id])] []) ?_
    (unfold shootE;first|(rw [if_pos (by simp_all)];rfl)|(rw [if_neg (by simp_all)];rfl))
  ·refine gg [.ff,.ff,.ff,.ff] trivial ?_
   refine rT (a:=qz qj [V.t (T.agg [ti id,ti 2,ti e.x,ti e.y,ti (paceD i.dx),ti (paceD i.dy),ti 1,ti 0,ti e.id])] []) ?_
   (unfold shootE;first|(rw [if_pos (by simp_all)];rfl)|(rw [if_neg (by simp_all)];rfl))
theorem Adz (l:List Int) (hn:small l):Fn cx 95 [.sl 1 (l.map ti)] (ti (sumH l)):=by
 refine qq ?_
 refine gg [.a _ _] ⟨o_a (Aeo l (by assumption)),trivial⟩ ?_
 exact ge
theorem Agj (c:Config) (e:Entity) (he: -1000000≤e.age∧e.age≤1000000):Is cx (.call 64 [.t c.enc,.t e.enc] []) ⟨.ret,[.t (goE c e).1.enc,vb (goE c e).2],[]⟩:=by
 have hR:=Abl c e
 cases hr:e.right c with
 |false=>
  rw [hr] at hR
  have e1:goE c e=(Entity.zero,false):=by simp [goE,hr]
  rw [e1]
  refine qq ?_
  refine gg [.a _ _,.b (!false) true] ⟨o_a hR,bK,trivial⟩ ?_
  exact ge
 |true=>
  rw [hr] at hR
  have h1:= @Config.width_le c
  have h2:= @Config.height_le c
  have hx:=Adz [e.x,e.vx] (by simp [small])
  have hy:=Adz [e.y,e.vy] (by simp [small])
  have hI:=Ab1 c (sumH [e.x,e.vx]) (sumH [e.y,e.vy])
  by_cases hk:e.kind=2
  ·by_cases ha:e.age+1>12
   ·have e1:goE c e=(Entity.zero,false):=by simp [goE,hr,hk,ha]
    rw [e1]
    refine qq ?_
    refine gg [.a _ _,.b (!true) false] ⟨o_a hR,bK,trivial⟩ ?_
    refine bO (bO ?_ ?_) ?_
    all_goals
     refine gg [.a _ _,.a _ _,.b (e.kind==2) true,.i zd (e.age+1) (e.age+1),.b (decide (e.age+1>12)) true,.tt,.tt,.tt,.tt,.tt,.tt] ⟨o_a hx,o_a hy,t_bre (by assumption),oI,t_brp (by assumption),trivial⟩ ?_
     exact ge
   ·cases hi:c.inside (sumH [e.x,e.vx]) (sumH [e.y,e.vy]) with
    |true=>
     rw [hi] at hI
     have e1:goE c e=({e with x:=clamp (sumH [e.x,e.vx]) 0 (c.width-1),y:=clamp (sumH [e.y,e.vy]) 0 (c.height-1),age:=e.age+1},true):=by simp [goE,hr,hk,ha,hi]
     rw [e1]
     refine qq ?_
     refine gg [.a _ _,.b (!true) false] ⟨o_a hR,bK,trivial⟩ ?_
     refine bO (bO ?_ ?_) ?_
     all_goals
      refine gg [.a _ _,.a _ _,.b (e.kind==2) true,.i zd (e.age+1) (e.age+1),.b (decide (e.age+1>12)) false,.ff,.ff,.ff,.a _ _,.ff,.ff,.b (!true) false,.a _ _,.i zd (Config.width c-1) (Config.width c-1),.a _ _,.a _ _] ⟨o_a hx,o_a hy,t_bre (by assumption),oI,f_brp (by assumption),o_a hI,bK,o_a (Abh c),oI,o_a (Aau (sumH [e.x,e.vx]) 0 (Config.width c-1)),o_a (AaN c),trivial⟩ ?_
      refine gg [.i zd (Config.height c-1) (Config.height c-1),.a _ _] ⟨oI,o_a (Aau (sumH [e.y,e.vy]) 0 (Config.height c-1)),trivial⟩ ?_
      exact ge
    |false=>
     rw [hi] at hI
     have e1:goE c e=(Entity.zero,false):=by simp [goE,hr,hk,hi]
     rw [e1]
     refine qq ?_
     refine gg [.a _ _,.b (!true) false] ⟨o_a hR,bK,trivial⟩ ?_
     refine bO (bO ?_ ?_) ?_
     all_goals
      refine gg [.a _ _,.a _ _,.b (e.kind==2) true,.i zd (e.age+1) (e.age+1),.b (decide (e.age+1>12)) false,.ff,.ff,.ff,.a _ _,.ff,.ff,.b (!false) true] ⟨o_a hx,o_a hy,t_bre (by assumption),oI,f_brp (by assumption),o_a hI,bK,trivial⟩ ?_
      exact ge
  ·have e1:goE c e=({e with x:=clamp (sumH [e.x,e.vx]) 0 (c.width-1),y:=clamp (sumH [e.y,e.vy]) 0 (c.height-1)},true):=by simp [goE,hr,hk]
   rw [e1]
   refine qq ?_
   refine gg [.a _ _,.b (!true) false] ⟨o_a hR,bK,trivial⟩ ?_
   refine bO (bO ?_ ?_) ?_
   all_goals
    refine gg [.a _ _,.a _ _,.b (e.kind==2) false,.a _ _,.i zd (Config.width c-1) (Config.width c-1),.a _ _,.a _ _,.i zd (Config.height c-1) (Config.height c-1),.a _ _] ⟨o_a hx,o_a hy,f_bre (by assumption),o_a (Abh c),oI,o_a (Aau (sumH [e.x,e.vx]) 0 (Config.width c-1)),o_a (AaN c),oI,o_a (Aau (sumH [e.y,e.vy]) 0 (Config.height c-1)),trivial⟩ ?_
    exact ge
end Go.Eva.S2
namespace Go.Eva
theorem AhP {c:Config} {e:Entity} (h:(goE c e).2=true):(goE c e).1.id=e.id∧(goE c e).1.kind=e.kind∧(goE c e).1.health=e.health∧(goE c e).1.owner=e.owner:=by
 unfold goE at h⊢
 split
 ·rename_i h1;rw [if_pos h1] at h;simp at h
 ·rename_i h1
  rw [if_neg h1] at h
  split
  ·rename_i h2
   rw [if_pos h2] at h
   split
   ·rename_i h3;rw [if_pos h3] at h;simp at h
   ·simp
  ·simp
theorem Acy {c:Config} {e:Entity} (h:e.right c=true):c.right=true∧(0≤e.x∧e.x<c.width)∧(0≤e.y∧e.y<c.height):=by
 simp only [z9,Bool.and_eq_true] at h
 have hr:=Config.inside_right h.1
 have:=h.1
 simp only [Config.inside,Bool.and_eq_true,Aad] at this
 exact ⟨hr,by omega,by omega⟩
theorem Aha {c:Config} {e:Entity} (h:e.right c=true):(-160≤e.vx∧e.vx≤160)∧(-160≤e.vy∧e.vy≤160)∧(e.kind=1∨e.kind=2∨e.kind=3)∧(e.kind=3→e.vx=0∧e.vy=0):=by
 simp only [z9,Bool.and_eq_true] at h
 have h2:=h.2
 by_cases k1:e.kind=1
 ·rw [if_pos k1] at h2
  simp only [Bool.and_eq_true,Aad,decide_eq_true_eq] at h2
  omega
 ·rw [if_neg k1] at h2
  by_cases k2:e.kind=2
  ·rw [if_pos k2] at h2
   simp only [Bool.and_eq_true,Aad,decide_eq_true_eq,pace,Bool.or_eq_true] at h2
   omega
  ·rw [if_neg k2] at h2
   by_cases k3:e.kind=3
   ·rw [if_pos k3] at h2
    simp only [Bool.and_eq_true,Aad,decide_eq_true_eq] at h2
    omega
   ·rw [if_neg k3] at h2;contradiction
theorem AgA {v hi:Int} (h:0≤v∧v≤hi):clamp v 0 hi=v:=by unfold clamp;rw [if_neg (by omega),if_neg (by omega)]
theorem AeH {v d hi:Int} (h:0≤v∧v≤hi) (hd: -160≤d∧d≤160):v-160≤clamp (v+d) 0 hi∧clamp (v+d) 0 hi≤v+160:=by unfold clamp;split<;>(try split)<;>omega
theorem Agr {c:Config} {e:Entity} (h:(goE c e).2=true):(goE c e).1.right c=true∧e.right c=true∧(e.x-160≤(goE c e).1.x∧(goE c e).1.x≤e.x+160)∧(e.y-160≤(goE c e).1.y∧(goE c e).1.y≤e.y+160):=by
 have hr:e.right c=true:=by
  cases hq:e.right c with
  |true=>rfl
  |false=>unfold goE at h;rw [if_pos hq] at h;simp at h
 obtain ⟨hc,hx,hy⟩:=Acy hr
 obtain ⟨vx,vy,hk,_⟩:=Aha hr
 have hw:= @Config.width_le c
 have hh:= @Config.height_le c
 have ax:sumH [e.x,e.vx]=e.x+e.vx:=Aie (by omega) (by omega)
 have ay:sumH [e.y,e.vy]=e.y+e.vy:=Aie (by omega) (by omega)
 have cx:=AeH (v:=e.x) (d:=e.vx) (hi:=c.width-1) (by omega) vx
 have cy:=AeH (v:=e.y) (d:=e.vy) (hi:=c.height-1) (by omega) vy
 have bx:=AbW (v:=e.x+e.vx) (lo:=0) (hi:=c.width-1) (by omega)
 have bY:=AbW (v:=e.y+e.vy) (lo:=0) (hi:=c.height-1) (by omega)
 refine ⟨?_,hr,?_⟩
 ·have hin:c.inside (clamp (e.x+e.vx) 0 (c.width-1)) (clamp (e.y+e.vy) 0 (c.height-1))=true:=by
   simp only [Config.inside,Bool.and_eq_true,Aad]
   exact ⟨bx,bY⟩
  unfold goE at h⊢
  rw [ax,ay] at h⊢
  rw [if_neg (by simp [hr])] at h⊢
  simp only [z9,Bool.and_eq_true] at hr
  have hr2:=hr.2
  by_cases k2:e.kind=2
  ·rw [if_pos k2] at h⊢
   by_cases k3:e.age+1>12∨c.inside (e.x+e.vx) (e.y+e.vy)=false
   ·rw [if_pos k3] at h;simp at h
   ·rw [if_neg k3]
    simp only [z9,hin,Bool.true_and,if_neg (show¬e.kind=1 by omega),if_pos k2] at hr2⊢
    simp only [Bool.and_eq_true,Aad] at hr2⊢
    refine ⟨⟨hr2.1.1,?_⟩,hr2.2⟩
    have:=hr2.1.2
    omega
  ·rw [if_neg k2]
   simp only [z9,hin,Bool.true_and]
   exact hr2
 ·unfold goE at h⊢
  rw [ax,ay] at h⊢
  rw [if_neg (by simp [hr])] at h⊢
  by_cases k2:e.kind=2
  ·rw [if_pos k2] at h⊢
   by_cases k3:e.age+1>12∨c.inside (e.x+e.vx) (e.y+e.vy)=false
   ·rw [if_pos k3] at h;simp at h
   ·rw [if_neg k3];exact ⟨cx,cy⟩
  ·rw [if_neg k2];exact ⟨cx,cy⟩
def weak (c:Config) (e:Entity):Prop:=({e with health:=1}:Entity).right c=true∧e.health≤100∧(e.kind≠1→e.health=1)
theorem Ae6 {c:Config} {e:Entity} (h:e.right c=true):weak c e∧1≤e.health:=by
 unfold weak
 simp only [z9,Bool.and_eq_true] at h⊢
 by_cases k1:e.kind=1
 ·simp only [k1,if_true,Bool.and_eq_true,Aad,decide_eq_true_eq] at h⊢
  obtain ⟨h0,h⟩:=h
  refine ⟨⟨⟨h0,?_⟩,?_,fun q=>absurd rfl q⟩,?_⟩<;>omega
 ·simp only [if_neg k1] at h⊢
  by_cases k2:e.kind=2
  ·simp only [if_pos k2,Bool.and_eq_true,decide_eq_true_eq] at h⊢
   simp only [h,and_self,true_and,implies_true,and_true]
   omega
  ·simp only [if_neg k2] at h⊢
   by_cases k3:e.kind=3
   ·simp only [if_pos k3,Bool.and_eq_true,decide_eq_true_eq] at h⊢
    simp only [h,and_self,true_and,implies_true,and_true]
    omega
   ·simp [k3] at h
structure Moved (c:Config) (r:Int) (l:List Entity):Prop where
 srt:Srt l
 things:things l≤24
 ents: ∀e∈l,weak c e∧has (c.near r) (c.of e.x e.y)=true
theorem AeL {l m:List Entity} (h:l.Sublist m):things l≤things m:=by
 unfold things
 have:=h.countP_le (p:=fun e:Entity=>e.kind !=1)
 omega
end Go.Eva
namespace Go.Eva
theorem AfH {cols r m:Int}: ∀ {d:Nat} {n:Int},has (nearR cols r n d) m=true↔(n≤m∧m<n+d)∧isNear cols r m=true
 |0,n=>by simp [nearR,has];omega
 |d+1,n=>by
  have ih:= @AfH cols r m d (n+1)
  unfold has at ih⊢
  rw [nearR,List.any_append,Bool.or_eq_true,ih]
  constructor
  ·rintro (h|⟨h1,h2⟩)
   ·split at h
    ·rename_i hn
     simp only [List.any_cons,List.any_nil,Bool.or_false,beq_iff_eq] at h
     subst h
     exact ⟨by omega,hn⟩
    ·simp at h
   ·exact ⟨by omega,h2⟩
  ·rintro ⟨h1,h2⟩
   by_cases hnm:n=m
   ·subst hnm
    left
    rw [if_pos h2];simp
   ·right
    exact ⟨by omega,h2⟩
theorem Ags {c:Config} {r m:Int} (h:c.is r=true):has (c.near r) m=true↔(0≤m∧m<c.cols*c.rows)∧isNear c.cols r m=true:=by
 have hr:=Config.is_right h
 have hi:=(Config.is_iff hr).1 h
 obtain ⟨hc,hrr,_⟩:=Config.right_iff.1 hr
 have hN:c.near r=nearR c.cols r 0 (c.cols*c.rows).toNat:=by rw [Aj2 hc hrr hi];simp [Config.near,h]
 rw [hN,AfH]
 have:=Config.mul_le hr
 constructor
 ·rintro ⟨h1,h2⟩;exact ⟨by omega,h2⟩
 ·rintro ⟨h1,h2⟩;exact ⟨by omega,h2⟩
theorem AhG {a q p:Int} (ha:0<a) (hp:0≤p∧p<a) (hq:0≤q):(q*a+p).tmod a=p∧(q*a+p).tdiv a=q:=by
 have h0:0≤q*a:=Int.mul_nonneg hq (by omega)
 rw [Int.tmod_eq_emod_of_nonneg (by omega),Int.tdiv_eq_ediv_of_nonneg (by omega)]
 constructor
 ·rw [Int.add_comm,Int.add_mul_emod_self_right,Int.emod_eq_of_lt hp.1 hp.2]
 ·rw [Int.add_comm,Int.add_mul_ediv_right _ _ (by omega),Int.ediv_eq_zero_of_lt hp.1 hp.2];omega
theorem of_eq {c:Config} {x y:Int} (hr:c.right=true) (hx:0≤x∧x<c.width) (hy:0≤y∧y<c.height):c.of x y=y.tdiv 1024*c.cols+x.tdiv 1024∧(0≤x.tdiv 1024∧x.tdiv 1024<c.cols)∧(0≤y.tdiv 1024∧y.tdiv 1024<c.rows):=by
 have h:=Config.right_iff.1 hr
 have hw:c.width=c.cols*1024:=by simp [Config.width,hr]
 have hh:c.height=c.rows*1024:=by simp [Config.height,hr]
 refine ⟨?_,Ac5 (by omega) hx.1 (by omega),Ac5 (by omega) hy.1 (by omega)⟩
 unfold Config.of
 rw [if_pos hr,AgA (by omega),AgA (by omega)]
theorem of_is {c:Config} {x y:Int} (hr:c.right=true) (hx:0≤x∧x<c.width) (hy:0≤y∧y<c.height):c.is (c.of x y)=true:=by
 obtain ⟨h1,h2,h3⟩:=of_eq hr hx hy
 obtain ⟨hc,hrr,_⟩:=Config.right_iff.1 hr
 rw [Config.is_iff hr,h1]
 have h4:y.tdiv 1024*c.cols≤(c.rows-1)*c.cols:=Int.mul_le_mul_of_nonneg_right (by omega) (by omega)
 have h5:0≤y.tdiv 1024*c.cols:=Int.mul_nonneg (by omega) (by omega)
 have h6:(c.rows-1)*c.cols=c.cols*c.rows-c.cols:=by rw [Int.sub_mul,Int.one_mul,Int.mul_comm]
 omega
theorem AhQ {c:Config} {x y u v:Int} (hr:c.right=true) (hx:0≤x∧x<c.width) (hy:0≤y∧y<c.height) (hu:0≤u∧u<c.width) (hv:0≤v∧v<c.height)
  (h1:x-160≤u∧u≤x+160) (h2:y-160≤v∧v≤y+160):has (c.near (c.of x y)) (c.of u v)=true:=by
 rw [Ags (of_is hr hx hy)]
 have hi:=(Config.is_iff hr).1 (of_is hr hu hv)
 refine ⟨hi,?_⟩
 obtain ⟨a1,a2,a3⟩:=of_eq hr hx hy
 obtain ⟨b1,b2,b3⟩:=of_eq hr hu hv
 obtain ⟨hc,hrr,_⟩:=Config.right_iff.1 hr
 have p:=AhG (a:=c.cols) (q:=y.tdiv 1024) (p:=x.tdiv 1024) (by omega) a2 a3.1
 have q:=AhG (a:=c.cols) (q:=v.tdiv 1024) (p:=u.tdiv 1024) (by omega) b2 b3.1
 unfold isNear
 rw [a1,b1,p.1,p.2,q.1,q.2,decide_eq_true_eq]
 rw [Int.tdiv_eq_ediv_of_nonneg hx.1,Int.tdiv_eq_ediv_of_nonneg hy.1,Int.tdiv_eq_ediv_of_nonneg hu.1,Int.tdiv_eq_ediv_of_nonneg hv.1]
 omega
theorem Ah1 {c:Config} {r:Int} (h:c.is r=true):has (c.near r) r=true:=by
 rw [Ags h]
 exact ⟨(Config.is_iff (Config.is_right h)).1 h,by simp [isNear]⟩
end Go.Eva
namespace Go.Eva
theorem Agk {α:Type} [Inhabited α] {l:List α} {i:Nat} (h:i<l.length):l.set i (gt l i)=l:=by
 rw [gt_eq h];exact List.set_getElem_self h
def core (e:Entity):Entity:=if e.kind=1 then {e with health:=0} else e
theorem Aej {a b:Entity} (h:core a=core b):a.id=b.id∧a.kind=b.kind∧a.x=b.x∧a.y=b.y∧a.vx=b.vx∧a.vy=b.vy∧a.age=b.age∧a.owner=b.owner∧(a.kind≠1→a=b):=by
 have hk: ∀e:Entity,(core e).kind=e.kind:=fun e=>by unfold core;split<;>rfl
 have e1:a.kind=b.kind:=by rw [←hk a,←hk b,h]
 unfold core at h
 by_cases k:a.kind=1
 ·rw [if_pos k,if_pos (by omega)] at h
  cases a;cases b
  simp only [Entity.mk.injEq] at h⊢
  simp_all
 ·rw [if_neg k,if_neg (by omega)] at h
  subst h
  simp
theorem Aea {e:Entity} {n:Int} (h:e.kind=1):core {e with health:=n}=core e:=by
 unfold core;simp only [h,if_true]
theorem AiW {l:List Entity} {k:Nat} {n:Int} (hk:k<l.length) (h:(gt l k).kind=1):(l.set k {gt l k with health:=n}).map core=l.map core:=by
 rw [List.map_set,Aea h]
 apply List.ext_getElem?
 intro i
 rw [List.getElem?_set]
 split
 ·rename_i hik
  subst hik
  rw [List.length_map,if_pos hk,List.getElem?_map,Adx hk,Option.map_some]
 ·rfl
theorem Ag4 {l m:List Entity} (h:l.map core=m.map core) {e:Entity} (he:e∈l): ∃x∈m,core e=core x:=by
 have:core e∈l.map core:=List.mem_map_of_mem he
 rw [h] at this
 obtain ⟨x,h1,h2⟩:=List.mem_map.1 this
 exact ⟨x,h1,h2.symm⟩
theorem Agx {l m:List Entity} (h:l.map core=m.map core):l.map Entity.id=m.map Entity.id:=by
 have hk: ∀e:Entity,(core e).id=e.id:=fun e=>by unfold core;split<;>rfl
 have h2:=congrArg (zz Entity.id) h
 rw [List.map_map,List.map_map] at h2
 have e:Entity.id∘core=Entity.id:=funext hk
 rwa [e] at h2
theorem Ahd {l m:List Entity} (h:l.map core=m.map core):l.map Entity.kind=m.map Entity.kind:=by
 have hk: ∀e:Entity,(core e).kind=e.kind:=fun e=>by unfold core;split<;>rfl
 have h2:=congrArg (zz Entity.kind) h
 rw [List.map_map,List.map_map] at h2
 have e:Entity.kind∘core=Entity.kind:=funext hk
 rwa [e] at h2
theorem AdO {l m:List Entity} (h:l.map core=m.map core):things l=things m:=by
 have h2:=Ahd h
 have e: ∀l:List Entity,things l=((l.map Entity.kind).countP fun k=>k !=1:Nat):=fun l=>by
  unfold things;rw [List.countP_map];rfl
 rw [e,e,h2]
theorem AhL {l m:List Entity} (h:l.map core=m.map core) {i:Nat} (hi:i<l.length):core (gt l i)=core (gt m i):=by
 have hl:l.length=m.length:=by simpa using congrArg zq h
 have:=congrArg (fun x=>x[i]?) h
 simp only [List.getElem?_map,Adx hi,Adx (l:=m) (i:=i) (by omega),Option.map_some,Option.some.injEq] at this
 exact this
theorem AfM {c:Config} {a b:Entity} (h:core a=core b) (hb:weak c b) (ha:a.kind=1→a.health≤100):weak c a:=by
 obtain ⟨h1,h2,h3,h4,h5,h6,h7,h8,h9⟩:=Aej h
 by_cases k:a.kind=1
 ·refine ⟨?_,ha k,fun q=>absurd k q⟩
  have:=hb.1
  have e:({a with health:=1}:Entity)= {b with health:=1}:=by cases a;cases b;simp_all
  rw [e];exact this
 ·rw [h9 k];exact hb
theorem Ahe {c:Config} {r:Int} {l m:List Entity} (h:l.map core=m.map core) (hm:Moved c r m) (hh: ∀e∈l,e.kind=1→e.health≤100):Moved c r l:=by
 refine ⟨Ago (Agx h).symm hm.srt,by rw [AdO h];exact hm.things,fun e he=> ?_⟩
 obtain ⟨x,hx,hc⟩:=Ag4 h he
 obtain ⟨h1,h2⟩:=hm.ents x hx
 refine ⟨AfM hc h1 (hh e he),?_⟩
 obtain ⟨_,_,k3,k4,_⟩:=Aej hc
 rw [k3,k4];exact h2
section
variable {kind far:Int} {other:Entity→Entity→Bool} {turn:Int→Int}
theorem AiP {out:List Entity} {gone:List Bool} {i:Nat} (hk:kind≠1) (hi:i<out.length) (hg:gone.length=out.length) (ht: ∀n,n≤100→turn n≤100) (hh: ∀e∈out,e.kind=1→e.health≤100) (hf: ∀j,gt gone j=true→(gt out j).kind=kind):
  (meet1 kind far other turn out gone i).1.map core=out.map core∧(∀e∈(meet1 kind far other turn out gone i).1,e.kind=1→e.health≤100)∧
   (meet1 kind far other turn out gone i).2.length=out.length∧ ∀j,gt (meet1 kind far other turn out gone i).2 j=true→(gt (meet1 kind far other turn out gone i).1 j).kind=kind:=by
 unfold meet1
 split
 ·rename_i hki
  split
  ·rename_i k hq
   obtain ⟨hk1,hk2,_⟩:=List.findIdx?_eq_some_iff_getElem.1 hq
   simp only [meetP,Bool.and_eq_true,decide_eq_true_eq] at hk2
   rw [←gt_eq hk1] at hk2
   have hc:=AiW (n:=turn (gt out k).health) hk1 hk2.1
   refine ⟨hc,fun e he hek=> ?_,by simpa using hg,fun j hj=> ?_⟩
   ·rcases Aic he with rfl|he
    ·exact ht _ (hh _ (Ab3 hk1) hk2.1)
    ·exact hh e he hek
   ·have hlen:(out.set k {gt out k with health:=turn (gt out k).health}).length=out.length:=by simp
    by_cases hij:j=i
    ·subst hij
     have:=Aej (AhL hc (i:=j) (by rw [hlen];exact hi))
     simp only
     rw [this.2.1];exact hki
    ·simp only at hj⊢
     rw [AhY (by omega),if_neg hij] at hj
     have hj2:=hf j hj
     by_cases hjl:j<out.length
     ·have:=Aej (AhL hc (i:=j) (by rw [hlen];exact hjl))
      rw [this.2.1];exact hj2
     ·exfalso
      unfold gt at hj
      rw [List.getElem?_eq_none (by omega)] at hj
      simp at hj
  ·exact ⟨rfl,hh,hg,hf⟩
 ·exact ⟨rfl,hh,hg,hf⟩
theorem AgU (hk:kind≠1) (ht: ∀n,n≤100→turn n≤100): ∀ {d i:Nat} {out:List Entity} {gone:List Bool},i+d=out.length→gone.length=out.length→(∀e∈out,e.kind=1→e.health≤100)→(∀j,gt gone j=true→(gt out j).kind=kind)→
  (meetN kind far other turn d i out gone).1.map core=out.map core∧(∀e∈(meetN kind far other turn d i out gone).1,e.kind=1→e.health≤100)∧
   (meetN kind far other turn d i out gone).2.length=out.length∧ ∀j,gt (meetN kind far other turn d i out gone).2 j=true→(gt (meetN kind far other turn d i out gone).1 j).kind=kind
 |0,i,out,gone,_,hg,hh,hf=>⟨rfl,hh,hg,hf⟩
 |d+1,i,out,gone,hi,hg,hh,hf=>by
  obtain ⟨h1,h2,h3,h4⟩:=AiP (far:=far) (other:=other) (turn:=turn) (i:=i) hk (by omega) hg ht hh hf
  have hl:(meet1 kind far other turn out gone i).1.length=out.length:=by simpa using congrArg zq h1
  obtain ⟨k1,k2,k3,k4⟩:=AgU hk ht (d:=d) (i:=i+1) (by omega) (by omega) h2 h4
  rw [meetN]
  exact ⟨k1.trans h1,k2,by omega,k4⟩
theorem AcG: ∀ {l:List Entity} {g:List Bool},(keepL l g).Sublist l
 | [],_=>by simp [keepL]
 |e::l,[]=>by simp [keepL]
 |e::l,b::g=>by
  rw [keepL]
  split
  ·exact (AcG (l:=l) (g:=g)).cons _
  ·exact (AcG (l:=l) (g:=g)).cons_cons _
theorem AcR: ∀ {l:List Entity} {g:List Bool},g.length=l.length→(∀j,gt g j=true→(gt l j).kind≠1)→(keepL l g).filter (fun e=>decide (e.kind=1))=l.filter fun e=>decide (e.kind=1)
 | [],_,_,_=>by simp [keepL]
 |e::l,[],h,_=>by simp at h
 |e::l,b::g,h,hf=>by
  rw [keepL,List.filter_append,AcR (l:=l) (g:=g) (by simpa using h) fun j hj=>hf (j+1) hj]
  split
  ·rename_i hb
   have:=hf 0 hb
   rw [List.filter_cons,if_neg (by simpa [gt] using this)]
   simp
  ·rw [List.filter_cons,List.filter_cons]
   split<;>simp
end
structure Hit (l m:List Entity):Prop where
 sub: ∃k:List Entity,l.Sublist k∧k.map core=m.map core∧l.filter (fun e=>decide (e.kind=1))=k.filter fun e=>decide (e.kind=1)
 low: ∀e∈l,e.kind=1→e.health≤100
theorem Af7 {kind far:Int} {other:Entity→Entity→Bool} {turn:Int→Int} {l:List Entity} (hk:kind≠1) (ht: ∀n,n≤100→turn n≤100) (hh: ∀e∈l,e.kind=1→e.health≤100):Hit (meetL kind far other turn l) l:=by
 obtain ⟨h1,h2,h3,h4⟩:=AgU (far:=far) (other:=other) (turn:=turn) hk ht (d:=l.length) (i:=0) (out:=l) (gone:=zj l.length false) (by omega) (by simp) hh fun j hj=>by
  exfalso
  unfold gt at hj
  rw [List.getElem?_replicate] at hj
  split at hj<;>simp at hj
 have hl:(meetN kind far other turn l.length 0 l (zj l.length false)).1.length=l.length:=by simpa using congrArg zq h1
 refine ⟨⟨_,AcG,h1,AcR (by omega) fun j hj=>by rw [h4 j hj];exact hk⟩,fun e he=>h2 e (AcG.subset he)⟩
theorem Hit.moved {c:Config} {r:Int} {l m:List Entity} (h:Hit l m) (hm:Moved c r m):Moved c r l:=by
 obtain ⟨⟨k,h1,h2,h3⟩,h4⟩:=h
 refine ⟨(Ago (Agx h2).symm hm.srt).sublist h1,?_,fun e he=> ?_⟩
 ·have:=AeL h1
  rw [AdO h2] at this
  have:=hm.things
  omega
 ·obtain ⟨x,hx,hc⟩:=Ag4 h2 (h1.subset he)
  obtain ⟨g1,g2⟩:=hm.ents x hx
  refine ⟨AfM hc g1 (h4 e he),?_⟩
  obtain ⟨_,_,k3,k4,_⟩:=Aej hc
  rw [k3,k4];exact g2
theorem Ajg {k m:List Entity} (h:k.map core=m.map core):(k.filter fun e=>decide (e.kind=1)).map Entity.id=(m.filter fun e=>decide (e.kind=1)).map Entity.id:=by
 have hk: ∀e:Entity,(core e).kind=e.kind:=fun e=>by unfold core;split<;>rfl
 have hi: ∀e:Entity,(core e).id=e.id:=fun e=>by unfold core;split<;>rfl
 have e: ∀l:List Entity,(l.filter fun e=>decide (e.kind=1)).map Entity.id=((l.map core).filter fun e=>decide (e.kind=1)).map Entity.id:=fun l=>by
  rw [List.filter_map,List.map_map]
  have e1:Entity.id∘core=Entity.id:=funext hi
  have e2:(fun e:Entity=>decide (e.kind=1))∘core=fun e=>decide (e.kind=1):=funext fun e=>by simp [hk]
  rw [e1,e2]
 rw [e k,e m,h]
theorem Hit.players {l m:List Entity} (h:Hit l m):(l.filter fun e=>decide (e.kind=1)).map Entity.id=(m.filter fun e=>decide (e.kind=1)).map Entity.id:=by
 obtain ⟨⟨k,h1,h2,h3⟩,h4⟩:=h
 rw [h3,Ajg h2]
theorem Aed {l:List Entity} (hh: ∀e∈l,e.kind=1→e.health≤100):Hit (shotsL l) l:=
 Af7 (by decide) (fun n hn=>by
  unfold subH
  have h1:held n≤100:=by unfold held clamp;split<;>(try split)<;>omega
  rw [show held 20=20 by decide]
  unfold held clamp at*
  split<;>(try split)<;>omega) hh
theorem Agu {l:List Entity} (hh: ∀e∈l,e.kind=1→e.health≤100):Hit (gemsL l) l:=
 Af7 (by decide) (fun n hn=>by unfold minI;split<;>omega) hh
theorem AfT {bs:List Cross}: ∀ {l:List Entity},(∀e∈l,e.kind=1→e.health≤100)→(blastsL l bs).map core=l.map core∧ ∀e∈blastsL l bs,e.kind=1→e.health≤100:=by
 induction bs with
 |nil=>intro l h;exact ⟨rfl,h⟩
 |cons b bs ih=>
  intro l h
  have h1:(l.map (hurtE b)).map core=l.map core:=by
   rw [List.map_map]
   congr 1
   funext e
   simp only [Function.comp,hurtE]
   split
   ·rename_i hq;exact Aea hq.2.1
   ·rfl
  have h2: ∀e∈l.map (hurtE b),e.kind=1→e.health≤100:=by
   intro e he hk
   obtain ⟨x,hx,rfl⟩:=List.mem_map.1 he
   unfold hurtE at hk⊢
   split
   ·rename_i hq
    have:=h x hx hq.2.1
    simp only [subH]
    have h1:held x.health≤100:=by unfold held clamp;split<;>(try split)<;>omega
    rw [show held 10=10 by decide]
    unfold held clamp at*
    split<;>(try split)<;>omega
   ·rename_i hq
    rw [if_neg hq] at hk
    exact h x hx hk
  obtain ⟨k1,k2⟩:=ih h2
  exact ⟨k1.trans h1,k2⟩
end Go.Eva
namespace Go.Eva.S2
theorem Aco (e:Entity) (x y far:Int):Fn cx 65 [e.enc,ti x,ti y,ti far] (.bool (nearE e x y far)):=by
 refine qq ?_
 refine gg [.a _ _] ⟨o_a (AfX e.x e.y x y),trivial⟩ ?_
 exact ge
theorem AdC (t p:Entity) (g:Nat) (other:Entity→Entity→Bool) (far:Int) (hb:isFnB cx g=true) (hg:Fn cx g [t.enc,p.enc] (.bool (other t p))):
  Fn cx 98 [p.enc,.ip 1 (.clo g []) 0,.ip 9 t.enc 0,.ip 1 (ti far) 0] (.bool (meetP far other t p)):=by
 have hn:=Aco p t.x t.y far
 by_cases hk:p.kind=1
 ·cases ho:other t p with
  |true=>
   rw [ho] at hg
   refine qq ?_
   refine gg [.b (p.kind==1) true,.tt,.tt,.tt,.w (isFnB cx g=true),.a _ _,.tt,.tt,.tt,.tt,.tt,.tt,.tt,.tt,.a _ _,.tt] ⟨t_bre (by assumption),oA,o_a hg,o_a hn,trivial⟩ ?_
   refine rT (a:=qz qj [vb (nearE p t.x t.y far)] []) ?_
   simp [meetP,hk,ho]
  |false=>
   rw [ho] at hg
   refine qq ?_
   refine gg [.b (p.kind==1) true,.tt,.tt,.tt,.w (isFnB cx g=true),.a _ _,.tt,.ff,.ff,.ff,.ff,.ff,.ff,.ff,.ff] ⟨t_bre (by assumption),oA,o_a hg,trivial⟩ ?_
   refine rT (a:=qz qj [vb false] []) ?_
   simp [meetP,hk,ho]
 ·refine qq ?_
  refine gg [.b (p.kind==1) false,.ff,.ff,.ff,.ff,.ff,.ff,.ff,.ff,.ff,.ff,.ff,.ff] ⟨f_bre (by assumption),trivial⟩ ?_
  refine rT (a:=qz qj [vb false] []) ?_
  simp [meetP,hk]
theorem Acb (kind far:Int) (g h:Nat) (other:Entity→Entity→Bool) (turn:Int→Int) (n:Nat) (hn:n≤1000000) (hb:isFnB cx g=true) (hb2:isFnB cx h=true)
  (hg: ∀t p:Entity,Fn cx g [t.enc,p.enc] (.bool (other t p))) (hh: ∀v:Int,Fn cx h [ti v] (ti (turn v))): ∀(d i:Nat) (out:List Entity) (gone:List Bool),i+d=n→out.length=n→gone.length=n→
  Is cx (.loop 67 [0,1,0,1,1,1] 0 [vi kind,.t (.clo h []),.ptr 0 0 0,.ptr 1 0 0,.all 2 none,.all 3 none,.all 2 none,vi n,vi i] [.one 1 (.t (ti far)) false,.one 1 (.t (.clo g [])) false,.arr 9 (out.map zm) none false,.arr 1 (gone.map T.bool) (some 0) false])
   ⟨.exit 0,[vi kind,.t (.clo h []),.ptr 0 0 0,.ptr 1 0 0,.all 2 none,.all 3 none,.all 2 none,vi n,vi n],[.one 1 (.t (ti far)) false,.one 1 (.t (.clo g [])) false,.arr 9 ((meetN kind far other turn d i out gone).1.map zm) none false,.arr 1 ((meetN kind far other turn d i out gone).2.map T.bool) (some 0) false]⟩:=by
 intro d
 induction d with
 |zero=>
  intro i out gone hi ho hgo
  unfold meetN
  refine qq ?_
  refine gg [.b (decide ((i:Int)<(n:Int))) false] ⟨fP,trivial⟩ ?_
  refine rT (a:=qz (qx 0) [vi kind,V.t (T.clo h []),V.ptr 0 0 0,V.ptr 1 0 0,qy 2 none,qy 3 none,qy 2 none,vi (n:Int),vi (i:Int)] [qg 1 (vi far) false,qg 1 (V.t (T.clo g [])) false,qv 9 (zz zm out) none false,qv 1 (zz T.bool gone) (some 0) false]) ?_
  ((have hq:i=n:=by omega);subst hq;rfl)
 |succ d ih=>
  intro i out gone hi ho hgo
  rw [meetN]
  have hlt:i<out.length:=by omega
  by_cases hk:(gt out i).kind=kind
  ·have hI:=Aal out 98 [.ip 1 (.clo g []) 0,.ip 9 (gt out i).enc 0,.ip 1 (ti far) 0] (meetP far other (gt out i)) (by kernel_rfl) (by unfold small;omega) (fun p _=>AdC (gt out i) p g other far hb (hg _ _))
   cases hq:out.findIdx? (meetP far other (gt out i)) with
   |some k=>
    have e1:meet1 kind far other turn out gone i=(out.set k {gt out k with health:=turn (gt out k).health},gone.set i true):=by simp [meet1,hk,hq]
    rw [e1]
    rw [Abe hq] at hI
    have hkl:=(List.findIdx?_eq_some_iff_getElem.1 hq).1
    have ht:=hh (gt out k).health
    have ih1:=ih (i+1) (out.set k {gt out k with health:=turn (gt out k).health}) (gone.set i true) (by omega) (by simpa using ho) (by simpa using hgo)
    clear ih hg hh hq e1
    refine qq ?_
    refine gg [.b (decide ((i:Int)<(n:Int))) true,.w (0≤(i:Int)),.n (zy (i:Int)) i,.w (i<zq (zz zm out)),.g (zz zm out) i (zm (gt out i)),.b ((gt out i).kind !=kind) false,.a _ _,.b (flats [ti (k:Int)]) true,.b (decide ((k:Int)≥0)) true,.w (0≤(k:Int)),.n (zy (k:Int)) k,.w (k<zq (zz zm out)),.g (zz zm out) k (zm (gt out k)),.w (isFnB cx h=true),.a _ _,.w (0≤(k:Int))] ⟨tP,oW,nK,o_w (by (simp;omega)),o_gt rfl (by assumption) (by intro h;cases h),f_brn (by assumption),o_a hI,bK,bK,oW,nK,o_w (by (simp;omega)),o_gt rfl (by assumption) (by intro h;cases h),oA,o_a ht,oW,trivial⟩ ?_
    refine gg [.n (zy (k:Int)) k,.w (k<zq (zz zm out)),.g (zz zm out) k (zm (gt out k)),.t (qk 0 (zx (zz zm out) k (T.agg [ti (gt out k).id,ti (gt out k).kind,ti (gt out k).x,ti (gt out k).y,ti (gt out k).vx,ti (gt out k).vy,ti (turn (gt out k).health),ti (gt out k).age,ti (gt out k).owner]))) (qk 0 (zz zm (zx out k (qw (gt out k).id (gt out k).kind (gt out k).x (gt out k).y (gt out k).vx (gt out k).vy (turn (gt out k).health) (gt out k).age (gt out k).owner)))),.w (0≤(i:Int)),.n (zy (i:Int)) i,.w (i<zq (zz T.bool gone)),.g (zz T.bool gone) i (T.bool (gt gone i)),.t (qk 0 (zx (zz T.bool gone) i (T.bool true))) (qk 0 (zz T.bool (zx gone i true))),.i zd ((i:Int)+1) ((↑(i+1):Int)),.a _ _] ⟨nK,o_w (by (simp;omega)),o_gt rfl (by assumption) (by intro h;cases h),o_l (Aap (e:=qw (gt out k).id (gt out k).kind (gt out k).x (gt out k).y (gt out k).vx (gt out k).vy (turn (gt out k).health) (gt out k).age (gt out k).owner) rfl rfl),oW,nK,o_w (by (simp;omega)),oT,o_l (Aap rfl rfl),oI,o_a ih1,trivial⟩ ?_
    exact ge
   |none=>
    have e1:meet1 kind far other turn out gone i=(out,gone):=by simp [meet1,hk,hq]
    rw [e1]
    rw [Abx hq] at hI
    have ih1:=ih (i+1) out gone (by omega) ho hgo
    clear ih hg hh hq e1
    refine qq ?_
    refine gg [.b (decide ((i:Int)<(n:Int))) true,.w (0≤(i:Int)),.n (zy (i:Int)) i,.w (i<zq (zz zm out)),.g (zz zm out) i (zm (gt out i)),.b ((gt out i).kind !=kind) false,.a _ _,.b (flats [ti (-1)]) true,.b (decide (-1≥0)) false,.i zd ((i:Int)+1) ((↑(i+1):Int)),.a _ _] ⟨tP,oW,nK,o_w (by (simp;omega)),o_gt rfl (by assumption) (by intro h;cases h),f_brn (by assumption),o_a hI,bK,bK,oI,o_a ih1,trivial⟩ ?_
    exact ge
  ·have e1:meet1 kind far other turn out gone i=(out,gone):=by simp [meet1,hk]
   rw [e1]
   have ih1:=ih (i+1) out gone (by omega) ho hgo
   clear ih hg hh e1
   refine qq ?_
   refine gg [.b (decide ((i:Int)<(n:Int))) true,.w (0≤(i:Int)),.n (zy (i:Int)) i,.w (i<zq (zz zm out)),.g (zz zm out) i (zm (gt out i)),.b ((gt out i).kind !=kind) true,.i zd ((i:Int)+1) ((↑(i+1):Int)),.a _ _] ⟨tP,oW,nK,o_w (by (simp;omega)),o_gt rfl (by assumption) (by intro h;cases h),t_brn (by assumption),oI,o_a ih1,trivial⟩ ?_
   exact ge
theorem Acd (out:List Entity) (gone:List Bool) (hn:small out) (hgo:gone.length=out.length): ∀(d i:Nat) (A:List Entity),i+d=out.length→A.length≤i→
  Is cx (.loop 67 [0,1,0,1,1,1,1,1] 0 [.all 0 none,.all 1 none,.all 2 none,vi out.length,vi i] [.arr 1 (gone.map T.bool) (some 0) false,.arr 9 (A.map zm) none false,.arr 9 (out.map zm) none false])
   ⟨.exit 2,[.all 0 none,.all 1 none,.all 2 none,vi out.length,vi out.length],[.arr 1 (gone.map T.bool) (some 0) false,.arr 9 ((A++keepL (out.drop i) (gone.drop i)).map zm) none false,.arr 9 (out.map zm) none false]⟩:=by
 unfold small at hn
 intro d
 induction d with
 |zero=>
  intro i A hi hA
  rw [Aaf (l:=out) (by omega)]
  refine qq ?_
  refine gg [.b (decide ((i:Int)<(↑(zq out):Int))) false] ⟨fP,trivial⟩ ?_
  refine rT (a:=qz (qx 2) [qy 0 none,qy 1 none,qy 2 none,vi (↑(zq out):Int),vi (i:Int)] [qv 1 (zz T.bool gone) (some 0) false,qv 9 (zz zm A) none false,qv 9 (zz zm out) none false]) ?_
  ((have hq:i=out.length:=by omega);subst hq;simp [keepL])
 |succ d ih=>
  intro i A hi hA
  have hlt:i<out.length:=by omega
  have hlt2:i<gone.length:=by omega
  have ih1:=ih (i+1) A (by omega) (by omega)
  have ih2:=ih (i+1) (A++ [gt out i]) (by omega) (by simp;omega)
  clear ih
  rw [Aah hlt,Aah hlt2,keepL]
  cases hg:gt gone i with
  |true=>
   have hx:(gone.map T.bool)[i]?=some (T.bool true):=by rw [List.getElem?_map,Adx hlt2,hg];rfl
   simp only [if_true,List.nil_append]
   clear ih2
   refine qq ?_
   refine gg [.b (decide ((i:Int)<(↑(zq out):Int))) true,.w (0≤(i:Int)),.n (zy (i:Int)) i,.w (i<zq (zz zm out)),.g (zz zm out) i (zm (gt out i)),.w (0≤(i:Int)),.n (zy (i:Int)) i,.w (i<zq (zz T.bool gone)),.g (zz T.bool gone) i (T.bool (gt gone i)),.b (!gt gone i) false,.i zd ((i:Int)+1) ((↑(i+1):Int)),.a _ _] ⟨tP,oW,nK,o_w (by (simp;omega)),o_gt rfl (by assumption) (by intro h;cases h),oW,nK,o_w (by (simp;omega)),o_gt rfl (by assumption) (by intro h;cases h),AfW (by assumption),oI,o_a ih1,trivial⟩ ?_
   exact ge
  |false=>
   have hx:(gone.map T.bool)[i]?=some (T.bool false):=by rw [List.getElem?_map,Adx hlt2,hg];rfl
   simp only [Bool.false_eq_true,if_false]
   rw [←List.append_assoc]
   clear ih1
   refine qq ?_
   refine gg [.b (decide ((i:Int)<(↑(zq out):Int))) true,.w (0≤(i:Int)),.n (zy (i:Int)) i,.w (i<zq (zz zm out)),.g (zz zm out) i (zm (gt out i)),.w (0≤(i:Int)),.n (zy (i:Int)) i,.w (i<zq (zz T.bool gone)),.g (zz T.bool gone) i (T.bool (gt gone i)),.b (!gt gone i) true,.w ((0:Nat)<(72:Nat)),.t (qk 0 [zm (gt out i)]) (qk 0 (zz zm [gt out i])),.t (qk 0 (zz zm A++zz zm [gt out i])) (qk 0 (zz zm (A++ [gt out i]))),.w (room (zq (zz zm (A++ [gt out i]))) (72:Nat)),.i zd ((i:Int)+1) ((↑(i+1):Int)),.a _ _] ⟨tP,oW,nK,o_w (by (simp [room,appendMax];omega)),o_gt rfl (by assumption) (by intro h;cases h),oW,nK,o_w (by (simp [room,appendMax];omega)),o_gt rfl (by assumption) (by intro h;cases h),Agd (by assumption),oW,o_l (AaL rfl Ab4),o_l (Aa6 rfl rfl),o_w (by (simp [room,appendMax];omega)),o_i (w64 (by (simp [room,appendMax];omega))),o_a ih2,trivial⟩ ?_
   exact ge
theorem Acl (l:List Entity) (kind far:Int) (g h:Nat) (other:Entity→Entity→Bool) (turn:Int→Int) (hn:small l) (hb:isFnB cx g=true) (hb2:isFnB cx h=true)
  (hg: ∀t p:Entity,Fn cx g [t.enc,p.enc] (.bool (other t p))) (hh: ∀v:Int,Fn cx h [ti v] (ti (turn v))):
  Is cx (.call 67 [.t (.sl 9 (l.map zm)),vi kind,vi far,.t (.clo g []),.t (.clo h [])] []) ⟨.ret,[.all 0 none],[.arr 9 ((meetL kind far other turn l).map zm) none false]⟩:=by
 have hn':l.length≤1000000:=hn
 have h0:=Acb kind far g h other turn l.length hn hb hb2 hg hh l.length 0 l (zj l.length false) (by omega) rfl (by simp)
 unfold meetL
 have hlen: ∀(d i:Nat) (out:List Entity) (gone:List Bool),(meetN kind far other turn d i out gone).1.length=out.length∧(meetN kind far other turn d i out gone).2.length=gone.length:=by
  intro d
  induction d with
  |zero=>intros;exact ⟨rfl,rfl⟩
  |succ d ih=>
   intro i out gone
   rw [meetN]
   obtain ⟨h1,h2⟩:=ih (i+1) (meet1 kind far other turn out gone i).1 (meet1 kind far other turn out gone i).2
   rw [h1,h2]
   unfold meet1
   split
   ·split<;>simp
   ·exact ⟨rfl,rfl⟩
 obtain ⟨l1,l2⟩:=hlen l.length 0 l (zj l.length false)
 simp only [List.length_replicate] at l2
 rw [List.map_replicate] at h0
 generalize (meetN kind far other turn l.length 0 l (zj l.length false)).1=X at*
 generalize (meetN kind far other turn l.length 0 l (zj l.length false)).2=Y at*
 have h1:=Acd X Y (by unfold small;omega) (by omega) X.length 0 [] (by omega) (by simp)
 rw [List.drop_zero,List.drop_zero,List.nil_append] at h1
 clear hlen hg hh
 refine qq ?_
 refine gg [.a _ _,.n (zq (zz zm l)) (zq l),.w (0≤(↑(zq l):Int)∧(↑(zq l):Int)≤(↑(zq l):Int)∧room (zy (↑(zq l):Int)) (1:Nat)),.n (zy (↑(zq l):Int)) (zq l),.n (zq (zz zm l)) (zq l),.a _ _,.n (zq (zz zm X)) (zq X),.a _ _] ⟨o_a (Aar l (by assumption)),o_n (by simp),o_w ⟨(by omega),⟨(by omega),(by (simp [room,appendMax];omega))⟩⟩,nK,o_n (by simp),o_a h0,o_n (by simp),o_a h1,trivial⟩ ?_
 exact ge
theorem Adc (t p:Entity):Fn cx 71 [t.enc,p.enc] (.bool (decide (p.id≠t.owner))):=by
 refine qq ?_
 refine rT (a:=qz qj [vb (p.id !=t.owner)] []) ?_
 simp [bned]
theorem Add (v:Int):Fn cx 72 [ti v] (ti (subH v 20)):=by
 refine qq ?_
 refine gg [.a _ _] ⟨o_a (Ab2 v 20),trivial⟩ ?_
 exact ge
theorem Ad4 (t p:Entity):Fn cx 68 [t.enc,p.enc] (.bool true):=by
 refine qq ?_
 exact ge
theorem Ad9 (v:Int):Fn cx 69 [ti v] (ti (minI (sumH [v,25]) 100)):=by
 have h:=Aeo [v,25] (by simp [small])
 refine qq ?_
 refine gg [.a _ _,.s (ti (minI (sumH [v,25]) 100))] ⟨o_a h,trivial⟩ ?_
 exact ge
theorem AdZ (l:List Entity) (hn:small l):Is cx (.call 31 [.t (.sl 9 (l.map zm))] []) ⟨.ret,[.all 0 none],[.arr 9 ((shotsL l).map zm) none false]⟩:=by
 have h:=Acl l 2 24 71 72 (fun s p=>decide (p.id≠s.owner)) (fun h=>subH h 20) hn (by kernel_rfl) (by kernel_rfl) (fun t p=>Adc t p) (fun v=>Add v)
 change Is cx _ ⟨_,_,[.arr 9 ((shotsL l).map zm) none false]⟩ at h
 generalize shotsL l=X at*
 refine qq ?_
 refine gg [.a _ _] ⟨o_a h,trivial⟩ ?_
 exact ge
theorem Aex (l:List Entity) (hn:small l):Is cx (.call 30 [.t (.sl 9 (l.map zm))] []) ⟨.ret,[.all 0 none],[.arr 9 ((gemsL l).map zm) none false]⟩:=by
 have h:=Acl l 3 32 68 69 (fun _ _=>true) (fun h=>minI (sumH [h,25]) 100) hn (by kernel_rfl) (by kernel_rfl) (fun t p=>Ad4 t p) (fun v=>Ad9 v)
 change Is cx _ ⟨_,_,[.arr 9 ((gemsL l).map zm) none false]⟩ at h
 generalize gemsL l=X at*
 refine qq ?_
 refine gg [.a _ _] ⟨o_a h,trivial⟩ ?_
 exact ge
theorem AiY {b:Cross} {A:List Entity} {j:Nat} (h:j<A.length):(A.set j (hurtE b (gt A j))).take (j+1)++((A.set j (hurtE b (gt A j))).drop (j+1)).map (hurtE b)=A.take j++(A.drop j).map (hurtE b):=by
 rw [Aah h,List.map_cons,List.drop_set_of_lt (by omega),List.take_add_one,List.take_set_of_le (by omega)]
 simp [h]
theorem AbC (b:Cross) (bl:List Cross) (i:Nat): ∀(d j:Nat) (A:List Entity),j+d=A.length→small A→
  Is cx (.loop 29 [0,1,1,0,0,1,1,0,0,1,0,1,1] 0 [.all 0 none,.ptr 1 0 0,.t (.sl 15 (bl.map zn)),vi bl.length,vi i,vi A.length,vi j] [.arr 9 (A.map zm) none false,.one 15 (.t b.enc) false])
   ⟨.exit 2,[.all 0 none,.ptr 1 0 0,.t (.sl 15 (bl.map zn)),vi bl.length,vi i,vi A.length,vi A.length],[.arr 9 ((A.take j++(A.drop j).map (hurtE b)).map zm) none false,.one 15 (.t b.enc) false]⟩:=by
 intro d
 induction d with
 |zero=>
  intro j A hj hn
  unfold small at hn
  rw [Aaf (by omega),List.take_of_length_le (by omega)]
  refine qq ?_
  refine gg [.b (decide ((j:Int)<(↑(zq A):Int))) false] ⟨fP,trivial⟩ ?_
  refine rT (a:=qz (qx 2) [qy 0 none,V.ptr 1 0 0,V.t (qk 15 (zz zn bl)),vi (↑(zq bl):Int),vi (i:Int),vi (↑(zq A):Int),vi (j:Int)] [qv 9 (zz zm A) none false,qg 15 (V.t (zn b)) false]) ?_
  ((have hq:j=A.length:=by omega);subst hq;simp)
 |succ d ih=>
  intro j A hj hn
  have hlt:j<A.length:=by omega
  have ih1:=ih (j+1) (A.set j (hurtE b (gt A j))) (by simp;omega) (by unfold small at*;simpa using hn)
  rw [AiY hlt,List.length_set] at ih1
  clear ih
  unfold small at hn
  have hN:=Aco (gt A j) b.x b.y 128
  have hS:=Ab2 (gt A j).health 10
  by_cases hk:b.kind=2
  ·by_cases hp:(gt A j).kind=1
   ·cases hq:nearE (gt A j) b.x b.y 128 with
    |true=>
     rw [hq] at hN
     have e:hurtE b (gt A j)= {gt A j with health:=subH (gt A j).health 10}:=by simp [hurtE,hk,hp,hq]
     rw [e] at ih1
     refine qq ?_
     refine gg [.b (decide ((j:Int)<(↑(zq A):Int))) true,.w (0≤(j:Int)),.n (zy (j:Int)) j,.w (j<zq (zz zm A)),.b (b.kind==2) true,.tt,.tt,.tt,.g (zz zm A) j (zm (gt A j)),.tt,.tt,.b ((gt A j).kind==1) true,.tt,.tt,.tt,.tt] ⟨tP,oW,nK,o_w (by (simp;omega)),t_bre (by assumption),o_gt rfl (by assumption) (by intro h;cases h),t_bre (by assumption),trivial⟩ ?_
     refine gg [.g (zz zm A) j (zm (gt A j)),.tt,.tt,.tt,.a _ _,.tt,.tt,.g (zz zm A) j (zm (gt A j)),.a _ _,.g (zz zm A) j (zm (gt A j)),.t (qk 0 (zx (zz zm A) j (T.agg [ti (gt A j).id,ti (gt A j).kind,ti (gt A j).x,ti (gt A j).y,ti (gt A j).vx,ti (gt A j).vy,ti (subH (gt A j).health 10),ti (gt A j).age,ti (gt A j).owner]))) (qk 0 (zz zm (zx A j (qw (gt A j).id (gt A j).kind (gt A j).x (gt A j).y (gt A j).vx (gt A j).vy (subH (gt A j).health 10) (gt A j).age (gt A j).owner)))),.i zd ((j:Int)+1) ((↑(j+1):Int)),.a _ _] ⟨o_gt rfl (by assumption) (by intro h;cases h),o_a hN,o_gt rfl (by assumption) (by intro h;cases h),o_a hS,o_gt rfl (by assumption) (by intro h;cases h),o_l (Aap (e:=qw (gt A j).id (gt A j).kind (gt A j).x (gt A j).y (gt A j).vx (gt A j).vy (subH (gt A j).health 10) (gt A j).age (gt A j).owner) rfl rfl),oI,o_a ih1,trivial⟩ ?_
     exact ge
    |false=>
     rw [hq] at hN
     have e:hurtE b (gt A j)=gt A j:=by simp [hurtE,hq]
     rw [e,Agk hlt] at ih1
     refine qq ?_
     refine gg [.b (decide ((j:Int)<(↑(zq A):Int))) true,.w (0≤(j:Int)),.n (zy (j:Int)) j,.w (j<zq (zz zm A)),.b (b.kind==2) true,.tt,.tt,.tt,.g (zz zm A) j (zm (gt A j)),.tt,.tt,.b ((gt A j).kind==1) true,.tt,.tt,.tt,.tt] ⟨tP,oW,nK,o_w (by (simp;omega)),t_bre (by assumption),o_gt rfl (by assumption) (by intro h;cases h),t_bre (by assumption),trivial⟩ ?_
     refine gg [.g (zz zm A) j (zm (gt A j)),.tt,.tt,.tt,.a _ _,.tt,.ff,.i zd ((j:Int)+1) ((↑(j+1):Int)),.a _ _] ⟨o_gt rfl (by assumption) (by intro h;cases h),o_a hN,oI,o_a ih1,trivial⟩ ?_
     exact ge
   ·have e:hurtE b (gt A j)=gt A j:=by simp [hurtE,hp]
    rw [e,Agk hlt] at ih1
    refine qq ?_
    refine gg [.b (decide ((j:Int)<(↑(zq A):Int))) true,.w (0≤(j:Int)),.n (zy (j:Int)) j,.w (j<zq (zz zm A)),.b (b.kind==2) true,.tt,.tt,.tt,.g (zz zm A) j (zm (gt A j)),.tt,.tt,.b ((gt A j).kind==1) false,.ff,.ff,.ff,.ff] ⟨tP,oW,nK,o_w (by (simp;omega)),t_bre (by assumption),o_gt rfl (by assumption) (by intro h;cases h),f_bre (by assumption),trivial⟩ ?_
    refine gg [.ff,.ff,.ff,.ff,.ff,.i zd ((j:Int)+1) ((↑(j+1):Int)),.a _ _] ⟨oI,o_a ih1,trivial⟩ ?_
    exact ge
  ·have e:hurtE b (gt A j)=gt A j:=by simp [hurtE,hk]
   rw [e,Agk hlt] at ih1
   refine qq ?_
   refine gg [.b (decide ((j:Int)<(↑(zq A):Int))) true,.w (0≤(j:Int)),.n (zy (j:Int)) j,.w (j<zq (zz zm A)),.b (b.kind==2) false,.ff,.ff,.ff,.ff,.ff,.ff,.ff,.ff,.ff,.ff,.ff] ⟨tP,oW,nK,o_w (by (simp;omega)),f_bre (by assumption),trivial⟩ ?_
   refine gg [.ff,.ff,.ff,.ff,.i zd ((j:Int)+1) ((↑(j+1):Int)),.a _ _] ⟨oI,o_a ih1,trivial⟩ ?_
   exact ge
theorem AbB (bl:List Cross) (hb:small bl): ∀(d i:Nat) (A:List Entity),i+d=bl.length→small A→
  Is cx (.loop 29 [0,1,0,1,1] 0 [.all 0 none,.t (.sl 15 (bl.map zn)),vi bl.length,vi i] [.arr 9 (A.map zm) none false])
   ⟨.exit 0,[.all 0 none,.t (.sl 15 (bl.map zn)),vi bl.length,vi bl.length],[.arr 9 ((blastsL A (bl.drop i)).map zm) none false]⟩:=by
 unfold small at hb
 intro d
 induction d with
 |zero=>
  intro i A hi hn
  rw [Aaf (by omega)]
  refine qq ?_
  refine gg [.b (decide ((i:Int)<(↑(zq bl):Int))) false] ⟨fP,trivial⟩ ?_
  refine rT (a:=qz (qx 0) [qy 0 none,V.t (qk 15 (zz zn bl)),vi (↑(zq bl):Int),vi (i:Int)] [qv 9 (zz zm A) none false]) ?_
  ((have hq:i=bl.length:=by omega);subst hq;rfl)
 |succ d ih=>
  intro i A hi hn
  have hlt:i<bl.length:=by omega
  have ih1:=ih (i+1) (A.map (hurtE (gt bl i))) (by omega) (by unfold small at*;simpa using hn)
  have h1:=AbC (gt bl i) bl i A.length 0 A (by omega) hn
  rw [List.take_zero,List.drop_zero,List.nil_append] at h1
  clear ih
  unfold small at hn
  rw [Aah hlt]
  change Is cx _ ⟨_,_,[.arr 9 ((blastsL (A.map (hurtE (gt bl i))) (bl.drop (i+1))).map zm) none false]⟩
  generalize A.map (hurtE (gt bl i))=B at*
  refine qq ?_
  refine gg [.b (decide ((i:Int)<(↑(zq bl):Int))) true,.w (0≤(i:Int)),.n (zy (i:Int)) i,.g (zz zn bl) i (zn (gt bl i)),.n (zq (zz zm A)) (zq A),.a _ _,.i zd ((i:Int)+1) ((↑(i+1):Int)),.a _ _] ⟨tP,oW,nK,o_gt rfl (by assumption) (by intro h;cases h),o_n (by simp),o_a h1,oI,o_a ih1,trivial⟩ ?_
  exact ge
theorem Ad7 (l:List Entity) (bl:List Cross) (hn:small l) (hb:small bl):Is cx (.call 29 [.t (.sl 9 (l.map zm)),.t (.sl 15 (bl.map zn))] []) ⟨.ret,[.all 0 none],[.arr 9 ((blastsL l bl).map zm) none false]⟩:=by
 have h:=AbB bl hb bl.length 0 l (by omega) hn
 rw [List.drop_zero] at h
 refine qq ?_
 refine gg [.a _ _,.n (zq (zz zn bl)) (zq bl),.a _ _] ⟨o_a (Aar l (by assumption)),o_n (by simp),o_a h,trivial⟩ ?_
 exact ge
theorem AbK (l:List Entity) (hn:small l): ∀(d i:Nat) (A:List Int),i+d=l.length→A.length≤i→
  Is cx (.loop 73 [0,1,0,1,1] 1 [.all 1 none,.all 0 none,vi l.length,vi i] [.arr 9 (l.map zm) none false,.arr 1 (A.map ti) none false])
   ⟨.exit 0,[.all 1 none,.all 0 none,vi l.length,vi l.length],[.arr 9 (l.map zm) none false,.arr 1 ((A++fallenL (l.drop i)).map ti) none false]⟩:=by
 unfold small at hn
 intro d
 induction d with
 |zero=>
  intro i A hi hA
  rw [Aaf (by omega)]
  refine qq ?_
  refine gg [.b (decide ((i:Int)<(↑(zq l):Int))) false] ⟨fP,trivial⟩ ?_
  refine rT (a:=qz (qx 0) [qy 1 none,qy 0 none,vi (↑(zq l):Int),vi (i:Int)] [qv 9 (zz zm l) none false,qv 1 (zz ti A) none false]) ?_
  ((have hq:i=l.length:=by omega);subst hq;simp [fallenL])
 |succ d ih=>
  intro i A hi hA
  have hlt:i<l.length:=by omega
  have ih1:=ih (i+1) A (by omega) (by omega)
  have ih2:=ih (i+1) (A++ [(gt l i).id]) (by omega) (by simp;omega)
  clear ih
  unfold fallenL at*
  rw [Ain _ hlt]
  refine qq ?_
  refine gg [.b (decide ((i:Int)<(↑(zq l):Int))) true,.w (0≤(i:Int)),.n (zy (i:Int)) i,.w (i<zq (zz zm l)),.g (zz zm l) i (zm (gt l i))] ⟨tP,oW,nK,o_w (by (simp [room,appendMax];omega)),o_gt rfl (by assumption) (by intro h;cases h),trivial⟩ ?_
  refine bre (x:=(gt l i).kind) (y:=1) (by kernel_rfl) (fun h1=> ?_) (fun h1=> ?_)
  ·refine gg [.tt,.tt,.tt] trivial ?_
   refine brp (p:=(gt l i).health≤0) (by kernel_rfl) (fun h2=> ?_) (fun h2=> ?_)
   ·refine gg [.w ((0:Nat)<(8:Nat)),.t (qk 0 [ti (gt l i).id]) (qk 0 (zz (T.int zd) [(gt l i).id])),.t (qk 0 (zz ti A++zz (T.int zd) [(gt l i).id])) (qk 0 (zz ti (A++ [(gt l i).id]))),.w (room (zq (zz ti (A++ [(gt l i).id]))) (8:Nat)),.i zd ((i:Int)+1) ((↑(i+1):Int)),.a _ _] ⟨oW,o_l (AaL rfl Ab4),o_l (Aa6 rfl rfl),o_w (by (simp [room,appendMax];omega)),o_i (w64 (by (simp [room,appendMax];omega))),o_a ih2,trivial⟩ ?_
    refine rT (a:=qz (qx 0) [qy 1 none,qy 0 none,vi (↑(zq l):Int),vi (↑(zq l):Int)] [qv 9 (zz zm l) none false,qv 1 (zz ti (A++ [(gt l i).id]++zz Entity.id (List.filter fallenP (zk (i+1) l)))) none false]) ?_
    (simp_all [fallenP];try omega)
   ·refine gg [.i zd ((i:Int)+1) ((↑(i+1):Int)),.a _ _] ⟨o_i (w64 (by (simp [room,appendMax];omega))),o_a ih1,trivial⟩ ?_
    refine rT (a:=qz (qx 0) [qy 1 none,qy 0 none,vi (↑(zq l):Int),vi (↑(zq l):Int)] [qv 9 (zz zm l) none false,qv 1 (zz ti (A++zz Entity.id (List.filter fallenP (zk (i+1) l)))) none false]) ?_
    (simp_all [fallenP];try omega)
  ·refine gg [.ff,.ff,.ff,.ff,.i zd ((i:Int)+1) ((↑(i+1):Int)),.a _ _] ⟨o_i (w64 (by (simp [room,appendMax];omega))),o_a ih1,trivial⟩ ?_
   refine rT (a:=qz (qx 0) [qy 1 none,qy 0 none,vi (↑(zq l):Int),vi (↑(zq l):Int)] [qv 9 (zz zm l) none false,qv 1 (zz ti (A++zz Entity.id (List.filter fallenP (zk (i+1) l)))) none false]) ?_
   (simp_all [fallenP];try omega)
theorem Ab8 (l:List Entity) (hn:small l):Is cx (.call 73 [.all 0 none] [.arr 9 (l.map zm) none false]) ⟨.ret,[.all 1 none],[.arr 9 (l.map zm) none false,.arr 1 ((fallenL l).map ti) none false]⟩:=by
 have h:=AbK l hn l.length 0 [] (by omega) (by simp)
 rw [List.drop_zero,List.nil_append] at h
 generalize fallenL l=X at*
 refine qq ?_
 refine gg [.n (zq (zz zm l)) (zq l),.a _ _] ⟨o_n (by simp),o_a h,trivial⟩ ?_
 exact ge
end Go.Eva.S2
namespace Go.Eva.S2
theorem AaQ (l:List Entity) (g:Nat) (cs:List T) (p:Entity→Bool) (hb:isFnB cx g=true) (hn:small l)
  (hg: ∀e∈l,Fn cx g (e.enc::cs) (.bool (p e))):Fn cx 82 [.sl 9 (l.map zm),.clo g cs] (.bool (l.any p)):=by
 have h:=Aal l g cs p hb hn hg
 clear hg
 cases hq:l.findIdx? p with
 |some k=>
  rw [Abe hq] at h
  have e:l.any p=true:=by
   obtain ⟨hk,h1,_⟩:=List.findIdx?_eq_some_iff_getElem.1 hq
   exact List.any_eq_true.2 ⟨_,List.getElem_mem hk,h1⟩
  rw [e]
  refine qq ?_
  refine gg [.a _ _] ⟨o_a h,trivial⟩ ?_
  exact ge
 |none=>
  rw [Abx hq] at h
  have e:l.any p=false:=by
   rw [List.any_eq_false]
   intro x hx
   simpa using List.findIdx?_eq_none_iff.1 hq x hx
  rw [e]
  refine qq ?_
  refine gg [.a _ _] ⟨o_a h,trivial⟩ ?_
  exact ge
theorem AaV (l:List Cross) (g:Nat) (cs:List T) (p:Cross→Bool) (hb:isFnB cx g=true) (hn:small l)
  (hg: ∀e∈l,Fn cx g (e.enc::cs) (.bool (p e))):Fn cx 56 [.sl 15 (l.map zn),.clo g cs] (.bool (l.any p)):=by
 have h:=Abp l g cs p hb hn hg
 clear hg
 cases hq:l.findIdx? p with
 |some k=>
  rw [Abe hq] at h
  have e:l.any p=true:=by
   obtain ⟨hk,h1,_⟩:=List.findIdx?_eq_some_iff_getElem.1 hq
   exact List.any_eq_true.2 ⟨_,List.getElem_mem hk,h1⟩
  rw [e]
  refine qq ?_
  refine gg [.a _ _] ⟨o_a h,trivial⟩ ?_
  exact ge
 |none=>
  rw [Abx hq] at h
  have e:l.any p=false:=by
   rw [List.any_eq_false]
   intro x hx
   simpa using List.findIdx?_eq_none_iff.1 hq x hx
  rw [e]
  refine qq ?_
  refine gg [.a _ _] ⟨o_a h,trivial⟩ ?_
  exact ge
theorem Abb (l:List Input) (g:Nat) (cs:List T) (p:Input→Bool) (hb:isFnB cx g=true) (hn:small l)
  (hg: ∀e∈l,Fn cx g (e.enc::cs) (.bool (p e))):Fn cx 53 [.sl 3 (l.map zr),.clo g cs] (.bool (l.any p)):=by
 have h:=Abu l g cs p hb hn hg
 clear hg
 cases hq:l.findIdx? p with
 |some k=>
  rw [Abe hq] at h
  have e:l.any p=true:=by
   obtain ⟨hk,h1,_⟩:=List.findIdx?_eq_some_iff_getElem.1 hq
   exact List.any_eq_true.2 ⟨_,List.getElem_mem hk,h1⟩
  rw [e]
  refine qq ?_
  refine gg [.a _ _] ⟨o_a h,trivial⟩ ?_
  exact ge
 |none=>
  rw [Abx hq] at h
  have e:l.any p=false:=by
   rw [List.any_eq_false]
   intro x hx
   simpa using List.findIdx?_eq_none_iff.1 hq x hx
  rw [e]
  refine qq ?_
  refine gg [.a _ _] ⟨o_a h,trivial⟩ ?_
  exact ge
theorem AdU (c:Config) (r:Int):Fn cx 52 [c.enc,ti r] (.bool (c.is r)):=by
 have h1:= @Config.regions_le c
 refine qq ?_
 refine brp (p:=r≥0) (by kernel_rfl) (fun h1=> ?_) (fun h1=> ?_)
 ·refine gg [.tt,.tt,.a _ _,.tt,.tt] ⟨o_a (AaB c),trivial⟩ ?_
  refine rT (a:=qz qj [vb (decide (r<z0 c))] []) ?_
  (simp only [Config.is,within];first|rfl|(congr 3;rw [Bool.eq_iff_iff];simp;omega))
 ·refine gg [.ff,.ff,.ff,.ff] trivial ?_
  refine rT (a:=qz qj [vb false] []) ?_
  (simp only [Config.is,within];first|rfl|(congr 3;rw [Bool.eq_iff_iff];simp;omega))
theorem Ad8 (c:Config) (r:Int) (e:Entity):Fn cx 83 [e.enc,.ip 5 c.enc 0,.ip 1 (ti r) 0] (.bool (!(e.right c&&decide (c.of e.x e.y=r)))):=by
 have h1:=Abl c e
 have h2:=Abr c e.x e.y
 cases hr:e.right c with
 |true=>
  rw [hr] at h1
  refine qq ?_
  refine gg [.a _ _,.b (!true) false,.ff,.ff,.ff,.ff,.ff,.ff,.a _ _,.ff,.ff] ⟨o_a h1,bK,o_a h2,trivial⟩ ?_
  refine rT (a:=qz qj [vb (Config.of c e.x e.y !=r)] []) ?_
  simp [bned]
 |false=>
  rw [hr] at h1
  refine qq ?_
  refine gg [.a _ _,.b (!false) true,.tt,.tt,.tt,.tt,.tt,.tt,.tt,.tt] ⟨o_a h1,bK,trivial⟩ ?_
  refine rT (a:=qz qj [vb true] []) ?_
  simp
theorem Acp (c:Config) (r:Int) (s:Region) (hn:small s.ents):Fn cx 36 [c.enc,ti r,s.enc] (.bool (regionRight c r s)):=by
 have q1:=AdU c r
 have q2:=Aef s.ents hn
 have q3:=AaX s.ents hn
 have q4:=AaQ s.ents 83 [.ip 5 c.enc 0,.ip 1 (ti r) 0] (fun e=> !(e.right c&&decide (c.of e.x e.y=r))) (by kernel_rfl) hn (fun e _=>Ad8 c r e)
 have e4:(s.ents.any fun e=> !(e.right c&&decide (c.of e.x e.y=r)))= !(s.ents.all fun e=>e.right c&&decide (c.of e.x e.y=r)):=by rw [List.any_eq_not_all_not];simp
 rw [e4] at q4
 unfold regionRight within
 generalize c.is r=b1 at*
 generalize sortedL s.ents=b2 at*
 generalize things s.ents=n3 at*
 generalize (s.ents.all fun e=>e.right c&&decide (c.of e.x e.y=r))=b4 at*
 obtain ⟨f,l⟩:=s
 refine qq ?_
 refine gg [.a _ _] ⟨o_a q1,trivial⟩ ?_
 refine brnot (b:=b1) (by kernel_rfl) (fun h1=> ?_) (fun h1=> ?_)
 ·refine gg [.tt,.tt,.tt,.tt,.tt,.tt,.tt,.tt,.tt,.tt,.tt,.tt,.tt,.tt,.tt,.tt] trivial ?_
  refine gg [.tt,.tt] trivial ?_
  refine rT (a:=qz qj [vb false] []) ?_
  (simp_all;try omega)
 ·refine gg [.ff,.ff,.ff] trivial ?_
  refine brp (p:=f<0) (by kernel_rfl) (fun h2=> ?_) (fun h2=> ?_)
  ·refine gg [.tt,.tt,.tt,.tt,.tt,.tt,.tt,.tt,.tt,.tt,.tt,.tt,.tt,.tt] trivial ?_
   refine rT (a:=qz qj [vb false] []) ?_
   (simp_all;try omega)
  ·refine gg [.ff,.ff,.ff] trivial ?_
   refine brp (p:=f>10000) (by kernel_rfl) (fun h3=> ?_) (fun h3=> ?_)
   ·refine gg [.tt,.tt,.tt,.tt,.tt,.tt,.tt,.tt,.tt,.tt] trivial ?_
    refine rT (a:=qz qj [vb false] []) ?_
    (simp_all;try omega)
   ·refine gg [.ff,.ff,.a _ _,.ff,.ff] ⟨o_a q2,trivial⟩ ?_
    refine brnot (b:=b2) (by kernel_rfl) (fun h4=> ?_) (fun h4=> ?_)
    ·refine gg [.tt,.tt,.tt,.tt,.tt] trivial ?_
     refine rT (a:=qz qj [vb false] []) ?_
     (simp_all;try omega)
    ·refine gg [.ff,.ff,.a _ _,.ff,.ff] ⟨o_a q3,trivial⟩ ?_
     refine brp (p:=n3>24) (by kernel_rfl) (fun h5=> ?_) (fun h5=> ?_)
     ·refine rT (a:=qz qj [vb false] []) ?_
      (simp_all;try omega)
     ·refine gg [.a _ _,.b (flats [T.bool !b4]) true] ⟨o_a q4,bK,trivial⟩ ?_
      refine rT (a:=qz qj [vb !!b4] []) ?_
      (simp_all;try omega)
theorem Ad6 (i:Input):Fn cx 54 [i.enc] (.bool (!i.right)):=by
 refine qq ?_
 refine gg [.a _ _] ⟨o_a (AcC i),trivial⟩ ?_
 exact ge
theorem AdA (c:Config) (r:Int) (s:Region) (m:Cross) (hf:0≤s.frame∧s.frame≤10000):Fn cx 57 [m.enc,.ip 5 c.enc 0,.ip 1 (ti r) 0,.ip 2 s.enc 0] (.bool (!(m.right c&&decide (m.to=r)&&decide (m.frame=s.frame-1)))):=by
 have h:=Afr c m
 obtain ⟨f,l⟩:=s
 simp only at hf
 generalize m.right c=b at*
 cases b with
 |true=>
  refine qq ?_
  refine gg [.a _ _,.b (!true) false,.ff,.ff,.ff,.ff] ⟨o_a h,bK,trivial⟩ ?_
  refine brn (x:=m.to) (y:=r) (by kernel_rfl) (fun h1=> ?_) (fun h1=> ?_)
  ·refine gg [.tt,.tt,.tt,.tt,.tt,.tt] trivial ?_
   refine rT (a:=qz qj [vb true] []) ?_
   (simp_all [bned];try omega)
  ·refine gg [.ff,.ff,.ff,.ff,.i zd (f-1) (f-1),.ff,.ff] ⟨oI,trivial⟩ ?_
   refine rT (a:=qz qj [vb (m.frame !=f-1)] []) ?_
   (simp_all [bned];try omega)
 |false=>
  refine qq ?_
  refine gg [.a _ _,.b (!false) true,.tt,.tt,.tt,.tt,.tt,.tt,.tt,.tt,.tt,.tt,.tt] ⟨o_a h,bK,trivial⟩ ?_
  refine rT (a:=qz qj [vb true] []) ?_
  simp
theorem Acm (c:Config) (r:Int) (s:Region) (ins:List Input) (inbox:List Cross) (hn:small s.ents) (hi:small ins) (hb:small inbox):
  Fn cx 25 [c.enc,ti r,s.enc,.sl 3 (ins.map zr),.sl 15 (inbox.map zn)] (ti (askedE c r s ins inbox)):=by
 have h1:=AdU c r
 have h2:=Acp c r s hn
 have h3:=Abb ins 54 [] (fun i=> !i.right) (by kernel_rfl) hi (fun i _=>Ad6 i)
 unfold askedE
 cases q1:c.is r with
 |false=>
  rw [q1] at h1
  clear h2 h3
  rw [if_pos rfl]
  obtain ⟨f,l⟩:=s
  refine qq ?_
  refine gg [.a _ _,.b (!false) true] ⟨o_a h1,bK,trivial⟩ ?_
  exact ge
 |true=>
  rw [q1] at h1
  rw [if_neg (by simp)]
  cases q2:regionRight c r s with
  |false=>
   rw [q2] at h2
   clear h3
   rw [if_pos rfl]
   obtain ⟨f,l⟩:=s
   refine qq ?_
   refine gg [.a _ _,.b (!true) false,.a _ _,.b (!false) true] ⟨o_a h1,bK,o_a h2,bK,trivial⟩ ?_
   exact ge
  |true=>
   rw [q2] at h2
   rw [if_neg (by simp)]
   have hf:=(AbJ.1 q2).2.1
   have h4:=AaV inbox 57 [.ip 5 c.enc 0,.ip 1 (ti r) 0,.ip 2 s.enc 0] (fun m=> !(m.right c&&decide (m.to=r)&&decide (m.frame=s.frame-1))) (by kernel_rfl) hb (fun m _=>AdA c r s m hf)
   clear q2
   obtain ⟨f,l⟩:=s
   simp only at hf h4⊢
   unfold small at hi
   generalize (ins.any fun i=> !i.right)=b3 at*
   generalize (inbox.any fun m=> !(m.right c&&decide (m.to=r)&&decide (m.frame=f-1)))=b4 at*
   refine qq ?_
   refine gg [.a _ _,.b (!true) false,.a _ _,.b (!true) false,.n (zq (zz zr ins)) (zq ins)] ⟨o_a h1,bK,o_a h2,bK,o_n (by simp),trivial⟩ ?_
   refine brn (x:=(↑(zq ins):Int)) (y:=c.players) (by kernel_rfl) (fun h1=> ?_) (fun h1=> ?_)
   ·refine gg [.tt,.tt,.tt] trivial ?_
    refine rT (a:=qz qj [vi 11] []) ?_
    (simp_all;try omega)
   ·refine gg [.ff,.a _ _,.ff] ⟨o_a h3,trivial⟩ ?_
    refine br (b:=b3) (by kernel_rfl) (fun h2=> ?_) (fun h2=> ?_)
    ·refine rT (a:=qz qj [vi 11] []) ?_
     (simp_all;try omega)
    ·refine gg [.a _ _,.b (flats [T.bool b4]) true] ⟨o_a h4,bK,trivial⟩ ?_
     refine br (b:=b4) (by kernel_rfl) (fun h3=> ?_) (fun h3=> ?_)
     ·refine rT (a:=qz qj [vi 1] []) ?_
      (simp_all;try omega)
     ·refine bre (x:=f) (y:=10000) (by kernel_rfl) (fun h4=> ?_) (fun h4=> ?_)
      ·refine rT (a:=qz qj [vi 16] []) ?_
       (simp_all;try omega)
      ·refine rT (a:=qz qj [vi 0] []) ?_
       (simp_all;try omega)
theorem Acf (inbox:List Cross) (hb:inbox.length≤100000): ∀(d i:Nat) (A:List Entity),i+d=inbox.length→A.length≤100000+i→
  Is cx (.loop 26 [0,1,0,1,1] 0 [.all 0 none,.t (.sl 15 (inbox.map zn)),vi inbox.length,vi i] [.arr 9 (A.map zm) none false])
   ⟨.exit 0,[.all 0 none,.t (.sl 15 (inbox.map zn)),vi inbox.length,vi inbox.length],[.arr 9 ((arriveL A (inbox.drop i)).map zm) none false]⟩:=by
 intro d
 induction d with
 |zero=>
  intro i A hi hA
  rw [Aaf (by omega)]
  refine qq ?_
  refine gg [.b (decide ((i:Int)<(↑(zq inbox):Int))) false] ⟨fP,trivial⟩ ?_
  refine rT (a:=qz (qx 0) [qy 0 none,V.t (qk 15 (zz zn inbox)),vi (↑(zq inbox):Int),vi (i:Int)] [qv 9 (zz zm A) none false]) ?_
  ((have hq:i=inbox.length:=by omega);subst hq;rfl)
 |succ d ih=>
  intro i A hi hA
  have hlt:i<inbox.length:=by omega
  rw [Aah hlt]
  change Is cx _ ⟨_,_,[.arr 9 ((arriveL (arrive1 A (gt inbox i)) (inbox.drop (i+1))).map zm) none false]⟩
  have hT:=AaX A (by unfold small;omega)
  have hP:=AaI A [(gt inbox i).ent] (by omega) (by simp)
  change Is cx _ ⟨_,_,[.arr 9 ((put1 A (gt inbox i).ent).map zm) none false]⟩ at hP
  have hl:= @AbY A (gt inbox i).ent
  have ih1:=ih (i+1) A (by omega) (by omega)
  have ih2:=ih (i+1) (put1 A (gt inbox i).ent) (by omega) (by omega)
  clear ih hl
  by_cases hk:(gt inbox i).kind=1
  ·by_cases he:(gt inbox i).ent.kind=1
   ·have e:arrive1 A (gt inbox i)=put1 A (gt inbox i).ent:=by simp [arrive1,hk,he]
    rw [e]
    generalize put1 A (gt inbox i).ent=B at*
    refine qq ?_
    refine gg [.b (decide ((i:Int)<(↑(zq inbox):Int))) true,.w (0≤(i:Int)),.n (zy (i:Int)) i,.g (zz zn inbox) i (zn (gt inbox i)),.b ((gt inbox i).kind==1) true,.tt,.tt,.tt,.tt,.b ((gt inbox i).ent.kind==1) true,.tt,.tt,.tt,.tt,.tt,.tt] ⟨tP,oW,nK,o_gt rfl (by assumption) (by intro h;cases h),t_bre (by assumption),t_bre (by assumption),trivial⟩ ?_
    refine gg [.a _ _,.i zd ((i:Int)+1) ((↑(i+1):Int)),.a _ _] ⟨o_a hP,oI,o_a ih2,trivial⟩ ?_
    exact ge
   ·by_cases ht:things A<24
    ·have e:arrive1 A (gt inbox i)=put1 A (gt inbox i).ent:=by simp [arrive1,hk,ht]
     rw [e]
     generalize put1 A (gt inbox i).ent=B at*
     generalize things A=n at*
     refine qq ?_
     refine gg [.b (decide ((i:Int)<(↑(zq inbox):Int))) true,.w (0≤(i:Int)),.n (zy (i:Int)) i,.g (zz zn inbox) i (zn (gt inbox i)),.b ((gt inbox i).kind==1) true,.tt,.tt,.tt,.tt,.b ((gt inbox i).ent.kind==1) false,.ff,.a _ _,.b (flats [ti n]) true,.ff,.tt,.ff] ⟨tP,oW,nK,o_gt rfl (by assumption) (by intro h;cases h),t_bre (by assumption),f_bre (by assumption),o_a hT,bK,trivial⟩ ?_
     refine gg [.tt,.b (decide (n<24)) true,.a _ _,.i zd ((i:Int)+1) ((↑(i+1):Int)),.a _ _] ⟨t_brp (by assumption),o_a hP,oI,o_a ih2,trivial⟩ ?_
     exact ge
    ·have e:arrive1 A (gt inbox i)=A:=by simp [arrive1,hk,he,ht]
     rw [e]
     generalize put1 A (gt inbox i).ent=B at*
     generalize things A=n at*
     refine qq ?_
     refine gg [.b (decide ((i:Int)<(↑(zq inbox):Int))) true,.w (0≤(i:Int)),.n (zy (i:Int)) i,.g (zz zn inbox) i (zn (gt inbox i)),.b ((gt inbox i).kind==1) true,.tt,.tt,.tt,.tt,.b ((gt inbox i).ent.kind==1) false,.ff,.a _ _,.b (flats [ti n]) true,.ff,.tt,.ff] ⟨tP,oW,nK,o_gt rfl (by assumption) (by intro h;cases h),t_bre (by assumption),f_bre (by assumption),o_a hT,bK,trivial⟩ ?_
     refine gg [.tt,.b (decide (n<24)) false,.i zd ((i:Int)+1) ((↑(i+1):Int)),.a _ _] ⟨f_brp (by assumption),oI,o_a ih1,trivial⟩ ?_
     exact ge
  ·have e:arrive1 A (gt inbox i)=A:=by simp [arrive1,hk]
   rw [e]
   generalize put1 A (gt inbox i).ent=B at*
   refine qq ?_
   refine gg [.b (decide ((i:Int)<(↑(zq inbox):Int))) true,.w (0≤(i:Int)),.n (zy (i:Int)) i,.g (zz zn inbox) i (zn (gt inbox i)),.b ((gt inbox i).kind==1) false,.ff,.ff,.ff,.ff,.ff,.ff,.ff,.i zd ((i:Int)+1) ((↑(i+1):Int)),.a _ _] ⟨tP,oW,nK,o_gt rfl (by assumption) (by intro h;cases h),f_bre (by assumption),oI,o_a ih1,trivial⟩ ?_
   exact ge
theorem AdV (c:Config) (r:Int) (s:Region) (inbox:List Cross) (hn:s.ents.length≤100000) (hb:inbox.length≤100000):
  Is cx (.call 26 [.t c.enc,vi r,.t s.enc,.t (.sl 15 (inbox.map zn))] []) ⟨.ret,[.all 0 none],[.arr 9 ((arriveL s.ents inbox).map zm) none false]⟩:=by
 have h:=Acf inbox hb inbox.length 0 s.ents (by omega) (by omega)
 rw [List.drop_zero] at h
 obtain ⟨f,l⟩:=s
 simp only at hn h⊢
 have hs:small l:=by unfold small;omega
 refine qq ?_
 refine gg [.a _ _,.n (zq (zz zn inbox)) (zq inbox),.a _ _] ⟨o_a (Aar l (by assumption)),o_n (by simp),o_a h,trivial⟩ ?_
 exact ge
theorem Afp (c:Config) (r:Int):Is cx (.call 19 [.t c.enc,vi r] []) ⟨.ret,[vi (c.cornerX r),vi (c.cornerY r)],[]⟩:=by
 have h:=Aeg c r
 unfold Config.cornerX Config.cornerY
 cases hi:c.is r with
 |false=>
  rw [hi] at h
  refine qq ?_
  refine gg [.a _ _,.b (!false) true] ⟨o_a h,bK,trivial⟩ ?_
  exact ge
 |true=>
  rw [hi] at h
  have hr:=Config.is_right hi
  have hi2:=(Config.is_iff hr).1 hi
  obtain ⟨hc,hrr,_⟩:=Config.right_iff.1 hr
  have k1:=Ac5 (v:=r) (k:=c.cols) (m:=c.rows) (by omega) (by omega) (by omega)
  have k2:=Aes (v:=r) (k:=c.cols) (by omega) (by omega)
  refine qq ?_
  refine gg [.a _ _,.b (!true) false,.w (c.cols≠(0:Int)),.s (ti (zg r c.cols)),.i zd (zg r c.cols*1024) (zg r c.cols*1024),.w (c.cols≠(0:Int)),.i zd (Int.tdiv r c.cols) (Int.tdiv r c.cols),.i zd (Int.tdiv r c.cols*1024) (Int.tdiv r c.cols*1024)] ⟨o_a h,bK,oW,oI,oW,oI,oI,trivial⟩ ?_
  exact ge
def stepT (c:Config) (r f:Int) (s:Stg):T:= .agg [ti c.cols,ti c.rows,ti c.players,ti c.window,.int .u64 c.seed,ti r,ti f,.sl 9 (s.l.map zm),ti s.made,.sl 15 (s.out.map zn)]
abbrev stepV (c:Config) (r f made:Int) (lv ov:V):V:= .agg [vi c.cols,vi c.rows,vi c.players,vi c.window,.t (.int .u64 c.seed),vi r,vi f,lv,vi made,ov]
theorem Aas (c:Config) (r f:Int) (s:Stg) (hn:small s.l):Fn cx 61 [.ip 10 (stepT c r f s) 0] (.bool s.room):=by
 have h:=AaX s.l hn
 unfold Stg.room
 obtain ⟨l,made,out⟩:=s
 simp only at h⊢
 unfold stepT
 generalize things l=n at*
 by_cases h1:made<8
 ·refine qq ?_
  refine gg [.b (decide (made<8)) true,.tt,.tt,.tt,.tt,.a _ _,.tt,.tt] ⟨t_brp (by assumption),o_a h,trivial⟩ ?_
  refine rT (a:=qz qj [vb (decide (n<24))] []) ?_
  simp [h1]
 ·refine qq ?_
  refine gg [.b (decide (made<8)) false,.ff,.ff,.ff,.ff,.ff,.ff] ⟨f_brp (by assumption),trivial⟩ ?_
  refine rT (a:=qz qj [vb false] []) ?_
  simp [h1]
theorem Ah8 {c:Config} {r:Int}:(0≤c.cornerX r∧c.cornerX r≤4096)∧0≤c.cornerY r∧c.cornerY r≤4096:=by
 unfold Config.cornerX Config.cornerY
 split
 ·rename_i hi
  have hr:=Config.is_right hi
  have hi2:=(Config.is_iff hr).1 hi
  obtain ⟨hc,hrr,_⟩:=Config.right_iff.1 hr
  have k1:=Ac5 (v:=r) (k:=c.cols) (m:=c.rows) (by omega) (by omega) (by omega)
  have k2:=Aes (v:=r) (k:=c.cols) (by omega) (by omega)
  omega
 ·omega
theorem Aa9 (c:Config) (r f x y o:Int) (s:Stg):Is cx (.call 76 [.t (.ip 10 (stepT c r f s) 0),vi x,vi y,vi o] []) ⟨.ret,[vi (placeX c r f x o),vi (placeY c r f y o)],[]⟩:=by
 have h0:=Afp c r
 have h1:=Aax 1024 c.seed [x,f,o] (by decide) (by simp [small])
 have h2:=Aax 1024 c.seed [y,f,o] (by decide) (by simp [small])
 have b1:=Afa (n:=1024) (seed:=c.seed) (l:= [x,f,o]) (by decide)
 have b2:=Afa (n:=1024) (seed:=c.seed) (l:= [y,f,o]) (by decide)
 have b3:= @Ah8 c r
 unfold placeX placeY
 obtain ⟨l,made,out⟩:=s
 unfold stepT
 generalize below 1024 c.seed [x,f,o]=v1 at*
 generalize below 1024 c.seed [y,f,o]=v2 at*
 generalize c.cornerX r=v3 at*
 generalize c.cornerY r=v4 at*
 refine qq ?_
 refine gg [.a _ _] ⟨o_a h0,trivial⟩ ?_
 refine bO (bO ?_ ?_) ?_
 all_goals
  refine gg [.a _ _,.i zd (v3+v1) (v3+v1),.a _ _,.i zd (v4+v2) (v4+v2)] ⟨o_a h1,oI,o_a h2,oI,trivial⟩ ?_
  exact ge
theorem Aa8 (c:Config) (r f made:Int) (l:List Entity) (o:List Cross) (hr:0≤r∧r≤16) (hf:0≤f∧f≤10000) (hm:0≤made∧made≤1000):
  Is cx (.call 63 [.ptr 0 0 0] [.one 10 (stepV c r f made (.all 1 none) (.fit 15 [])) false,.arr 9 (l.map zm) none false])
   ⟨.ret,[vi (numI c r f made)],[.one 10 (stepV c r f (made+1) (.all 1 none) (.fit 15 [])) false,.arr 9 (l.map zm) none false]⟩:=by
 have h:=AaB c
 have hl:= @Config.regions_le c
 unfold numI
 generalize c.regions=g at*
 have h1:0≤f*g∧f*g≤160000:=⟨Int.mul_nonneg hf.1 hl.1,Int.le_trans (Int.mul_le_mul hf.2 hl.2 hl.1 (by omega)) (by omega)⟩
 refine qq ?_
 refine gg [.i zd (made+1) (made+1),.a _ _,.i zd (f*g) (f*g),.i zd (f*g+r) (f*g+r),.i zd ((f*g+r)*8) ((f*g+r)*8),.i zd (1000+(f*g+r)*8) (1000+(f*g+r)*8),.i zd (1000+(f*g+r)*8+(made+1)) (1000+(f*g+r)*8+(made+1)),.i zd (1000+(f*g+r)*8+(made+1)-1) (1000+(f*g+r)*8+(made+1)-1)] ⟨oI,o_a h,oI,oI,oI,oI,oI,oI,trivial⟩ ?_
 exact ge
theorem Adq (c:Config) (r f made:Int) (l:List Entity) (o:List Cross) (hr:0≤r∧r≤16) (hf:0≤f∧f≤10000) (hm:0≤made∧made≤1000):
  Is cx (.call 63 [.ptr 0 0 0] [.one 10 (stepV c r f made (.all 1 none) (.all 2 none)) false,.arr 9 (l.map zm) none false,.arr 15 (o.map zn) none false])
   ⟨.ret,[vi (numI c r f made)],[.one 10 (stepV c r f (made+1) (.all 1 none) (.all 2 none)) false,.arr 9 (l.map zm) none false,.arr 15 (o.map zn) none false]⟩:=by
 have h:=AaB c
 have hl:= @Config.regions_le c
 unfold numI
 generalize c.regions=g at*
 have h1:0≤f*g∧f*g≤160000:=⟨Int.mul_nonneg hf.1 hl.1,Int.le_trans (Int.mul_le_mul hf.2 hl.2 hl.1 (by omega)) (by omega)⟩
 refine qq ?_
 refine gg [.i zd (made+1) (made+1),.a _ _,.i zd (f*g) (f*g),.i zd (f*g+r) (f*g+r),.i zd ((f*g+r)*8) ((f*g+r)*8),.i zd (1000+(f*g+r)*8) (1000+(f*g+r)*8),.i zd (1000+(f*g+r)*8+(made+1)) (1000+(f*g+r)*8+(made+1)),.i zd (1000+(f*g+r)*8+(made+1)-1) (1000+(f*g+r)*8+(made+1)-1)] ⟨oI,o_a h,oI,oI,oI,oI,oI,oI,trivial⟩ ?_
 exact ge
theorem AbH (c:Config) (r f made:Int) (l:List Entity) (m:Cross):
  Is cx (.call 75 [.ptr 0 0 0,.t m.enc] [.one 10 (stepV c r f made (.all 1 none) (.fit 15 [])) false,.arr 9 (l.map zm) none false])
   ⟨.ret,[],[.one 10 (stepV c r f made (.all 1 none) (.all 2 none)) false,.arr 9 (l.map zm) none false,.arr 15 ([{m with frm:=r,frame:=f}].map zn) none false]⟩:=by
 refine qq ?_
 refine bO ?_ ?_
 all_goals
  refine gg [.w ((0:Nat)<(120:Nat)),.s (qk 0 [T.agg [ti m.kind,ti r,ti m.to,ti f,ti m.ent.id,ti m.ent.kind,ti m.ent.x,ti m.ent.y,ti m.ent.vx,ti m.ent.vy,ti m.ent.health,ti m.ent.age,ti m.ent.owner,ti m.x,ti m.y]]),.s (qk 0 [T.agg [ti m.kind,ti r,ti m.to,ti f,ti m.ent.id,ti m.ent.kind,ti m.ent.x,ti m.ent.y,ti m.ent.vx,ti m.ent.vy,ti m.ent.health,ti m.ent.age,ti m.ent.owner,ti m.x,ti m.y]]),.w (room (zq [T.agg [ti m.kind,ti r,ti m.to,ti f,ti m.ent.id,ti m.ent.kind,ti m.ent.x,ti m.ent.y,ti m.ent.vx,ti m.ent.vy,ti m.ent.health,ti m.ent.age,ti m.ent.owner,ti m.x,ti m.y]]) (120:Nat))] ⟨o_w (by (simp [room,appendMax])),o_w (by (simp [room,appendMax])),trivial⟩ ?_
  exact ge
theorem Aa4 (c:Config) (r f made:Int) (l:List Entity) (o:List Cross) (m:Cross) (ho:o.length≤100000):
  Is cx (.call 75 [.ptr 0 0 0,.t m.enc] [.one 10 (stepV c r f made (.all 1 none) (.all 2 none)) false,.arr 9 (l.map zm) none false,.arr 15 (o.map zn) none false])
   ⟨.ret,[],[.one 10 (stepV c r f made (.all 1 none) (.all 3 none)) false,.arr 9 (l.map zm) none false,.dead,.arr 15 ((o++ [{m with frm:=r,frame:=f}]).map zn) none false]⟩:=by
 refine qq ?_
 refine bO ?_ ?_
 all_goals
  refine gg [.w ((0:Nat)<(120:Nat)),.s (qk 0 [T.agg [ti m.kind,ti r,ti m.to,ti f,ti m.ent.id,ti m.ent.kind,ti m.ent.x,ti m.ent.y,ti m.ent.vx,ti m.ent.vy,ti m.ent.health,ti m.ent.age,ti m.ent.owner,ti m.x,ti m.y]]),.t (qk 0 (zz zn o++ [T.agg [ti m.kind,ti r,ti m.to,ti f,ti m.ent.id,ti m.ent.kind,ti m.ent.x,ti m.ent.y,ti m.ent.vx,ti m.ent.vy,ti m.ent.health,ti m.ent.age,ti m.ent.owner,ti m.x,ti m.y]])) (qk 0 (zz zn (o++ [Cross.mk m.kind r m.to f m.ent m.x m.y]))),.w (room (zq (zz zn (o++ [Cross.mk m.kind r m.to f m.ent m.x m.y]))) (120:Nat))] ⟨oW,o_l (Aa6 rfl (AaL (e:=Cross.mk m.kind r m.to f m.ent m.x m.y) rfl Ab4)),o_w (by (simp [room,appendMax];omega)),trivial⟩ ?_
  exact ge
end Go.Eva.S2
namespace Go.Eva
theorem Ajs {l:List Entity} {id:Int} {i k:Nat} (hi:i<l.length) (h:(gt l i).id=id) (hk:find l id=k):k≤i:=by
 unfold find pos at hk
 cases hq:l.findIdx? fun e=>e.id==id with
 |none=>
  have:=List.findIdx?_eq_none_iff.1 hq _ (Ab3 hi)
  simp [h] at this
 |some j=>
  rw [hq] at hk
  simp only at hk
  obtain rfl:j=k:=by omega
  obtain ⟨hj,_,h2⟩:=List.findIdx?_eq_some_iff_getElem.1 hq
  rcases Nat.lt_or_ge i j with hlt|hge
  ·have:=h2 i hlt
   rw [←gt_eq hi] at this
   simp [h] at this
  ·exact hge
theorem AdE {l:List Entity} {e:Entity} {id:Int} (h: ∃x∈l,x.id=id): ∃x∈put1 l e,x.id=id:=by
 obtain ⟨x,h1,h2⟩:=h
 exact ⟨x,Afd x h1,h2⟩
theorem AbQ {l:List Entity} {p e:Entity} {id:Int} (hp: ∃x∈l,x.id=p.id) (he:e.id=p.id) (h: ∃x∈l,x.id=id): ∃x∈setId l p.id e,x.id=id:=by
 refine AfO ?_ h
 rw [←he]
 rw [←he] at hp
 exact (AfG hp).symm
theorem Abv {l:List Entity} {id:Int} {e:Entity} {k:Nat} (h:find l id=k):setId l id e=l.set k e:=by
 unfold setId;rw [h];rfl
theorem AfN {α:Type} [Inhabited α] {l:List α} {k j:Nat} {x:α} (h:j≠k):gt (l.set k x) j=gt l j:=by
 unfold gt;rw [List.getElem?_set_ne (by omega)]
theorem Aix {α:Type} [Inhabited α] {A B:List α} {i:Nat} (hl:A.length=B.length) (h: ∀j,i≤j→j<B.length→gt A j=gt B j):A.drop i=B.drop i:=by
 refine Agn (by simp [hl]) fun j hj=> ?_
 have e: ∀l:List α,gt (l.drop i) j=gt l (i+j):=fun l=>by unfold gt;rw [List.getElem?_drop]
 rw [e,e]
 simp only [List.length_drop] at hj
 exact h _ (by omega) (by omega)
end Go.Eva
namespace Go.Eva.S2
def Ready (ins:List Input) (A:List Entity) (p:Entity):Prop:=(-1000000≤p.age∧p.age≤1000000)∧(p.kind=1→(1≤p.id∧p.id≤ins.length)∧ ∃x∈A,x.id=p.id)
theorem AhW (c:Config) (r f:Int) (ins:List Input) (hi0:ins.length≤1000000) (hr:0≤r∧r≤16) (hf:0≤f∧f≤10000) (R:List Entity) (hR:R.length≤1000): ∀(d i:Nat) (A:List Entity) (made:Int),i+d=R.length→A.length≤1000+i→0≤made∧made≤8→(∀j,i≤j→j<R.length→Ready ins A (gt R j))→
  Is cx (.loop 27 [0,1] 2 [.ptr 0 0 0,.t (.sl 3 (ins.map zr)),.all 1 none,vi R.length,vi i] [.one 10 (stepV c r f made (.all 2 none) (.fit 15 [])) false,.arr 9 (R.map zm) none true,.arr 9 (A.map zm) none false])
   ⟨.exit 0,[.ptr 0 0 0,.t (.sl 3 (ins.map zr)),.all 1 none,vi R.length,vi R.length],[.one 10 (stepV c r f ((R.drop i).foldl (steer1 c r f ins) ⟨A,made,[]⟩).made (.all 2 none) (.fit 15 [])) false,.arr 9 (R.map zm) none true,.arr 9 (((R.drop i).foldl (steer1 c r f ins) ⟨A,made,[]⟩).l.map zm) none false]⟩:=by
 intro d
 induction d with
 |zero=>
  intro i A made hi hA hm hP
  rw [Aaf (by omega),List.foldl_nil]
  refine qq ?_
  refine gg [.b (decide ((i:Int)<(↑(zq R):Int))) false] ⟨fP,trivial⟩ ?_
  refine rT (a:=qz (qx 0) [V.ptr 0 0 0,V.t (qk 3 (zz zr ins)),qy 1 none,vi (↑(zq R):Int),vi (i:Int)] [qg 10 (V.agg [vi c.cols,vi c.rows,vi c.players,vi c.window,V.t (T.int zf c.seed),vi r,vi f,qy 2 none,vi made,V.fit 15 []]) false,qv 9 (zz zm R) none true,qv 9 (zz zm A) none false]) ?_
  ((have hq:i=R.length:=by omega);subst hq;rfl)
 |succ d ih=>
  intro i A made hi hA hm hP
  have hlt:i<R.length:=by omega
  rw [Aah hlt,List.foldl_cons]
  obtain ⟨hage,hp⟩:=hP i (Nat.le_refl _) hlt
  by_cases hk:(gt R i).kind=1
  ·obtain ⟨hid,hx⟩:=hp hk
   have hS:=Acn (gt R i) (inAt ins (gt R i).id) hage
   have hSid:=(@Aei (gt R i) (inAt ins (gt R i).id)).1
   cases hb:(steerE (gt R i) (inAt ins (gt R i).id)).2 with
   |true=>
    rw [hb] at hS
    cases hroom:Stg.room ⟨A,made,[]⟩ with
    |true=>
     obtain ⟨hm1,_⟩:=Stg.room_iff.1 hroom
     simp only at hm1
     have hrm:=Aas c r f ⟨A,made,[]⟩ (by unfold small;simp only;omega)
     rw [hroom] at hrm
     have hnum:=Aa8 c r f made A [] hr hf (by omega)
     have e1:steer1 c r f ins ⟨A,made,[]⟩ (gt R i)=⟨setId (put1 A (shootE (steerE (gt R i) (inAt ins (gt R i).id)).1 (inAt ins (gt R i).id) (numI c r f made))) (gt R i).id (steerE (gt R i) (inAt ins (gt R i).id)).1,made+1,[]⟩:=by simp [steer1,hk,hb,hroom]
     rw [e1]
     have hsh:=Ack (steerE (gt R i) (inAt ins (gt R i).id)).1 (inAt ins (gt R i).id) (numI c r f made)
     generalize hE:(steerE (gt R i) (inAt ins (gt R i).id)).1=E at*
     generalize shootE E (inAt ins (gt R i).id) (numI c r f made)=sh at*
     have hput:=AaI A [sh] (by omega) (by simp)
     change Is cx _ ⟨_,_,[.arr 9 ((put1 A sh).map zm) none false]⟩ at hput
     have hpl:= @AbY A sh
     have hx1:=AdE (e:=sh) hx
     have ih1:=ih (i+1) (setId (put1 A sh) (gt R i).id E) (made+1) (by omega) (by rw [AcK];omega) (by omega) fun j h1 h2=>by
      obtain ⟨g1,g2⟩:=hP j (by omega) h2
      exact ⟨g1,fun hk=>⟨(g2 hk).1,AbQ hx1 hSid (AdE (g2 hk).2)⟩⟩
     obtain ⟨k,hk1,hk2,_⟩:=Abk hx1
     rw [Abv hk1] at ih1⊢
     have hF:=Aao (put1 A sh) (gt R i).id (by unfold small;omega)
     rw [hk1] at hF
     generalize put1 A sh=B at*
     generalize numI c r f made=nn at*
     clear ih hP e1 hE hroom hx hx1 hk1
     unfold inAt at hS hsh
     refine qq ?_
     refine gg [.b (decide ((i:Int)<(↑(zq R):Int))) true,.w (0≤(i:Int)),.n (zy (i:Int)) i,.w (i<zq (zz zm R)),.g (zz zm R) i (zm (gt R i)),.b ((gt R i).kind !=1) false,.i zd ((gt R i).id-1) ((gt R i).id-1),.w (0≤(gt R i).id-(1:Int)),.l (zy ((gt R i).id-1)),.g (zz zr ins) (zy ((gt R i).id-1)) (zr (gt ins (zy ((gt R i).id-1)))),.a _ _,.tt,.tt,.a _ _,.b (flats [T.bool true]) true,.tt] ⟨tP,oW,nK,o_w (by (simp;omega)),o_gt rfl (by assumption) (by intro h;cases h),f_brn (by assumption),oI,oW,oT,o_a hS,o_a hrm,bK,trivial⟩ ?_
     refine gg [.tt] trivial ?_
     refine bO (bO (bO ?_ ?_) (bO (bO ?_ ?_) ?_)) (bO (bO (bO ?_ ?_) (bO (bO ?_ ?_) ?_)) (bO (bO (bO ?_ ?_) (bO (bO ?_ ?_) ?_)) ?_))
     all_goals
      refine gg [.a _ _,.a _ _,.a _ _,.a _ _,.b (flats [ti (k:Int)]) true,.w (0≤(k:Int)),.n (zy (k:Int)) k,.w (k<zq (zz zm B)),.w (k<zq (zz zm B)),.t (qk 0 (zx (zz zm B) k (zm E))) (qk 0 (zz zm (zx B k E))),.i zd ((i:Int)+1) ((↑(i+1):Int)),.a _ _] ⟨o_a hnum,o_a hsh,o_a hput,o_a hF,bK,oW,nK,o_w (by (simp;omega)),o_w (by (simp;omega)),o_l (Aap rfl rfl),oI,o_a ih1,trivial⟩ ?_
      exact ge
    |false=>
     have hrm:=Aas c r f ⟨A,made,[]⟩ (by unfold small;simp only;omega)
     rw [hroom] at hrm
     have e1:steer1 c r f ins ⟨A,made,[]⟩ (gt R i)=⟨setId A (gt R i).id {(steerE (gt R i) (inAt ins (gt R i).id)).1 with age:=0},made,[]⟩:=by simp [steer1,hk,hb,hroom]
     rw [e1]
     generalize hE:(steerE (gt R i) (inAt ins (gt R i).id)).1=E at*
     have ih1:=ih (i+1) (setId A (gt R i).id {E with age:=0}) made (by omega) (by rw [AcK];omega) hm fun j h1 h2=>by
      obtain ⟨g1,g2⟩:=hP j (by omega) h2
      exact ⟨g1,fun hk=>⟨(g2 hk).1,AbQ hx hSid (g2 hk).2⟩⟩
     obtain ⟨k,hk1,hk2,_⟩:=Abk hx
     rw [Abv hk1] at ih1⊢
     have hF:=Aao A (gt R i).id (by unfold small;omega)
     rw [hk1] at hF
     clear ih hP e1 hE hroom hx hk1
     unfold inAt at hS
     refine qq ?_
     refine gg [.b (decide ((i:Int)<(↑(zq R):Int))) true,.w (0≤(i:Int)),.n (zy (i:Int)) i,.w (i<zq (zz zm R)),.g (zz zm R) i (zm (gt R i)),.b ((gt R i).kind !=1) false,.i zd ((gt R i).id-1) ((gt R i).id-1),.w (0≤(gt R i).id-(1:Int)),.l (zy ((gt R i).id-1)),.g (zz zr ins) (zy ((gt R i).id-1)) (zr (gt ins (zy ((gt R i).id-1)))),.a _ _,.tt,.tt,.a _ _,.b (flats [T.bool false]) true,.tt] ⟨tP,oW,nK,o_w (by (simp;omega)),o_gt rfl (by assumption) (by intro h;cases h),f_brn (by assumption),oI,oW,oT,o_a hS,o_a hrm,bK,trivial⟩ ?_
     refine gg [.ff,.tt,.a _ _,.b (flats [ti (k:Int)]) true,.w (0≤(k:Int)),.n (zy (k:Int)) k,.w (k<zq (zz zm A)),.w (k<zq (zz zm A)),.t (qk 0 (zx (zz zm A) k (T.agg [ti E.id,ti E.kind,ti E.x,ti E.y,ti E.vx,ti E.vy,ti E.health,ti 0,ti E.owner]))) (qk 0 (zz zm (zx A k (qw E.id E.kind E.x E.y E.vx E.vy E.health 0 E.owner)))),.i zd ((i:Int)+1) ((↑(i+1):Int)),.a _ _] ⟨o_a hF,bK,oW,nK,o_w (by (simp;omega)),o_w (by (simp;omega)),o_l (Aap (e:=qw E.id E.kind E.x E.y E.vx E.vy E.health 0 E.owner) rfl rfl),oI,o_a ih1,trivial⟩ ?_
     exact ge
   |false=>
    rw [hb] at hS
    have e1:steer1 c r f ins ⟨A,made,[]⟩ (gt R i)=⟨setId A (gt R i).id (steerE (gt R i) (inAt ins (gt R i).id)).1,made,[]⟩:=by simp [steer1,hk,hb]
    rw [e1]
    generalize hE:(steerE (gt R i) (inAt ins (gt R i).id)).1=E at*
    have ih1:=ih (i+1) (setId A (gt R i).id E) made (by omega) (by rw [AcK];omega) hm fun j h1 h2=>by
     obtain ⟨g1,g2⟩:=hP j (by omega) h2
     exact ⟨g1,fun hk=>⟨(g2 hk).1,AbQ hx hSid (g2 hk).2⟩⟩
    obtain ⟨k,hk1,hk2,_⟩:=Abk hx
    rw [Abv hk1] at ih1⊢
    have hF:=Aao A (gt R i).id (by unfold small;omega)
    rw [hk1] at hF
    clear ih hP e1 hE hx hk1
    unfold inAt at hS
    refine qq ?_
    refine gg [.b (decide ((i:Int)<(↑(zq R):Int))) true,.w (0≤(i:Int)),.n (zy (i:Int)) i,.w (i<zq (zz zm R)),.g (zz zm R) i (zm (gt R i)),.b ((gt R i).kind !=1) false,.i zd ((gt R i).id-1) ((gt R i).id-1),.w (0≤(gt R i).id-(1:Int)),.l (zy ((gt R i).id-1)),.g (zz zr ins) (zy ((gt R i).id-1)) (zr (gt ins (zy ((gt R i).id-1)))),.a _ _,.ff,.ff,.ff,.ff,.ff] ⟨tP,oW,nK,o_w (by (simp;omega)),o_gt rfl (by assumption) (by intro h;cases h),f_brn (by assumption),oI,oW,oT,o_a hS,trivial⟩ ?_
    refine gg [.a _ _,.b (flats [ti (k:Int)]) true,.w (0≤(k:Int)),.n (zy (k:Int)) k,.w (k<zq (zz zm A)),.w (k<zq (zz zm A)),.t (qk 0 (zx (zz zm A) k (zm E))) (qk 0 (zz zm (zx A k E))),.i zd ((i:Int)+1) ((↑(i+1):Int)),.a _ _] ⟨o_a hF,bK,oW,nK,o_w (by (simp;omega)),o_w (by (simp;omega)),o_l (Aap rfl rfl),oI,o_a ih1,trivial⟩ ?_
    exact ge
  ·have e1:steer1 c r f ins ⟨A,made,[]⟩ (gt R i)=⟨A,made,[]⟩:=by simp [steer1,hk]
   rw [e1]
   have ih1:=ih (i+1) A made (by omega) (by omega) hm fun j h1 h2=>hP j (by omega) h2
   clear ih hP e1
   refine qq ?_
   refine gg [.b (decide ((i:Int)<(↑(zq R):Int))) true,.w (0≤(i:Int)),.n (zy (i:Int)) i,.w (i<zq (zz zm R)),.g (zz zm R) i (zm (gt R i)),.b ((gt R i).kind !=1) true,.i zd ((i:Int)+1) ((↑(i+1):Int)),.a _ _] ⟨tP,oW,nK,o_w (by (simp;omega)),o_gt rfl (by assumption) (by intro h;cases h),t_brn (by assumption),oI,o_a ih1,trivial⟩ ?_
   exact ge
theorem Aii (c:Config) (r f:Int) (ins:List Input) (hi0:ins.length≤1000000) (hr:0≤r∧r≤16) (hf:0≤f∧f≤10000): ∀(d i:Nat) (A:List Entity) (made:Int),i+d=A.length→A.length≤1000→0≤made∧made≤8→(∀j,i≤j→j<A.length→Ready ins A (gt A j))→
  Is cx (.loop 27 [0,1] 2 [.ptr 0 0 0,.t (.sl 3 (ins.map zr)),.all 1 none,vi A.length,vi i] [.one 10 (stepV c r f made (.all 1 none) (.fit 15 [])) false,.arr 9 (A.map zm) none false])
   ⟨.exit 0,[.ptr 0 0 0,.t (.sl 3 (ins.map zr)),.all 1 none,vi A.length,vi A.length],[.one 10 (stepV c r f ((A.drop i).foldl (steer1 c r f ins) ⟨A,made,[]⟩).made (.all 1 none) (.fit 15 [])) false,.arr 9 (((A.drop i).foldl (steer1 c r f ins) ⟨A,made,[]⟩).l.map zm) none false]⟩∨
  ∃X:List Entity,Is cx (.loop 27 [0,1] 2 [.ptr 0 0 0,.t (.sl 3 (ins.map zr)),.all 1 none,vi A.length,vi i] [.one 10 (stepV c r f made (.all 1 none) (.fit 15 [])) false,.arr 9 (A.map zm) none false])
   ⟨.exit 0,[.ptr 0 0 0,.t (.sl 3 (ins.map zr)),.all 1 none,vi A.length,vi A.length],[.one 10 (stepV c r f ((A.drop i).foldl (steer1 c r f ins) ⟨A,made,[]⟩).made (.all 2 none) (.fit 15 [])) false,.arr 9 (X.map zm) none true,.arr 9 (((A.drop i).foldl (steer1 c r f ins) ⟨A,made,[]⟩).l.map zm) none false]⟩:=by
 intro d
 induction d with
 |zero=>
  intro i A made hi hA hm hP
  left
  rw [Aaf (by omega),List.foldl_nil]
  refine qq ?_
  refine gg [.b (decide ((i:Int)<(↑(zq A):Int))) false] ⟨fP,trivial⟩ ?_
  refine rT (a:=qz (qx 0) [V.ptr 0 0 0,V.t (qk 3 (zz zr ins)),qy 1 none,vi (↑(zq A):Int),vi (i:Int)] [qg 10 (V.agg [vi c.cols,vi c.rows,vi c.players,vi c.window,V.t (T.int zf c.seed),vi r,vi f,qy 1 none,vi made,V.fit 15 []]) false,qv 9 (zz zm A) none false]) ?_
  ((have hq:i=A.length:=by omega);subst hq;rfl)
 |succ d ih=>
  intro i A made hi hA hm hP
  have hlt:i<A.length:=by omega
  obtain ⟨hage,hp⟩:=hP i (Nat.le_refl _) hlt
  rw [Aah hlt,List.foldl_cons]
  have step: ∀(k:Nat) (E:Entity),find A (gt A i).id=k→(∃x∈A,x.id=(gt A i).id)→E.id=(gt A i).id→(A.set k E).drop (i+1)=A.drop (i+1)∧(A.set k E).length=A.length∧ ∀j,i+1≤j→j<(A.set k E).length→Ready ins (A.set k E) (gt (A.set k E) j):=by
   intro k E hk hx hE
   have hki:=Ajs hlt rfl hk
   refine ⟨Aix (by simp) fun j h1 _=>AfN (by omega),by simp,fun j h1 h2=> ?_⟩
   rw [AfN (by omega)]
   obtain ⟨g1,g2⟩:=hP j (by omega) (by simpa using h2)
   refine ⟨g1,fun hk2=>⟨(g2 hk2).1,?_⟩⟩
   have:=AbQ hx hE (g2 hk2).2
   rwa [Abv hk] at this
  by_cases hk:(gt A i).kind=1
  ·obtain ⟨hid,hx⟩:=hp hk
   have hS:=Acn (gt A i) (inAt ins (gt A i).id) hage
   have hSid:=(@Aei (gt A i) (inAt ins (gt A i).id)).1
   cases hb:(steerE (gt A i) (inAt ins (gt A i).id)).2 with
   |true=>
    rw [hb] at hS
    cases hroom:Stg.room ⟨A,made,[]⟩ with
    |true=>
     right
     refine ⟨A,?_⟩
     obtain ⟨hm1,_⟩:=Stg.room_iff.1 hroom
     simp only at hm1
     have hrm:=Aas c r f ⟨A,made,[]⟩ (by unfold small;simp only;omega)
     rw [hroom] at hrm
     have hnum:=Aa8 c r f made A [] hr hf (by omega)
     have e1:steer1 c r f ins ⟨A,made,[]⟩ (gt A i)=⟨setId (put1 A (shootE (steerE (gt A i) (inAt ins (gt A i).id)).1 (inAt ins (gt A i).id) (numI c r f made))) (gt A i).id (steerE (gt A i) (inAt ins (gt A i).id)).1,made+1,[]⟩:=by simp [steer1,hk,hb,hroom]
     rw [e1]
     have hsh:=Ack (steerE (gt A i) (inAt ins (gt A i).id)).1 (inAt ins (gt A i).id) (numI c r f made)
     generalize hE:(steerE (gt A i) (inAt ins (gt A i).id)).1=E at*
     generalize shootE E (inAt ins (gt A i).id) (numI c r f made)=sh at*
     have hput:=AaI A [sh] (by omega) (by simp)
     change Is cx _ ⟨_,_,[.arr 9 ((put1 A sh).map zm) none false]⟩ at hput
     have hpl:= @AbY A sh
     have hx1:=AdE (e:=sh) hx
     have ih1:=AhW c r f ins hi0 hr hf A hA d (i+1) (setId (put1 A sh) (gt A i).id E) (made+1) (by omega) (by rw [AcK];omega) (by omega) fun j h1 h2=>by
      obtain ⟨g1,g2⟩:=hP j (by omega) h2
      exact ⟨g1,fun hk=>⟨(g2 hk).1,AbQ hx1 hSid (AdE (g2 hk).2)⟩⟩
     obtain ⟨k,hk1,hk2,_⟩:=Abk hx1
     rw [Abv hk1] at ih1⊢
     have hF:=Aao (put1 A sh) (gt A i).id (by unfold small;omega)
     rw [hk1] at hF
     generalize put1 A sh=B at*
     generalize numI c r f made=nn at*
     clear ih hP e1 hE hroom hx hx1 hk1 step
     unfold inAt at hS hsh
     refine qq ?_
     refine gg [.b (decide ((i:Int)<(↑(zq A):Int))) true,.w (0≤(i:Int)),.n (zy (i:Int)) i,.w (i<zq (zz zm A)),.g (zz zm A) i (zm (gt A i)),.b ((gt A i).kind !=1) false,.i zd ((gt A i).id-1) ((gt A i).id-1),.w (0≤(gt A i).id-(1:Int)),.l (zy ((gt A i).id-1)),.g (zz zr ins) (zy ((gt A i).id-1)) (zr (gt ins (zy ((gt A i).id-1)))),.a _ _,.tt,.tt,.a _ _,.b (flats [T.bool true]) true,.tt] ⟨tP,oW,nK,o_w (by (simp;omega)),o_gt rfl (by assumption) (by intro h;cases h),f_brn (by assumption),oI,oW,oT,o_a hS,o_a hrm,bK,trivial⟩ ?_
     refine gg [.tt] trivial ?_
     refine bO (bO (bO ?_ ?_) (bO (bO ?_ ?_) ?_)) (bO (bO (bO ?_ ?_) (bO (bO ?_ ?_) ?_)) (bO (bO (bO ?_ ?_) (bO (bO ?_ ?_) ?_)) ?_))
     all_goals
      refine gg [.a _ _,.a _ _,.a _ _,.a _ _,.b (flats [ti (k:Int)]) true,.w (0≤(k:Int)),.n (zy (k:Int)) k,.w (k<zq (zz zm B)),.w (k<zq (zz zm B)),.t (qk 0 (zx (zz zm B) k (zm E))) (qk 0 (zz zm (zx B k E))),.i zd ((i:Int)+1) ((↑(i+1):Int)),.a _ _] ⟨o_a hnum,o_a hsh,o_a hput,o_a hF,bK,oW,nK,o_w (by (simp;omega)),o_w (by (simp;omega)),o_l (Aap rfl rfl),oI,o_a ih1,trivial⟩ ?_
      exact ge
    |false=>
     have hrm:=Aas c r f ⟨A,made,[]⟩ (by unfold small;simp only;omega)
     rw [hroom] at hrm
     have e1:steer1 c r f ins ⟨A,made,[]⟩ (gt A i)=⟨setId A (gt A i).id {(steerE (gt A i) (inAt ins (gt A i).id)).1 with age:=0},made,[]⟩:=by simp [steer1,hk,hb,hroom]
     rw [e1]
     generalize hE:(steerE (gt A i) (inAt ins (gt A i).id)).1=E at*
     obtain ⟨k,hk1,hk2,_⟩:=Abk hx
     obtain ⟨s1,s2,s3⟩:=step k {E with age:=0} hk1 hx hSid
     rw [Abv hk1]
     have ih1:=ih (i+1) (A.set k {E with age:=0}) made (by omega) (by omega) hm s3
     rw [s1,s2] at ih1
     have hF:=Aao A (gt A i).id (by unfold small;omega)
     rw [hk1] at hF
     clear ih hP e1 hE hroom hx hk1 step s1 s2 s3
     unfold inAt at hS
     rcases ih1 with ih1|⟨X,ih1⟩
     ·left
      refine qq ?_
      refine gg [.b (decide ((i:Int)<(↑(zq A):Int))) true,.w (0≤(i:Int)),.n (zy (i:Int)) i,.w (i<zq (zz zm A)),.g (zz zm A) i (zm (gt A i)),.b ((gt A i).kind !=1) false,.i zd ((gt A i).id-1) ((gt A i).id-1),.w (0≤(gt A i).id-(1:Int)),.l (zy ((gt A i).id-1)),.g (zz zr ins) (zy ((gt A i).id-1)) (zr (gt ins (zy ((gt A i).id-1)))),.a _ _,.tt,.tt,.a _ _,.b (flats [T.bool false]) true,.tt] ⟨tP,oW,nK,o_w (by (simp;omega)),o_gt rfl (by assumption) (by intro h;cases h),f_brn (by assumption),oI,oW,oT,o_a hS,o_a hrm,bK,trivial⟩ ?_
      refine gg [.ff,.tt,.a _ _,.b (flats [ti (k:Int)]) true,.w (0≤(k:Int)),.n (zy (k:Int)) k,.w (k<zq (zz zm A)),.w (k<zq (zz zm A)),.t (qk 0 (zx (zz zm A) k (T.agg [ti E.id,ti E.kind,ti E.x,ti E.y,ti E.vx,ti E.vy,ti E.health,ti 0,ti E.owner]))) (qk 0 (zz zm (zx A k (qw E.id E.kind E.x E.y E.vx E.vy E.health 0 E.owner)))),.i zd ((i:Int)+1) ((↑(i+1):Int)),.a _ _] ⟨o_a hF,bK,oW,nK,o_w (by (simp;omega)),o_w (by (simp;omega)),o_l (Aap (e:=qw E.id E.kind E.x E.y E.vx E.vy E.health 0 E.owner) rfl rfl),oI,o_a ih1,trivial⟩ ?_
      exact ge
     ·right
      refine ⟨X,?_⟩
      refine qq ?_
      refine gg [.b (decide ((i:Int)<(↑(zq A):Int))) true,.w (0≤(i:Int)),.n (zy (i:Int)) i,.w (i<zq (zz zm A)),.g (zz zm A) i (zm (gt A i)),.b ((gt A i).kind !=1) false,.i zd ((gt A i).id-1) ((gt A i).id-1),.w (0≤(gt A i).id-(1:Int)),.l (zy ((gt A i).id-1)),.g (zz zr ins) (zy ((gt A i).id-1)) (zr (gt ins (zy ((gt A i).id-1)))),.a _ _,.tt,.tt,.a _ _,.b (flats [T.bool false]) true,.tt] ⟨tP,oW,nK,o_w (by (simp;omega)),o_gt rfl (by assumption) (by intro h;cases h),f_brn (by assumption),oI,oW,oT,o_a hS,o_a hrm,bK,trivial⟩ ?_
      refine gg [.ff,.tt,.a _ _,.b (flats [ti (k:Int)]) true,.w (0≤(k:Int)),.n (zy (k:Int)) k,.w (k<zq (zz zm A)),.w (k<zq (zz zm A)),.t (qk 0 (zx (zz zm A) k (T.agg [ti E.id,ti E.kind,ti E.x,ti E.y,ti E.vx,ti E.vy,ti E.health,ti 0,ti E.owner]))) (qk 0 (zz zm (zx A k (qw E.id E.kind E.x E.y E.vx E.vy E.health 0 E.owner)))),.i zd ((i:Int)+1) ((↑(i+1):Int)),.a _ _] ⟨o_a hF,bK,oW,nK,o_w (by (simp;omega)),o_w (by (simp;omega)),o_l (Aap (e:=qw E.id E.kind E.x E.y E.vx E.vy E.health 0 E.owner) rfl rfl),oI,o_a ih1,trivial⟩ ?_
      exact ge
   |false=>
    rw [hb] at hS
    have e1:steer1 c r f ins ⟨A,made,[]⟩ (gt A i)=⟨setId A (gt A i).id (steerE (gt A i) (inAt ins (gt A i).id)).1,made,[]⟩:=by simp [steer1,hk,hb]
    rw [e1]
    generalize hE:(steerE (gt A i) (inAt ins (gt A i).id)).1=E at*
    obtain ⟨k,hk1,hk2,_⟩:=Abk hx
    obtain ⟨s1,s2,s3⟩:=step k E hk1 hx hSid
    rw [Abv hk1]
    have ih1:=ih (i+1) (A.set k E) made (by omega) (by omega) hm s3
    rw [s1,s2] at ih1
    have hF:=Aao A (gt A i).id (by unfold small;omega)
    rw [hk1] at hF
    clear ih hP e1 hE hx hk1 step s1 s2 s3
    unfold inAt at hS
    rcases ih1 with ih1|⟨X,ih1⟩
    ·left
     refine qq ?_
     refine gg [.b (decide ((i:Int)<(↑(zq A):Int))) true,.w (0≤(i:Int)),.n (zy (i:Int)) i,.w (i<zq (zz zm A)),.g (zz zm A) i (zm (gt A i)),.b ((gt A i).kind !=1) false,.i zd ((gt A i).id-1) ((gt A i).id-1),.w (0≤(gt A i).id-(1:Int)),.l (zy ((gt A i).id-1)),.g (zz zr ins) (zy ((gt A i).id-1)) (zr (gt ins (zy ((gt A i).id-1)))),.a _ _,.ff,.ff,.ff,.ff,.ff] ⟨tP,oW,nK,o_w (by (simp;omega)),o_gt rfl (by assumption) (by intro h;cases h),f_brn (by assumption),oI,oW,oT,o_a hS,trivial⟩ ?_
     refine gg [.a _ _,.b (flats [ti (k:Int)]) true,.w (0≤(k:Int)),.n (zy (k:Int)) k,.w (k<zq (zz zm A)),.w (k<zq (zz zm A)),.t (qk 0 (zx (zz zm A) k (zm E))) (qk 0 (zz zm (zx A k E))),.i zd ((i:Int)+1) ((↑(i+1):Int)),.a _ _] ⟨o_a hF,bK,oW,nK,o_w (by (simp;omega)),o_w (by (simp;omega)),o_l (Aap rfl rfl),oI,o_a ih1,trivial⟩ ?_
     exact ge
    ·right
     refine ⟨X,?_⟩
     refine qq ?_
     refine gg [.b (decide ((i:Int)<(↑(zq A):Int))) true,.w (0≤(i:Int)),.n (zy (i:Int)) i,.w (i<zq (zz zm A)),.g (zz zm A) i (zm (gt A i)),.b ((gt A i).kind !=1) false,.i zd ((gt A i).id-1) ((gt A i).id-1),.w (0≤(gt A i).id-(1:Int)),.l (zy ((gt A i).id-1)),.g (zz zr ins) (zy ((gt A i).id-1)) (zr (gt ins (zy ((gt A i).id-1)))),.a _ _,.ff,.ff,.ff,.ff,.ff] ⟨tP,oW,nK,o_w (by (simp;omega)),o_gt rfl (by assumption) (by intro h;cases h),f_brn (by assumption),oI,oW,oT,o_a hS,trivial⟩ ?_
     refine gg [.a _ _,.b (flats [ti (k:Int)]) true,.w (0≤(k:Int)),.n (zy (k:Int)) k,.w (k<zq (zz zm A)),.w (k<zq (zz zm A)),.t (qk 0 (zx (zz zm A) k (zm E))) (qk 0 (zz zm (zx A k E))),.i zd ((i:Int)+1) ((↑(i+1):Int)),.a _ _] ⟨o_a hF,bK,oW,nK,o_w (by (simp;omega)),o_w (by (simp;omega)),o_l (Aap rfl rfl),oI,o_a ih1,trivial⟩ ?_
     exact ge
  ·have e1:steer1 c r f ins ⟨A,made,[]⟩ (gt A i)=⟨A,made,[]⟩:=by simp [steer1,hk]
   rw [e1]
   have ih1:=ih (i+1) A made (by omega) hA hm fun j h1 h2=>hP j (by omega) h2
   clear ih hP e1 step
   rcases ih1 with ih1|⟨X,ih1⟩
   ·left
    refine qq ?_
    refine gg [.b (decide ((i:Int)<(↑(zq A):Int))) true,.w (0≤(i:Int)),.n (zy (i:Int)) i,.w (i<zq (zz zm A)),.g (zz zm A) i (zm (gt A i)),.b ((gt A i).kind !=1) true,.i zd ((i:Int)+1) ((↑(i+1):Int)),.a _ _] ⟨tP,oW,nK,o_w (by (simp;omega)),o_gt rfl (by assumption) (by intro h;cases h),t_brn (by assumption),oI,o_a ih1,trivial⟩ ?_
    exact ge
   ·right
    refine ⟨X,?_⟩
    refine qq ?_
    refine gg [.b (decide ((i:Int)<(↑(zq A):Int))) true,.w (0≤(i:Int)),.n (zy (i:Int)) i,.w (i<zq (zz zm A)),.g (zz zm A) i (zm (gt A i)),.b ((gt A i).kind !=1) true,.i zd ((i:Int)+1) ((↑(i+1):Int)),.a _ _] ⟨tP,oW,nK,o_w (by (simp;omega)),o_gt rfl (by assumption) (by intro h;cases h),t_brn (by assumption),oI,o_a ih1,trivial⟩ ?_
    exact ge
theorem Ae2 (c:Config) (r f:Int) (ins:List Input) (L:List Entity) (hi0:ins.length≤1000000) (hr:0≤r∧r≤16) (hf:0≤f∧f≤10000) (hL:L.length≤1000) (hP: ∀p∈L,(-1000000≤p.age∧p.age≤1000000)∧(p.kind=1→1≤p.id∧p.id≤ins.length)):
  Is cx (.call 27 [.ptr 0 0 0,.t (.sl 3 (ins.map zr))] [.one 10 (stepV c r f 0 (.all 1 none) (.fit 15 [])) false,.arr 9 (L.map zm) none false])
   ⟨.ret,[],[.one 10 (stepV c r f (steerS c r f ins ⟨L,0,[]⟩).made (.all 1 none) (.fit 15 [])) false,.arr 9 ((steerS c r f ins ⟨L,0,[]⟩).l.map zm) none false]⟩∨
  ∃X:List Entity,Is cx (.call 27 [.ptr 0 0 0,.t (.sl 3 (ins.map zr))] [.one 10 (stepV c r f 0 (.all 1 none) (.fit 15 [])) false,.arr 9 (L.map zm) none false])
   ⟨.ret,[],[.one 10 (stepV c r f (steerS c r f ins ⟨L,0,[]⟩).made (.all 2 none) (.fit 15 [])) false,.arr 9 (X.map zm) none true,.arr 9 ((steerS c r f ins ⟨L,0,[]⟩).l.map zm) none false]⟩:=by
 have h:=Aii c r f ins hi0 hr hf L.length 0 L 0 (by omega) hL (by omega) fun j _ h2=>by
  obtain ⟨g1,g2⟩:=hP _ (Ab3 h2)
  exact ⟨g1,fun hk=>⟨g2 hk,_,Ab3 h2,rfl⟩⟩
 rw [List.drop_zero] at h
 change _∨ ∃X,_ at h
 unfold steerS
 simp only
 generalize L.foldl (steer1 c r f ins) ⟨L,0,[]⟩=S at*
 obtain ⟨A,made,o⟩:=S
 simp only at h⊢
 rcases h with h|⟨X,h⟩
 ·left
  refine qq ?_
  refine gg [.n (zq (zz zm L)) (zq L),.a _ _] ⟨o_n (by simp),o_a h,trivial⟩ ?_
  exact ge
 ·right
  refine ⟨X,?_⟩
  refine qq ?_
  refine gg [.n (zq (zz zm L)) (zq L),.a _ _] ⟨o_n (by simp),o_a h,trivial⟩ ?_
  exact ge
theorem Ahg {c:Config} {e:Entity} {l:List Entity}:moveL c (e::l)=(if (goE c e).2=true then [(goE c e).1] else [])++moveL c l:=by
 unfold moveL
 rw [List.filter_cons]
 split<;>simp
theorem AfQ (c:Config) (r f made:Int) (L:List Entity) (hn:small L) (ha: ∀e∈L,-1000000≤e.age∧e.age≤1000000): ∀(d i:Nat) (A:List Entity),i+d=L.length→A.length≤i→
  Is cx (.loop 28 [0,1,0,1] 2 [.ptr 0 0 0,.all 2 none,.all 1 none,vi L.length,vi i] [.one 10 (stepV c r f made (.all 1 none) (.fit 15 [])) false,.arr 9 (L.map zm) none false,.arr 9 (A.map zm) none false])
   ⟨.exit 0,[.ptr 0 0 0,.all 2 none,.all 1 none,vi L.length,vi L.length],[.one 10 (stepV c r f made (.all 1 none) (.fit 15 [])) false,.arr 9 (L.map zm) none false,.arr 9 ((A++moveL c (L.drop i)).map zm) none false]⟩:=by
 unfold small at hn
 intro d
 induction d with
 |zero=>
  intro i A hi hA
  rw [Aaf (by omega)]
  refine qq ?_
  refine gg [.b (decide ((i:Int)<(↑(zq L):Int))) false] ⟨fP,trivial⟩ ?_
  refine rT (a:=qz (qx 0) [V.ptr 0 0 0,qy 2 none,qy 1 none,vi (↑(zq L):Int),vi (i:Int)] [qg 10 (V.agg [vi c.cols,vi c.rows,vi c.players,vi c.window,V.t (T.int zf c.seed),vi r,vi f,qy 1 none,vi made,V.fit 15 []]) false,qv 9 (zz zm L) none false,qv 9 (zz zm A) none false]) ?_
  ((have hq:i=L.length:=by omega);subst hq;simp [moveL])
 |succ d ih=>
  intro i A hi hA
  have hlt:i<L.length:=by omega
  have hG:=Agj c (gt L i) (ha _ (Ab3 hlt))
  have ih1:=ih (i+1) A (by omega) (by omega)
  have ih2:=ih (i+1) (A++ [(goE c (gt L i)).1]) (by omega) (by simp;omega)
  clear ih
  rw [Aah hlt,Ahg]
  generalize goE c (gt L i)=eb at*
  obtain ⟨e,b⟩:=eb
  cases b with
  |true=>
   simp only [if_true]
   rw [←List.append_assoc]
   clear ih1
   refine qq ?_
   refine gg [.b (decide ((i:Int)<(↑(zq L):Int))) true,.w (0≤(i:Int)),.n (zy (i:Int)) i,.w (i<zq (zz zm L)),.g (zz zm L) i (zm (gt L i))] ⟨tP,oW,nK,o_w (by (simp [room,appendMax];omega)),o_gt rfl (by assumption) (by intro h;cases h),trivial⟩ ?_
   refine bO ?_ ?_
   all_goals
    refine gg [.a _ _,.tt,.w ((0:Nat)<(72:Nat)),.t (qk 0 [zm e]) (qk 0 (zz zm [e])),.t (qk 0 (zz zm A++zz zm [e])) (qk 0 (zz zm (A++ [e]))),.w (room (zq (zz zm (A++ [e]))) (72:Nat)),.i zd ((i:Int)+1) ((↑(i+1):Int)),.a _ _] ⟨o_a hG,oW,o_l (AaL rfl Ab4),o_l (Aa6 rfl rfl),o_w (by (simp [room,appendMax];omega)),o_i (w64 (by (simp [room,appendMax];omega))),o_a ih2,trivial⟩ ?_
    exact ge
  |false=>
   simp only [Bool.false_eq_true,if_false,List.nil_append]
   clear ih2
   refine qq ?_
   refine gg [.b (decide ((i:Int)<(↑(zq L):Int))) true,.w (0≤(i:Int)),.n (zy (i:Int)) i,.w (i<zq (zz zm L)),.g (zz zm L) i (zm (gt L i))] ⟨tP,oW,nK,o_w (by (simp;omega)),o_gt rfl (by assumption) (by intro h;cases h),trivial⟩ ?_
   refine bO ?_ ?_
   all_goals
    refine gg [.a _ _,.ff,.i zd ((i:Int)+1) ((↑(i+1):Int)),.a _ _] ⟨o_a hG,oI,o_a ih1,trivial⟩ ?_
    exact ge
theorem Afj (c:Config) (r f made:Int) (L:List Entity) (hn:small L) (ha: ∀e∈L,-1000000≤e.age∧e.age≤1000000):
  Is cx (.call 28 [.ptr 0 0 0] [.one 10 (stepV c r f made (.all 1 none) (.fit 15 [])) false,.arr 9 (L.map zm) none false])
   ⟨.ret,[],[.one 10 (stepV c r f made (.all 2 none) (.fit 15 [])) false,.arr 9 (L.map zm) none false,.arr 9 ((moveL c L).map zm) none false]⟩:=by
 have h:=AfQ c r f made L hn ha L.length 0 [] (by omega) (by simp)
 rw [List.drop_zero,List.nil_append] at h
 generalize moveL c L=X at*
 refine qq ?_
 refine gg [.n (zq (zz zm L)) (zq L),.a _ _] ⟨o_n (by simp),o_a h,trivial⟩ ?_
 exact ge
end Go.Eva.S2
namespace Go.Eva.S2
def blastAt (r f q:Int) (e:Entity):Cross:=⟨2,r,q,f,Entity.zero,e.x,e.y⟩
theorem Acq (c:Config) (r f made:Int) (A:List Entity) (k:Nat) (id:Int) (ids near:List Int) (i:Nat) (hk:k<A.length) (hA:A.length≤1000) (hids:ids.length≤1000) (hn:near.length≤9): ∀(d j:Nat) (o:List Cross),j+d=near.length→o.length≤50000+j→
  Is cx (.loop 32 [0,1,0,1,1,0,0,1,1,0,0,1] 2 [.ptr 0 0 0,vi id,.ptr 1 k 0,.all 2 none,vi ids.length,vi i,.t (.sl 1 (near.map ti)),vi near.length,vi j] [.one 10 (stepV c r f made (.all 1 none) (.all 3 none)) false,.arr 9 (A.map zm) none false,.arr 1 (ids.map ti) none false,.arr 15 (o.map zn) none false])
   ⟨.exit 2,[.ptr 0 0 0,vi id,.ptr 1 k 0,.all 2 none,vi ids.length,vi i,.t (.sl 1 (near.map ti)),vi near.length,vi near.length],[.one 10 (stepV c r f made (.all 1 none) (.all 3 none)) false,.arr 9 (A.map zm) none false,.arr 1 (ids.map ti) none false,.arr 15 ((o++(near.drop j).map fun q=>blastAt r f q (gt A k)).map zn) none false]⟩:=by
 intro d
 induction d with
 |zero=>
  intro j o hj ho
  rw [Aaf (by omega)]
  refine qq ?_
  refine gg [.b (decide ((j:Int)<(↑(zq near):Int))) false] ⟨fP,trivial⟩ ?_
  refine rT (a:=qz (qx 2) [V.ptr 0 0 0,vi id,V.ptr 1 k 0,qy 2 none,vi (↑(zq ids):Int),vi (i:Int),V.t (qk 1 (zz ti near)),vi (↑(zq near):Int),vi (j:Int)] [qg 10 (V.agg [vi c.cols,vi c.rows,vi c.players,vi c.window,V.t (T.int zf c.seed),vi r,vi f,qy 1 none,vi made,qy 3 none]) false,qv 9 (zz zm A) none false,qv 1 (zz ti ids) none false,qv 15 (zz zn o) none false]) ?_
  ((have hq:j=near.length:=by omega);subst hq;simp)
 |succ d ih=>
  intro j o hj ho
  have hlt:j<near.length:=by omega
  have ih1:=ih (j+1) (o++ [blastAt r f (gt near j) (gt A k)]) (by omega) (by simp;omega)
  clear ih
  rw [Aah hlt,List.map_cons,List.append_cons]
  have hs:=Aa4 c r f made A o ⟨2,0,gt near j,0,Entity.zero,(gt A k).x,(gt A k).y⟩ (by omega)
  unfold blastAt at ih1⊢
  unfold Entity.zero at*
  refine qq ?_
  refine gg [.b (decide ((j:Int)<(↑(zq near):Int))) true,.w (0≤(j:Int)),.n (zy (j:Int)) j,.g (zz ti near) j (ti (gt near j)),.g (zz zm A) k (zm (gt A k)),.g (zz zm A) k (zm (gt A k)),.a _ _,.i zd ((j:Int)+1) ((↑(j+1):Int)),.a _ _] ⟨tP,oW,nK,o_gt rfl (by assumption) (by intro h;cases h),o_gt rfl (by assumption) (by intro h;cases h),o_gt rfl (by assumption) (by intro h;cases h),o_a hs,oI,o_a ih1,trivial⟩ ?_
  exact ge
theorem Aey (c:Config) (r f made:Int) (A:List Entity) (k:Nat) (id:Int) (ids near:List Int) (i:Nat) (hk:k<A.length) (hA:A.length≤1000) (hids:ids.length≤1000) (hn:near.length≤9) (h0:0<near.length):
  Is cx (.loop 32 [0,1,0,1,1,0,0,1,1,0,0,1] 2 [.ptr 0 0 0,vi id,.ptr 1 k 0,.all 2 none,vi ids.length,vi i,.t (.sl 1 (near.map ti)),vi near.length,vi 0] [.one 10 (stepV c r f made (.all 1 none) (.fit 15 [])) false,.arr 9 (A.map zm) none false,.arr 1 (ids.map ti) none false])
   ⟨.exit 2,[.ptr 0 0 0,vi id,.ptr 1 k 0,.all 2 none,vi ids.length,vi i,.t (.sl 1 (near.map ti)),vi near.length,vi near.length],[.one 10 (stepV c r f made (.all 1 none) (.all 3 none)) false,.arr 9 (A.map zm) none false,.arr 1 (ids.map ti) none false,.arr 15 ((near.map fun q=>blastAt r f q (gt A k)).map zn) none false]⟩:=by
 have hs:=AbH c r f made A ⟨2,0,gt near 0,0,Entity.zero,(gt A k).x,(gt A k).y⟩
 have ih1:=Acq c r f made A k id ids near i hk hA hids hn (near.length-1) 1 [blastAt r f (gt near 0) (gt A k)] (by omega) (by simp)
 have e:near.map (fun q=>blastAt r f q (gt A k))= [blastAt r f (gt near 0) (gt A k)]++(near.drop 1).map fun q=>blastAt r f q (gt A k):=by
  have:=Aah h0
  rw [List.drop_zero] at this
  conv=>lhs;rw [this,List.map_cons]
  rfl
 rw [e]
 unfold blastAt at ih1⊢
 unfold Entity.zero at*
 refine qq ?_
 refine gg [.b (decide (0<(↑(zq near):Int))) true,.w (0≤(0:Int)),.l 0,.g (zz ti near) 0 (ti (gt near 0)),.g (zz zm A) k (zm (gt A k)),.g (zz zm A) k (zm (gt A k)),.a _ _,.i zd 1 1,.a _ _] ⟨tP,oW,o_gt rfl (by assumption) (by intro h;cases h),o_gt rfl (by assumption) (by intro h;cases h),o_gt rfl (by assumption) (by intro h;cases h),o_a hs,oK,o_a ih1,trivial⟩ ?_
 exact ge
theorem Aev (c:Config) (r f made:Int) (ids:List Int) (hids:ids.length≤1000): ∀(d i:Nat) (A:List Entity) (o:List Cross),i+d=ids.length→A.length≤1000→o.length≤9*i+9→(∀id∈ids.drop i,∃x∈A,x.id=id)→
  Is cx (.loop 32 [0,1] 2 [.ptr 0 0 0,.all 2 none,vi ids.length,vi i] [.one 10 (stepV c r f made (.all 1 none) (.all 3 none)) false,.arr 9 (A.map zm) none false,.arr 1 (ids.map ti) none false,.arr 15 (o.map zn) none false])
   ⟨.exit 0,[.ptr 0 0 0,.all 2 none,vi ids.length,vi ids.length],[.one 10 (stepV c r f made (.all 1 none) (.all 3 none)) false,.arr 9 (((ids.drop i).foldl (fall1 c r f) ⟨A,made,o⟩).l.map zm) none false,.arr 1 (ids.map ti) none false,.arr 15 (((ids.drop i).foldl (fall1 c r f) ⟨A,made,o⟩).out.map zn) none false]⟩:=by
 intro d
 induction d with
 |zero=>
  intro i A o hi hA ho hP
  rw [Aaf (by omega),List.foldl_nil]
  refine qq ?_
  refine gg [.b (decide ((i:Int)<(↑(zq ids):Int))) false] ⟨fP,trivial⟩ ?_
  refine rT (a:=qz (qx 0) [V.ptr 0 0 0,qy 2 none,vi (↑(zq ids):Int),vi (i:Int)] [qg 10 (V.agg [vi c.cols,vi c.rows,vi c.players,vi c.window,V.t (T.int zf c.seed),vi r,vi f,qy 1 none,vi made,qy 3 none]) false,qv 9 (zz zm A) none false,qv 1 (zz ti ids) none false,qv 15 (zz zn o) none false]) ?_
  ((have hq:i=ids.length:=by omega);subst hq;rfl)
 |succ d ih=>
  intro i A o hi hA ho hP
  have hlt:i<ids.length:=by omega
  have hd:=Aah hlt
  have hx:=hP (gt ids i) (by rw [hd];exact List.mem_cons_self ..)
  obtain ⟨k,hk1,hk2,_⟩:=Abk hx
  have hns:= @AbX c r
  have hlenb:(o++blastsAt c r f (gt A k)).length≤9*(i+1)+9:=by simp [blastsAt];omega
  have ih1:=ih (i+1) (A.set k (anewE c r f (gt ids i) (gt A k))) (o++blastsAt c r f (gt A k)) (by omega) (by simpa using hA) hlenb fun id hid=>by
   have:=hP id (by rw [hd];exact List.mem_cons_of_mem _ hid)
   exact AfO (Adg (e:=anewE c r f (gt ids i) (gt A k)) hk2 rfl).symm this
  rw [hd,List.foldl_cons]
  have e1:fall1 c r f ⟨A,made,o⟩ (gt ids i)=⟨A.set k (anewE c r f (gt ids i) (gt A k)),made,o++blastsAt c r f (gt A k)⟩:=by simp [fall1,hk1]
  rw [e1]
  have hF:=Aao A (gt ids i) (by unfold small;omega)
  rw [hk1] at hF
  have hN:=Acs c r
  have hB:=Acq c r f made A k (gt ids i) ids (c.near r) i hk2 hA hids hns (c.near r).length 0 o (by omega) (by omega)
  rw [List.drop_zero] at hB
  change Is cx _ ⟨_,_,[_,_,_,.arr 15 ((o++blastsAt c r f (gt A k)).map zn) none false]⟩ at hB
  generalize blastsAt c r f (gt A k)=bl at*
  have hpl:=Aa9 c r f 1 2 (gt ids i) ⟨A.set k {gt A k with health:=100,vx:=0,vy:=0,age:=0},made,o++bl⟩
  clear ih hP e1 hx hk1 hd hlenb
  unfold anewE at ih1⊢
  refine qq ?_
  refine gg [.b (decide ((i:Int)<(↑(zq ids):Int))) true,.w (0≤(i:Int)),.n (zy (i:Int)) i,.w (i<zq (zz ti ids)),.g (zz ti ids) i (ti (gt ids i)),.a _ _,.b (flats [ti (k:Int)]) true,.w (0≤(k:Int)),.n (zy (k:Int)) k,.w (k<zq (zz zm A)),.a _ _,.n (zq (zz ti (Config.near c r))) (zq (Config.near c r)),.a _ _,.g (zz zm A) k (zm (gt A k)),.t (qk 0 (zx (zz zm A) k (T.agg [ti (gt A k).id,ti (gt A k).kind,ti (gt A k).x,ti (gt A k).y,ti (gt A k).vx,ti (gt A k).vy,ti 100,ti (gt A k).age,ti (gt A k).owner]))) (qk 0 (zz zm (zx A k (qw (gt A k).id (gt A k).kind (gt A k).x (gt A k).y (gt A k).vx (gt A k).vy 100 (gt A k).age (gt A k).owner)))),.g (zz zm (zx A k (qw (gt A k).id (gt A k).kind (gt A k).x (gt A k).y (gt A k).vx (gt A k).vy 100 (gt A k).age (gt A k).owner))) k (zm (qw (gt A k).id (gt A k).kind (gt A k).x (gt A k).y (gt A k).vx (gt A k).vy 100 (gt A k).age (gt A k).owner))] ⟨tP,oW,nK,o_w (by (simp;omega)),o_gt rfl (by assumption) (by intro h;cases h),o_a hF,bK,oW,nK,o_w (by (simp;omega)),o_a hN,o_n (by simp),o_a hB,o_gt rfl (by assumption) (by intro h;cases h),o_l (Aap (e:=qw (gt A k).id (gt A k).kind (gt A k).x (gt A k).y (gt A k).vx (gt A k).vy 100 (gt A k).age (gt A k).owner) rfl rfl),o_gm rfl (Abm (by omega)) (by intro h;cases h),trivial⟩ ?_
  refine gg [.t (qk 0 (zx (zz zm (zx A k (qw (gt A k).id (gt A k).kind (gt A k).x (gt A k).y (gt A k).vx (gt A k).vy 100 (gt A k).age (gt A k).owner))) k (T.agg [ti (gt A k).id,ti (gt A k).kind,ti (gt A k).x,ti (gt A k).y,ti 0,ti (gt A k).vy,ti 100,ti (gt A k).age,ti (gt A k).owner]))) (qk 0 (zz zm (zx A k (qw (gt A k).id (gt A k).kind (gt A k).x (gt A k).y 0 (gt A k).vy 100 (gt A k).age (gt A k).owner)))),.g (zz zm (zx A k (qw (gt A k).id (gt A k).kind (gt A k).x (gt A k).y 0 (gt A k).vy 100 (gt A k).age (gt A k).owner))) k (zm (qw (gt A k).id (gt A k).kind (gt A k).x (gt A k).y 0 (gt A k).vy 100 (gt A k).age (gt A k).owner)),.t (qk 0 (zx (zz zm (zx A k (qw (gt A k).id (gt A k).kind (gt A k).x (gt A k).y 0 (gt A k).vy 100 (gt A k).age (gt A k).owner))) k (T.agg [ti (gt A k).id,ti (gt A k).kind,ti (gt A k).x,ti (gt A k).y,ti 0,ti 0,ti 100,ti (gt A k).age,ti (gt A k).owner]))) (qk 0 (zz zm (zx A k (qw (gt A k).id (gt A k).kind (gt A k).x (gt A k).y 0 0 100 (gt A k).age (gt A k).owner)))),.g (zz zm (zx A k (qw (gt A k).id (gt A k).kind (gt A k).x (gt A k).y 0 0 100 (gt A k).age (gt A k).owner))) k (zm (qw (gt A k).id (gt A k).kind (gt A k).x (gt A k).y 0 0 100 (gt A k).age (gt A k).owner)),.t (qk 0 (zx (zz zm (zx A k (qw (gt A k).id (gt A k).kind (gt A k).x (gt A k).y 0 0 100 (gt A k).age (gt A k).owner))) k (T.agg [ti (gt A k).id,ti (gt A k).kind,ti (gt A k).x,ti (gt A k).y,ti 0,ti 0,ti 100,ti 0,ti (gt A k).owner]))) (qk 0 (zz zm (zx A k (qw (gt A k).id (gt A k).kind (gt A k).x (gt A k).y 0 0 100 0 (gt A k).owner)))),.a _ _,.b (flats [ti (placeX c r f 1 (gt ids i)),ti (placeY c r f 2 (gt ids i))]) true,.g (zz zm (zx A k (qw (gt A k).id (gt A k).kind (gt A k).x (gt A k).y 0 0 100 0 (gt A k).owner))) k (zm (qw (gt A k).id (gt A k).kind (gt A k).x (gt A k).y 0 0 100 0 (gt A k).owner)),.t (qk 0 (zx (zz zm (zx A k (qw (gt A k).id (gt A k).kind (gt A k).x (gt A k).y 0 0 100 0 (gt A k).owner))) k (T.agg [ti (gt A k).id,ti (gt A k).kind,ti (placeX c r f 1 (gt ids i)),ti (gt A k).y,ti 0,ti 0,ti 100,ti 0,ti (gt A k).owner]))) (qk 0 (zz zm (zx A k (qw (gt A k).id (gt A k).kind (placeX c r f 1 (gt ids i)) (gt A k).y 0 0 100 0 (gt A k).owner)))),.g (zz zm (zx A k (qw (gt A k).id (gt A k).kind (placeX c r f 1 (gt ids i)) (gt A k).y 0 0 100 0 (gt A k).owner))) k (zm (qw (gt A k).id (gt A k).kind (placeX c r f 1 (gt ids i)) (gt A k).y 0 0 100 0 (gt A k).owner))] ⟨o_l (nm_eq (Aap (e:=qw (gt A k).id (gt A k).kind (gt A k).x (gt A k).y 0 (gt A k).vy 100 (gt A k).age (gt A k).owner) rfl rfl) (by simp)),o_gm rfl (Abm (by omega)) (by intro h;cases h),o_l (nm_eq (Aap (e:=qw (gt A k).id (gt A k).kind (gt A k).x (gt A k).y 0 0 100 (gt A k).age (gt A k).owner) rfl rfl) (by simp)),o_gm rfl (Abm (by omega)) (by intro h;cases h),o_l (nm_eq (Aap (e:=qw (gt A k).id (gt A k).kind (gt A k).x (gt A k).y 0 0 100 0 (gt A k).owner) rfl rfl) (by simp)),o_a hpl,bK,o_gm rfl (Abm (by omega)) (by intro h;cases h),o_l (nm_eq (Aap (e:=qw (gt A k).id (gt A k).kind (placeX c r f 1 (gt ids i)) (gt A k).y 0 0 100 0 (gt A k).owner) rfl rfl) (by simp)),o_gm rfl (Abm (by omega)) (by intro h;cases h),trivial⟩ ?_
  refine gg [.t (qk 0 (zx (zz zm (zx A k (qw (gt A k).id (gt A k).kind (placeX c r f 1 (gt ids i)) (gt A k).y 0 0 100 0 (gt A k).owner))) k (T.agg [ti (gt A k).id,ti (gt A k).kind,ti (placeX c r f 1 (gt ids i)),ti (placeY c r f 2 (gt ids i)),ti 0,ti 0,ti 100,ti 0,ti (gt A k).owner]))) (qk 0 (zz zm (zx A k (qw (gt A k).id (gt A k).kind (placeX c r f 1 (gt ids i)) (placeY c r f 2 (gt ids i)) 0 0 100 0 (gt A k).owner)))),.i zd ((i:Int)+1) ((↑(i+1):Int)),.a _ _] ⟨o_l (nm_eq (Aap (e:=qw (gt A k).id (gt A k).kind (placeX c r f 1 (gt ids i)) (placeY c r f 2 (gt ids i)) 0 0 100 0 (gt A k).owner) rfl rfl) (by simp)),oI,o_a ih1,trivial⟩ ?_
  exact ge
theorem Ae1 (c:Config) (r f made:Int) (ids:List Int) (hids:ids.length≤1000) (A:List Entity) (hA:A.length≤1000) (h0:0<ids.length) (hnr:0<(c.near r).length) (hP: ∀id∈ids,∃x∈A,x.id=id):
  Is cx (.loop 32 [0,1] 2 [.ptr 0 0 0,.all 2 none,vi ids.length,vi 0] [.one 10 (stepV c r f made (.all 1 none) (.fit 15 [])) false,.arr 9 (A.map zm) none false,.arr 1 (ids.map ti) none false])
   ⟨.exit 0,[.ptr 0 0 0,.all 2 none,vi ids.length,vi ids.length],[.one 10 (stepV c r f made (.all 1 none) (.all 3 none)) false,.arr 9 ((ids.foldl (fall1 c r f) ⟨A,made,[]⟩).l.map zm) none false,.arr 1 (ids.map ti) none false,.arr 15 ((ids.foldl (fall1 c r f) ⟨A,made,[]⟩).out.map zn) none false]⟩:=by
 have hd:=Aah h0
 rw [List.drop_zero] at hd
 have hx:=hP (gt ids 0) (Ab3 h0)
 obtain ⟨k,hk1,hk2,_⟩:=Abk hx
 have hns:= @AbX c r
 have hlenb:(blastsAt c r f (gt A k)).length≤9*1+9:=by simp [blastsAt];omega
 have ih1:=Aev c r f made ids hids (ids.length-1) 1 (A.set k (anewE c r f (gt ids 0) (gt A k))) (blastsAt c r f (gt A k)) (by omega) (by simpa using hA) hlenb fun id hid=>by
  have:=hP id (by rw [hd];exact List.mem_cons_of_mem _ hid)
  exact AfO (Adg (e:=anewE c r f (gt ids 0) (gt A k)) hk2 rfl).symm this
 have e0:ids.foldl (fall1 c r f) ⟨A,made,[]⟩=(ids.drop 1).foldl (fall1 c r f) (fall1 c r f ⟨A,made,[]⟩ (gt ids 0)):=by
  conv=>lhs;rw [hd]
  rfl
 rw [e0]
 have e1:fall1 c r f ⟨A,made,[]⟩ (gt ids 0)=⟨A.set k (anewE c r f (gt ids 0) (gt A k)),made,blastsAt c r f (gt A k)⟩:=by simp [fall1,hk1]
 rw [e1]
 have hF:=Aao A (gt ids 0) (by unfold small;omega)
 rw [hk1] at hF
 have hN:=Acs c r
 have hB:=Aey c r f made A k (gt ids 0) ids (c.near r) 0 hk2 hA hids hns hnr
 change Is cx _ ⟨_,_,[_,_,_,.arr 15 ((blastsAt c r f (gt A k)).map zn) none false]⟩ at hB
 generalize blastsAt c r f (gt A k)=bl at*
 have hpl:=Aa9 c r f 1 2 (gt ids 0) ⟨A.set k {gt A k with health:=100,vx:=0,vy:=0,age:=0},made,bl⟩
 clear hP e1 hx hk1 hd hlenb e0
 unfold anewE at ih1⊢
 refine qq ?_
 refine gg [.b (decide (0<(↑(zq ids):Int))) true,.w (0≤(0:Int)),.l 0,.w ((0:Nat)<zq (zz ti ids)),.g (zz ti ids) 0 (ti (gt ids 0)),.a _ _,.b (flats [ti (k:Int)]) true,.w (0≤(k:Int)),.n (zy (k:Int)) k,.w (k<zq (zz zm A)),.a _ _,.n (zq (zz ti (Config.near c r))) (zq (Config.near c r)),.a _ _,.g (zz zm A) k (zm (gt A k)),.t (qk 0 (zx (zz zm A) k (T.agg [ti (gt A k).id,ti (gt A k).kind,ti (gt A k).x,ti (gt A k).y,ti (gt A k).vx,ti (gt A k).vy,ti 100,ti (gt A k).age,ti (gt A k).owner]))) (qk 0 (zz zm (zx A k (qw (gt A k).id (gt A k).kind (gt A k).x (gt A k).y (gt A k).vx (gt A k).vy 100 (gt A k).age (gt A k).owner)))),.g (zz zm (zx A k (qw (gt A k).id (gt A k).kind (gt A k).x (gt A k).y (gt A k).vx (gt A k).vy 100 (gt A k).age (gt A k).owner))) k (zm (qw (gt A k).id (gt A k).kind (gt A k).x (gt A k).y (gt A k).vx (gt A k).vy 100 (gt A k).age (gt A k).owner))] ⟨tP,oW,o_w (by (simp;omega)),o_gt rfl (by assumption) (by intro h;cases h),o_a hF,bK,oW,nK,o_w (by (simp;omega)),o_a hN,o_n (by simp),o_a hB,o_gt rfl (by assumption) (by intro h;cases h),o_l (Aap (e:=qw (gt A k).id (gt A k).kind (gt A k).x (gt A k).y (gt A k).vx (gt A k).vy 100 (gt A k).age (gt A k).owner) rfl rfl),o_gm rfl (Abm (by omega)) (by intro h;cases h),trivial⟩ ?_
 refine gg [.t (qk 0 (zx (zz zm (zx A k (qw (gt A k).id (gt A k).kind (gt A k).x (gt A k).y (gt A k).vx (gt A k).vy 100 (gt A k).age (gt A k).owner))) k (T.agg [ti (gt A k).id,ti (gt A k).kind,ti (gt A k).x,ti (gt A k).y,ti 0,ti (gt A k).vy,ti 100,ti (gt A k).age,ti (gt A k).owner]))) (qk 0 (zz zm (zx A k (qw (gt A k).id (gt A k).kind (gt A k).x (gt A k).y 0 (gt A k).vy 100 (gt A k).age (gt A k).owner)))),.g (zz zm (zx A k (qw (gt A k).id (gt A k).kind (gt A k).x (gt A k).y 0 (gt A k).vy 100 (gt A k).age (gt A k).owner))) k (zm (qw (gt A k).id (gt A k).kind (gt A k).x (gt A k).y 0 (gt A k).vy 100 (gt A k).age (gt A k).owner)),.t (qk 0 (zx (zz zm (zx A k (qw (gt A k).id (gt A k).kind (gt A k).x (gt A k).y 0 (gt A k).vy 100 (gt A k).age (gt A k).owner))) k (T.agg [ti (gt A k).id,ti (gt A k).kind,ti (gt A k).x,ti (gt A k).y,ti 0,ti 0,ti 100,ti (gt A k).age,ti (gt A k).owner]))) (qk 0 (zz zm (zx A k (qw (gt A k).id (gt A k).kind (gt A k).x (gt A k).y 0 0 100 (gt A k).age (gt A k).owner)))),.g (zz zm (zx A k (qw (gt A k).id (gt A k).kind (gt A k).x (gt A k).y 0 0 100 (gt A k).age (gt A k).owner))) k (zm (qw (gt A k).id (gt A k).kind (gt A k).x (gt A k).y 0 0 100 (gt A k).age (gt A k).owner)),.t (qk 0 (zx (zz zm (zx A k (qw (gt A k).id (gt A k).kind (gt A k).x (gt A k).y 0 0 100 (gt A k).age (gt A k).owner))) k (T.agg [ti (gt A k).id,ti (gt A k).kind,ti (gt A k).x,ti (gt A k).y,ti 0,ti 0,ti 100,ti 0,ti (gt A k).owner]))) (qk 0 (zz zm (zx A k (qw (gt A k).id (gt A k).kind (gt A k).x (gt A k).y 0 0 100 0 (gt A k).owner)))),.a _ _,.b (flats [ti (placeX c r f 1 (gt ids 0)),ti (placeY c r f 2 (gt ids 0))]) true,.g (zz zm (zx A k (qw (gt A k).id (gt A k).kind (gt A k).x (gt A k).y 0 0 100 0 (gt A k).owner))) k (zm (qw (gt A k).id (gt A k).kind (gt A k).x (gt A k).y 0 0 100 0 (gt A k).owner)),.t (qk 0 (zx (zz zm (zx A k (qw (gt A k).id (gt A k).kind (gt A k).x (gt A k).y 0 0 100 0 (gt A k).owner))) k (T.agg [ti (gt A k).id,ti (gt A k).kind,ti (placeX c r f 1 (gt ids 0)),ti (gt A k).y,ti 0,ti 0,ti 100,ti 0,ti (gt A k).owner]))) (qk 0 (zz zm (zx A k (qw (gt A k).id (gt A k).kind (placeX c r f 1 (gt ids 0)) (gt A k).y 0 0 100 0 (gt A k).owner)))),.g (zz zm (zx A k (qw (gt A k).id (gt A k).kind (placeX c r f 1 (gt ids 0)) (gt A k).y 0 0 100 0 (gt A k).owner))) k (zm (qw (gt A k).id (gt A k).kind (placeX c r f 1 (gt ids 0)) (gt A k).y 0 0 100 0 (gt A k).owner))] ⟨o_l (nm_eq (Aap (e:=qw (gt A k).id (gt A k).kind (gt A k).x (gt A k).y 0 (gt A k).vy 100 (gt A k).age (gt A k).owner) rfl rfl) (by simp)),o_gm rfl (Abm (by omega)) (by intro h;cases h),o_l (nm_eq (Aap (e:=qw (gt A k).id (gt A k).kind (gt A k).x (gt A k).y 0 0 100 (gt A k).age (gt A k).owner) rfl rfl) (by simp)),o_gm rfl (Abm (by omega)) (by intro h;cases h),o_l (nm_eq (Aap (e:=qw (gt A k).id (gt A k).kind (gt A k).x (gt A k).y 0 0 100 0 (gt A k).owner) rfl rfl) (by simp)),o_a hpl,bK,o_gm rfl (Abm (by omega)) (by intro h;cases h),o_l (nm_eq (Aap (e:=qw (gt A k).id (gt A k).kind (placeX c r f 1 (gt ids 0)) (gt A k).y 0 0 100 0 (gt A k).owner) rfl rfl) (by simp)),o_gm rfl (Abm (by omega)) (by intro h;cases h),trivial⟩ ?_
 refine gg [.t (qk 0 (zx (zz zm (zx A k (qw (gt A k).id (gt A k).kind (placeX c r f 1 (gt ids 0)) (gt A k).y 0 0 100 0 (gt A k).owner))) k (T.agg [ti (gt A k).id,ti (gt A k).kind,ti (placeX c r f 1 (gt ids 0)),ti (placeY c r f 2 (gt ids 0)),ti 0,ti 0,ti 100,ti 0,ti (gt A k).owner]))) (qk 0 (zz zm (zx A k (qw (gt A k).id (gt A k).kind (placeX c r f 1 (gt ids 0)) (placeY c r f 2 (gt ids 0)) 0 0 100 0 (gt A k).owner)))),.i zd 1 1,.a _ _] ⟨o_l (nm_eq (Aap (e:=qw (gt A k).id (gt A k).kind (placeX c r f 1 (gt ids 0)) (placeY c r f 2 (gt ids 0)) 0 0 100 0 (gt A k).owner) rfl rfl) (by simp)),oK,o_a ih1,trivial⟩ ?_
 exact ge
theorem Ahi {L:List Entity}: ∀id∈fallenL L,∃x∈L,x.id=id:=by
 intro id h
 obtain ⟨x,h1,h2⟩:=List.mem_map.1 h
 exact ⟨x,(List.mem_filter.1 h1).1,h2⟩
theorem AeV {L:List Entity}:(fallenL L).length≤L.length:=by
 unfold fallenL;rw [List.length_map];exact List.length_filter_le ..
theorem AdQ (c:Config) (r f made:Int) (L:List Entity) (hL:L.length≤1000) (h:fallenL L= []):
  Is cx (.call 32 [.ptr 0 0 0] [.one 10 (stepV c r f made (.all 1 none) (.fit 15 [])) false,.arr 9 (L.map zm) none false])
   ⟨.ret,[],[.one 10 (stepV c r f made (.all 1 none) (.fit 15 [])) false,.arr 9 (L.map zm) none false]⟩:=by
 have hF:=Ab8 L (by unfold small;omega)
 rw [h] at hF
 have hl:Is cx (.loop 32 [0,1] 2 [.ptr 0 0 0,.all 2 none,vi 0,vi 0] [.one 10 (stepV c r f made (.all 1 none) (.fit 15 [])) false,.arr 9 (L.map zm) none false,.arr 1 [] none false])
   ⟨.exit 0,[.ptr 0 0 0,.all 2 none,vi 0,vi 0],[.one 10 (stepV c r f made (.all 1 none) (.fit 15 [])) false,.arr 9 (L.map zm) none false,.arr 1 [] none false]⟩:=by
  refine qq ?_
  refine gg [.b (decide (0<0)) false] ⟨bK,trivial⟩ ?_
  exact ge
 refine qq ?_
 refine gg [.a _ _,.l 0,.a _ _] ⟨o_a hF,o_a hl,trivial⟩ ?_
 exact ge
theorem AdY (c:Config) (r f made:Int) (L:List Entity) (hL:L.length≤1000) (hnr:0<(c.near r).length) (h:fallenL L≠ []):
  Is cx (.call 32 [.ptr 0 0 0] [.one 10 (stepV c r f made (.all 1 none) (.fit 15 [])) false,.arr 9 (L.map zm) none false])
   ⟨.ret,[],[.one 10 (stepV c r f made (.all 1 none) (.all 2 none)) false,.arr 9 ((fallS c r f ⟨L,made,[]⟩).l.map zm) none false,.arr 15 ((fallS c r f ⟨L,made,[]⟩).out.map zn) none false]⟩:=by
 have hF:=Ab8 L (by unfold small;omega)
 have hlen:= @AeV L
 have hP:= @Ahi L
 unfold fallS
 simp only
 have h0:0<(fallenL L).length:=List.length_pos_iff.2 h
 generalize fallenL L=ids at*
 have hl:=Ae1 c r f made ids (by omega) L hL h0 hnr hP
 clear hP h
 generalize ids.foldl (fall1 c r f) ⟨L,made,[]⟩=S at*
 obtain ⟨A,m2,o⟩:=S
 simp only at hl⊢
 refine qq ?_
 refine gg [.a _ _,.n (zq (zz ti ids)) (zq ids),.a _ _] ⟨o_a hF,o_n (by simp),o_a hl,trivial⟩ ?_
 exact ge
theorem AcV (c:Config) (r f made:Int) (L:List Entity) (o:List Cross) (hL:L.length≤1000): ∀(d i n:Nat),i+d=L.length→n≤i→
  Is cx (.loop 33 [0,1,0,1] 2 [.ptr 0 0 0,vi n,.all 1 none,vi L.length,vi i] [.one 10 (stepV c r f made (.all 1 none) (.fit 15 [])) false,.arr 9 (L.map zm) none false])
   ⟨.exit 0,[.ptr 0 0 0,vi (n+(L.drop i).countP fun e=>e.kind==3:Nat),.all 1 none,vi L.length,vi L.length],[.one 10 (stepV c r f made (.all 1 none) (.fit 15 [])) false,.arr 9 (L.map zm) none false]⟩:=by
 intro d
 induction d with
 |zero=>
  intro i n hi hm
  rw [Aaf (by omega)]
  refine qq ?_
  refine gg [.b (decide ((i:Int)<(↑(zq L):Int))) false] ⟨fP,trivial⟩ ?_
  refine rT (a:=qz (qx 0) [V.ptr 0 0 0,vi (n:Int),qy 1 none,vi (↑(zq L):Int),vi (i:Int)] [qg 10 (V.agg [vi c.cols,vi c.rows,vi c.players,vi c.window,V.t (T.int zf c.seed),vi r,vi f,qy 1 none,vi made,V.fit 15 []]) false,qv 9 (zz zm L) none false]) ?_
  ((have hq:i=L.length:=by omega);subst hq;rfl)
 |succ d ih=>
  intro i n hi hm
  have hlt:i<L.length:=by omega
  have ih1:=ih (i+1) n (by omega) (by omega)
  have ih2:=ih (i+1) (n+1) (by omega) (by omega)
  clear ih
  rw [Aeq _ hlt]
  refine qq ?_
  refine gg [.b (decide ((i:Int)<(↑(zq L):Int))) true,.w (0≤(i:Int)),.n (zy (i:Int)) i,.w (i<zq (zz zm L)),.g (zz zm L) i (zm (gt L i))] ⟨tP,oW,nK,o_w (by (simp;omega)),o_gt rfl (by assumption) (by intro h;cases h),trivial⟩ ?_
  refine bre (x:=(gt L i).kind) (y:=3) (by kernel_rfl) (fun h1=> ?_) (fun h1=> ?_)
  ·refine gg [.i zd ((n:Int)+1) ((↑(n+1):Int)),.i zd ((i:Int)+1) ((↑(i+1):Int)),.a _ _] ⟨oI,oI,o_a ih2,trivial⟩ ?_
   refine rT (a:=qz (qx 0) [V.ptr 0 0 0,vi (↑(n+1+List.countP (fun (e:Entity)↦e.kind==3) (zk (i+1) L)):Int),qy 1 none,vi (↑(zq L):Int),vi (↑(zq L):Int)] [qg 10 (V.agg [vi c.cols,vi c.rows,vi c.players,vi c.window,V.t (T.int zf c.seed),vi r,vi f,qy 1 none,vi made,V.fit 15 []]) false,qv 9 (zz zm L) none false]) ?_
   (simp_all;try omega)
  ·refine gg [.i zd ((i:Int)+1) ((↑(i+1):Int)),.a _ _] ⟨oI,o_a ih1,trivial⟩ ?_
   refine rT (a:=qz (qx 0) [V.ptr 0 0 0,vi (↑(n+List.countP (fun (e:Entity)↦e.kind==3) (zk (i+1) L)):Int),qy 1 none,vi (↑(zq L):Int),vi (↑(zq L):Int)] [qg 10 (V.agg [vi c.cols,vi c.rows,vi c.players,vi c.window,V.t (T.int zf c.seed),vi r,vi f,qy 1 none,vi made,V.fit 15 []]) false,qv 9 (zz zm L) none false]) ?_
   (simp_all;try omega)
theorem AcI (c:Config) (r f made:Int) (L:List Entity) (o:List Cross) (hL:L.length≤1000) (h:below 8 c.seed [3,f,r]≠0∨3≤(L.countP fun e=>e.kind==3)∨Stg.room ⟨L,made,[]⟩=false):
  Is cx (.call 33 [.ptr 0 0 0] [.one 10 (stepV c r f made (.all 1 none) (.fit 15 [])) false,.arr 9 (L.map zm) none false])
   ⟨.ret,[],[.one 10 (stepV c r f made (.all 1 none) (.fit 15 [])) false,.arr 9 (L.map zm) none false]⟩:=by
 have hl:=AcV c r f made L o hL L.length 0 0 (by omega) (by omega)
 rw [List.drop_zero,Nat.zero_add] at hl
 have hb:=Aax 8 c.seed [3,f,r] (by decide) (by simp [small])
 have hrm:=Aas c r f ⟨L,made,[]⟩ (by unfold small;simp only;omega)
 have hc:(L.countP fun e=>e.kind==3)≤L.length:=List.countP_le_length
 generalize (L.countP fun e=>e.kind==3)=n at*
 generalize below 8 c.seed [3,f,r]=b at*
 generalize Stg.room ⟨L,made,[]⟩=rm at*
 by_cases h1:b=0
 ·by_cases h2:3≤n
  ·refine qq ?_
   refine gg [.n (zq (zz zm L)) (zq L),.a _ _,.a _ _,.b (b !=0) false,.ff,.ff,.b (decide ((n:Int)≥3)) true,.tt,.tt,.tt,.tt] ⟨o_n (by simp),o_a hl,o_a hb,f_brn (by assumption),tP,trivial⟩ ?_
   exact ge
  ·have h3:rm=false:=by rcases h with h|h|h;exact absurd h1 h;exact absurd h h2;exact h
   subst h3
   refine qq ?_
   refine gg [.n (zq (zz zm L)) (zq L),.a _ _,.a _ _,.b (b !=0) false,.ff,.ff,.b (decide ((n:Int)≥3)) false,.ff,.a _ _,.b (flats [T.bool false]) true,.ff,.ff,.b (!false) true] ⟨o_n (by simp),o_a hl,o_a hb,f_brn (by assumption),fP,o_a hrm,bK,bK,trivial⟩ ?_
   exact ge
 ·refine qq ?_
  refine gg [.n (zq (zz zm L)) (zq L),.a _ _,.a _ _,.b (b !=0) true,.tt,.tt,.tt,.tt,.tt,.tt,.tt] ⟨o_n (by simp),o_a hl,o_a hb,t_brn (by assumption),trivial⟩ ?_
  exact ge
theorem Ac7 (c:Config) (r f made:Int) (L:List Entity) (o:List Cross) (hL:L.length≤1000): ∀(d i n:Nat),i+d=L.length→n≤i→
  Is cx (.loop 33 [0,1,0,1] 3 [.ptr 0 0 0,vi n,.all 1 none,vi L.length,vi i] [.one 10 (stepV c r f made (.all 1 none) (.all 2 none)) false,.arr 9 (L.map zm) none false,.arr 15 (o.map zn) none false])
   ⟨.exit 0,[.ptr 0 0 0,vi (n+(L.drop i).countP fun e=>e.kind==3:Nat),.all 1 none,vi L.length,vi L.length],[.one 10 (stepV c r f made (.all 1 none) (.all 2 none)) false,.arr 9 (L.map zm) none false,.arr 15 (o.map zn) none false]⟩:=by
 intro d
 induction d with
 |zero=>
  intro i n hi hm
  rw [Aaf (by omega)]
  refine qq ?_
  refine gg [.b (decide ((i:Int)<(↑(zq L):Int))) false] ⟨fP,trivial⟩ ?_
  refine rT (a:=qz (qx 0) [V.ptr 0 0 0,vi (n:Int),qy 1 none,vi (↑(zq L):Int),vi (i:Int)] [qg 10 (V.agg [vi c.cols,vi c.rows,vi c.players,vi c.window,V.t (T.int zf c.seed),vi r,vi f,qy 1 none,vi made,qy 2 none]) false,qv 9 (zz zm L) none false,qv 15 (zz zn o) none false]) ?_
  ((have hq:i=L.length:=by omega);subst hq;rfl)
 |succ d ih=>
  intro i n hi hm
  have hlt:i<L.length:=by omega
  have ih1:=ih (i+1) n (by omega) (by omega)
  have ih2:=ih (i+1) (n+1) (by omega) (by omega)
  clear ih
  rw [Aeq _ hlt]
  refine qq ?_
  refine gg [.b (decide ((i:Int)<(↑(zq L):Int))) true,.w (0≤(i:Int)),.n (zy (i:Int)) i,.w (i<zq (zz zm L)),.g (zz zm L) i (zm (gt L i))] ⟨tP,oW,nK,o_w (by (simp;omega)),o_gt rfl (by assumption) (by intro h;cases h),trivial⟩ ?_
  refine bre (x:=(gt L i).kind) (y:=3) (by kernel_rfl) (fun h1=> ?_) (fun h1=> ?_)
  ·refine gg [.i zd ((n:Int)+1) ((↑(n+1):Int)),.i zd ((i:Int)+1) ((↑(i+1):Int)),.a _ _] ⟨oI,oI,o_a ih2,trivial⟩ ?_
   refine rT (a:=qz (qx 0) [V.ptr 0 0 0,vi (↑(n+1+List.countP (fun (e:Entity)↦e.kind==3) (zk (i+1) L)):Int),qy 1 none,vi (↑(zq L):Int),vi (↑(zq L):Int)] [qg 10 (V.agg [vi c.cols,vi c.rows,vi c.players,vi c.window,V.t (T.int zf c.seed),vi r,vi f,qy 1 none,vi made,qy 2 none]) false,qv 9 (zz zm L) none false,qv 15 (zz zn o) none false]) ?_
   (simp_all;try omega)
  ·refine gg [.i zd ((i:Int)+1) ((↑(i+1):Int)),.a _ _] ⟨oI,o_a ih1,trivial⟩ ?_
   refine rT (a:=qz (qx 0) [V.ptr 0 0 0,vi (↑(n+List.countP (fun (e:Entity)↦e.kind==3) (zk (i+1) L)):Int),qy 1 none,vi (↑(zq L):Int),vi (↑(zq L):Int)] [qg 10 (V.agg [vi c.cols,vi c.rows,vi c.players,vi c.window,V.t (T.int zf c.seed),vi r,vi f,qy 1 none,vi made,qy 2 none]) false,qv 9 (zz zm L) none false,qv 15 (zz zn o) none false]) ?_
   (simp_all;try omega)
theorem AcD (c:Config) (r f made:Int) (L:List Entity) (o:List Cross) (hL:L.length≤1000) (h:below 8 c.seed [3,f,r]≠0∨3≤(L.countP fun e=>e.kind==3)∨Stg.room ⟨L,made,o⟩=false):
  Is cx (.call 33 [.ptr 0 0 0] [.one 10 (stepV c r f made (.all 1 none) (.all 2 none)) false,.arr 9 (L.map zm) none false,.arr 15 (o.map zn) none false])
   ⟨.ret,[],[.one 10 (stepV c r f made (.all 1 none) (.all 2 none)) false,.arr 9 (L.map zm) none false,.arr 15 (o.map zn) none false]⟩:=by
 have hl:=Ac7 c r f made L o hL L.length 0 0 (by omega) (by omega)
 rw [List.drop_zero,Nat.zero_add] at hl
 have hb:=Aax 8 c.seed [3,f,r] (by decide) (by simp [small])
 have hrm:=Aas c r f ⟨L,made,o⟩ (by unfold small;simp only;omega)
 have hc:(L.countP fun e=>e.kind==3)≤L.length:=List.countP_le_length
 generalize (L.countP fun e=>e.kind==3)=n at*
 generalize below 8 c.seed [3,f,r]=b at*
 generalize Stg.room ⟨L,made,o⟩=rm at*
 by_cases h1:b=0
 ·by_cases h2:3≤n
  ·refine qq ?_
   refine gg [.n (zq (zz zm L)) (zq L),.a _ _,.a _ _,.b (b !=0) false,.ff,.ff,.b (decide ((n:Int)≥3)) true,.tt,.tt,.tt,.tt] ⟨o_n (by simp),o_a hl,o_a hb,f_brn (by assumption),tP,trivial⟩ ?_
   exact ge
  ·have h3:rm=false:=by rcases h with h|h|h;exact absurd h1 h;exact absurd h h2;exact h
   subst h3
   refine qq ?_
   refine gg [.n (zq (zz zm L)) (zq L),.a _ _,.a _ _,.b (b !=0) false,.ff,.ff,.b (decide ((n:Int)≥3)) false,.ff,.a _ _,.b (flats [T.bool false]) true,.ff,.ff,.b (!false) true] ⟨o_n (by simp),o_a hl,o_a hb,f_brn (by assumption),fP,o_a hrm,bK,bK,trivial⟩ ?_
   exact ge
 ·refine qq ?_
  refine gg [.n (zq (zz zm L)) (zq L),.a _ _,.a _ _,.b (b !=0) true,.tt,.tt,.tt,.tt,.tt,.tt,.tt] ⟨o_n (by simp),o_a hl,o_a hb,t_brn (by assumption),trivial⟩ ?_
  exact ge
theorem Ac3 (c:Config) (r f made:Int) (L:List Entity) (hL:L.length≤1000) (hr:0≤r∧r≤16) (hf:0≤f∧f≤10000) (hm:0≤made∧made≤1000) (h: ¬(below 8 c.seed [3,f,r]≠0∨3≤(L.countP fun e=>e.kind==3)∨Stg.room ⟨L,made,[]⟩=false)):
  Is cx (.call 33 [.ptr 0 0 0] [.one 10 (stepV c r f made (.all 1 none) (.fit 15 [])) false,.arr 9 (L.map zm) none false])
   ⟨.ret,[],[.one 10 (stepV c r f (made+1) (.all 2 none) (.fit 15 [])) false,.arr 9 (L.map zm) none true,.arr 9 ((put1 L (gemE c r f made)).map zm) none false]⟩:=by
 have hl:=AcV c r f made L [] hL L.length 0 0 (by omega) (by omega)
 rw [List.drop_zero,Nat.zero_add] at hl
 have hb:=Aax 8 c.seed [3,f,r] (by decide) (by simp [small])
 have hrm:=Aas c r f ⟨L,made,[]⟩ (by unfold small;simp only;omega)
 have hc:(L.countP fun e=>e.kind==3)≤L.length:=List.countP_le_length
 have hpl:=Aa9 c r f 4 5 r ⟨L,made,[]⟩
 have hnum:=Aa8 c r f made L [] hr hf hm
 have hput:=AaI L [gemE c r f made] (by omega) (by simp)
 change Is cx _ ⟨_,_,[.arr 9 ((put1 L (gemE c r f made)).map zm) none false]⟩ at hput
 unfold gemE at*
 generalize (L.countP fun e=>e.kind==3)=n at*
 generalize below 8 c.seed [3,f,r]=b at*
 generalize Stg.room ⟨L,made,[]⟩=rm at*
 generalize numI c r f made=nn at*
 have h1:b=0:=by
  by_cases q:b=0
  ·exact q
  ·exact absurd (Or.inl q) h
 have h2: ¬3≤n:=fun q=>h (.inr (.inl q))
 have h3:rm=true:=by
  cases rm with
  |true=>rfl
  |false=>exact absurd (Or.inr (Or.inr rfl)) h
 subst h1 h3
 clear h
 refine qq ?_
 refine gg [.n (zq (zz zm L)) (zq L),.a _ _,.a _ _,.b (0 !=0) false,.ff,.ff,.b (decide ((n:Int)≥3)) false,.ff,.a _ _,.b (flats [T.bool true]) true,.ff,.ff,.b (!true) false,.a _ _,.b (flats [ti (placeX c r f 4 r),ti (placeY c r f 5 r)]) true] ⟨o_n (by simp),o_a hl,o_a hb,bK,fP,o_a hrm,bK,bK,o_a hpl,bK,trivial⟩ ?_
 refine bO ?_ ?_
 all_goals
  refine gg [.a _ _,.a _ _] ⟨o_a hnum,o_a hput,trivial⟩ ?_
  exact ge
theorem Acx (c:Config) (r f made:Int) (L:List Entity) (o:List Cross) (hL:L.length≤1000) (hr:0≤r∧r≤16) (hf:0≤f∧f≤10000) (hm:0≤made∧made≤1000) (h: ¬(below 8 c.seed [3,f,r]≠0∨3≤(L.countP fun e=>e.kind==3)∨Stg.room ⟨L,made,o⟩=false)):
  Is cx (.call 33 [.ptr 0 0 0] [.one 10 (stepV c r f made (.all 1 none) (.all 2 none)) false,.arr 9 (L.map zm) none false,.arr 15 (o.map zn) none false])
   ⟨.ret,[],[.one 10 (stepV c r f (made+1) (.all 3 none) (.all 2 none)) false,.arr 9 (L.map zm) none true,.arr 15 (o.map zn) none false,.arr 9 ((put1 L (gemE c r f made)).map zm) none false]⟩:=by
 have hl:=Ac7 c r f made L o hL L.length 0 0 (by omega) (by omega)
 rw [List.drop_zero,Nat.zero_add] at hl
 have hb:=Aax 8 c.seed [3,f,r] (by decide) (by simp [small])
 have hrm:=Aas c r f ⟨L,made,o⟩ (by unfold small;simp only;omega)
 have hc:(L.countP fun e=>e.kind==3)≤L.length:=List.countP_le_length
 have hpl:=Aa9 c r f 4 5 r ⟨L,made,o⟩
 have hnum:=Adq c r f made L o hr hf hm
 have hput:=AaI L [gemE c r f made] (by omega) (by simp)
 change Is cx _ ⟨_,_,[.arr 9 ((put1 L (gemE c r f made)).map zm) none false]⟩ at hput
 unfold gemE at*
 generalize (L.countP fun e=>e.kind==3)=n at*
 generalize below 8 c.seed [3,f,r]=b at*
 generalize Stg.room ⟨L,made,o⟩=rm at*
 generalize numI c r f made=nn at*
 have h1:b=0:=by
  by_cases q:b=0
  ·exact q
  ·exact absurd (Or.inl q) h
 have h2: ¬3≤n:=fun q=>h (.inr (.inl q))
 have h3:rm=true:=by
  cases rm with
  |true=>rfl
  |false=>exact absurd (Or.inr (Or.inr rfl)) h
 subst h1 h3
 clear h
 refine qq ?_
 refine gg [.n (zq (zz zm L)) (zq L),.a _ _,.a _ _,.b (0 !=0) false,.ff,.ff,.b (decide ((n:Int)≥3)) false,.ff,.a _ _,.b (flats [T.bool true]) true,.ff,.ff,.b (!true) false,.a _ _,.b (flats [ti (placeX c r f 4 r),ti (placeY c r f 5 r)]) true] ⟨o_n (by simp),o_a hl,o_a hb,bK,fP,o_a hrm,bK,bK,o_a hpl,bK,trivial⟩ ?_
 refine bO ?_ ?_
 all_goals
  refine gg [.a _ _,.a _ _] ⟨o_a hnum,o_a hput,trivial⟩ ?_
  exact ge
theorem AdT (c:Config) (r f made:Int) (L:List Entity) (hL:L.length≤1000): ∀(d i:Nat) (A:List Entity) (o:List Cross),i+d=L.length→A.length≤i→o.length≤50000+i→
  Is cx (.loop 34 [0,1,0,1] 2 [.ptr 0 0 0,.all 2 none,.all 1 none,vi L.length,vi i] [.one 10 (stepV c r f made (.all 1 none) (.all 3 none)) false,.arr 9 (L.map zm) none false,.arr 9 (A.map zm) none false,.arr 15 (o.map zn) none false])
   ⟨.exit 0,[.ptr 0 0 0,.all 2 none,.all 1 none,vi L.length,vi L.length],[.one 10 (stepV c r f made (.all 1 none) (.all 3 none)) false,.arr 9 (L.map zm) none false,.arr 9 ((A++(L.drop i).filter fun e=>decide (c.of e.x e.y=r)).map zm) none false,.arr 15 ((o++((L.drop i).filter fun e=> !decide (c.of e.x e.y=r)).map (handE c r f)).map zn) none false]⟩:=by
 intro d
 induction d with
 |zero=>
  intro i A o hi hA ho
  rw [Aaf (by omega)]
  refine qq ?_
  refine gg [.b (decide ((i:Int)<(↑(zq L):Int))) false] ⟨fP,trivial⟩ ?_
  refine rT (a:=qz (qx 0) [V.ptr 0 0 0,qy 2 none,qy 1 none,vi (↑(zq L):Int),vi (i:Int)] [qg 10 (V.agg [vi c.cols,vi c.rows,vi c.players,vi c.window,V.t (T.int zf c.seed),vi r,vi f,qy 1 none,vi made,qy 3 none]) false,qv 9 (zz zm L) none false,qv 9 (zz zm A) none false,qv 15 (zz zn o) none false]) ?_
  ((have hq:i=L.length:=by omega);subst hq;simp)
 |succ d ih=>
  intro i A o hi hA ho
  have hlt:i<L.length:=by omega
  have hO:=Abr c (gt L i).x (gt L i).y
  rw [Aah hlt,List.filter_cons,List.filter_cons]
  by_cases h:c.of (gt L i).x (gt L i).y=r
  ·rw [if_pos (by simpa using h),if_neg (by simpa using h),List.append_cons]
   have ih1:=ih (i+1) (A++ [gt L i]) o (by omega) (by simp;omega) (by omega)
   clear ih
   refine qq ?_
   refine gg [.b (decide ((i:Int)<(↑(zq L):Int))) true,.w (0≤(i:Int)),.n (zy (i:Int)) i,.w (i<zq (zz zm L)),.g (zz zm L) i (zm (gt L i)),.a _ _,.b (Config.of c (gt L i).x (gt L i).y !=r) false,.w ((0:Nat)<(72:Nat)),.t (qk 0 [zm (gt L i)]) (qk 0 (zz zm [gt L i])),.t (qk 0 (zz zm A++zz zm [gt L i])) (qk 0 (zz zm (A++ [gt L i]))),.w (room (zq (zz zm (A++ [gt L i]))) (72:Nat)),.i zd ((i:Int)+1) ((↑(i+1):Int)),.a _ _] ⟨tP,oW,nK,o_w (by (simp [room,appendMax];omega)),o_gt rfl (by assumption) (by intro h;cases h),o_a hO,f_brn (by assumption),oW,o_l (AaL rfl Ab4),o_l (Aa6 rfl rfl),o_w (by (simp [room,appendMax];omega)),o_i (w64 (by (simp [room,appendMax];omega))),o_a ih1,trivial⟩ ?_
   exact ge
  ·rw [if_neg (by simpa using h),if_pos (by simpa using h),List.map_cons,List.append_cons]
   have ih1:=ih (i+1) A (o++ [handE c r f (gt L i)]) (by omega) (by omega) (by simp;omega)
   have hs:=Aa4 c r f made L o ⟨1,0,c.of (gt L i).x (gt L i).y,0,gt L i,0,0⟩ (by omega)
   clear ih
   unfold handE at ih1⊢
   refine qq ?_
   refine gg [.b (decide ((i:Int)<(↑(zq L):Int))) true,.w (0≤(i:Int)),.n (zy (i:Int)) i,.w (i<zq (zz zm L)),.g (zz zm L) i (zm (gt L i)),.a _ _,.b (Config.of c (gt L i).x (gt L i).y !=r) true,.a _ _,.i zd ((i:Int)+1) ((↑(i+1):Int)),.a _ _] ⟨tP,oW,nK,o_w (by (simp;omega)),o_gt rfl (by assumption) (by intro h;cases h),o_a hO,t_brn (by assumption),o_a hs,oI,o_a ih1,trivial⟩ ?_
   exact ge
theorem Aec (c:Config) (r f made:Int) (L:List Entity) (hL:L.length≤1000): ∀(d i:Nat) (A:List Entity) (o:List Cross),i+d=L.length→A.length≤i→o.length≤50000+i→
  Is cx (.loop 34 [0,1,0,1] 3 [.ptr 0 0 0,.all 3 none,.all 1 none,vi L.length,vi i] [.one 10 (stepV c r f made (.all 1 none) (.all 4 none)) false,.arr 9 (L.map zm) none false,.dead,.arr 9 (A.map zm) none false,.arr 15 (o.map zn) none false])
   ⟨.exit 0,[.ptr 0 0 0,.all 3 none,.all 1 none,vi L.length,vi L.length],[.one 10 (stepV c r f made (.all 1 none) (.all 4 none)) false,.arr 9 (L.map zm) none false,.dead,.arr 9 ((A++(L.drop i).filter fun e=>decide (c.of e.x e.y=r)).map zm) none false,.arr 15 ((o++((L.drop i).filter fun e=> !decide (c.of e.x e.y=r)).map (handE c r f)).map zn) none false]⟩:=by
 intro d
 induction d with
 |zero=>
  intro i A o hi hA ho
  rw [Aaf (by omega)]
  refine qq ?_
  refine gg [.b (decide ((i:Int)<(↑(zq L):Int))) false] ⟨fP,trivial⟩ ?_
  refine rT (a:=qz (qx 0) [V.ptr 0 0 0,qy 3 none,qy 1 none,vi (↑(zq L):Int),vi (i:Int)] [qg 10 (V.agg [vi c.cols,vi c.rows,vi c.players,vi c.window,V.t (T.int zf c.seed),vi r,vi f,qy 1 none,vi made,qy 4 none]) false,qv 9 (zz zm L) none false,Ob.dead,qv 9 (zz zm A) none false,qv 15 (zz zn o) none false]) ?_
  ((have hq:i=L.length:=by omega);subst hq;simp)
 |succ d ih=>
  intro i A o hi hA ho
  have hlt:i<L.length:=by omega
  have hO:=Abr c (gt L i).x (gt L i).y
  rw [Aah hlt,List.filter_cons,List.filter_cons]
  by_cases h:c.of (gt L i).x (gt L i).y=r
  ·rw [if_pos (by simpa using h),if_neg (by simpa using h),List.append_cons]
   have ih1:=ih (i+1) (A++ [gt L i]) o (by omega) (by simp;omega) (by omega)
   clear ih
   refine qq ?_
   refine gg [.b (decide ((i:Int)<(↑(zq L):Int))) true,.w (0≤(i:Int)),.n (zy (i:Int)) i,.w (i<zq (zz zm L)),.g (zz zm L) i (zm (gt L i)),.a _ _,.b (Config.of c (gt L i).x (gt L i).y !=r) false,.w ((0:Nat)<(72:Nat)),.t (qk 0 [zm (gt L i)]) (qk 0 (zz zm [gt L i])),.t (qk 0 (zz zm A++zz zm [gt L i])) (qk 0 (zz zm (A++ [gt L i]))),.w (room (zq (zz zm (A++ [gt L i]))) (72:Nat)),.i zd ((i:Int)+1) ((↑(i+1):Int)),.a _ _] ⟨tP,oW,nK,o_w (by (simp [room,appendMax];omega)),o_gt rfl (by assumption) (by intro h;cases h),o_a hO,f_brn (by assumption),oW,o_l (AaL rfl Ab4),o_l (Aa6 rfl rfl),o_w (by (simp [room,appendMax];omega)),o_i (w64 (by (simp [room,appendMax];omega))),o_a ih1,trivial⟩ ?_
   exact ge
  ·rw [if_neg (by simpa using h),if_pos (by simpa using h),List.map_cons,List.append_cons]
   have ih1:=ih (i+1) A (o++ [handE c r f (gt L i)]) (by omega) (by omega) (by simp;omega)
   have hs:=Aa4 c r f made L o ⟨1,0,c.of (gt L i).x (gt L i).y,0,gt L i,0,0⟩ (by omega)
   clear ih
   unfold handE at ih1⊢
   refine qq ?_
   refine gg [.b (decide ((i:Int)<(↑(zq L):Int))) true,.w (0≤(i:Int)),.n (zy (i:Int)) i,.w (i<zq (zz zm L)),.g (zz zm L) i (zm (gt L i)),.a _ _,.b (Config.of c (gt L i).x (gt L i).y !=r) true,.a _ _,.i zd ((i:Int)+1) ((↑(i+1):Int)),.a _ _] ⟨tP,oW,nK,o_w (by (simp;omega)),o_gt rfl (by assumption) (by intro h;cases h),o_a hO,t_brn (by assumption),o_a hs,oI,o_a ih1,trivial⟩ ?_
   exact ge
theorem AdL (c:Config) (r f made:Int) (L:List Entity) (hL:L.length≤1000): ∀(d i:Nat) (A:List Entity),i+d=L.length→A.length≤i→
  Is cx (.loop 34 [0,1,0,1] 2 [.ptr 0 0 0,.all 2 none,.all 1 none,vi L.length,vi i] [.one 10 (stepV c r f made (.all 1 none) (.fit 15 [])) false,.arr 9 (L.map zm) none false,.arr 9 (A.map zm) none false])
   (if ((L.drop i).filter fun e=> !decide (c.of e.x e.y=r))= [] then
    ⟨.exit 0,[.ptr 0 0 0,.all 2 none,.all 1 none,vi L.length,vi L.length],[.one 10 (stepV c r f made (.all 1 none) (.fit 15 [])) false,.arr 9 (L.map zm) none false,.arr 9 ((A++(L.drop i).filter fun e=>decide (c.of e.x e.y=r)).map zm) none false]⟩
   else ⟨.exit 0,[.ptr 0 0 0,.all 2 none,.all 1 none,vi L.length,vi L.length],[.one 10 (stepV c r f made (.all 1 none) (.all 3 none)) false,.arr 9 (L.map zm) none false,.arr 9 ((A++(L.drop i).filter fun e=>decide (c.of e.x e.y=r)).map zm) none false,.arr 15 ((((L.drop i).filter fun e=> !decide (c.of e.x e.y=r)).map (handE c r f)).map zn) none false]⟩):=by
 intro d
 induction d with
 |zero=>
  intro i A hi hA
  rw [Aaf (by omega),List.filter_nil,List.filter_nil,if_pos rfl]
  refine qq ?_
  refine gg [.b (decide ((i:Int)<(↑(zq L):Int))) false] ⟨fP,trivial⟩ ?_
  refine rT (a:=qz (qx 0) [V.ptr 0 0 0,qy 2 none,qy 1 none,vi (↑(zq L):Int),vi (i:Int)] [qg 10 (V.agg [vi c.cols,vi c.rows,vi c.players,vi c.window,V.t (T.int zf c.seed),vi r,vi f,qy 1 none,vi made,V.fit 15 []]) false,qv 9 (zz zm L) none false,qv 9 (zz zm A) none false]) ?_
  ((have hq:i=L.length:=by omega);subst hq;simp)
 |succ d ih=>
  intro i A hi hA
  have hlt:i<L.length:=by omega
  have hO:=Abr c (gt L i).x (gt L i).y
  rw [Aah hlt,List.filter_cons,List.filter_cons]
  by_cases h:c.of (gt L i).x (gt L i).y=r
  ·rw [if_pos (c:=decide (c.of (gt L i).x (gt L i).y=r)=true) (by simpa using h),if_neg (c:=(!decide (c.of (gt L i).x (gt L i).y=r))=true) (by simpa using h),List.append_cons]
   have ih1:=ih (i+1) (A++ [gt L i]) (by omega) (by simp;omega)
   clear ih
   split at ih1
   ·rename_i hq
    rw [if_pos hq]
    refine qq ?_
    refine gg [.b (decide ((i:Int)<(↑(zq L):Int))) true,.w (0≤(i:Int)),.n (zy (i:Int)) i,.w (i<zq (zz zm L)),.g (zz zm L) i (zm (gt L i)),.a _ _,.b (Config.of c (gt L i).x (gt L i).y !=r) false,.w ((0:Nat)<(72:Nat)),.t (qk 0 [zm (gt L i)]) (qk 0 (zz zm [gt L i])),.t (qk 0 (zz zm A++zz zm [gt L i])) (qk 0 (zz zm (A++ [gt L i]))),.w (room (zq (zz zm (A++ [gt L i]))) (72:Nat)),.i zd ((i:Int)+1) ((↑(i+1):Int)),.a _ _] ⟨tP,oW,nK,o_w (by (simp [room,appendMax];omega)),o_gt rfl (by assumption) (by intro h;cases h),o_a hO,f_brn (by assumption),oW,o_l (AaL rfl Ab4),o_l (Aa6 rfl rfl),o_w (by (simp [room,appendMax];omega)),o_i (w64 (by (simp [room,appendMax];omega))),o_a ih1,trivial⟩ ?_
    exact ge
   ·rename_i hq
    rw [if_neg hq]
    refine qq ?_
    refine gg [.b (decide ((i:Int)<(↑(zq L):Int))) true,.w (0≤(i:Int)),.n (zy (i:Int)) i,.w (i<zq (zz zm L)),.g (zz zm L) i (zm (gt L i)),.a _ _,.b (Config.of c (gt L i).x (gt L i).y !=r) false,.w ((0:Nat)<(72:Nat)),.t (qk 0 [zm (gt L i)]) (qk 0 (zz zm [gt L i])),.t (qk 0 (zz zm A++zz zm [gt L i])) (qk 0 (zz zm (A++ [gt L i]))),.w (room (zq (zz zm (A++ [gt L i]))) (72:Nat)),.i zd ((i:Int)+1) ((↑(i+1):Int)),.a _ _] ⟨tP,oW,nK,o_w (by (simp [room,appendMax];omega)),o_gt rfl (by assumption) (by intro h;cases h),o_a hO,f_brn (by assumption),oW,o_l (AaL rfl Ab4),o_l (Aa6 rfl rfl),o_w (by (simp [room,appendMax];omega)),o_i (w64 (by (simp [room,appendMax];omega))),o_a ih1,trivial⟩ ?_
    exact ge
  ·rw [if_neg (c:=decide (c.of (gt L i).x (gt L i).y=r)=true) (by simpa using h),if_pos (c:=(!decide (c.of (gt L i).x (gt L i).y=r))=true) (by simpa using h),if_neg (by simp),List.map_cons]
   have ih1:=AdT c r f made L hL d (i+1) A [handE c r f (gt L i)] (by omega) (by omega) (by simp;omega)
   have hs:=AbH c r f made L ⟨1,0,c.of (gt L i).x (gt L i).y,0,gt L i,0,0⟩
   clear ih
   unfold handE at ih1⊢
   refine qq ?_
   refine gg [.b (decide ((i:Int)<(↑(zq L):Int))) true,.w (0≤(i:Int)),.n (zy (i:Int)) i,.w (i<zq (zz zm L)),.g (zz zm L) i (zm (gt L i)),.a _ _,.b (Config.of c (gt L i).x (gt L i).y !=r) true,.a _ _,.i zd ((i:Int)+1) ((↑(i+1):Int)),.a _ _] ⟨tP,oW,nK,o_w (by (simp;omega)),o_gt rfl (by assumption) (by intro h;cases h),o_a hO,t_brn (by assumption),o_a hs,oI,o_a ih1,trivial⟩ ?_
   exact ge
theorem Aek (c:Config) (r f made:Int) (L:List Entity) (hL:L.length≤1000) (o:List Cross) (ho:o.length≤50000): ∀(d i:Nat) (A:List Entity),i+d=L.length→A.length≤i→
  Is cx (.loop 34 [0,1,0,1] 3 [.ptr 0 0 0,.all 3 none,.all 1 none,vi L.length,vi i] [.one 10 (stepV c r f made (.all 1 none) (.all 2 none)) false,.arr 9 (L.map zm) none false,.arr 15 (o.map zn) none false,.arr 9 (A.map zm) none false])
   (if ((L.drop i).filter fun e=> !decide (c.of e.x e.y=r))= [] then
    ⟨.exit 0,[.ptr 0 0 0,.all 3 none,.all 1 none,vi L.length,vi L.length],[.one 10 (stepV c r f made (.all 1 none) (.all 2 none)) false,.arr 9 (L.map zm) none false,.arr 15 (o.map zn) none false,.arr 9 ((A++(L.drop i).filter fun e=>decide (c.of e.x e.y=r)).map zm) none false]⟩
   else ⟨.exit 0,[.ptr 0 0 0,.all 3 none,.all 1 none,vi L.length,vi L.length],[.one 10 (stepV c r f made (.all 1 none) (.all 4 none)) false,.arr 9 (L.map zm) none false,.dead,.arr 9 ((A++(L.drop i).filter fun e=>decide (c.of e.x e.y=r)).map zm) none false,.arr 15 ((o++((L.drop i).filter fun e=> !decide (c.of e.x e.y=r)).map (handE c r f)).map zn) none false]⟩):=by
 intro d
 induction d with
 |zero=>
  intro i A hi hA
  rw [Aaf (by omega),List.filter_nil,List.filter_nil,if_pos rfl]
  refine qq ?_
  refine gg [.b (decide ((i:Int)<(↑(zq L):Int))) false] ⟨fP,trivial⟩ ?_
  refine rT (a:=qz (qx 0) [V.ptr 0 0 0,qy 3 none,qy 1 none,vi (↑(zq L):Int),vi (i:Int)] [qg 10 (V.agg [vi c.cols,vi c.rows,vi c.players,vi c.window,V.t (T.int zf c.seed),vi r,vi f,qy 1 none,vi made,qy 2 none]) false,qv 9 (zz zm L) none false,qv 15 (zz zn o) none false,qv 9 (zz zm A) none false]) ?_
  ((have hq:i=L.length:=by omega);subst hq;simp)
 |succ d ih=>
  intro i A hi hA
  have hlt:i<L.length:=by omega
  have hO:=Abr c (gt L i).x (gt L i).y
  rw [Aah hlt,List.filter_cons,List.filter_cons]
  by_cases h:c.of (gt L i).x (gt L i).y=r
  ·rw [if_pos (c:=decide (c.of (gt L i).x (gt L i).y=r)=true) (by simpa using h),if_neg (c:=(!decide (c.of (gt L i).x (gt L i).y=r))=true) (by simpa using h),List.append_cons]
   have ih1:=ih (i+1) (A++ [gt L i]) (by omega) (by simp;omega)
   clear ih
   split at ih1
   ·rename_i hq
    rw [if_pos hq]
    refine qq ?_
    refine gg [.b (decide ((i:Int)<(↑(zq L):Int))) true,.w (0≤(i:Int)),.n (zy (i:Int)) i,.w (i<zq (zz zm L)),.g (zz zm L) i (zm (gt L i)),.a _ _,.b (Config.of c (gt L i).x (gt L i).y !=r) false,.w ((0:Nat)<(72:Nat)),.t (qk 0 [zm (gt L i)]) (qk 0 (zz zm [gt L i])),.t (qk 0 (zz zm A++zz zm [gt L i])) (qk 0 (zz zm (A++ [gt L i]))),.w (room (zq (zz zm (A++ [gt L i]))) (72:Nat)),.i zd ((i:Int)+1) ((↑(i+1):Int)),.a _ _] ⟨tP,oW,nK,o_w (by (simp [room,appendMax];omega)),o_gt rfl (by assumption) (by intro h;cases h),o_a hO,f_brn (by assumption),oW,o_l (AaL rfl Ab4),o_l (Aa6 rfl rfl),o_w (by (simp [room,appendMax];omega)),o_i (w64 (by (simp [room,appendMax];omega))),o_a ih1,trivial⟩ ?_
    exact ge
   ·rename_i hq
    rw [if_neg hq]
    refine qq ?_
    refine gg [.b (decide ((i:Int)<(↑(zq L):Int))) true,.w (0≤(i:Int)),.n (zy (i:Int)) i,.w (i<zq (zz zm L)),.g (zz zm L) i (zm (gt L i)),.a _ _,.b (Config.of c (gt L i).x (gt L i).y !=r) false,.w ((0:Nat)<(72:Nat)),.t (qk 0 [zm (gt L i)]) (qk 0 (zz zm [gt L i])),.t (qk 0 (zz zm A++zz zm [gt L i])) (qk 0 (zz zm (A++ [gt L i]))),.w (room (zq (zz zm (A++ [gt L i]))) (72:Nat)),.i zd ((i:Int)+1) ((↑(i+1):Int)),.a _ _] ⟨tP,oW,nK,o_w (by (simp [room,appendMax];omega)),o_gt rfl (by assumption) (by intro h;cases h),o_a hO,f_brn (by assumption),oW,o_l (AaL rfl Ab4),o_l (Aa6 rfl rfl),o_w (by (simp [room,appendMax];omega)),o_i (w64 (by (simp [room,appendMax];omega))),o_a ih1,trivial⟩ ?_
    exact ge
  ·rw [if_neg (c:=decide (c.of (gt L i).x (gt L i).y=r)=true) (by simpa using h),if_pos (c:=(!decide (c.of (gt L i).x (gt L i).y=r))=true) (by simpa using h),if_neg (by simp),List.map_cons,List.append_cons]
   have ih1:=Aec c r f made L hL d (i+1) A (o++ [handE c r f (gt L i)]) (by omega) (by omega) (by simp;omega)
   have hs:=Aa4 c r f made L o ⟨1,0,c.of (gt L i).x (gt L i).y,0,gt L i,0,0⟩ (by omega)
   clear ih
   unfold handE at ih1⊢
   refine qq ?_
   refine gg [.b (decide ((i:Int)<(↑(zq L):Int))) true,.w (0≤(i:Int)),.n (zy (i:Int)) i,.w (i<zq (zz zm L)),.g (zz zm L) i (zm (gt L i)),.a _ _,.b (Config.of c (gt L i).x (gt L i).y !=r) true,.a _ _,.i zd ((i:Int)+1) ((↑(i+1):Int)),.a _ _] ⟨tP,oW,nK,o_w (by (simp;omega)),o_gt rfl (by assumption) (by intro h;cases h),o_a hO,t_brn (by assumption),o_a hs,oI,o_a ih1,trivial⟩ ?_
   exact ge
theorem Ab9 (c:Config) (r f made:Int) (L:List Entity) (hL:L.length≤1000):
  Is cx (.call 34 [.ptr 0 0 0] [.one 10 (stepV c r f made (.all 1 none) (.fit 15 [])) false,.arr 9 (L.map zm) none false])
   (if (leaveS c r f ⟨L,made,[]⟩).out= [] then ⟨.ret,[],[.one 10 (stepV c r f made (.all 2 none) (.fit 15 [])) false,.arr 9 (L.map zm) none false,.arr 9 ((leaveS c r f ⟨L,made,[]⟩).l.map zm) none false]⟩
    else ⟨.ret,[],[.one 10 (stepV c r f made (.all 2 none) (.all 3 none)) false,.arr 9 (L.map zm) none false,.arr 9 ((leaveS c r f ⟨L,made,[]⟩).l.map zm) none false,.arr 15 ((leaveS c r f ⟨L,made,[]⟩).out.map zn) none false]⟩):=by
 have h:=AdL c r f made L hL L.length 0 [] (by omega) (by simp)
 simp only [List.drop_zero,List.nil_append] at h
 unfold leaveS
 simp only [List.nil_append,List.map_eq_nil_iff]
 generalize (L.filter fun e=>decide (c.of e.x e.y=r))=X at*
 generalize (L.filter fun e=> !decide (c.of e.x e.y=r))=Y at*
 generalize Y.map (handE c r f)=Z at*
 split at h
 ·rename_i hq
  rw [if_pos hq]
  refine qq ?_
  refine gg [.n (zq (zz zm L)) (zq L),.a _ _] ⟨o_n (by simp),o_a h,trivial⟩ ?_
  exact ge
 ·rename_i hq
  rw [if_neg hq]
  refine qq ?_
  refine gg [.n (zq (zz zm L)) (zq L),.a _ _] ⟨o_n (by simp),o_a h,trivial⟩ ?_
  exact ge
theorem Ab5 (c:Config) (r f made:Int) (L:List Entity) (o:List Cross) (hL:L.length≤1000) (ho:o.length≤50000):
  Is cx (.call 34 [.ptr 0 0 0] [.one 10 (stepV c r f made (.all 1 none) (.all 2 none)) false,.arr 9 (L.map zm) none false,.arr 15 (o.map zn) none false])
   (if (L.filter fun e=> !decide (c.of e.x e.y=r))= [] then ⟨.ret,[],[.one 10 (stepV c r f made (.all 3 none) (.all 2 none)) false,.arr 9 (L.map zm) none false,.arr 15 (o.map zn) none false,.arr 9 ((leaveS c r f ⟨L,made,o⟩).l.map zm) none false]⟩
    else ⟨.ret,[],[.one 10 (stepV c r f made (.all 3 none) (.all 4 none)) false,.arr 9 (L.map zm) none false,.dead,.arr 9 ((leaveS c r f ⟨L,made,o⟩).l.map zm) none false,.arr 15 ((leaveS c r f ⟨L,made,o⟩).out.map zn) none false]⟩):=by
 have h:=Aek c r f made L hL o ho L.length 0 [] (by omega) (by simp)
 simp only [List.drop_zero,List.nil_append] at h
 unfold leaveS
 simp only
 generalize (L.filter fun e=>decide (c.of e.x e.y=r))=X at*
 generalize (L.filter fun e=> !decide (c.of e.x e.y=r))=Y at*
 generalize o++Y.map (handE c r f)=Z at*
 split at h
 ·rename_i hq
  rw [if_pos hq]
  refine qq ?_
  refine gg [.n (zq (zz zm L)) (zq L),.a _ _] ⟨o_n (by simp),o_a h,trivial⟩ ?_
  exact ge
 ·rename_i hq
  rw [if_neg hq]
  refine qq ?_
  refine gg [.n (zq (zz zm L)) (zq L),.a _ _] ⟨o_n (by simp),o_a h,trivial⟩ ?_
  exact ge
end Go.Eva.S2
namespace Go.Eva.S2
theorem AbD (a b n:Nat) (h1:a+n≤b): ∀(d i:Nat) (A:List Cross),i+d=n→b+n≤A.length→small A→
  Is cx (.loop 115 [0,1] 1 [.all 0 none,vi a,vi b,vi n,vi i] [.arr 15 (A.map zn) none false])
   ⟨.exit 0,[.all 0 none,vi a,vi b,vi n,vi n],[.arr 15 ((swR d A (a+i) (b+i)).map zn) none false]⟩:=by
 intro d
 induction d with
 |zero=>
  intro i A hi h2 hn
  unfold small at hn
  refine qq ?_
  refine gg [.b (decide ((i:Int)<(n:Int))) false] ⟨fP,trivial⟩ ?_
  refine rT (a:=qz (qx 0) [qy 0 none,vi (a:Int),vi (b:Int),vi (n:Int),vi (i:Int)] [qv 15 (zz zn A) none false]) ?_
  ((have hq:i=n:=by omega);subst hq;rfl)
 |succ d ih=>
  intro i A hi h2 hn
  have ih1:=ih (i+1) (sw A (a+i) (b+i)) (by omega) (by rw [Ab7];omega) (by unfold small;rw [Ab7];exact hn)
  unfold small at hn
  clear ih
  unfold sw at ih1
  refine qq ?_
  refine gg [.b (decide ((i:Int)<(n:Int))) true,.i zd ((a:Int)+(i:Int)) ((↑(a+i):Int)),.i zd ((b:Int)+(i:Int)) ((↑(b+i):Int)),.i zd ((b:Int)+(i:Int)) ((↑(b+i):Int)),.w (0≤(↑(b+i):Int)),.n (zy (↑(b+i):Int)) (b+i),.w (b+i<zq (zz zn A)),.i zd ((a:Int)+(i:Int)) ((↑(a+i):Int)),.w (0≤(↑(a+i):Int)),.n (zy (↑(a+i):Int)) (a+i),.w (a+i<zq (zz zn A)),.g (zz zn A) (b+i) (zn (gt A (b+i))),.g (zz zn A) (a+i) (zn (gt A (a+i))),.w (0≤(↑(a+i):Int)),.n (zy (↑(a+i):Int)) (a+i),.w (a+i<zq (zz zn A))] ⟨tP,oI,oI,oI,oW,nK,o_w (by (simp;omega)),oI,oW,nK,o_w (by (simp;omega)),oT,oT,oW,nK,o_w (by (simp;omega)),trivial⟩ ?_
  refine gg [.w (a+i<zq (zz zn A)),.t (qk 0 (zx (zz zn A) (a+i) (zn (gt A (b+i))))) (qk 0 (zz zn (zx A (a+i) (gt A (b+i))))),.w (0≤(↑(b+i):Int)),.n (zy (↑(b+i):Int)) (b+i),.w (b+i<zq (zz zn (zx A (a+i) (gt A (b+i))))),.w (b+i<zq (zz zn (zx A (a+i) (gt A (b+i))))),.t (qk 0 (zx (zz zn (zx A (a+i) (gt A (b+i)))) (b+i) (zn (gt A (a+i))))) (qk 0 (zz zn (zx (zx A (a+i) (gt A (b+i))) (b+i) (gt A (a+i))))),.i zd ((i:Int)+1) ((↑(i+1):Int)),.a _ _] ⟨o_w (by (simp;omega)),o_l (Aap rfl rfl),oW,nK,o_w (by (simp;omega)),o_w (by (simp;omega)),o_l (Aap rfl rfl),oI,o_a ih1,trivial⟩ ?_
  refine rT (a:=qz (qx 0) [qy 0 none,vi (a:Int),vi (b:Int),vi (n:Int),vi (n:Int)] [qv 15 (zz zn (swR d (zx (zx A (a+i) (gt A (b+i))) (b+i) (gt A (a+i))) (a+(i+1)) (b+(i+1)))) none false]) ?_
  (simp_all [swR,sw,Nat.add_assoc];try omega)
theorem Aa7 (A:List Cross) (a b n:Nat) (h1:a+n≤b) (h2:b+n≤A.length) (hn:small A):Is cx (.call 115 [.all 0 none,vi a,vi b,vi n,.t (.clo 80 [])] [.arr 15 (A.map zn) none false])
  ⟨.ret,[],[.arr 15 ((swR n A a b).map zn) none false]⟩:=by
 have h:=AbD a b n h1 n 0 A (by omega) h2 hn
 rw [Nat.add_zero,Nat.add_zero] at h
 unfold small at hn
 refine qq ?_
 refine gg [.a _ _] ⟨o_a h,trivial⟩ ?_
 exact ge
theorem Abw (a b i:Nat): ∀(j:Nat) (A:List Cross),a≤j→j<A.length→small A→ ∃k:Nat,
  Is cx (.loop 110 [0,1,0,0,1,0,0,1] 1 [.all 0 none,vi a,vi b,.t (.clo 80 []),vi i,vi j] [.arr 15 (A.map zn) none false])
   ⟨.exit 2,[.all 0 none,vi a,vi b,.t (.clo 80 []),vi i,vi k],[.arr 15 ((insIn z7 a j A).map zn) none false]⟩:=by
 intro j
 induction j with
 |zero=>
  intro A h1 h2 hn
  unfold small at hn
  refine ⟨0,?_⟩
  refine qq ?_
  refine gg [.b (decide (0>(a:Int))) false,.ff,.ff,.ff,.ff,.ff,.ff,.ff,.ff,.ff,.ff,.ff,.ff,.ff] ⟨bK,trivial⟩ ?_
  exact ge
 |succ j ih=>
  intro A h1 h2 hn
  by_cases hj:a<j+1
  ·cases hl:z7 (gt A (j+1)) (gt A j) with
   |true=>
    obtain ⟨k,ih1⟩:=ih (sw A (j+1) j) (by omega) (by rw [Ab7];omega) (by unfold small;rw [Ab7];exact hn)
    unfold small at hn
    clear ih
    refine ⟨k,?_⟩
    have e:insIn z7 a (j+1) A=insIn z7 a j (sw A (j+1) j):=by rw [insIn,if_pos hj,hl]
    rw [e]
    unfold sw at*
    have ej:((j+1:Nat):Int)-1=(j:Nat):=by omega
    have hl:(gt A (j+1)).cmp (gt A j)<0:=by simpa [z7] using hl
    refine qq ?_
    refine gg [.b (decide ((↑(j+1):Int)>(a:Int))) true,.tt,.tt,.tt,.w (0≤(↑(j+(1:Nat)):Int)),.n (zy (↑(j+1):Int)) (j+1),.w (j+(1:Nat)<zq (zz zn A)),.tt,.tt,.tt,.i zd ((↑(j+1):Int)-1) (j:Int),.tt,.w (0≤(j:Int)),.n (zy (j:Int)) j,.w (j<zq (zz zn A)),.tt] ⟨tP,oW,nK,o_w (by (simp;omega)),oI,oW,nK,o_w (by (simp;omega)),trivial⟩ ?_
    refine gg [.g (zz zn A) (j+1) (zn (gt A (j+1))),.tt,.g (zz zn A) j (zn (gt A j)),.tt,.w (isFnB cx (80:Nat)=true),.a _ _,.tt,.tt,.b (decide (Cross.cmp (gt A (j+1)) (gt A j)<0)) true,.i zd ((↑(j+1):Int)-1) (j:Int),.i zd ((↑(j+1):Int)-1) (j:Int),.w (0≤(j:Int)),.n (zy (j:Int)) j,.w (j<zq (zz zn A)),.w (0≤(↑(j+(1:Nat)):Int)),.n (zy (↑(j+1):Int)) (j+1)] ⟨o_gt rfl (by assumption) (by intro h;cases h),oT,o_w (by kernel_rfl),o_a (Aam (gt A (j+1)) (gt A j)),t_brp (by assumption),oI,oI,oW,nK,o_w (by (simp;omega)),oW,nK,trivial⟩ ?_
    refine gg [.w (j+(1:Nat)<zq (zz zn A)),.g (zz zn A) j (zn (gt A j)),.g (zz zn A) (j+1) (zn (gt A (j+1))),.w (0≤(↑(j+(1:Nat)):Int)),.n (zy (↑(j+1):Int)) (j+1),.w (j+(1:Nat)<zq (zz zn A)),.w (j+(1:Nat)<zq (zz zn A)),.t (qk 0 (zx (zz zn A) (j+1) (zn (gt A j)))) (qk 0 (zz zn (zx A (j+1) (gt A j)))),.w (0≤(j:Int)),.n (zy (j:Int)) j,.w (j<zq (zz zn (zx A (j+(1:Nat)) (gt A j)))),.w (j<zq (zz zn (zx A (j+(1:Nat)) (gt A j)))),.t (qk 0 (zx (zz zn (zx A (j+1) (gt A j))) j (zn (gt A (j+1))))) (qk 0 (zz zn (zx (zx A (j+1) (gt A j)) j (gt A (j+1))))),.i zd ((↑(j+1):Int)-1) (j:Int),.a _ _] ⟨o_w (by (simp;omega)),oT,o_gt rfl (by assumption) (by intro h;cases h),oW,nK,o_w (by (simp;omega)),o_w (by (simp;omega)),o_l (Aap rfl rfl),oW,nK,o_w (by (simp;omega)),o_w (by (simp;omega)),o_l (Aap rfl rfl),oI,o_a ih1,trivial⟩ ?_
    refine rT (a:=qz (qx 2) [qy 0 none,vi (a:Int),vi (b:Int),V.t (T.clo 80 []),vi (i:Int),vi (k:Int)] [qv 15 (zz zn (insIn z7 a j (zx (zx A (j+1) (gt A j)) j (gt A (j+1))))) none false]) ?_
    simp_all
   |false=>
    unfold small at hn
    clear ih
    refine ⟨j+1,?_⟩
    have e:insIn z7 a (j+1) A=A:=by rw [insIn,if_pos hj,hl]
    rw [e]
    have hl: ¬(gt A (j+1)).cmp (gt A j)<0:=by simpa [z7] using hl
    refine qq ?_
    refine gg [.b (decide ((↑(j+1):Int)>(a:Int))) true,.tt,.tt,.tt,.w (0≤(↑(j+(1:Nat)):Int)),.n (zy (↑(j+1):Int)) (j+1),.w (j+(1:Nat)<zq (zz zn A)),.tt,.tt,.tt,.i zd ((↑(j+1):Int)-1) ((↑(j+1):Int)-1),.tt,.w (0≤(↑(j+(1:Nat)):Int)-(1:Int)),.n (zy ((↑(j+1):Int)-1)) j,.w (j<zq (zz zn A)),.tt] ⟨tP,oW,nK,o_w (by (simp;omega)),oI,oW,oN,o_w (by (simp;omega)),trivial⟩ ?_
    refine gg [.g (zz zn A) (j+1) (zn (gt A (j+1))),.tt,.g (zz zn A) j (zn (gt A j)),.tt,.w (isFnB cx (80:Nat)=true),.a _ _,.tt,.tt,.b (decide (Cross.cmp (gt A (j+1)) (gt A j)<0)) false] ⟨o_gt rfl (by assumption) (by intro h;cases h),oT,o_w (by kernel_rfl),o_a (Aam (gt A (j+1)) (gt A j)),f_brp (by assumption),trivial⟩ ?_
    refine rT (a:=qz (qx 2) [qy 0 none,vi (a:Int),vi (b:Int),V.t (T.clo 80 []),vi (i:Int),vi (↑(j+1):Int)] [qv 15 (zz zn A) none false]) ?_
    simp_all
  ·unfold small at hn
   clear ih
   refine ⟨j+1,?_⟩
   have e:insIn z7 a (j+1) A=A:=by rw [insIn,if_neg hj]
   rw [e]
   refine qq ?_
   refine gg [.b (decide ((↑(j+1):Int)>(a:Int))) false,.ff,.ff,.ff,.ff,.ff,.ff,.ff,.ff,.ff,.ff,.ff,.ff,.ff] ⟨fP,trivial⟩ ?_
   refine rT (a:=qz (qx 2) [qy 0 none,vi (a:Int),vi (b:Int),V.t (T.clo 80 []),vi (i:Int),vi (↑(j+1):Int)] [qv 15 (zz zn A) none false]) ?_
   simp_all
theorem Aby (a b:Nat): ∀(d i:Nat) (A:List Cross),i+d=b→a≤i→b≤A.length→small A→ ∃k:Nat,
  Is cx (.loop 110 [0,1] 1 [.all 0 none,vi a,vi b,.t (.clo 80 []),vi i] [.arr 15 (A.map zn) none false])
   ⟨.exit 0,[.all 0 none,vi a,vi b,.t (.clo 80 []),vi k],[.arr 15 ((insOut z7 a d i A).map zn) none false]⟩:=by
 intro d
 induction d with
 |zero=>
  intro i A hi h1 h2 hn
  unfold small at hn
  refine ⟨i,?_⟩
  refine qq ?_
  refine gg [.b (decide ((i:Int)<(b:Int))) false] ⟨fP,trivial⟩ ?_
  exact ge
 |succ d ih=>
  intro i A hi h1 h2 hn
  obtain ⟨k0,h0⟩:=Abw a b i i A h1 (by omega) hn
  obtain ⟨k,ih1⟩:=ih (i+1) (insIn z7 a i A) (by omega) (by omega) (by rw [AcJ];omega) (by unfold small;rw [AcJ];exact hn)
  unfold small at hn
  clear ih
  refine ⟨k,?_⟩
  have hlen:(insIn z7 a i A).length=A.length:=AcJ ..
  rw [insOut]
  refine qq ?_
  refine gg [.b (decide ((i:Int)<(b:Int))) true,.a _ _,.i zd ((i:Int)+1) ((↑(i+1):Int)),.a _ _] ⟨tP,o_a h0,oI,o_a ih1,trivial⟩ ?_
  exact ge
theorem AaH (A:List Cross) (a b:Nat) (h1:a≤b) (h2:b≤A.length) (hn:small A):Is cx (.call 110 [.all 0 none,vi a,vi b,.t (.clo 80 [])] [.arr 15 (A.map zn) none false])
  ⟨.ret,[],[.arr 15 ((srt z7 A a b).map zn) none false]⟩:=by
 by_cases hab:a<b
 ·rw [←Ahh Aag hab h2]
  obtain ⟨k,h⟩:=Aby a b (b-a-1) (a+1) A (by omega) (by omega) h2 hn
  unfold small at hn
  refine qq ?_
  refine gg [.i zd ((a:Int)+1) ((↑(a+1):Int)),.a _ _] ⟨oI,o_a h,trivial⟩ ?_
  exact ge
 ·obtain rfl:a=b:=by omega
  rw [Ah0 Aag (by omega) (by omega)]
  unfold small at hn
  have h:Is cx (.loop 110 [0,1] 1 [.all 0 none,vi a,vi a,.t (.clo 80 []),vi (a+1:Nat)] [.arr 15 (A.map zn) none false])
   ⟨.exit 0,[.all 0 none,vi a,vi a,.t (.clo 80 []),vi (a+1:Nat)],[.arr 15 (A.map zn) none false]⟩:=by
   refine qq ?_
   refine gg [.b (decide ((↑(a+1):Int)<(a:Int))) false] ⟨fP,trivial⟩ ?_
   exact ge
  refine qq ?_
  refine gg [.i zd ((a:Int)+1) ((↑(a+1):Int)),.a _ _] ⟨oI,o_a h,trivial⟩ ?_
  exact ge
theorem Ac0 (m:Nat): ∀(d i j:Nat) (A:List Cross),i+j≤d→0<i→0<j→i≤m→m+j≤A.length→small A→ ∃(k:Nat) (B:List Cross),
  Is cx (.loop 114 [0,0,1,1] 1 [.all 0 none,vi m,.t (.clo 80 []),vi i,vi j] [.arr 15 (A.map zn) none false])
   ⟨.exit 0,[.all 0 none,vi m,.t (.clo 80 []),vi k,vi k],[.arr 15 (B.map zn) none false]⟩∧k≤m∧m+k≤A.length∧B.length=A.length∧swR k B (m-k) m=rotL d A m i j:=by
 intro d
 induction d with
 |zero=>intros;omega
 |succ d ih=>
  intro i j A hd h1 h2 h3 h4 hn
  by_cases hij:i=j
  ·subst hij
   refine ⟨i,A,?_,h3,h4,rfl,by rw [rotL,if_pos rfl]⟩
   unfold small at hn
   refine qq ?_
   refine gg [.b ((i:Int) !=(i:Int)) false] ⟨f_brn rfl,trivial⟩ ?_
   exact ge
  ·by_cases hj:j<i
   ·obtain ⟨k,B,ih1,k1,k2,k3,k4⟩:=ih (i-j) j (swR j A (m-i) m) (by omega) (by omega) h2 (by omega) (by rw [Abi];omega) (by unfold small;rw [Abi];exact hn)
    rw [Abi] at k2 k3
    refine ⟨k,B,?_,k1,k2,k3,by rw [rotL,if_neg hij,if_pos hj,k4]⟩
    have h0:=Aa7 A (m-i) m j (by omega) (by omega) hn
    have hlen:(swR j A (m-i) m).length=A.length:=Abi ..
    unfold small at hn
    clear ih
    have e1:(m:Int)-i=(m-i:Nat):=by omega
    have e2:(i:Int)-j=(i-j:Nat):=by omega
    refine qq ?_
    refine gg [.b ((i:Int) !=(j:Int)) true,.b (decide ((i:Int)>(j:Int))) true,.i zd ((m:Int)-(i:Int)) ((↑(m-i):Int)),.a _ _,.i zd ((i:Int)-(j:Int)) ((↑(i-j):Int)),.a _ _] ⟨tN,tP,oI,o_a h0,oI,o_a ih1,trivial⟩ ?_
    exact ge
   ·obtain ⟨k,B,ih1,k1,k2,k3,k4⟩:=ih i (j-i) (swR i A (m-i) (m+j-i)) (by omega) h1 (by omega) h3 (by rw [Abi];omega) (by unfold small;rw [Abi];exact hn)
    rw [Abi] at k2 k3
    refine ⟨k,B,?_,k1,k2,k3,by rw [rotL,if_neg hij,if_neg hj,k4]⟩
    have h0:=Aa7 A (m-i) (m+j-i) i (by omega) (by omega) hn
    have hlen:(swR i A (m-i) (m+j-i)).length=A.length:=Abi ..
    unfold small at hn
    clear ih
    have e1:(m:Int)-i=(m-i:Nat):=by omega
    have e2:(j:Int)-i=(j-i:Nat):=by omega
    have e3:(m+j:Nat)-(i:Int)=(m+j-i:Nat):=by omega
    refine qq ?_
    refine gg [.b ((i:Int) !=(j:Int)) true,.b (decide ((i:Int)>(j:Int))) false,.i zd ((m:Int)-(i:Int)) ((↑(m-i):Int)),.i zd ((m:Int)+(j:Int)) ((↑(m+j):Int)),.i zd ((↑(m+j):Int)-(i:Int)) ((↑(m+j-i):Int)),.a _ _,.i zd ((j:Int)-(i:Int)) ((↑(j-i):Int)),.a _ _] ⟨tN,fP,oI,oI,oI,o_a h0,oI,o_a ih1,trivial⟩ ?_
    exact ge
theorem Ae0 (A:List Cross) (a m b:Nat) (h1:a<m) (h2:m<b) (h3:b≤A.length) (hn:small A):Is cx (.call 114 [.all 0 none,vi a,vi m,vi b,.t (.clo 80 [])] [.arr 15 (A.map zn) none false])
  ⟨.ret,[],[.arr 15 ((A.take a++seg A m b++seg A a m++A.drop b).map zn) none false]⟩:=by
 rw [←AiD h1 h2 h3 (Nat.le_refl _)]
 obtain ⟨k,B,h,k1,k2,k3,k4⟩:=Ac0 m (b-a) (m-a) (b-m) A (by omega) (by omega) (by omega) (by omega) (by omega) hn
 rw [←k4]
 have h0:=Aa7 B (m-k) m k (by omega) (by omega) (by unfold small;rw [k3];exact hn)
 unfold small at hn
 have e1:(m:Int)-a=(m-a:Nat):=by omega
 have e2:(b:Int)-m=(b-m:Nat):=by omega
 have e3:(m:Int)-k=(m-k:Nat):=by omega
 refine qq ?_
 refine gg [.i zd ((m:Int)-(a:Int)) ((↑(m-a):Int)),.i zd ((b:Int)-(m:Int)) ((↑(b-m):Int)),.a _ _,.i zd ((m:Int)-(k:Int)) ((↑(m-k):Int)),.a _ _] ⟨oI,oI,o_a h,oI,o_a h0,trivial⟩ ?_
 exact ge
end Go.Eva.S2
namespace Go.Eva.S2
theorem Aca (A:List Cross) (a:Nat) (ha:a<A.length) (hn:small A): ∀(d i j:Nat),i≤j→j≤i+d→j≤A.length→
  Is cx (.loop 111 [0,0,1,1,0,1,0] 1 [.all 0 none,vi a,.t (.clo 80 []),vi i,vi j] [.arr 15 (A.map zn) none false])
   ⟨.exit 0,[.all 0 none,vi a,.t (.clo 80 []),vi (bs (fun h=>z7 (gt A h) (gt A a)) d i j:Nat),vi (bs (fun h=>z7 (gt A h) (gt A a)) d i j:Nat)],[.arr 15 (A.map zn) none false]⟩:=by
 intro d
 induction d with
 |zero=>
  intro i j h1 h2 h3
  obtain rfl:i=j:=by omega
  unfold small at hn
  unfold bs
  refine qq ?_
  refine gg [.b (decide ((i:Int)<(i:Int))) false] ⟨fP,trivial⟩ ?_
  exact ge
 |succ d ih=>
  intro i j h1 h2 h3
  by_cases hij:i<j
  ·obtain ⟨h,hh⟩: ∃h,(i+j)/2=h:=⟨_,rfl⟩
   have hf:zh ((i+j:Nat):Int) 2=(h:Nat):=by rw [Int.fdiv_eq_ediv_of_nonneg _ (by omega)];omega
   have ih1:=ih (h+1) j (by omega) (by omega) (by omega)
   have ih2:=ih i h (by omega) (by omega) (by omega)
   unfold small at hn
   clear ih
   cases hl:(fun h=>z7 (gt A h) (gt A a)) h with
   |true=>
    have e:bs (fun h=>z7 (gt A h) (gt A a)) (d+1) i j=bs (fun h=>z7 (gt A h) (gt A a)) d (h+1) j:=by exact bs_t hij hh hl
    rw [e]
    have hl:(gt A h).cmp (gt A a)<0:=by simpa [z7] using hl
    refine qq ?_
    refine gg [.b (decide ((i:Int)<(j:Int))) true,.i zd ((i:Int)+(j:Int)) ((↑(i+j):Int)),.i zf ((↑(i+j):Int)) ((↑(i+j):Int)),.w (0≤(1:Int)),.t (T.int zf (zh (↑(i+j):Int) 2)) (T.int zf (h:Int)),.i zd (h:Int) (h:Int),.w (0≤(h:Int)),.n (zy (h:Int)) h,.w (h<zq (zz zn A)),.w (0≤(a:Int)),.n (zy (a:Int)) a,.w (a<zq (zz zn A)),.g (zz zn A) h (zn (gt A h)),.g (zz zn A) a (zn (gt A a)),.w (isFnB cx (80:Nat)=true),.a _ _] ⟨tP,oI,oU,oW,o_t (by rw [hf]),oI,oW,nK,o_w (by (simp;omega)),oW,nK,o_w (by (simp;omega)),oT,o_gt rfl (by assumption) (by intro h;cases h),o_w (by kernel_rfl),o_a (Aam (gt A h) (gt A a)),trivial⟩ ?_
    refine gg [.b (decide (Cross.cmp (gt A h) (gt A a)<0)) true,.i zd ((h:Int)+1) ((↑(h+1):Int)),.a _ _] ⟨t_brp (by assumption),oI,o_a ih1,trivial⟩ ?_
    refine rT (a:=qz (qx 0) [qy 0 none,vi (a:Int),V.t (T.clo 80 []),vi (↑(bs (fun (h:Nat)↦z7 (gt A h) (gt A a)) d (h+1) j):Int),vi (↑(bs (fun (h:Nat)↦z7 (gt A h) (gt A a)) d (h+1) j):Int)] [qv 15 (zz zn A) none false]) ?_
    (first|rfl|omega|(simp_all;done)|(simp_all;omega))
   |false=>
    have e:bs (fun h=>z7 (gt A h) (gt A a)) (d+1) i j=bs (fun h=>z7 (gt A h) (gt A a)) d i h:=by exact bs_f hij hh hl
    rw [e]
    have hl: ¬(gt A h).cmp (gt A a)<0:=by simpa [z7] using hl
    refine qq ?_
    refine gg [.b (decide ((i:Int)<(j:Int))) true,.i zd ((i:Int)+(j:Int)) ((↑(i+j):Int)),.i zf ((↑(i+j):Int)) ((↑(i+j):Int)),.w (0≤(1:Int)),.t (T.int zf (zh (↑(i+j):Int) 2)) (T.int zf (h:Int)),.i zd (h:Int) (h:Int),.w (0≤(h:Int)),.n (zy (h:Int)) h,.w (h<zq (zz zn A)),.w (0≤(a:Int)),.n (zy (a:Int)) a,.w (a<zq (zz zn A)),.g (zz zn A) h (zn (gt A h)),.g (zz zn A) a (zn (gt A a)),.w (isFnB cx (80:Nat)=true),.a _ _] ⟨tP,oI,oU,oW,o_t (by rw [hf]),oI,oW,nK,o_w (by (simp;omega)),oW,nK,o_w (by (simp;omega)),oT,o_gt rfl (by assumption) (by intro h;cases h),o_w (by kernel_rfl),o_a (Aam (gt A h) (gt A a)),trivial⟩ ?_
    refine gg [.b (decide (Cross.cmp (gt A h) (gt A a)<0)) false,.a _ _] ⟨f_brp (by assumption),o_a ih2,trivial⟩ ?_
    refine rT (a:=qz (qx 0) [qy 0 none,vi (a:Int),V.t (T.clo 80 []),vi (↑(bs (fun (h:Nat)↦z7 (gt A h) (gt A a)) d i h):Int),vi (↑(bs (fun (h:Nat)↦z7 (gt A h) (gt A a)) d i h):Int)] [qv 15 (zz zn A) none false]) ?_
    (first|rfl|omega|(simp_all;done)|(simp_all;omega))
  ·obtain rfl:i=j:=by omega
   unfold small at hn
   have e:bs (fun h=>z7 (gt A h) (gt A a)) (d+1) i i=i:=by rw [bs,if_neg hij]
   rw [e]
   refine qq ?_
   refine gg [.b (decide ((i:Int)<(i:Int))) false] ⟨fP,trivial⟩ ?_
   exact ge
theorem Ace (A:List Cross) (m:Nat) (hm:m<A.length) (hn:small A): ∀(d i j:Nat),i≤j→j≤i+d→j≤A.length→
  Is cx (.loop 111 [0,0,1,1,0,1,0,1] 1 [.all 0 none,vi m,.t (.clo 80 []),vi i,vi j] [.arr 15 (A.map zn) none false])
   ⟨.exit 4,[.all 0 none,vi m,.t (.clo 80 []),vi (bs (fun h=> !z7 (gt A m) (gt A h)) d i j:Nat),vi (bs (fun h=> !z7 (gt A m) (gt A h)) d i j:Nat)],[.arr 15 (A.map zn) none false]⟩:=by
 intro d
 induction d with
 |zero=>
  intro i j h1 h2 h3
  obtain rfl:i=j:=by omega
  unfold small at hn
  unfold bs
  refine qq ?_
  refine gg [.b (decide ((i:Int)<(i:Int))) false] ⟨fP,trivial⟩ ?_
  exact ge
 |succ d ih=>
  intro i j h1 h2 h3
  by_cases hij:i<j
  ·obtain ⟨h,hh⟩: ∃h,(i+j)/2=h:=⟨_,rfl⟩
   have hf:zh ((i+j:Nat):Int) 2=(h:Nat):=by rw [Int.fdiv_eq_ediv_of_nonneg _ (by omega)];omega
   have ih1:=ih (h+1) j (by omega) (by omega) (by omega)
   have ih2:=ih i h (by omega) (by omega) (by omega)
   unfold small at hn
   clear ih
   cases hl:(fun h=> !z7 (gt A m) (gt A h)) h with
   |true=>
    have e:bs (fun h=> !z7 (gt A m) (gt A h)) (d+1) i j=bs (fun h=> !z7 (gt A m) (gt A h)) d (h+1) j:=by exact bs_t hij hh hl
    rw [e]
    have hl: ¬(gt A m).cmp (gt A h)<0:=by simpa [z7] using hl
    refine qq ?_
    refine gg [.b (decide ((i:Int)<(j:Int))) true,.i zd ((i:Int)+(j:Int)) ((↑(i+j):Int)),.i zf ((↑(i+j):Int)) ((↑(i+j):Int)),.w (0≤(1:Int)),.t (T.int zf (zh (↑(i+j):Int) 2)) (T.int zf (h:Int)),.i zd (h:Int) (h:Int),.w (0≤(m:Int)),.n (zy (m:Int)) m,.w (m<zq (zz zn A)),.w (0≤(h:Int)),.n (zy (h:Int)) h,.w (h<zq (zz zn A)),.g (zz zn A) m (zn (gt A m)),.g (zz zn A) h (zn (gt A h)),.w (isFnB cx (80:Nat)=true),.a _ _] ⟨tP,oI,oU,oW,o_t (by rw [hf]),oI,oW,nK,o_w (by (simp;omega)),oW,nK,o_w (by (simp;omega)),o_gt rfl (by assumption) (by intro h;cases h),oT,o_w (by kernel_rfl),o_a (Aam (gt A m) (gt A h)),trivial⟩ ?_
    refine brnot (b:=decide (Cross.cmp (gt A m) (gt A h)<0)) (by kernel_rfl) (fun h1=> ?_) (fun h1=> ?_)
    ·refine gg [.i zd ((h:Int)+1) ((↑(h+1):Int)),.a _ _] ⟨oI,o_a ih1,trivial⟩ ?_
     refine rT (a:=qz (qx 4) [qy 0 none,vi (m:Int),V.t (T.clo 80 []),vi (↑(bs (fun (h:Nat)↦ !z7 (gt A m) (gt A h)) d (h+1) j):Int),vi (↑(bs (fun (h:Nat)↦ !z7 (gt A m) (gt A h)) d (h+1) j):Int)] [qv 15 (zz zn A) none false]) ?_
     (first|rfl|omega|(simp_all;done)|(simp_all;omega))
    ·refine gg [.a _ _] ⟨o_a ih2,trivial⟩ ?_
     refine rT (a:=qz (qx 4) [qy 0 none,vi (m:Int),V.t (T.clo 80 []),vi (↑(bs (fun (h:Nat)↦ !z7 (gt A m) (gt A h)) d i h):Int),vi (↑(bs (fun (h:Nat)↦ !z7 (gt A m) (gt A h)) d i h):Int)] [qv 15 (zz zn A) none false]) ?_
     (first|rfl|omega|(simp_all;done)|(simp_all;omega))
   |false=>
    have e:bs (fun h=> !z7 (gt A m) (gt A h)) (d+1) i j=bs (fun h=> !z7 (gt A m) (gt A h)) d i h:=by exact bs_f hij hh hl
    rw [e]
    have hl:(gt A m).cmp (gt A h)<0:=by simpa [z7] using hl
    refine qq ?_
    refine gg [.b (decide ((i:Int)<(j:Int))) true,.i zd ((i:Int)+(j:Int)) ((↑(i+j):Int)),.i zf ((↑(i+j):Int)) ((↑(i+j):Int)),.w (0≤(1:Int)),.t (T.int zf (zh (↑(i+j):Int) 2)) (T.int zf (h:Int)),.i zd (h:Int) (h:Int),.w (0≤(m:Int)),.n (zy (m:Int)) m,.w (m<zq (zz zn A)),.w (0≤(h:Int)),.n (zy (h:Int)) h,.w (h<zq (zz zn A)),.g (zz zn A) m (zn (gt A m)),.g (zz zn A) h (zn (gt A h)),.w (isFnB cx (80:Nat)=true),.a _ _] ⟨tP,oI,oU,oW,o_t (by rw [hf]),oI,oW,nK,o_w (by (simp;omega)),oW,nK,o_w (by (simp;omega)),o_gt rfl (by assumption) (by intro h;cases h),oT,o_w (by kernel_rfl),o_a (Aam (gt A m) (gt A h)),trivial⟩ ?_
    refine brnot (b:=decide (Cross.cmp (gt A m) (gt A h)<0)) (by kernel_rfl) (fun h1=> ?_) (fun h1=> ?_)
    ·refine gg [.i zd ((h:Int)+1) ((↑(h+1):Int)),.a _ _] ⟨oI,o_a ih1,trivial⟩ ?_
     refine rT (a:=qz (qx 4) [qy 0 none,vi (m:Int),V.t (T.clo 80 []),vi (↑(bs (fun (h:Nat)↦ !z7 (gt A m) (gt A h)) d (h+1) j):Int),vi (↑(bs (fun (h:Nat)↦ !z7 (gt A m) (gt A h)) d (h+1) j):Int)] [qv 15 (zz zn A) none false]) ?_
     (first|rfl|omega|(simp_all;done)|(simp_all;omega))
    ·refine gg [.a _ _] ⟨o_a ih2,trivial⟩ ?_
     refine rT (a:=qz (qx 4) [qy 0 none,vi (m:Int),V.t (T.clo 80 []),vi (↑(bs (fun (h:Nat)↦ !z7 (gt A m) (gt A h)) d i h):Int),vi (↑(bs (fun (h:Nat)↦ !z7 (gt A m) (gt A h)) d i h):Int)] [qv 15 (zz zn A) none false]) ?_
     (first|rfl|omega|(simp_all;done)|(simp_all;omega))
  ·obtain rfl:i=j:=by omega
   unfold small at hn
   have e:bs (fun h=> !z7 (gt A m) (gt A h)) (d+1) i i=i:=by rw [bs,if_neg hij]
   rw [e]
   refine qq ?_
   refine gg [.b (decide ((i:Int)<(i:Int))) false] ⟨fP,trivial⟩ ?_
   exact ge
theorem Ach (A:List Cross) (a m b mid n p:Nat) (hn:small A): ∀(d i j:Nat),i≤j→j≤i+d→j≤p+1→p<i+A.length→j≤A.length→
  Is cx (.loop 111 [0,0,1,1,1,1,1,1,1] 1 [.all 0 none,vi a,vi m,vi b,.t (.clo 80 []),vi mid,vi n,vi i,vi j,vi p] [.arr 15 (A.map zn) none false])
   ⟨.exit 8,[.all 0 none,vi a,vi m,vi b,.t (.clo 80 []),vi mid,vi n,vi (bs (fun c=> !z7 (gt A (p-c)) (gt A c)) d i j:Nat),vi (bs (fun c=> !z7 (gt A (p-c)) (gt A c)) d i j:Nat),vi p],[.arr 15 (A.map zn) none false]⟩:=by
 intro d
 induction d with
 |zero=>
  intro i j h1 h2 h3 h4 h5
  obtain rfl:i=j:=by omega
  unfold small at hn
  unfold bs
  refine qq ?_
  refine gg [.b (decide ((i:Int)<(i:Int))) false] ⟨fP,trivial⟩ ?_
  exact ge
 |succ d ih=>
  intro i j h1 h2 h3 h4 h5
  by_cases hij:i<j
  ·obtain ⟨h,hh⟩: ∃h,(i+j)/2=h:=⟨_,rfl⟩
   have hf:zh ((i+j:Nat):Int) 2=(h:Nat):=by rw [Int.fdiv_eq_ediv_of_nonneg _ (by omega)];omega
   have ih1:=ih (h+1) j (by omega) (by omega) (by omega) (by omega) (by omega)
   have ih2:=ih i h (by omega) (by omega) (by omega) (by omega) (by omega)
   unfold small at hn
   clear ih
   cases hl:(fun c=> !z7 (gt A (p-c)) (gt A c)) h with
   |true=>
    have e:bs (fun c=> !z7 (gt A (p-c)) (gt A c)) (d+1) i j=bs (fun c=> !z7 (gt A (p-c)) (gt A c)) d (h+1) j:=by exact bs_t hij hh hl
    rw [e]
    have hl: ¬(gt A (p-h)).cmp (gt A h)<0:=by simpa [z7] using hl
    have e1:(p:Int)-h=(p-h:Nat):=by omega
    refine qq ?_
    refine gg [.b (decide ((i:Int)<(j:Int))) true,.i zd ((i:Int)+(j:Int)) ((↑(i+j):Int)),.i zf ((↑(i+j):Int)) ((↑(i+j):Int)),.w (0≤(1:Int)),.t (T.int zf (zh (↑(i+j):Int) 2)) (T.int zf (h:Int)),.i zd (h:Int) (h:Int),.i zd ((p:Int)-(h:Int)) ((↑(p-h):Int)),.w (0≤(↑(p-h):Int)),.n (zy (↑(p-h):Int)) (p-h),.w (p-h<zq (zz zn A)),.w (0≤(h:Int)),.n (zy (h:Int)) h,.w (h<zq (zz zn A)),.g (zz zn A) (p-h) (zn (gt A (p-h))),.g (zz zn A) h (zn (gt A h)),.w (isFnB cx (80:Nat)=true)] ⟨tP,oI,oU,oW,o_t (by rw [hf]),oI,oI,oW,nK,o_w (by (simp;omega)),oW,nK,o_w (by (simp;omega)),oT,oT,o_w (by kernel_rfl),trivial⟩ ?_
    refine gg [.a _ _] ⟨o_a (Aam (gt A (p-h)) (gt A h)),trivial⟩ ?_
    refine brnot (b:=decide (Cross.cmp (gt A (p-h)) (gt A h)<0)) (by kernel_rfl) (fun h1=> ?_) (fun h1=> ?_)
    ·refine gg [.i zd ((h:Int)+1) ((↑(h+1):Int)),.a _ _] ⟨oI,o_a ih1,trivial⟩ ?_
     refine rT (a:=qz (qx 8) [qy 0 none,vi (a:Int),vi (m:Int),vi (b:Int),V.t (T.clo 80 []),vi (mid:Int),vi (n:Int),vi (↑(bs (fun (c:Nat)↦ !z7 (gt A (p-c)) (gt A c)) d (h+1) j):Int),vi (↑(bs (fun (c:Nat)↦ !z7 (gt A (p-c)) (gt A c)) d (h+1) j):Int),vi (p:Int)] [qv 15 (zz zn A) none false]) ?_
     (first|rfl|omega|(simp_all;done)|(simp_all;omega))
    ·refine gg [.a _ _] ⟨o_a ih2,trivial⟩ ?_
     refine rT (a:=qz (qx 8) [qy 0 none,vi (a:Int),vi (m:Int),vi (b:Int),V.t (T.clo 80 []),vi (mid:Int),vi (n:Int),vi (↑(bs (fun (c:Nat)↦ !z7 (gt A (p-c)) (gt A c)) d i h):Int),vi (↑(bs (fun (c:Nat)↦ !z7 (gt A (p-c)) (gt A c)) d i h):Int),vi (p:Int)] [qv 15 (zz zn A) none false]) ?_
     (first|rfl|omega|(simp_all;done)|(simp_all;omega))
   |false=>
    have e:bs (fun c=> !z7 (gt A (p-c)) (gt A c)) (d+1) i j=bs (fun c=> !z7 (gt A (p-c)) (gt A c)) d i h:=by exact bs_f hij hh hl
    rw [e]
    have hl:(gt A (p-h)).cmp (gt A h)<0:=by simpa [z7] using hl
    have e1:(p:Int)-h=(p-h:Nat):=by omega
    refine qq ?_
    refine gg [.b (decide ((i:Int)<(j:Int))) true,.i zd ((i:Int)+(j:Int)) ((↑(i+j):Int)),.i zf ((↑(i+j):Int)) ((↑(i+j):Int)),.w (0≤(1:Int)),.t (T.int zf (zh (↑(i+j):Int) 2)) (T.int zf (h:Int)),.i zd (h:Int) (h:Int),.i zd ((p:Int)-(h:Int)) ((↑(p-h):Int)),.w (0≤(↑(p-h):Int)),.n (zy (↑(p-h):Int)) (p-h),.w (p-h<zq (zz zn A)),.w (0≤(h:Int)),.n (zy (h:Int)) h,.w (h<zq (zz zn A)),.g (zz zn A) (p-h) (zn (gt A (p-h))),.g (zz zn A) h (zn (gt A h)),.w (isFnB cx (80:Nat)=true)] ⟨tP,oI,oU,oW,o_t (by rw [hf]),oI,oI,oW,nK,o_w (by (simp;omega)),oW,nK,o_w (by (simp;omega)),oT,oT,o_w (by kernel_rfl),trivial⟩ ?_
    refine gg [.a _ _] ⟨o_a (Aam (gt A (p-h)) (gt A h)),trivial⟩ ?_
    refine brnot (b:=decide (Cross.cmp (gt A (p-h)) (gt A h)<0)) (by kernel_rfl) (fun h1=> ?_) (fun h1=> ?_)
    ·refine gg [.i zd ((h:Int)+1) ((↑(h+1):Int)),.a _ _] ⟨oI,o_a ih1,trivial⟩ ?_
     refine rT (a:=qz (qx 8) [qy 0 none,vi (a:Int),vi (m:Int),vi (b:Int),V.t (T.clo 80 []),vi (mid:Int),vi (n:Int),vi (↑(bs (fun (c:Nat)↦ !z7 (gt A (p-c)) (gt A c)) d (h+1) j):Int),vi (↑(bs (fun (c:Nat)↦ !z7 (gt A (p-c)) (gt A c)) d (h+1) j):Int),vi (p:Int)] [qv 15 (zz zn A) none false]) ?_
     (first|rfl|omega|(simp_all;done)|(simp_all;omega))
    ·refine gg [.a _ _] ⟨o_a ih2,trivial⟩ ?_
     refine rT (a:=qz (qx 8) [qy 0 none,vi (a:Int),vi (m:Int),vi (b:Int),V.t (T.clo 80 []),vi (mid:Int),vi (n:Int),vi (↑(bs (fun (c:Nat)↦ !z7 (gt A (p-c)) (gt A c)) d i h):Int),vi (↑(bs (fun (c:Nat)↦ !z7 (gt A (p-c)) (gt A c)) d i h):Int),vi (p:Int)] [qv 15 (zz zn A) none false]) ?_
     (first|rfl|omega|(simp_all;done)|(simp_all;omega))
  ·obtain rfl:i=j:=by omega
   unfold small at hn
   have e:bs (fun c=> !z7 (gt A (p-c)) (gt A c)) (d+1) i i=i:=by rw [bs,if_neg hij]
   rw [e]
   refine qq ?_
   refine gg [.b (decide ((i:Int)<(i:Int))) false] ⟨fP,trivial⟩ ?_
   exact ge
theorem Acw: ∀(d k i:Nat) (A:List Cross),k+d=i-1→i≤A.length→small A→
  Is cx (.loop 111 [0,1,0,1,1,1,0,1,0] 1 [.all 0 none,vi i,vi k] [.arr 15 (A.map zn) none false])
   ⟨.exit 2,[.all 0 none,vi i,vi (i-1:Nat)],[.arr 15 ((up d A k).map zn) none false]⟩:=by
 intro d
 induction d with
 |zero=>
  intro k i A h1 h2 hn
  unfold small at hn
  obtain rfl:k=i-1:=by omega
  unfold up
  refine qq ?_
  refine gg [.i zd ((i:Int)-1) ((i:Int)-1),.b (decide ((↑(i-1):Int)<(i:Int)-1)) false] ⟨oI,fP,trivial⟩ ?_
  exact ge
 |succ d ih=>
  intro k i A h1 h2 hn
  have ih1:=ih (k+1) i (sw A k (k+1)) (by omega) (by rw [Ab7];omega) (by unfold small;rw [Ab7];exact hn)
  unfold small at hn
  clear ih
  unfold up
  unfold sw at*
  refine qq ?_
  refine gg [.i zd ((i:Int)-1) ((i:Int)-1),.b (decide ((k:Int)<(i:Int)-1)) true,.i zd ((k:Int)+1) ((↑(k+1):Int)),.i zd ((k:Int)+1) ((↑(k+1):Int)),.w (0≤(↑(k+(1:Nat)):Int)),.n (zy (↑(k+1):Int)) (k+1),.w (k+(1:Nat)<zq (zz zn A)),.w (0≤(k:Int)),.n (zy (k:Int)) k,.w (k<zq (zz zn A)),.g (zz zn A) (k+1) (zn (gt A (k+1))),.g (zz zn A) k (zn (gt A k)),.w (0≤(k:Int)),.n (zy (k:Int)) k,.w (k<zq (zz zn A)),.w (k<zq (zz zn A))] ⟨oI,tP,oI,oI,oW,nK,o_w (by (simp;omega)),oW,nK,o_w (by (simp;omega)),oT,oT,oW,nK,o_w (by (simp;omega)),o_w (by (simp;omega)),trivial⟩ ?_
  refine gg [.t (qk 0 (zx (zz zn A) k (zn (gt A (k+1))))) (qk 0 (zz zn (zx A k (gt A (k+1))))),.w (0≤(↑(k+(1:Nat)):Int)),.n (zy (↑(k+1):Int)) (k+1),.w (k+(1:Nat)<zq (zz zn (zx A k (gt A (k+(1:Nat)))))),.w (k+(1:Nat)<zq (zz zn (zx A k (gt A (k+(1:Nat)))))),.t (qk 0 (zx (zz zn (zx A k (gt A (k+1)))) (k+1) (zn (gt A k)))) (qk 0 (zz zn (zx (zx A k (gt A (k+1))) (k+1) (gt A k)))),.i zd ((k:Int)+1) ((↑(k+1):Int)),.a _ _] ⟨o_l (Aap rfl rfl),oW,nK,o_w (by (simp;omega)),o_w (by (simp;omega)),o_l (Aap rfl rfl),oI,o_a ih1,trivial⟩ ?_
  exact ge
theorem AbP (i:Nat): ∀(d k:Nat) (A:List Cross),k=i+d→k<A.length→small A→
  Is cx (.loop 111 [0,1,0,1,1,1,0,1,0,1] 1 [.all 0 none,vi i,vi k] [.arr 15 (A.map zn) none false])
   ⟨.exit 6,[.all 0 none,vi i,vi i],[.arr 15 ((down d A k).map zn) none false]⟩:=by
 intro d
 induction d with
 |zero=>
  intro k A h1 h2 hn
  unfold small at hn
  obtain rfl:k=i:=by omega
  unfold down
  refine qq ?_
  refine gg [.b (decide ((k:Int)>(k:Int))) false] ⟨fP,trivial⟩ ?_
  exact ge
 |succ d ih=>
  intro k A h1 h2 hn
  have ih1:=ih (k-1) (sw A k (k-1)) (by omega) (by rw [Ab7];omega) (by unfold small;rw [Ab7];exact hn)
  unfold small at hn
  clear ih
  have e1:(k:Int)-1=(k-1:Nat):=by omega
  unfold down
  unfold sw at*
  refine qq ?_
  refine gg [.b (decide ((k:Int)>(i:Int))) true,.i zd ((k:Int)-1) ((↑(k-1):Int)),.i zd ((k:Int)-1) ((↑(k-1):Int)),.w (0≤(↑(k-(1:Nat)):Int)),.n (zy (↑(k-1):Int)) (k-1),.w (k-(1:Nat)<zq (zz zn A)),.w (0≤(k:Int)),.n (zy (k:Int)) k,.w (k<zq (zz zn A)),.g (zz zn A) (k-1) (zn (gt A (k-1))),.g (zz zn A) k (zn (gt A k)),.w (0≤(k:Int)),.n (zy (k:Int)) k,.w (k<zq (zz zn A)),.w (k<zq (zz zn A)),.t (qk 0 (zx (zz zn A) k (zn (gt A (k-1))))) (qk 0 (zz zn (zx A k (gt A (k-1)))))] ⟨tP,oI,oI,oW,nK,o_w (by (simp;omega)),oW,nK,o_w (by (simp;omega)),oT,o_gt rfl (by assumption) (by intro h;cases h),oW,nK,o_w (by (simp;omega)),o_w (by (simp;omega)),o_l (Aap rfl rfl),trivial⟩ ?_
  refine gg [.w (0≤(↑(k-(1:Nat)):Int)),.n (zy (↑(k-1):Int)) (k-1),.w (k-(1:Nat)<zq (zz zn (zx A k (gt A (k-(1:Nat)))))),.w (k-(1:Nat)<zq (zz zn (zx A k (gt A (k-(1:Nat)))))),.t (qk 0 (zx (zz zn (zx A k (gt A (k-1)))) (k-1) (zn (gt A k)))) (qk 0 (zz zn (zx (zx A k (gt A (k-1))) (k-1) (gt A k)))),.i zd ((k:Int)-1) ((↑(k-1):Int)),.a _ _] ⟨oW,nK,o_w (by (simp;omega)),o_w (by (simp;omega)),o_l (Aap rfl rfl),oI,o_a ih1,trivial⟩ ?_
  exact ge
end Go.Eva.S2
namespace Go.Eva.S2
theorem AbA (P V Q:List Cross) (x:Cross) (a m b:Nat) (ha:a=P.length) (hm:m=a+1) (hb:b=m+V.length) (h0:0<V.length) (hV:Sd z7 V) (hn:small (P++ [x]++V++Q)):
   Is cx (.call 111 [.all 0 none,vi a,vi m,vi b,.t (.clo 80 [])] [.arr 15 ((P++ [x]++V++Q).map zn) none false])
  ⟨.ret,[],[.arr 15 ((P++sortS z7 ([x]++V)++Q).map zn) none false]⟩:=by
 have hl:(P++ [x]++V++Q).length=b+Q.length:=by simp;omega
 have hbs:=Aca (P++ [x]++V++Q) a (by omega) hn (b-m) m b (by omega) (by omega) (by omega)
 obtain ⟨k1,k2,k3⟩:=AfR Aag (Q:=Q) (x:=x) (d:=b-m) ha hm hb (by omega) hV rfl
 generalize bs _ (b-m) m b=s at*
 have hup:=Acw (s-1-a) a s (P++ [x]++V++Q) (by omega) (by omega) hn
 rw [k3] at hup
 clear k3 hV
 generalize P++ [x]++V++Q=A at*
 generalize P++sortS z7 ([x]++V)++Q=B at*
 unfold small at hn
 refine qq ?_
 refine gg [.i zd ((m:Int)-(a:Int)) ((m:Int)-(a:Int)),.b ((m:Int)-(a:Int)==1) true,.a _ _,.a _ _] ⟨oI,tE,o_a hbs,o_a hup,trivial⟩ ?_
 exact ge
theorem AbS (P U Q:List Cross) (y:Cross) (a m b:Nat) (ha:a=P.length) (hm:m=a+U.length) (hb:b=m+1) (h0:1<U.length) (hU:Sd z7 U) (hn:small (P++U++ [y]++Q)):
   Is cx (.call 111 [.all 0 none,vi a,vi m,vi b,.t (.clo 80 [])] [.arr 15 ((P++U++ [y]++Q).map zn) none false])
  ⟨.ret,[],[.arr 15 ((P++sortS z7 (U++ [y])++Q).map zn) none false]⟩:=by
 have hl:(P++U++ [y]++Q).length=b+Q.length:=by simp;omega
 have hbs:=Ace (P++U++ [y]++Q) m (by omega) hn (m-a) a m (by omega) (by omega) (by omega)
 obtain ⟨k1,k2,k3⟩:=Ahs Aag (Q:=Q) (y:=y) (d:=m-a) ha hm (by omega) hU rfl
 generalize bs _ (m-a) a m=s at*
 have hup:=AbP s (m-s) m (P++U++ [y]++Q) (by omega) (by omega) hn
 rw [k3] at hup
 clear k3 hU
 generalize P++U++ [y]++Q=A at*
 generalize P++sortS z7 (U++ [y])++Q=B at*
 unfold small at hn
 refine qq ?_
 refine gg [.i zd ((m:Int)-(a:Int)) ((m:Int)-(a:Int)),.b ((m:Int)-(a:Int)==1) false,.i zd ((b:Int)-(m:Int)) ((b:Int)-(m:Int)),.b ((b:Int)-(m:Int)==1) true,.a _ _,.a _ _] ⟨oI,fE,oI,tE,o_a hbs,o_a hup,trivial⟩ ?_
 exact ge
end Go.Eva.S2