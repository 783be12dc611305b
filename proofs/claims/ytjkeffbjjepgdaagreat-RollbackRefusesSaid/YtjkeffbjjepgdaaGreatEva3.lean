/- A reading of the program, proved sound against the model, and what its functions answer by it: part 3. -/
import Derived.Test.YtjkeffbjjepgdaaGreatEva2
import Derived.Shelf.SlIterI.Nil
import Derived.Shelf.SortM.Plain
import Derived.Shelf.SortM.SortNone
set_option linter.unusedSimpArgs false
set_option linter.unusedVariables false
open List renaming length → zq, map → zz, replicate → zj, set → zx, take → zw, drop → zk
open Int renaming toNat → zy, tmod → zg, fdiv → zh
open Go.IntKind renaming i64 → zd, u64 → zf, wrap → zp
open BitVec renaming ofInt → zb
open Go.Eva.Entity renaming enc → zm, less → qw, right → qv, mk → qd
open Go.Eva.Cross renaming enc → zn, less → qj
open Go.Eva.Input renaming enc → zr
open Go.Eva.Region renaming enc → zt
open Go.Eva.Config renaming regions → qq, near → qz
open Go.Eva.Wp renaming ev → qk
open Go.Eva.Res renaming mk → qy
open Go.Eva.Ex renaming ret → qg, exit → qh
open Go.Eva.Ob renaming arr → qf, one → qm
open Go.Eva.T renaming sl → qp
open Go.Eva.V renaming all → qb
namespace Go.Eva.S8
theorem Ae4 (c:Config) (hr:c.right=true):Is cx (.call 50 [vi c.players] []) ⟨.ret,[.ptr 0 0 0],[.one 1 (.t (.agg [.row 3 (zj c.players.toNat Col.new.enc)])) false]⟩:=by
 have hp:=(Config.right_iff.1 hr).2.2.1
 have h1:maxI c.players 1=c.players:=by unfold maxI;rw [if_neg (by omega)]
 have h2:minI c.players 6=c.players:=by unfold minI;rw [if_neg (by omega)]
 refine qk ?_
 refine gg [.t (ti (maxI c.players 1)) (ti c.players),.t (ti (minI c.players 6)) (ti c.players),.s (T.agg [qp 3 [],ti 0,T.bool false]),.w (0≤c.players∧c.players≤c.players∧room (zy c.players) (40:Nat)),.l (zy c.players)] ⟨o_t (by rw [h1]),o_t (by rw [h2]),o_w ⟨(by omega),⟨(by omega),(by (simp [room,appendMax];omega))⟩⟩,trivial⟩ ?_
 exact ge
theorem AaY (n:Nat) (hn:n≤16): ∀(d i:Nat),i+d=n→Is cx (.loop 51 [0,1,0,1,1] 0 [.ptr 0 0 0,vi n,vi i] [.one 1 (.t (.agg [.vrow 1 (zj i (.dict [] [])++zj d .nilm)])) false]) ⟨.exit 0,[.ptr 0 0 0,vi n,vi n],[.one 1 (.t (.agg [.vrow 1 (zj n (.dict [] []))])) false]⟩
 |0,i,h=>by
  obtain rfl:i=n:=by omega
  have e:zj i (T.dict [] [])++zj 0 T.nilm=zj i (T.dict [] []):=by simp
  rw [e]
  refine qk ?_
  refine gg [.b (decide ((i:Int)<(i:Int))) false] ⟨fP,trivial⟩ ?_
  exact ge
 |d+1,i,h=>by
  have ih:=AaY n hn d (i+1) (by omega)
  have hg:(zj i (T.dict [] [])++zj (d+1) T.nilm)[i]?=some T.nilm:=by simp
  have e:(zj i (T.dict [] [])++zj (d+1) T.nilm).set i (T.dict [] [])=zj (i+1) (T.dict [] [])++zj d T.nilm:=by
   rw [List.set_append_right _ _ (by simp),List.length_replicate,Nat.sub_self,List.replicate_succ,List.set_cons_zero,List.replicate_succ',List.append_assoc]
   rfl
  have hl:i<(zj i (T.dict [] [])++zj (d+1) T.nilm).length:=by simp
  have hll:(zj i (T.dict [] [])++zj (d+1) T.nilm).length=n:=by simp;omega
  generalize zj (i+1) (T.dict [] [])++zj d T.nilm=L at e ih
  generalize zj i (T.dict [] [])++zj (d+1) T.nilm=K at*
  refine qk ?_
  refine gg [.b (decide ((i:Int)<(n:Int))) true,.w (0≤(i:Int)),.n (zy (i:Int)) i,.w (i<zq K),.g K i T.nilm,.i zd ((i:Int)+1) ((↑(i+1):Int)),.t (qp 0 (zx K i (T.dict [] []))) (qp 0 L),.a _ _] ⟨tP,oW,nK,oA,o_g hg (by intro h;cases h),oI,o_l e,o_a ih,trivial⟩ ?_
  exact ge
theorem AeU (n:Nat) (hn:1≤n∧n≤16):Is cx (.call 51 [vi n] []) ⟨.ret,[.ptr 0 0 0],[.one 1 (.t (.agg [.vrow 1 (zj n (.dict [] []))])) false]⟩:=by
 have h1:maxI (n:Int) 1=n:=by unfold maxI;rw [if_neg (by omega)]
 have h2:minI (n:Int) 16=n:=by unfold minI;rw [if_neg (by omega)]
 have hL:=AaY n hn.2 n 0 (by omega)
 simp only [List.replicate_zero,List.nil_append] at hL
 refine qk ?_
 refine gg [.t (ti (maxI (n:Int) 1)) (ti (n:Int)),.t (ti (minI (n:Int) 16)) (ti (n:Int)),.w (0≤(n:Int)∧(n:Int)≤(n:Int)∧room (zy (n:Int)) (8:Nat)),.n (zy (n:Int)) n,.n (zq (zj n T.nilm)) n,.a _ _] ⟨o_t (by rw [h1]),o_t (by rw [h2]),o_w ⟨(by omega),⟨(by omega),(by (simp [room,appendMax];omega))⟩⟩,nK,o_n (by simp),o_a hL,trivial⟩ ?_
 exact ge
theorem Adv (c:Config) (hr:c.right=true):Is cx (.call 11 [.t c.enc] []) ⟨.ret,[.ptr 0 0 0,vi 0],[(Eng.new c).ob]⟩:=by
 have hgl:= @Config.regions_le c
 have hml:=Config.mul_le hr
 have hre:c.regions=c.cols*c.rows:=by simp [qq,hr]
 have hI:=Ae4 c hr
 have hO:=AeU c.regions.toNat (by have:=Config.right_iff.1 hr;omega)
 have hN:=AgI c
 have hG:=Aay c
 rw [show ((c.regions.toNat:Nat):Int)=c.regions from Int.toNat_of_nonneg (by omega)] at hO
 simp only [Config.grid,Config.err,hr,if_true] at hN
 refine qk ?_
 refine gg [.a _ _,.b (0 !=0) false] ⟨o_a hN,bK,trivial⟩ ?_
 refine bO ?_ ?_
 ·refine bO ?_ ?_
  ·refine gg [.a _ _] ⟨o_a hI,trivial⟩ ?_
   refine bO ?_ ?_
   ·refine bO ?_ ?_
    ·refine bO ?_ ?_
     ·refine gg [.a _ _] ⟨o_a hG,trivial⟩ ?_
      refine bO ?_ ?_
      all_goals
       refine gg [.a _ _] ⟨o_a hO,trivial⟩ ?_
       refine rT (a:=qy qg [V.ptr 0 0 0,vi 0] [qm 11 (V.t (T.agg [T.box 1 (T.agg [T.row 3 (zj (zy c.players) (Col.enc Col.new))]),ti c.cols,ti c.rows,ti c.players,ti c.window,T.int zf c.seed,T.box 1 (T.agg [T.vrow 1 (zj (zy (qq c)) (T.dict [] []))]),T.dict [] [],ti 0,ti 0,ti 0])) false]) ?_
       (simp only [Eng.ob,Eng.enc,Eng.new,List.map_replicate])
     ·refine gg [.a _ _,.a _ _] ⟨o_a hG,o_a hO,trivial⟩ ?_
      refine rT (a:=qy qg [V.ptr 0 0 0,vi 0] [qm 11 (V.t (T.agg [T.box 1 (T.agg [T.row 3 (zj (zy c.players) (Col.enc Col.new))]),ti c.cols,ti c.rows,ti c.players,ti c.window,T.int zf c.seed,T.box 1 (T.agg [T.vrow 1 (zj (zy (qq c)) (T.dict [] []))]),T.dict [] [],ti 0,ti 0,ti 0])) false]) ?_
      (simp only [Eng.ob,Eng.enc,Eng.new,List.map_replicate])
    ·refine gg [.a _ _,.a _ _] ⟨o_a hG,o_a hO,trivial⟩ ?_
     refine rT (a:=qy qg [V.ptr 0 0 0,vi 0] [qm 11 (V.t (T.agg [T.box 1 (T.agg [T.row 3 (zj (zy c.players) (Col.enc Col.new))]),ti c.cols,ti c.rows,ti c.players,ti c.window,T.int zf c.seed,T.box 1 (T.agg [T.vrow 1 (zj (zy (qq c)) (T.dict [] []))]),T.dict [] [],ti 0,ti 0,ti 0])) false]) ?_
     (simp only [Eng.ob,Eng.enc,Eng.new,List.map_replicate])
   ·refine bO ?_ ?_
    ·refine bO ?_ ?_
     ·refine bO ?_ ?_
      ·refine gg [.a _ _] ⟨o_a hG,trivial⟩ ?_
       refine bO ?_ ?_
       all_goals
        refine gg [.a _ _] ⟨o_a hO,trivial⟩ ?_
        refine rT (a:=qy qg [V.ptr 0 0 0,vi 0] [qm 11 (V.t (T.agg [T.box 1 (T.agg [T.row 3 (zj (zy c.players) (Col.enc Col.new))]),ti c.cols,ti c.rows,ti c.players,ti c.window,T.int zf c.seed,T.box 1 (T.agg [T.vrow 1 (zj (zy (qq c)) (T.dict [] []))]),T.dict [] [],ti 0,ti 0,ti 0])) false]) ?_
        (simp only [Eng.ob,Eng.enc,Eng.new,List.map_replicate])
      ·refine gg [.a _ _,.a _ _] ⟨o_a hG,o_a hO,trivial⟩ ?_
       refine rT (a:=qy qg [V.ptr 0 0 0,vi 0] [qm 11 (V.t (T.agg [T.box 1 (T.agg [T.row 3 (zj (zy c.players) (Col.enc Col.new))]),ti c.cols,ti c.rows,ti c.players,ti c.window,T.int zf c.seed,T.box 1 (T.agg [T.vrow 1 (zj (zy (qq c)) (T.dict [] []))]),T.dict [] [],ti 0,ti 0,ti 0])) false]) ?_
       (simp only [Eng.ob,Eng.enc,Eng.new,List.map_replicate])
     ·refine bO ?_ ?_
      ·refine gg [.a _ _] ⟨o_a hG,trivial⟩ ?_
       refine bO ?_ ?_
       ·refine bO ?_ ?_
        all_goals
         refine gg [.a _ _] ⟨o_a hO,trivial⟩ ?_
         refine rT (a:=qy qg [V.ptr 0 0 0,vi 0] [qm 11 (V.t (T.agg [T.box 1 (T.agg [T.row 3 (zj (zy c.players) (Col.enc Col.new))]),ti c.cols,ti c.rows,ti c.players,ti c.window,T.int zf c.seed,T.box 1 (T.agg [T.vrow 1 (zj (zy (qq c)) (T.dict [] []))]),T.dict [] [],ti 0,ti 0,ti 0])) false]) ?_
         (simp only [Eng.ob,Eng.enc,Eng.new,List.map_replicate])
       ·refine bO ?_ ?_
        ·refine gg [.a _ _] ⟨o_a hO,trivial⟩ ?_
         refine bO ?_ ?_
         all_goals
          refine rT (a:=qy qg [V.ptr 0 0 0,vi 0] [qm 11 (V.t (T.agg [T.box 1 (T.agg [T.row 3 (zj (zy c.players) (Col.enc Col.new))]),ti c.cols,ti c.rows,ti c.players,ti c.window,T.int zf c.seed,T.box 1 (T.agg [T.vrow 1 (zj (zy (qq c)) (T.dict [] []))]),T.dict [] [],ti 0,ti 0,ti 0])) false]) ?_
          (simp only [Eng.ob,Eng.enc,Eng.new,List.map_replicate])
        ·refine gg [.a _ _] ⟨o_a hO,trivial⟩ ?_
         refine rT (a:=qy qg [V.ptr 0 0 0,vi 0] [qm 11 (V.t (T.agg [T.box 1 (T.agg [T.row 3 (zj (zy c.players) (Col.enc Col.new))]),ti c.cols,ti c.rows,ti c.players,ti c.window,T.int zf c.seed,T.box 1 (T.agg [T.vrow 1 (zj (zy (qq c)) (T.dict [] []))]),T.dict [] [],ti 0,ti 0,ti 0])) false]) ?_
         (simp only [Eng.ob,Eng.enc,Eng.new,List.map_replicate])
      ·refine gg [.a _ _,.a _ _] ⟨o_a hG,o_a hO,trivial⟩ ?_
       refine rT (a:=qy qg [V.ptr 0 0 0,vi 0] [qm 11 (V.t (T.agg [T.box 1 (T.agg [T.row 3 (zj (zy c.players) (Col.enc Col.new))]),ti c.cols,ti c.rows,ti c.players,ti c.window,T.int zf c.seed,T.box 1 (T.agg [T.vrow 1 (zj (zy (qq c)) (T.dict [] []))]),T.dict [] [],ti 0,ti 0,ti 0])) false]) ?_
       (simp only [Eng.ob,Eng.enc,Eng.new,List.map_replicate])
    ·refine gg [.a _ _,.a _ _] ⟨o_a hG,o_a hO,trivial⟩ ?_
     refine rT (a:=qy qg [V.ptr 0 0 0,vi 0] [qm 11 (V.t (T.agg [T.box 1 (T.agg [T.row 3 (zj (zy c.players) (Col.enc Col.new))]),ti c.cols,ti c.rows,ti c.players,ti c.window,T.int zf c.seed,T.box 1 (T.agg [T.vrow 1 (zj (zy (qq c)) (T.dict [] []))]),T.dict [] [],ti 0,ti 0,ti 0])) false]) ?_
     (simp only [Eng.ob,Eng.enc,Eng.new,List.map_replicate])
  ·refine bO ?_ ?_
   ·refine bO ?_ ?_
    ·refine gg [.a _ _] ⟨o_a hI,trivial⟩ ?_
     refine bO ?_ ?_
     ·refine bO ?_ ?_
      ·refine gg [.a _ _] ⟨o_a hG,trivial⟩ ?_
       refine bO ?_ ?_
       all_goals
        refine gg [.a _ _] ⟨o_a hO,trivial⟩ ?_
        refine rT (a:=qy qg [V.ptr 0 0 0,vi 0] [qm 11 (V.t (T.agg [T.box 1 (T.agg [T.row 3 (zj (zy c.players) (Col.enc Col.new))]),ti c.cols,ti c.rows,ti c.players,ti c.window,T.int zf c.seed,T.box 1 (T.agg [T.vrow 1 (zj (zy (qq c)) (T.dict [] []))]),T.dict [] [],ti 0,ti 0,ti 0])) false]) ?_
        (simp only [Eng.ob,Eng.enc,Eng.new,List.map_replicate])
      ·refine gg [.a _ _,.a _ _] ⟨o_a hG,o_a hO,trivial⟩ ?_
       refine rT (a:=qy qg [V.ptr 0 0 0,vi 0] [qm 11 (V.t (T.agg [T.box 1 (T.agg [T.row 3 (zj (zy c.players) (Col.enc Col.new))]),ti c.cols,ti c.rows,ti c.players,ti c.window,T.int zf c.seed,T.box 1 (T.agg [T.vrow 1 (zj (zy (qq c)) (T.dict [] []))]),T.dict [] [],ti 0,ti 0,ti 0])) false]) ?_
       (simp only [Eng.ob,Eng.enc,Eng.new,List.map_replicate])
     ·refine gg [.a _ _,.a _ _] ⟨o_a hG,o_a hO,trivial⟩ ?_
      refine rT (a:=qy qg [V.ptr 0 0 0,vi 0] [qm 11 (V.t (T.agg [T.box 1 (T.agg [T.row 3 (zj (zy c.players) (Col.enc Col.new))]),ti c.cols,ti c.rows,ti c.players,ti c.window,T.int zf c.seed,T.box 1 (T.agg [T.vrow 1 (zj (zy (qq c)) (T.dict [] []))]),T.dict [] [],ti 0,ti 0,ti 0])) false]) ?_
      (simp only [Eng.ob,Eng.enc,Eng.new,List.map_replicate])
    ·refine bO ?_ ?_
     ·refine bO ?_ ?_
      ·refine gg [.a _ _] ⟨o_a hI,trivial⟩ ?_
       refine bO ?_ ?_
       ·refine gg [.a _ _] ⟨o_a hG,trivial⟩ ?_
        refine bO ?_ ?_
        all_goals
         refine gg [.a _ _] ⟨o_a hO,trivial⟩ ?_
         refine rT (a:=qy qg [V.ptr 0 0 0,vi 0] [qm 11 (V.t (T.agg [T.box 1 (T.agg [T.row 3 (zj (zy c.players) (Col.enc Col.new))]),ti c.cols,ti c.rows,ti c.players,ti c.window,T.int zf c.seed,T.box 1 (T.agg [T.vrow 1 (zj (zy (qq c)) (T.dict [] []))]),T.dict [] [],ti 0,ti 0,ti 0])) false]) ?_
         (simp only [Eng.ob,Eng.enc,Eng.new,List.map_replicate])
       ·refine gg [.a _ _,.a _ _] ⟨o_a hG,o_a hO,trivial⟩ ?_
        refine rT (a:=qy qg [V.ptr 0 0 0,vi 0] [qm 11 (V.t (T.agg [T.box 1 (T.agg [T.row 3 (zj (zy c.players) (Col.enc Col.new))]),ti c.cols,ti c.rows,ti c.players,ti c.window,T.int zf c.seed,T.box 1 (T.agg [T.vrow 1 (zj (zy (qq c)) (T.dict [] []))]),T.dict [] [],ti 0,ti 0,ti 0])) false]) ?_
        (simp only [Eng.ob,Eng.enc,Eng.new,List.map_replicate])
      ·refine gg [.a _ _,.a _ _,.a _ _] ⟨o_a hI,o_a hG,o_a hO,trivial⟩ ?_
       refine rT (a:=qy qg [V.ptr 0 0 0,vi 0] [qm 11 (V.t (T.agg [T.box 1 (T.agg [T.row 3 (zj (zy c.players) (Col.enc Col.new))]),ti c.cols,ti c.rows,ti c.players,ti c.window,T.int zf c.seed,T.box 1 (T.agg [T.vrow 1 (zj (zy (qq c)) (T.dict [] []))]),T.dict [] [],ti 0,ti 0,ti 0])) false]) ?_
       (simp only [Eng.ob,Eng.enc,Eng.new,List.map_replicate])
     ·refine gg [.a _ _,.a _ _,.a _ _] ⟨o_a hI,o_a hG,o_a hO,trivial⟩ ?_
      refine rT (a:=qy qg [V.ptr 0 0 0,vi 0] [qm 11 (V.t (T.agg [T.box 1 (T.agg [T.row 3 (zj (zy c.players) (Col.enc Col.new))]),ti c.cols,ti c.rows,ti c.players,ti c.window,T.int zf c.seed,T.box 1 (T.agg [T.vrow 1 (zj (zy (qq c)) (T.dict [] []))]),T.dict [] [],ti 0,ti 0,ti 0])) false]) ?_
      (simp only [Eng.ob,Eng.enc,Eng.new,List.map_replicate])
   ·refine bO ?_ ?_
    ·refine bO ?_ ?_
     ·refine gg [.a _ _] ⟨o_a hI,trivial⟩ ?_
      refine bO ?_ ?_
      ·refine bO ?_ ?_
       ·refine gg [.a _ _] ⟨o_a hG,trivial⟩ ?_
        refine bO ?_ ?_
        all_goals
         refine gg [.a _ _] ⟨o_a hO,trivial⟩ ?_
         refine rT (a:=qy qg [V.ptr 0 0 0,vi 0] [qm 11 (V.t (T.agg [T.box 1 (T.agg [T.row 3 (zj (zy c.players) (Col.enc Col.new))]),ti c.cols,ti c.rows,ti c.players,ti c.window,T.int zf c.seed,T.box 1 (T.agg [T.vrow 1 (zj (zy (qq c)) (T.dict [] []))]),T.dict [] [],ti 0,ti 0,ti 0])) false]) ?_
         (simp only [Eng.ob,Eng.enc,Eng.new,List.map_replicate])
       ·refine gg [.a _ _,.a _ _] ⟨o_a hG,o_a hO,trivial⟩ ?_
        refine rT (a:=qy qg [V.ptr 0 0 0,vi 0] [qm 11 (V.t (T.agg [T.box 1 (T.agg [T.row 3 (zj (zy c.players) (Col.enc Col.new))]),ti c.cols,ti c.rows,ti c.players,ti c.window,T.int zf c.seed,T.box 1 (T.agg [T.vrow 1 (zj (zy (qq c)) (T.dict [] []))]),T.dict [] [],ti 0,ti 0,ti 0])) false]) ?_
        (simp only [Eng.ob,Eng.enc,Eng.new,List.map_replicate])
      ·refine bO ?_ ?_
       ·refine gg [.a _ _] ⟨o_a hG,trivial⟩ ?_
        refine bO ?_ ?_
        ·refine bO ?_ ?_
         all_goals
          refine gg [.a _ _] ⟨o_a hO,trivial⟩ ?_
          refine rT (a:=qy qg [V.ptr 0 0 0,vi 0] [qm 11 (V.t (T.agg [T.box 1 (T.agg [T.row 3 (zj (zy c.players) (Col.enc Col.new))]),ti c.cols,ti c.rows,ti c.players,ti c.window,T.int zf c.seed,T.box 1 (T.agg [T.vrow 1 (zj (zy (qq c)) (T.dict [] []))]),T.dict [] [],ti 0,ti 0,ti 0])) false]) ?_
          (simp only [Eng.ob,Eng.enc,Eng.new,List.map_replicate])
        ·refine bO ?_ ?_
         ·refine gg [.a _ _] ⟨o_a hO,trivial⟩ ?_
          refine bO ?_ ?_
          all_goals
           refine rT (a:=qy qg [V.ptr 0 0 0,vi 0] [qm 11 (V.t (T.agg [T.box 1 (T.agg [T.row 3 (zj (zy c.players) (Col.enc Col.new))]),ti c.cols,ti c.rows,ti c.players,ti c.window,T.int zf c.seed,T.box 1 (T.agg [T.vrow 1 (zj (zy (qq c)) (T.dict [] []))]),T.dict [] [],ti 0,ti 0,ti 0])) false]) ?_
           (simp only [Eng.ob,Eng.enc,Eng.new,List.map_replicate])
         ·refine gg [.a _ _] ⟨o_a hO,trivial⟩ ?_
          refine rT (a:=qy qg [V.ptr 0 0 0,vi 0] [qm 11 (V.t (T.agg [T.box 1 (T.agg [T.row 3 (zj (zy c.players) (Col.enc Col.new))]),ti c.cols,ti c.rows,ti c.players,ti c.window,T.int zf c.seed,T.box 1 (T.agg [T.vrow 1 (zj (zy (qq c)) (T.dict [] []))]),T.dict [] [],ti 0,ti 0,ti 0])) false]) ?_
          (simp only [Eng.ob,Eng.enc,Eng.new,List.map_replicate])
       ·refine gg [.a _ _,.a _ _] ⟨o_a hG,o_a hO,trivial⟩ ?_
        refine rT (a:=qy qg [V.ptr 0 0 0,vi 0] [qm 11 (V.t (T.agg [T.box 1 (T.agg [T.row 3 (zj (zy c.players) (Col.enc Col.new))]),ti c.cols,ti c.rows,ti c.players,ti c.window,T.int zf c.seed,T.box 1 (T.agg [T.vrow 1 (zj (zy (qq c)) (T.dict [] []))]),T.dict [] [],ti 0,ti 0,ti 0])) false]) ?_
        (simp only [Eng.ob,Eng.enc,Eng.new,List.map_replicate])
     ·refine bO ?_ ?_
      ·refine bO ?_ ?_
       ·refine gg [.a _ _] ⟨o_a hI,trivial⟩ ?_
        refine bO ?_ ?_
        ·refine gg [.a _ _] ⟨o_a hG,trivial⟩ ?_
         refine bO ?_ ?_
         all_goals
          refine gg [.a _ _] ⟨o_a hO,trivial⟩ ?_
          refine rT (a:=qy qg [V.ptr 0 0 0,vi 0] [qm 11 (V.t (T.agg [T.box 1 (T.agg [T.row 3 (zj (zy c.players) (Col.enc Col.new))]),ti c.cols,ti c.rows,ti c.players,ti c.window,T.int zf c.seed,T.box 1 (T.agg [T.vrow 1 (zj (zy (qq c)) (T.dict [] []))]),T.dict [] [],ti 0,ti 0,ti 0])) false]) ?_
          (simp only [Eng.ob,Eng.enc,Eng.new,List.map_replicate])
        ·refine gg [.a _ _,.a _ _] ⟨o_a hG,o_a hO,trivial⟩ ?_
         refine rT (a:=qy qg [V.ptr 0 0 0,vi 0] [qm 11 (V.t (T.agg [T.box 1 (T.agg [T.row 3 (zj (zy c.players) (Col.enc Col.new))]),ti c.cols,ti c.rows,ti c.players,ti c.window,T.int zf c.seed,T.box 1 (T.agg [T.vrow 1 (zj (zy (qq c)) (T.dict [] []))]),T.dict [] [],ti 0,ti 0,ti 0])) false]) ?_
         (simp only [Eng.ob,Eng.enc,Eng.new,List.map_replicate])
       ·refine gg [.a _ _,.a _ _,.a _ _] ⟨o_a hI,o_a hG,o_a hO,trivial⟩ ?_
        refine rT (a:=qy qg [V.ptr 0 0 0,vi 0] [qm 11 (V.t (T.agg [T.box 1 (T.agg [T.row 3 (zj (zy c.players) (Col.enc Col.new))]),ti c.cols,ti c.rows,ti c.players,ti c.window,T.int zf c.seed,T.box 1 (T.agg [T.vrow 1 (zj (zy (qq c)) (T.dict [] []))]),T.dict [] [],ti 0,ti 0,ti 0])) false]) ?_
        (simp only [Eng.ob,Eng.enc,Eng.new,List.map_replicate])
      ·refine gg [.a _ _,.a _ _,.a _ _] ⟨o_a hI,o_a hG,o_a hO,trivial⟩ ?_
       refine rT (a:=qy qg [V.ptr 0 0 0,vi 0] [qm 11 (V.t (T.agg [T.box 1 (T.agg [T.row 3 (zj (zy c.players) (Col.enc Col.new))]),ti c.cols,ti c.rows,ti c.players,ti c.window,T.int zf c.seed,T.box 1 (T.agg [T.vrow 1 (zj (zy (qq c)) (T.dict [] []))]),T.dict [] [],ti 0,ti 0,ti 0])) false]) ?_
       (simp only [Eng.ob,Eng.enc,Eng.new,List.map_replicate])
    ·refine gg [.a _ _,.a _ _,.a _ _] ⟨o_a hI,o_a hG,o_a hO,trivial⟩ ?_
     refine rT (a:=qy qg [V.ptr 0 0 0,vi 0] [qm 11 (V.t (T.agg [T.box 1 (T.agg [T.row 3 (zj (zy c.players) (Col.enc Col.new))]),ti c.cols,ti c.rows,ti c.players,ti c.window,T.int zf c.seed,T.box 1 (T.agg [T.vrow 1 (zj (zy (qq c)) (T.dict [] []))]),T.dict [] [],ti 0,ti 0,ti 0])) false]) ?_
     (simp only [Eng.ob,Eng.enc,Eng.new,List.map_replicate])
 ·refine bO ?_ ?_
  ·refine bO ?_ ?_
   ·refine bO ?_ ?_
    ·refine gg [.a _ _] ⟨o_a hI,trivial⟩ ?_
     refine bO ?_ ?_
     ·refine bO ?_ ?_
      ·refine gg [.a _ _] ⟨o_a hG,trivial⟩ ?_
       refine bO ?_ ?_
       all_goals
        refine gg [.a _ _] ⟨o_a hO,trivial⟩ ?_
        refine rT (a:=qy qg [V.ptr 0 0 0,vi 0] [qm 11 (V.t (T.agg [T.box 1 (T.agg [T.row 3 (zj (zy c.players) (Col.enc Col.new))]),ti c.cols,ti c.rows,ti c.players,ti c.window,T.int zf c.seed,T.box 1 (T.agg [T.vrow 1 (zj (zy (qq c)) (T.dict [] []))]),T.dict [] [],ti 0,ti 0,ti 0])) false]) ?_
        (simp only [Eng.ob,Eng.enc,Eng.new,List.map_replicate])
      ·refine gg [.a _ _,.a _ _] ⟨o_a hG,o_a hO,trivial⟩ ?_
       refine rT (a:=qy qg [V.ptr 0 0 0,vi 0] [qm 11 (V.t (T.agg [T.box 1 (T.agg [T.row 3 (zj (zy c.players) (Col.enc Col.new))]),ti c.cols,ti c.rows,ti c.players,ti c.window,T.int zf c.seed,T.box 1 (T.agg [T.vrow 1 (zj (zy (qq c)) (T.dict [] []))]),T.dict [] [],ti 0,ti 0,ti 0])) false]) ?_
       (simp only [Eng.ob,Eng.enc,Eng.new,List.map_replicate])
     ·refine gg [.a _ _,.a _ _] ⟨o_a hG,o_a hO,trivial⟩ ?_
      refine rT (a:=qy qg [V.ptr 0 0 0,vi 0] [qm 11 (V.t (T.agg [T.box 1 (T.agg [T.row 3 (zj (zy c.players) (Col.enc Col.new))]),ti c.cols,ti c.rows,ti c.players,ti c.window,T.int zf c.seed,T.box 1 (T.agg [T.vrow 1 (zj (zy (qq c)) (T.dict [] []))]),T.dict [] [],ti 0,ti 0,ti 0])) false]) ?_
      (simp only [Eng.ob,Eng.enc,Eng.new,List.map_replicate])
    ·refine bO ?_ ?_
     ·refine bO ?_ ?_
      ·refine gg [.a _ _] ⟨o_a hI,trivial⟩ ?_
       refine bO ?_ ?_
       ·refine gg [.a _ _] ⟨o_a hG,trivial⟩ ?_
        refine bO ?_ ?_
        all_goals
         refine gg [.a _ _] ⟨o_a hO,trivial⟩ ?_
         refine rT (a:=qy qg [V.ptr 0 0 0,vi 0] [qm 11 (V.t (T.agg [T.box 1 (T.agg [T.row 3 (zj (zy c.players) (Col.enc Col.new))]),ti c.cols,ti c.rows,ti c.players,ti c.window,T.int zf c.seed,T.box 1 (T.agg [T.vrow 1 (zj (zy (qq c)) (T.dict [] []))]),T.dict [] [],ti 0,ti 0,ti 0])) false]) ?_
         (simp only [Eng.ob,Eng.enc,Eng.new,List.map_replicate])
       ·refine gg [.a _ _,.a _ _] ⟨o_a hG,o_a hO,trivial⟩ ?_
        refine rT (a:=qy qg [V.ptr 0 0 0,vi 0] [qm 11 (V.t (T.agg [T.box 1 (T.agg [T.row 3 (zj (zy c.players) (Col.enc Col.new))]),ti c.cols,ti c.rows,ti c.players,ti c.window,T.int zf c.seed,T.box 1 (T.agg [T.vrow 1 (zj (zy (qq c)) (T.dict [] []))]),T.dict [] [],ti 0,ti 0,ti 0])) false]) ?_
        (simp only [Eng.ob,Eng.enc,Eng.new,List.map_replicate])
      ·refine gg [.a _ _,.a _ _,.a _ _] ⟨o_a hI,o_a hG,o_a hO,trivial⟩ ?_
       refine rT (a:=qy qg [V.ptr 0 0 0,vi 0] [qm 11 (V.t (T.agg [T.box 1 (T.agg [T.row 3 (zj (zy c.players) (Col.enc Col.new))]),ti c.cols,ti c.rows,ti c.players,ti c.window,T.int zf c.seed,T.box 1 (T.agg [T.vrow 1 (zj (zy (qq c)) (T.dict [] []))]),T.dict [] [],ti 0,ti 0,ti 0])) false]) ?_
       (simp only [Eng.ob,Eng.enc,Eng.new,List.map_replicate])
     ·refine gg [.a _ _,.a _ _,.a _ _] ⟨o_a hI,o_a hG,o_a hO,trivial⟩ ?_
      refine rT (a:=qy qg [V.ptr 0 0 0,vi 0] [qm 11 (V.t (T.agg [T.box 1 (T.agg [T.row 3 (zj (zy c.players) (Col.enc Col.new))]),ti c.cols,ti c.rows,ti c.players,ti c.window,T.int zf c.seed,T.box 1 (T.agg [T.vrow 1 (zj (zy (qq c)) (T.dict [] []))]),T.dict [] [],ti 0,ti 0,ti 0])) false]) ?_
      (simp only [Eng.ob,Eng.enc,Eng.new,List.map_replicate])
   ·refine bO ?_ ?_
    ·refine bO ?_ ?_
     ·refine bO ?_ ?_
      ·refine gg [.a _ _] ⟨o_a hI,trivial⟩ ?_
       refine bO ?_ ?_
       ·refine gg [.a _ _] ⟨o_a hG,trivial⟩ ?_
        refine bO ?_ ?_
        all_goals
         refine gg [.a _ _] ⟨o_a hO,trivial⟩ ?_
         refine rT (a:=qy qg [V.ptr 0 0 0,vi 0] [qm 11 (V.t (T.agg [T.box 1 (T.agg [T.row 3 (zj (zy c.players) (Col.enc Col.new))]),ti c.cols,ti c.rows,ti c.players,ti c.window,T.int zf c.seed,T.box 1 (T.agg [T.vrow 1 (zj (zy (qq c)) (T.dict [] []))]),T.dict [] [],ti 0,ti 0,ti 0])) false]) ?_
         (simp only [Eng.ob,Eng.enc,Eng.new,List.map_replicate])
       ·refine gg [.a _ _,.a _ _] ⟨o_a hG,o_a hO,trivial⟩ ?_
        refine rT (a:=qy qg [V.ptr 0 0 0,vi 0] [qm 11 (V.t (T.agg [T.box 1 (T.agg [T.row 3 (zj (zy c.players) (Col.enc Col.new))]),ti c.cols,ti c.rows,ti c.players,ti c.window,T.int zf c.seed,T.box 1 (T.agg [T.vrow 1 (zj (zy (qq c)) (T.dict [] []))]),T.dict [] [],ti 0,ti 0,ti 0])) false]) ?_
        (simp only [Eng.ob,Eng.enc,Eng.new,List.map_replicate])
      ·refine gg [.a _ _,.a _ _,.a _ _] ⟨o_a hI,o_a hG,o_a hO,trivial⟩ ?_
       refine rT (a:=qy qg [V.ptr 0 0 0,vi 0] [qm 11 (V.t (T.agg [T.box 1 (T.agg [T.row 3 (zj (zy c.players) (Col.enc Col.new))]),ti c.cols,ti c.rows,ti c.players,ti c.window,T.int zf c.seed,T.box 1 (T.agg [T.vrow 1 (zj (zy (qq c)) (T.dict [] []))]),T.dict [] [],ti 0,ti 0,ti 0])) false]) ?_
       (simp only [Eng.ob,Eng.enc,Eng.new,List.map_replicate])
     ·refine gg [.a _ _,.a _ _,.a _ _] ⟨o_a hI,o_a hG,o_a hO,trivial⟩ ?_
      refine rT (a:=qy qg [V.ptr 0 0 0,vi 0] [qm 11 (V.t (T.agg [T.box 1 (T.agg [T.row 3 (zj (zy c.players) (Col.enc Col.new))]),ti c.cols,ti c.rows,ti c.players,ti c.window,T.int zf c.seed,T.box 1 (T.agg [T.vrow 1 (zj (zy (qq c)) (T.dict [] []))]),T.dict [] [],ti 0,ti 0,ti 0])) false]) ?_
      (simp only [Eng.ob,Eng.enc,Eng.new,List.map_replicate])
    ·refine gg [.a _ _,.a _ _,.a _ _] ⟨o_a hI,o_a hG,o_a hO,trivial⟩ ?_
     refine rT (a:=qy qg [V.ptr 0 0 0,vi 0] [qm 11 (V.t (T.agg [T.box 1 (T.agg [T.row 3 (zj (zy c.players) (Col.enc Col.new))]),ti c.cols,ti c.rows,ti c.players,ti c.window,T.int zf c.seed,T.box 1 (T.agg [T.vrow 1 (zj (zy (qq c)) (T.dict [] []))]),T.dict [] [],ti 0,ti 0,ti 0])) false]) ?_
     (simp only [Eng.ob,Eng.enc,Eng.new,List.map_replicate])
  ·refine bO ?_ ?_
   ·refine bO ?_ ?_
    ·refine bO ?_ ?_
     ·refine gg [.a _ _] ⟨o_a hI,trivial⟩ ?_
      refine bO ?_ ?_
      ·refine bO ?_ ?_
       ·refine gg [.a _ _] ⟨o_a hG,trivial⟩ ?_
        refine bO ?_ ?_
        all_goals
         refine gg [.a _ _] ⟨o_a hO,trivial⟩ ?_
         refine rT (a:=qy qg [V.ptr 0 0 0,vi 0] [qm 11 (V.t (T.agg [T.box 1 (T.agg [T.row 3 (zj (zy c.players) (Col.enc Col.new))]),ti c.cols,ti c.rows,ti c.players,ti c.window,T.int zf c.seed,T.box 1 (T.agg [T.vrow 1 (zj (zy (qq c)) (T.dict [] []))]),T.dict [] [],ti 0,ti 0,ti 0])) false]) ?_
         (simp only [Eng.ob,Eng.enc,Eng.new,List.map_replicate])
       ·refine gg [.a _ _,.a _ _] ⟨o_a hG,o_a hO,trivial⟩ ?_
        refine rT (a:=qy qg [V.ptr 0 0 0,vi 0] [qm 11 (V.t (T.agg [T.box 1 (T.agg [T.row 3 (zj (zy c.players) (Col.enc Col.new))]),ti c.cols,ti c.rows,ti c.players,ti c.window,T.int zf c.seed,T.box 1 (T.agg [T.vrow 1 (zj (zy (qq c)) (T.dict [] []))]),T.dict [] [],ti 0,ti 0,ti 0])) false]) ?_
        (simp only [Eng.ob,Eng.enc,Eng.new,List.map_replicate])
      ·refine bO ?_ ?_
       ·refine gg [.a _ _] ⟨o_a hG,trivial⟩ ?_
        refine bO ?_ ?_
        ·refine bO ?_ ?_
         all_goals
          refine gg [.a _ _] ⟨o_a hO,trivial⟩ ?_
          refine rT (a:=qy qg [V.ptr 0 0 0,vi 0] [qm 11 (V.t (T.agg [T.box 1 (T.agg [T.row 3 (zj (zy c.players) (Col.enc Col.new))]),ti c.cols,ti c.rows,ti c.players,ti c.window,T.int zf c.seed,T.box 1 (T.agg [T.vrow 1 (zj (zy (qq c)) (T.dict [] []))]),T.dict [] [],ti 0,ti 0,ti 0])) false]) ?_
          (simp only [Eng.ob,Eng.enc,Eng.new,List.map_replicate])
        ·refine bO ?_ ?_
         ·refine gg [.a _ _] ⟨o_a hO,trivial⟩ ?_
          refine bO ?_ ?_
          all_goals
           refine rT (a:=qy qg [V.ptr 0 0 0,vi 0] [qm 11 (V.t (T.agg [T.box 1 (T.agg [T.row 3 (zj (zy c.players) (Col.enc Col.new))]),ti c.cols,ti c.rows,ti c.players,ti c.window,T.int zf c.seed,T.box 1 (T.agg [T.vrow 1 (zj (zy (qq c)) (T.dict [] []))]),T.dict [] [],ti 0,ti 0,ti 0])) false]) ?_
           (simp only [Eng.ob,Eng.enc,Eng.new,List.map_replicate])
         ·refine gg [.a _ _] ⟨o_a hO,trivial⟩ ?_
          refine rT (a:=qy qg [V.ptr 0 0 0,vi 0] [qm 11 (V.t (T.agg [T.box 1 (T.agg [T.row 3 (zj (zy c.players) (Col.enc Col.new))]),ti c.cols,ti c.rows,ti c.players,ti c.window,T.int zf c.seed,T.box 1 (T.agg [T.vrow 1 (zj (zy (qq c)) (T.dict [] []))]),T.dict [] [],ti 0,ti 0,ti 0])) false]) ?_
          (simp only [Eng.ob,Eng.enc,Eng.new,List.map_replicate])
       ·refine gg [.a _ _,.a _ _] ⟨o_a hG,o_a hO,trivial⟩ ?_
        refine rT (a:=qy qg [V.ptr 0 0 0,vi 0] [qm 11 (V.t (T.agg [T.box 1 (T.agg [T.row 3 (zj (zy c.players) (Col.enc Col.new))]),ti c.cols,ti c.rows,ti c.players,ti c.window,T.int zf c.seed,T.box 1 (T.agg [T.vrow 1 (zj (zy (qq c)) (T.dict [] []))]),T.dict [] [],ti 0,ti 0,ti 0])) false]) ?_
        (simp only [Eng.ob,Eng.enc,Eng.new,List.map_replicate])
     ·refine bO ?_ ?_
      ·refine bO ?_ ?_
       ·refine gg [.a _ _] ⟨o_a hI,trivial⟩ ?_
        refine bO ?_ ?_
        ·refine gg [.a _ _] ⟨o_a hG,trivial⟩ ?_
         refine bO ?_ ?_
         all_goals
          refine gg [.a _ _] ⟨o_a hO,trivial⟩ ?_
          refine rT (a:=qy qg [V.ptr 0 0 0,vi 0] [qm 11 (V.t (T.agg [T.box 1 (T.agg [T.row 3 (zj (zy c.players) (Col.enc Col.new))]),ti c.cols,ti c.rows,ti c.players,ti c.window,T.int zf c.seed,T.box 1 (T.agg [T.vrow 1 (zj (zy (qq c)) (T.dict [] []))]),T.dict [] [],ti 0,ti 0,ti 0])) false]) ?_
          (simp only [Eng.ob,Eng.enc,Eng.new,List.map_replicate])
        ·refine gg [.a _ _,.a _ _] ⟨o_a hG,o_a hO,trivial⟩ ?_
         refine rT (a:=qy qg [V.ptr 0 0 0,vi 0] [qm 11 (V.t (T.agg [T.box 1 (T.agg [T.row 3 (zj (zy c.players) (Col.enc Col.new))]),ti c.cols,ti c.rows,ti c.players,ti c.window,T.int zf c.seed,T.box 1 (T.agg [T.vrow 1 (zj (zy (qq c)) (T.dict [] []))]),T.dict [] [],ti 0,ti 0,ti 0])) false]) ?_
         (simp only [Eng.ob,Eng.enc,Eng.new,List.map_replicate])
       ·refine gg [.a _ _,.a _ _,.a _ _] ⟨o_a hI,o_a hG,o_a hO,trivial⟩ ?_
        refine rT (a:=qy qg [V.ptr 0 0 0,vi 0] [qm 11 (V.t (T.agg [T.box 1 (T.agg [T.row 3 (zj (zy c.players) (Col.enc Col.new))]),ti c.cols,ti c.rows,ti c.players,ti c.window,T.int zf c.seed,T.box 1 (T.agg [T.vrow 1 (zj (zy (qq c)) (T.dict [] []))]),T.dict [] [],ti 0,ti 0,ti 0])) false]) ?_
        (simp only [Eng.ob,Eng.enc,Eng.new,List.map_replicate])
      ·refine gg [.a _ _,.a _ _,.a _ _] ⟨o_a hI,o_a hG,o_a hO,trivial⟩ ?_
       refine rT (a:=qy qg [V.ptr 0 0 0,vi 0] [qm 11 (V.t (T.agg [T.box 1 (T.agg [T.row 3 (zj (zy c.players) (Col.enc Col.new))]),ti c.cols,ti c.rows,ti c.players,ti c.window,T.int zf c.seed,T.box 1 (T.agg [T.vrow 1 (zj (zy (qq c)) (T.dict [] []))]),T.dict [] [],ti 0,ti 0,ti 0])) false]) ?_
       (simp only [Eng.ob,Eng.enc,Eng.new,List.map_replicate])
    ·refine bO ?_ ?_
     ·refine bO ?_ ?_
      ·refine bO ?_ ?_
       ·refine gg [.a _ _] ⟨o_a hI,trivial⟩ ?_
        refine bO ?_ ?_
        ·refine gg [.a _ _] ⟨o_a hG,trivial⟩ ?_
         refine bO ?_ ?_
         all_goals
          refine gg [.a _ _] ⟨o_a hO,trivial⟩ ?_
          refine rT (a:=qy qg [V.ptr 0 0 0,vi 0] [qm 11 (V.t (T.agg [T.box 1 (T.agg [T.row 3 (zj (zy c.players) (Col.enc Col.new))]),ti c.cols,ti c.rows,ti c.players,ti c.window,T.int zf c.seed,T.box 1 (T.agg [T.vrow 1 (zj (zy (qq c)) (T.dict [] []))]),T.dict [] [],ti 0,ti 0,ti 0])) false]) ?_
          (simp only [Eng.ob,Eng.enc,Eng.new,List.map_replicate])
        ·refine gg [.a _ _,.a _ _] ⟨o_a hG,o_a hO,trivial⟩ ?_
         refine rT (a:=qy qg [V.ptr 0 0 0,vi 0] [qm 11 (V.t (T.agg [T.box 1 (T.agg [T.row 3 (zj (zy c.players) (Col.enc Col.new))]),ti c.cols,ti c.rows,ti c.players,ti c.window,T.int zf c.seed,T.box 1 (T.agg [T.vrow 1 (zj (zy (qq c)) (T.dict [] []))]),T.dict [] [],ti 0,ti 0,ti 0])) false]) ?_
         (simp only [Eng.ob,Eng.enc,Eng.new,List.map_replicate])
       ·refine gg [.a _ _,.a _ _,.a _ _] ⟨o_a hI,o_a hG,o_a hO,trivial⟩ ?_
        refine rT (a:=qy qg [V.ptr 0 0 0,vi 0] [qm 11 (V.t (T.agg [T.box 1 (T.agg [T.row 3 (zj (zy c.players) (Col.enc Col.new))]),ti c.cols,ti c.rows,ti c.players,ti c.window,T.int zf c.seed,T.box 1 (T.agg [T.vrow 1 (zj (zy (qq c)) (T.dict [] []))]),T.dict [] [],ti 0,ti 0,ti 0])) false]) ?_
        (simp only [Eng.ob,Eng.enc,Eng.new,List.map_replicate])
      ·refine gg [.a _ _,.a _ _,.a _ _] ⟨o_a hI,o_a hG,o_a hO,trivial⟩ ?_
       refine rT (a:=qy qg [V.ptr 0 0 0,vi 0] [qm 11 (V.t (T.agg [T.box 1 (T.agg [T.row 3 (zj (zy c.players) (Col.enc Col.new))]),ti c.cols,ti c.rows,ti c.players,ti c.window,T.int zf c.seed,T.box 1 (T.agg [T.vrow 1 (zj (zy (qq c)) (T.dict [] []))]),T.dict [] [],ti 0,ti 0,ti 0])) false]) ?_
       (simp only [Eng.ob,Eng.enc,Eng.new,List.map_replicate])
     ·refine gg [.a _ _,.a _ _,.a _ _] ⟨o_a hI,o_a hG,o_a hO,trivial⟩ ?_
      refine rT (a:=qy qg [V.ptr 0 0 0,vi 0] [qm 11 (V.t (T.agg [T.box 1 (T.agg [T.row 3 (zj (zy c.players) (Col.enc Col.new))]),ti c.cols,ti c.rows,ti c.players,ti c.window,T.int zf c.seed,T.box 1 (T.agg [T.vrow 1 (zj (zy (qq c)) (T.dict [] []))]),T.dict [] [],ti 0,ti 0,ti 0])) false]) ?_
      (simp only [Eng.ob,Eng.enc,Eng.new,List.map_replicate])
   ·refine gg [.a _ _,.a _ _,.a _ _] ⟨o_a hI,o_a hG,o_a hO,trivial⟩ ?_
    refine rT (a:=qy qg [V.ptr 0 0 0,vi 0] [qm 11 (V.t (T.agg [T.box 1 (T.agg [T.row 3 (zj (zy c.players) (Col.enc Col.new))]),ti c.cols,ti c.rows,ti c.players,ti c.window,T.int zf c.seed,T.box 1 (T.agg [T.vrow 1 (zj (zy (qq c)) (T.dict [] []))]),T.dict [] [],ti 0,ti 0,ti 0])) false]) ?_
    (simp only [Eng.ob,Eng.enc,Eng.new,List.map_replicate])
theorem AbQ:Is cx (.call 11 [.t (.agg [ti 0,ti 0,ti 0,ti 0,.int .u64 0])] []) ⟨.ret,[.t .nilp,vi 10],[]⟩:=Aaw (n:=20) (by kernel_rfl)
end Go.Eva.S8
namespace Go.Eva.S8
abbrev baseT (s:Region):T:= .agg [ti s.frame,.sl 9 (s.ents.map zm),.sl 15 []]
theorem AbH (c:Config) (r:Int) (s:Region) (hn:small s.ents):Fn cx 58 [c.enc,ti r,baseT s] (.bool (regionRight c r s)):=by
 have h:=Adt c r s hn
 cases hr:regionRight c r s with
 |true=>
  rw [hr] at h
  have hL:Is cx (.loop 58 [0,1,0,1,1] 0 [vi r,.ptr 0 0 0,.ptr 1 0 0,vb false,.t (.sl 15 []),vi 0,vi 0] [.one 5 (.t c.enc) false,.one 3 (.t (baseT s)) false]) ⟨.exit 0,[vi r,.ptr 0 0 0,.ptr 1 0 0,vb false,.t (.sl 15 []),vi 0,vi 0],[.one 5 (.t c.enc) false,.one 3 (.t (baseT s)) false]⟩:=by
   refine qk ?_
   refine gg [.b (decide (0<0)) false] ⟨bK,trivial⟩ ?_
   exact ge
  refine qk ?_
  refine gg [.a _ _,.b (!true) false,.l 0,.a _ _] ⟨o_a h,bK,o_a hL,trivial⟩ ?_
  exact ge
 |false=>
  rw [hr] at h
  refine qk ?_
  refine gg [.a _ _,.b (!false) true] ⟨o_a h,bK,trivial⟩ ?_
  exact ge
theorem Ads (s:Region) (hn:small s.ents):Fn cx 59 [s.enc] s.enc:=by
 have h:=Abr s.ents hn
 refine qk ?_
 refine gg [.a _ _] ⟨o_a h,trivial⟩ ?_
 exact ge
theorem Abt (e:Eng) (s:Region) (hn:small s.ents) (hk:e.ks= []∧e.xs= []) (hr:regionRight e.c 0 s=true):
  Is cx (.call 15 [.ptr 0 0 0,vi 0,.agg [vi s.frame,.t (.sl 9 (s.ents.map zm)),.fit 15 []]] [e.ob]) ⟨.ret,[vi 0],[Eng.ob {e with ks:= [ti 0],xs:= [subNew s],dirty:=minI e.dirty s.frame}]⟩:=by
 obtain ⟨c,cols,outs,ks,xs,now,dirty,steps⟩:=e
 simp only at hk hr
 obtain ⟨rfl,rfl⟩:=hk
 have h1:=Abk ⟨c,cols,outs,[],[],now,dirty,steps⟩ 0
 have h2:=AbH c 0 s hn
 have h3:=Ads s hn
 have h4:=AbC [] (by simp [small])
 have h5:=AbI ⟨c,cols,outs,[ti 0],[subNew s],now,dirty,steps⟩ s.frame
 have hi:(decide (0≤(0:Int))&&decide ((0:Int)<c.regions))=true:=by
  have:c.is 0=true:=by simp only [regionRight,Bool.and_eq_true] at hr;exact hr.1.1.1.1
  have h0:=(Config.is_iff (Config.is_right this)).1 this
  simp
  simp [qq,Config.is_right this]
  omega
 rw [hr] at h2
 simp only [hi] at h1
 refine qk ?_
 refine gg [.ff,.a _ _,.b (!true) false,.f zd 0 [] none,.b (!true) false,.a _ _,.b (flats [T.bool true]) true,.b (!true) false,.a _ _,.a _ _,.f zd 0 [] none,.t (qp 0 [ti 0]) (qp 0 (zz (T.int zd) [0])),.s (qp 0 [T.nilp]),.l 0,.s (qp 0 [T.box 10 (T.agg [ti s.frame,qp 9 (zz zm s.ents),T.row 15 [],T.row 1 [],T.row 1 [],T.bool false,ti 0,T.row 15 [],ti 0,ti 0])]),.a _ _] ⟨o_a h1,bK,oF,bK,o_a h2,bK,bK,o_a h3,o_a h4,oF,o_l (Afm rfl AhS),o_a h5,trivial⟩ ?_
 exact ge
end Go.Eva.S8
namespace Go.Eva.S8
abbrev base0 (f:Int):V:= .agg [vi f,.fit 9 [],.fit 15 []]
theorem Abn (e:Eng) (r:Int) (h:(decide (0≤r)&&decide (r<e.c.regions))=false):Is cx (.call 15 [.ptr 0 0 0,vi r,base0 0] [e.ob]) ⟨.ret,[vi 13],[e.ob]⟩:=by
 have h1:=Abk e r
 rw [h] at h1
 refine qk ?_
 refine gg [.ff,.a _ _,.b (!false) true] ⟨o_a h1,bK,trivial⟩ ?_
 exact ge
theorem AbA {e:Eng} (h:e.c.right=true):(decide (0≤(0:Int))&&decide ((0:Int)<e.c.regions))=true:=by
 have h1:=Config.right_iff.1 h
 have h2:=Config.mul_le h
 simp [qq,h]
 omega
theorem Abx (e:Eng) (s:Region) (hr:e.c.right=true):Is cx (.call 15 [.ptr 0 0 0,vi 0,base0 0] [Eng.ob {e with ks:= [ti 0],xs:= [subNew s]}]) ⟨.ret,[vi 18],[Eng.ob {e with ks:= [ti 0],xs:= [subNew s]}]⟩:=by
 have h1:=Abk {e with ks:= [ti 0],xs:= [subNew s]} 0
 rw [AbA (e:= {e with ks:= [ti 0],xs:= [subNew s]}) hr] at h1
 refine qk ?_
 refine gg [.ff,.a _ _,.b (!true) false,.f zd 0 [ti 0] (some 0),.g ([T.box 10 (T.agg [ti s.frame,qp 9 (zz zm s.ents),T.row 15 [],T.row 1 [],T.row 1 [],T.bool false,ti 0,T.row 15 [],ti 0,ti 0])]) 0 (T.box 10 (T.agg [ti s.frame,qp 9 (zz zm s.ents),T.row 15 [],T.row 1 [],T.row 1 [],T.bool false,ti 0,T.row 15 [],ti 0,ti 0])),.b (!false) true,.s (qp 0 [T.box 10 (T.agg [ti s.frame,qp 9 (zz zm s.ents),T.row 15 [],T.row 1 [],T.row 1 [],T.bool false,ti 0,T.row 15 [],ti 0,ti 0])])] ⟨o_a h1,bK,oF,oG,bK,trivial⟩ ?_
 exact ge
theorem AbD (e:Eng) (hr:e.c.right=true):Is cx (.call 15 [.ptr 0 0 0,vi 0,base0 (-1)] [Eng.ob {e with ks:= [],xs:= []}]) ⟨.ret,[vi 4],[Eng.ob {e with ks:= [],xs:= []}]⟩:=by
 have h1:=Abk {e with ks:= [],xs:= []} 0
 rw [AbA (e:= {e with ks:= [],xs:= []}) hr] at h1
 have h2:=AbH e.c 0 ⟨-1,[]⟩ (by simp [small])
 rw [show regionRight e.c 0 ⟨-1,[]⟩=false by simp [regionRight,within]] at h2
 refine qk ?_
 refine gg [.ff,.a _ _,.b (!true) false,.f zd 0 [] none,.b (!true) false,.a _ _,.b (flats [T.bool false]) true,.b (!false) true] ⟨o_a h1,bK,oF,bK,o_a h2,bK,bK,trivial⟩ ?_
 exact ge
theorem Abb (e:Eng):Is cx (.call 29 [.ptr 0 0 0,vi (-1)] [e.ob]) ⟨.ret,[vi 13],[e.ob]⟩:=by
 have h1:=Abk e (-1)
 refine qk ?_
 refine gg [.ff,.a _ _,.b (!false) true] ⟨o_a h1,bK,trivial⟩ ?_
 exact ge
theorem Abp (e:Eng) (hr:e.c.right=true):Is cx (.call 29 [.ptr 0 0 0,vi 0] [Eng.ob {e with ks:= [],xs:= []}]) ⟨.ret,[vi 8],[Eng.ob {e with ks:= [],xs:= []}]⟩:=by
 have h1:=Abk {e with ks:= [],xs:= []} 0
 rw [AbA (e:= {e with ks:= [],xs:= []}) hr] at h1
 refine qk ?_
 refine gg [.ff,.a _ _,.b (!true) false,.f zd 0 [] none,.tt] ⟨o_a h1,bK,oF,trivial⟩ ?_
 exact ge
abbrev obO (e:Eng) (m:Nat):Ob:= .one 11 (.agg [.t (.box 1 (.agg [.row 3 (e.cols.map Col.enc)])),vi e.c.cols,vi e.c.rows,vi e.c.players,vi e.c.window,.t (.int .u64 e.c.seed),.t (.box 1 (.agg [.vrow 1 e.outs])),.map m,vi e.now,vi e.dirty,vi e.steps]) false
abbrev subT (s:Region):T:= .agg [ti s.frame,.sl 9 (s.ents.map zm),.row 15 [],.row 1 [],.row 1 [],.bool false,ti 0,.row 15 [],ti 0,ti 0]
theorem Agx (s:Region):Is cx (.call 62 [.ptr 0 0 0] [.one 10 (.t (subT s)) false]) ⟨.ret,[vi s.frame],[.one 10 (.t (subT s)) false]⟩:=by
 refine qk ?_
 exact ge
theorem AdX (e:Eng) (s:Region):Is cx (.call 127 [.ptr 0 0 0,vi 0] [Eng.ob {e with ks:= [ti 0],xs:= [subNew s]}]) ⟨.ret,[.ptr 1 0 0],[obO e 2,.one 10 (.t (subT s)) false,.map [ti 0] [subNew s] [(0,.ptr 1 0 0)]]⟩:=by
 refine qk ?_
 refine gg [.ff,.f zd 0 [ti 0] (some 0),.g ([T.box 10 (T.agg [ti s.frame,qp 9 (zz zm s.ents),T.row 15 [],T.row 1 [],T.row 1 [],T.bool false,ti 0,T.row 15 [],ti 0,ti 0])]) 0 (T.box 10 (T.agg [ti s.frame,qp 9 (zz zm s.ents),T.row 15 [],T.row 1 [],T.row 1 [],T.bool false,ti 0,T.row 15 [],ti 0,ti 0]))] ⟨oF,oG,trivial⟩ ?_
 exact ge
theorem Adb (e:Eng) (s:Region):Is cx (.call 67 [.ptr 0 0 0,vi 0] [Eng.ob {e with ks:= [ti 0],xs:= [subNew s]}]) ⟨.ret,[.t .nilp],[Eng.ob {e with ks:= [ti 0],xs:= [subNew s]}]⟩:=by
 have h1:=AdX e s
 refine qk ?_
 refine gg [.a _ _,.b (!false) true,.tt,.tt,.tt,.tt,.ff,.s (qp 0 [T.box 10 (T.agg [ti s.frame,qp 9 (zz zm s.ents),T.row 15 [],T.row 1 [],T.row 1 [],T.bool false,ti 0,T.row 15 [],ti 0,ti 0])])] ⟨o_a h1,bK,trivial⟩ ?_
 exact ge
theorem Abz (e:Eng) (s:Region) (hr:e.c.right=true):Is cx (.call 29 [.ptr 0 0 0,vi 0] [Eng.ob {e with ks:= [ti 0],xs:= [subNew s]}]) ⟨.ret,[vi 0],[Eng.ob {e with ks:= [],xs:= [],dirty:=minI e.dirty s.frame}]⟩:=by
 have h1:=Abk {e with ks:= [ti 0],xs:= [subNew s]} 0
 rw [AbA (e:= {e with ks:= [ti 0],xs:= [subNew s]}) hr] at h1
 have h2:=Adb e s
 have h3:=Agx s
 have h4:=AbI {e with ks:= [ti 0],xs:= [subNew s]} s.frame
 refine qk ?_
 refine gg [.ff,.a _ _,.b (!true) false,.f zd 0 [ti 0] (some 0),.g ([T.box 10 (T.agg [ti s.frame,qp 9 (zz zm s.ents),T.row 15 [],T.row 1 [],T.row 1 [],T.bool false,ti 0,T.row 15 [],ti 0,ti 0])]) 0 (T.box 10 (T.agg [ti s.frame,qp 9 (zz zm s.ents),T.row 15 [],T.row 1 [],T.row 1 [],T.bool false,ti 0,T.row 15 [],ti 0,ti 0])),.ff,.s (qp 0 [T.box 10 (T.agg [ti s.frame,qp 9 (zz zm s.ents),T.row 15 [],T.row 1 [],T.row 1 [],T.bool false,ti 0,T.row 15 [],ti 0,ti 0])]),.a _ _,.b (!true) false,.f zd 0 [ti 0] (some 0),.g ([T.box 10 (T.agg [ti s.frame,qp 9 (zz zm s.ents),T.row 15 [],T.row 1 [],T.row 1 [],T.bool false,ti 0,T.row 15 [],ti 0,ti 0])]) 0 (T.box 10 (T.agg [ti s.frame,qp 9 (zz zm s.ents),T.row 15 [],T.row 1 [],T.row 1 [],T.bool false,ti 0,T.row 15 [],ti 0,ti 0])),.a _ _,.s (qp 0 [T.box 10 (T.agg [ti s.frame,qp 9 (zz zm s.ents),T.row 15 [],T.row 1 [],T.row 1 [],T.bool false,ti 0,T.row 15 [],ti 0,ti 0])]),.a _ _,.f zd 0 [ti 0] (some 0),.s (qp 0 [])] ⟨o_a h1,bK,oF,oG,o_a h2,bK,oF,oG,o_a h3,o_a h4,oF,trivial⟩ ?_
 refine gg [.s (qp 0 [])] trivial ?_
 exact ge
abbrev odd3:Cross:=⟨3,0,0,0,⟨0,0,0,0,0,0,0,0,0⟩,0,0⟩
theorem AdV (e:Eng):Is cx (.call 72 [.t odd3.enc,.ptr 0 0 0] [.one 1 (.ptr 1 0 0) false,e.ob]) ⟨.ret,[vb true],[.one 1 (.ptr 1 0 0) false,e.ob]⟩:=by
 have h:=Aem e.c odd3
 rw [show odd3.right e.c=false by simp [Cross.right]] at h
 refine qk ?_
 refine gg [.a _ _] ⟨o_a h,trivial⟩ ?_
 exact ge
theorem Add (e:Eng):Is cx (.call 148 [.fit 15 [odd3.enc],.clo 72 [.ptr 0 0 0]] [.one 1 (.ptr 1 0 0) false,e.ob]) ⟨.ret,[vi 0],[.one 1 (.ptr 1 0 0) false,e.ob]⟩:=by
 have h:=AdV e
 have hL:Is cx (.loop 148 [0,1,0,1] 2 [.fit 15 [odd3.enc],.clo 72 [.ptr 0 0 0],vi 0,vi 1,vi 0] [.one 1 (.ptr 1 0 0) false,e.ob]) ⟨.ret,[.fit 15 [odd3.enc],.clo 72 [.ptr 0 0 0],vi 0,vi 1,vi 0],[.one 1 (.ptr 1 0 0) false,e.ob]⟩:=by
  refine qk ?_
  refine gg [.b (decide (0<1)) true,.w (0≤(0:Int)),.l 0,.g [zn odd3] 0 (zn odd3),.a _ _,.tt] ⟨bK,oW,oG,o_a h,trivial⟩ ?_
  exact ge
 refine qk ?_
 refine gg [.l 1,.a _ _] ⟨o_a hL,trivial⟩ ?_
 exact ge
theorem Ado (e:Eng) (hr:e.c.right=true):Is cx (.call 27 [.ptr 0 0 0,.agg [vi 0,vi 0,.fit 15 [odd3.enc]]] [e.ob]) ⟨.ret,[vb false],[e.ob]⟩:=by
 have h:=Add e
 have hC:Is cx (.call 71 [.fit 15 [odd3.enc],.clo 72 [.ptr 0 0 0]] [.one 1 (.ptr 1 0 0) false,e.ob]) ⟨.ret,[vb true],[.one 1 (.ptr 1 0 0) false,e.ob]⟩:=by
  refine qk ?_
  refine gg [.a _ _] ⟨o_a h,trivial⟩ ?_
  exact ge
 have hG:=Aay e.c
 have hz:0<e.c.regions:=by
  have h1:=Config.right_iff.1 hr
  have h2:=Config.mul_le hr
  simp [qq,hr]
  omega
 refine qk ?_
 refine gg [.ff,.ff,.ff,.ff,.ff,.ff,.ff,.a _ _,.ff,.ff,.b (decide (0≥qq e.c)) false,.ff,.ff,.ff,.a _ _,.ff] ⟨o_a hG,fP,o_a hC,trivial⟩ ?_
 refine gg [.tt,.tt,.tt,.tt,.tt,.tt,.tt,.tt,.tt] trivial ?_
 exact ge
end Go.Eva.S8
namespace Go.Eva.S8
theorem Ack:Is cx (.call 12 [] []) ⟨.ret,[vb true],[]⟩:=Aaw (n:=60) (by kernel_rfl)
end Go.Eva.S8
namespace Go.Eva.S8
theorem AbN (c:Config) (r:Int):Is cx (.call 56 [.t c.enc,vi r] []) ⟨.ret,[vi (c.cornerX r),vi (c.cornerY r)],[]⟩:=by
 have h:=AcV c r
 unfold Config.cornerX Config.cornerY
 cases hi:c.is r with
 |false=>
  rw [hi] at h
  refine qk ?_
  refine gg [.a _ _,.b (!false) true] ⟨o_a h,bK,trivial⟩ ?_
  exact ge
 |true=>
  rw [hi] at h
  have hr:=Config.is_right hi
  have hi2:=(Config.is_iff hr).1 hi
  obtain ⟨hc,hrr,_⟩:=Config.right_iff.1 hr
  have k1:=Abe (v:=r) (k:=c.cols) (m:=c.rows) (by omega) (by omega) (by omega)
  have k2:=AaL (v:=r) (k:=c.cols) (by omega) (by omega)
  refine qk ?_
  refine gg [.a _ _,.b (!true) false,.w (c.cols≠(0:Int)),.s (ti (zg r c.cols)),.i zd (zg r c.cols*1024) (zg r c.cols*1024),.w (c.cols≠(0:Int)),.i zd (Int.tdiv r c.cols) (Int.tdiv r c.cols),.i zd (Int.tdiv r c.cols*1024) (Int.tdiv r c.cols*1024)] ⟨o_a h,bK,oW,oI,oW,oI,oI,trivial⟩ ?_
  exact ge
end Go.Eva.S8
namespace Go.Eva
open Go.RowKit
noncomputable def peek (live:List Nat) (q:Q (Env×Heap)):Q Res:=q.bind fun x=>(looks x.1 live).bind fun vs=> .ret ⟨.normal,vs,x.2⟩
section
variable {P:Program} {cx:Cx} {n:Nat} {ι:Io} {F:Nat→Prop} {w:Go.World} {H:Heap} {e:Env} {a:Act} {Q:Exit→Act→Go.World→Prop}
theorem Ah8 {live:List Nat} {vs:List V} {H':Heap} {q:Eva.Q (Env×Heap)} (hc:CxTy P cx) (hfn:FnsOK P cx) (h:Wp cx (peek live q) (· =⟨.normal,vs,H'⟩)):
  wpQ (TaskS P cx) q (fun x=>wpQ (TaskS P cx) ((looks x.1 live).bind fun vs=> .ret ⟨.normal,vs,x.2⟩) (· =(⟨.normal,vs,H'⟩:Res))):=
 Aaa _ _ _ (Aei (fun _ _ h=>h P hc hfn) _ _ h.h)
theorem Ahz {live:List Nat} {vs:List V} {H':Heap} (hi:In n ι F w H e a) (h:wpQ (TaskS P cx) ((looks e live).bind fun vs=> .ret ⟨.normal,vs,H⟩) (· =(⟨.normal,vs,H'⟩:Res))):
  H=H'∧In n ι F w H (zipE live vs) a:=by
 obtain ⟨vs',h1,h2⟩:=Ace hi (Aaa _ _ _ h)
 have h1:(⟨.normal,vs',H⟩:Res)=⟨.normal,vs,H'⟩:=h1
 injection h1 with _ e1 e2
 subst e1 e2
 exact ⟨rfl,hi.good,Aa0 h2,hi.size,hi.defers⟩
theorem Abm {ops:Array Oper} (hc:CxTy P cx) (hfn:FnsOK P cx) (hfit: ∀o∈ops.toList,fitO cx n o=true) {id:Nat} {live:List Nat} {vs:List V} {H':Heap} (hi:In n ι F w H e a) (h:Wp cx (peek live (runOps cx ops.toList ops.toList e H)) (· =⟨.normal,vs,H'⟩))
  (hQ: ∀a' w' ι' F',In n ι' F' w' H' (zipE live vs) a'→Step ι F H w ι' F' H' w'→Q .normal a' w'):(Code.region id ops false).wp P Q a w:=
 Adm hc hfn.callable (fun _ _ _ _ h=>h) hfit hi (Ah8 hc hfn h) (by
  rintro a' w' ⟨e',H1,ι',F',k1,k2,k3⟩
  obtain ⟨rfl,hi'⟩:=Ahz k2 k1
  exact hQ a' w' ι' F' hi' k3)
theorem AeJ (hi:In n ι F w H e a) (live:List Nat):VRs ι F w H (live.map (look e)) (slots a live):=by
 refine ⟨by simp [slots],fun i v u hv hu=> ?_⟩
 simp only [List.getElem?_map,slots] at hv hu
 obtain ⟨t,ht,rfl⟩:=Option.map_eq_some_iff.1 hv
 rw [ht] at hu
 simp at hu
 subst hu
 simpa using hi.sim t
theorem Af5 {vs:List V} {us:List Value} {v:V} {u:Value} (h:VRs ι F w H vs us) (hv:VR ι F w H v u):VRs ι F w H (vs++ [v]) (us++ [u]):=by
 refine ⟨by simp [h.1],fun i x y hx hy=> ?_⟩
 by_cases hi:i<vs.length
 ·rw [List.getElem?_append_left hi] at hx
  rw [List.getElem?_append_left (by rw [←h.1];exact hi)] at hy
  exact h.2 i x y hx hy
 ·rw [List.getElem?_append_right (by omega)] at hx
  rw [List.getElem?_append_right (by rw [←h.1];omega),←h.1] at hy
  cases hk:i-vs.length with
  |zero=>rw [hk] at hx hy;simp at hx hy;subst hx hy;exact hv
  |succ k=>rw [hk] at hx;simp at hx
theorem Afg {ι':Io} {F':Nat→Prop} {w':Go.World} {H':Heap} {vs:List V} {us:List Value} (h:VRs ι F w H vs us) (hm: ∀v u,VR ι F w H v u→VR ι' F' w' H' v u):VRs ι' F' w' H' vs us:=
 ⟨h.1,fun i v u hv hu=>hm v u (h.2 i v u hv hu)⟩
noncomputable def peekG (live:List Nat) (q:Eva.Q (Env×Heap)):Eva.Q Res:=q.bind fun x=>(looks x.1 live).bind fun vs=>(gc 0 vs x.2).bind fun g=> .ret ⟨.normal,g.vs,g.H⟩
theorem Ae3 {ops:Array Oper} (hc:CxTy P cx) (hfn:FnsOK P cx) (hfit: ∀o∈ops.toList,fitO cx n o=true) {id:Nat} {live:List Nat} {vs:List V} {H':Heap} (hi:In n ι F w H e a) (h:Wp cx (peekG live (runOps cx ops.toList ops.toList e H)) (· =⟨.normal,vs,H'⟩))
  (hQ: ∀a' w' ι' F',In n ι' F' w' H' (zipE live vs) a'→(∃ι1 F1 H1,Good ι1 F1 w' H1∧Step ι F H w ι1 F1 H1 w'∧Ext 0 ι1 F1 H1 w' ι' F' H' w')→Q .normal a' w'):(Code.region id ops false).wp P Q a w:=
 Adm hc hfn.callable (fun _ _ _ _ h=>h) hfit hi (Aaa _ _ _ (Aei (fun _ _ h=>h P hc hfn) _ _ h.h)) (by
  rintro a' w' ⟨e',H1,ι1,F1,k1,k2,k3⟩
  obtain ⟨vs',h1,h2⟩:=Ace k2 (Aaa _ _ _ k1)
  obtain ⟨g,ιg,h3,_,_,_,hgg,hgv,hge⟩:=gc_ok k2.good (Aaa _ _ _ h1) h2
  have h3:(⟨.normal,g.vs,g.H⟩:Res)=⟨.normal,vs,H'⟩:=h3
  injection h3 with _ e1 e2
  rw [e1] at hgv
  rw [e2] at hgg hgv hge
  exact hQ a' w' ιg F1 ⟨hgg,Aa0 hgv,k2.size,k2.defers⟩ ⟨ι1,F1,H1,k2.good,k3,hge⟩)
theorem Acr {ops:Array Oper} (hc:CxTy P cx) (hfn:FnsOK P cx) (hfit: ∀o∈ops.toList,fitO cx n o=true) (hsel:Region.noSelect ops=true) (hQ: ∀c a w,¬Q (.panic c) a w) {d:Ord} {f:Nat} {listed:Array Bool} {fin:Nat→Array Bool→Bool} {live:List Nat} {vs:List V} {H':Heap}
  (hok:okTo cx ops fin d f listed []=true) (hi:In n ι F w H e a) (h:Wp cx (peek live (ordQ cx ops.toList d e H)) (· =⟨.normal,vs,H'⟩))
  (hq: ∀f' listed',fin f' listed'=true→ ∀a' w' ι' F',In n ι' F' w' H' (zipE live vs) a'→Step ι F H w ι' F' H' w'→wpAnyR P cx ops Q f' listed' a' w'):wpAnyR P cx ops Q f listed a w:=
 (Ai5 hc hfn.callable (fun _ _ _ _ h=>h) hfit hsel hQ d f listed [] hok hi (Ah8 hc hfn h) (by
  rintro f' listed' hf a' w' ⟨e',H1,ι',F',k1,k2,k3⟩
  obtain ⟨rfl,hi'⟩:=Ahz k2 k1
  exact hq f' listed' hf a' w' ι' F' hi' k3)).1 rfl
theorem AiO {ops:Array Oper} {f:Nat} {listed:Array Bool} (h:okEnd ops f listed=true) (hq:Q .normal a w):wpAnyR P cx ops Q f listed a w:=by
 have hr:Region.ready .any ops listed= []:=by simpa [okEnd] using h
 cases f with
 |zero=>exact ⟨hr,hq⟩
 |succ f=>exact ⟨fun _=>hq,by rw [hr];simp⟩
theorem retree (hg:Good ι F w H) {id s:Nat} {xs ys:List T} {sp:Option Nat} {ro:Bool} (ho:H[id]?=some (.arr s xs sp ro)) (hl:ys.length=xs.length) (hc: ∀b,CellsR F w b s xs→CellsR F w b s ys):
  Good ι F w (H.set id (.arr s ys sp ro))∧Step ι F H w ι F (H.set id (.arr s ys sp ro)) w:=
 AbO hg ho rfl rfl rfl rfl (fun _ _=>rfl) (.inr ⟨rfl,fun _ _=>rfl,ys,sp,ro,rfl,hl⟩) (fun _=>rfl) (fun _=>by
  obtain ⟨h0,hh,h⟩:=hg.obj id _ ho
  refine ⟨h0,hh,?_⟩
  rcases h with ⟨h1,h2,h3⟩|⟨b,cs,e,h1,h2,h3,h4,h5,h6,h7⟩
  ·refine .inl ⟨h1,?_,h3⟩
   subst h2
   exact List.length_eq_zero_iff.1 hl
  ·exact .inr ⟨b,cs,e,h1,h2,by rw [hl];exact h3,by rw [hl];exact h4,h5,h6,hc b h7⟩)
theorem retree' (hg:Good ι F w H) {id s:Nat} {xs ys:List T} {sp:Option Nat} {ro:Bool} (ho:H[id]?=some (.arr s xs sp ro)) (hl:ys.length=xs.length) (hc: ∀b,ι id=some b→CellsR F w b s ys):
  Good ι F w (H.set id (.arr s ys sp ro))∧Step ι F H w ι F (H.set id (.arr s ys sp ro)) w:=
 AbO hg ho rfl rfl rfl rfl (fun _ _=>rfl) (.inr ⟨rfl,fun _ _=>rfl,ys,sp,ro,rfl,hl⟩) (fun _=>rfl) (fun _=>by
  obtain ⟨h0,hh,h⟩:=hg.obj id _ ho
  refine ⟨h0,hh,?_⟩
  rcases h with ⟨h1,h2,h3⟩|⟨b,cs,e,h1,h2,h3,h4,h5,h6,h7⟩
  ·refine .inl ⟨h1,?_,h3⟩
   subst h2
   exact List.length_eq_zero_iff.1 hl
  ·exact .inr ⟨b,cs,e,h1,h2,by rw [hl];exact h3,by rw [hl];exact h4,h5,h6,hc b h1⟩)
theorem widen (hg:Good ι F w H) {R:Nat→Prop} (hR: ∀b,R b→b<w.heap.size∧ ¬Live ι H b):Good ι (fun b=>F b∨R b) w H:=by
 refine ⟨fun b hb=>hb.elim (hg.fin b) fun h=>(hR b h).1,fun id o ho=>(hg.obj id o ho).mono (fun _ h=> .inl h) (fun _ _=>rfl) (fun i o h=>⟨o,h,.refl ι w i o⟩) (fun _=>⟨rfl,rfl⟩) (fun _ _ _=>rfl),hg.inj,?_,fun id o b h1 h2 h3 h4=> .inl (hg.rof id o b h1 h2 h3 h4),hg.nd⟩
 rintro b ⟨id,o,h1,h2,h3⟩ (h|h)
 ·exact hg.sep b ⟨id,o,h1,h2,h3⟩ h
 ·exact (hR b h).2 ⟨id,o,h1,by cases o<;>simp_all [Ob.ro,Ob.isDead],h3⟩
theorem Own.live {b:Nat} (h:Own ι H b):Live ι H b:=by
 obtain ⟨id,o,h1,h2,h3⟩:=h
 exact ⟨id,o,h1,by cases o<;>simp_all [Ob.ro,Ob.isDead],h3⟩
def RowD (K:Nat→Prop) (ι:Io) (F:Nat→Prop) (w:Go.World) (H:Heap) (s:Nat) (h:Value) (r:List T):Option Nat→Prop
 |none=>r= []∧ ∃a,h= .slice a 0 0
 |some b=> ∃cap cs e,h= .slice (some ⟨b,0,none⟩) r.length cap∧r.length≤cap∧w.heap[b]?=some (.cells cs e (0,0))∧cs.size=cap*s∧(∀(i:Nat) (c:Value),cs[i]?=some c→c.oneCell'=true)∧CellsR F w b s r∧ ¬F b∧ ¬Live ι H b∧K b
theorem RowD.ext {K:Nat→Prop} {s:Nat} {h:Value} {r:List T} {β:Option Nat} {keep:Nat} {ι':Io} {F':Nat→Prop} {w':Go.World} {H':Heap} (hg:Good ι F w H) (hx:Ext keep ι F H w ι' F' H' w') (hr:RowD K ι F w H s h r β):RowD K ι' F' w' H' s h r β:=by
 cases β with
 |none=>exact hr
 |some b=>
  obtain ⟨cap,cs,e,k1,k2,k3,k4,k5,k6,k7,k8,k9⟩:=hr
  have hlt:b<w.heap.size:=(Array.getElem?_eq_some_iff.1 k3).1
  have hsame:=hx.same b hlt fun ho=>k8 ho.live
  refine ⟨cap,cs,e,k1,k2,by rw [hsame];exact k3,k4,k5,k6.mono hx.fsub (fun b hb=>hx.same b (hg.fin b hb) fun ho=>hg.sep b ho hb) hsame,fun hf=> ?_,fun hl=>k8 (hx.live b hlt hl),k9⟩
  rcases hx.ffr b hlt hf with hf|hf
  ·exact k7 hf
  ·exact k8 hf.live
theorem RowD.other {K:Nat→Prop} {s:Nat} {h:Value} {r:List T} {β:Option Nat} {ι':Io} {H':Heap} (hr:RowD K ι F w H s h r β) (hl: ∀b,β=some b→ ¬Live ι' H' b):RowD K ι' F w H' s h r β:=by
 cases β with
 |none=>exact hr
 |some b=>
  obtain ⟨cap,cs,e,k1,k2,k3,k4,k5,k6,k7,k8,k9⟩:=hr
  exact ⟨cap,cs,e,k1,k2,k3,k4,k5,k6,k7,hl b rfl,k9⟩
theorem RowD.dark {K:Nat→Prop} {s b:Nat} {h:Value} {r:List T} {β:Option Nat} (hr:RowD K ι F w H s h r β) (hb:β=some b):b<w.heap.size∧ ¬Live ι H b∧K b:=by
 subst hb
 obtain ⟨cap,cs,e,k1,k2,k3,k4,k5,k6,k7,k8,k9⟩:=hr
 exact ⟨(Array.getElem?_eq_some_iff.1 k3).1,k8,k9⟩
def sameB:List Bool→List Bool→Bool
 | [],[]=>true
 |true::l,true::m=>sameB l m
 |false::l,false::m=>sameB l m
 |_,_=>false
theorem AdY: ∀ {l m:List Bool},sameB l m=true→l=m
 | [],[],_=>rfl
 |true::l,true::m,h=>by rw [AdY (l:=l) (m:=m) h]
 |false::l,false::m,h=>by rw [AdY (l:=l) (m:=m) h]
 |true::_,false::_,h=>by simp [sameB] at h
 |false::_,true::_,h=>by simp [sameB] at h
 | [],_::_,h=>by simp [sameB] at h
 |_::_,[],h=>by simp [sameB] at h
def finAt (k:Nat) (m:List Bool) (f:Nat) (l:Array Bool):Bool:=Nat.beq f k&&sameB l.toList m
theorem Af8 {k f:Nat} {m:List Bool} {l:Array Bool} (h:finAt k m f l=true):f=k∧l=m.toArray:=by
 simp only [finAt,Bool.and_eq_true] at h
 refine ⟨Nat.eq_of_beq_eq_true h.1,?_⟩
 rw [←AdY h.2]
theorem adopt {K:Nat→Prop} {s:Nat} {h:Value} {r:List T} {β:Option Nat} (h0:0<s) (hg:Good ι F w H) (hr:RowD K ι F w H s h r β):
  Good (upd ι H.length β) F w (H++ [.arr s r none false])∧VR (upd ι H.length β) F w (H++ [.arr s r none false]) (.all H.length none) h∧
  (∀id o,H[id]?=some o→ ∃o',(H++ [.arr s r none false])[id]?=some o'∧Like ι (upd ι H.length β) w w id o o')∧
  (∀b,Own (upd ι H.length β) (H++ [.arr s r none false]) b→Own ι H b∨β=some b)∧(∀b,Live (upd ι H.length β) (H++ [.arr s r none false]) b→Live ι H b∨β=some b):=by
 have old: ∀id,id<H.length→upd ι H.length β id=ι id∧(upd ι H.length β).hid id=ι.hid id:=fun id h=>AfA (by omega)
 have oldB: ∀id b,id<H.length→Blk (upd ι H.length β) id b→Blk ι id b:=fun id b h hb=>(AaS (old id h)).1 hb
 have newB: ∀b,Blk (upd ι H.length β) H.length b→β=some b:=fun b hb=>by
  unfold Blk at hb
  rw [Aag.1,Aag.2] at hb
  simpa using hb
 have hno:(H++ [qf s r none false])[H.length]?=some (.arr s r none false):=by simp
 have hl: ∀id o,H[id]?=some o→ ∃o',(H++ [.arr s r none false])[id]?=some o'∧Like ι (upd ι H.length β) w w id o o':=by
  intro id o ho
  have hid:=(List.getElem?_eq_some_iff.1 ho).1
  exact ⟨o,by rw [List.getElem?_append_left hid];exact ho,Like.of (old id hid).1 fun _ _ _=>rfl⟩
 have hown: ∀b,Own (upd ι H.length β) (H++ [.arr s r none false]) b→Own ι H b∨β=some b:=by
  rintro b ⟨id,o,h1,h2,h3⟩
  rcases Aai h1 with h1|⟨rfl,rfl⟩
  ·exact .inl ⟨id,o,h1,h2,oldB id b (List.getElem?_eq_some_iff.1 h1).1 h3⟩
  ·exact .inr (newB b h3)
 have hlive: ∀b,Live (upd ι H.length β) (H++ [.arr s r none false]) b→Live ι H b∨β=some b:=by
  rintro b ⟨id,o,h1,h2,h3⟩
  rcases Aai h1 with h1|⟨rfl,rfl⟩
  ·exact .inl ⟨id,o,h1,h2,oldB id b (List.getElem?_eq_some_iff.1 h1).1 h3⟩
  ·exact .inr (newB b h3)
 have hd: ∀b,β=some b→ ¬F b∧ ¬Live ι H b:=by
  intro b hb
  subst hb
  obtain ⟨cap,cs,e,k1,k2,k3,k4,k5,k6,k7,k8,k9⟩:=hr
  exact ⟨k7,k8⟩
 refine ⟨⟨hg.fin,?_,?_,?_,?_,?_⟩,.all _ _ _ ?_,hl,hown,hlive⟩
 ·intro id o ho
  rcases Aai ho with h1|⟨rfl,rfl⟩
  ·exact (hg.obj id o h1).mono (fun _ h=>h) (fun _ _=>rfl) hl (fun _=>old id (List.getElem?_eq_some_iff.1 h1).1) (fun _ _ _=>rfl)
  ·refine ⟨h0,Aag.2,?_⟩
   cases β with
   |none=>exact .inl ⟨Aag.1,hr.1,by simp⟩
   |some b=>
    obtain ⟨cap,cs,e,k1,k2,k3,k4,k5,k6,k7,k8,k9⟩:=hr
    exact .inr ⟨b,cs,e,Aag.1,k3,by rw [k4];exact Nat.mul_le_mul_right _ k2,by simp,⟨cap,k4⟩,k5,k6⟩
 ·intro i j oi oj b hi hj di dj bi bj
  rcases Aai hi with h1|⟨rfl,rfl⟩<;>rcases Aai hj with h2|⟨rfl,rfl⟩
  ·exact hg.inj i j oi oj b h1 h2 di dj (oldB i b (List.getElem?_eq_some_iff.1 h1).1 bi) (oldB j b (List.getElem?_eq_some_iff.1 h2).1 bj)
  ·exact absurd ⟨i,oi,h1,di,oldB i b (List.getElem?_eq_some_iff.1 h1).1 bi⟩ (hd b (newB b bj)).2
  ·exact absurd ⟨j,oj,h2,dj,oldB j b (List.getElem?_eq_some_iff.1 h2).1 bj⟩ (hd b (newB b bi)).2
  ·rfl
 ·intro b ho
  rcases hown b ho with ho|ho
  ·exact hg.sep b ho
  ·exact (hd b ho).1
 ·intro id o b ho hdd hro hb
  rcases Aai ho with h1|⟨rfl,rfl⟩
  ·exact hg.rof id o b h1 hdd hro (oldB id b (List.getElem?_eq_some_iff.1 h1).1 hb)
  ·simp [Ob.ro] at hro
 ·intro id o ho hdd
  rcases Aai ho with h1|⟨rfl,rfl⟩
  ·have e:=old id (List.getElem?_eq_some_iff.1 h1).1
   rw [e.1,e.2]
   exact hg.nd id o h1 hdd
  ·rw [Aag.2];simp
 ·unfold OwnSl
  rw [hno]
  unfold SlAt
  rw [Aag.1]
  cases β with
  |none=>
   obtain ⟨rfl,a,rfl⟩:=hr
   exact ⟨a,0,rfl,Nat.le_refl _,Nat.le_refl _,rfl⟩
  |some b=>
   obtain ⟨cap,cs,e,k1,k2,k3,k4,k5,k6,k7,k8,k9⟩:=hr
   refine ⟨_,cap,k1,k2,by simp,.inr (by simp),?_⟩
   simp only
   unfold blk
   rw [k3]
   simp only
   rw [k4,Nat.zero_add]
theorem release {K:Nat→Prop} {s id:Nat} {h:Value} {r:List T} {sp:Option Nat} (hg:Good ι F w H) (ho:H[id]?=some (.arr s r sp false)) (hv:VR ι F w H (.all id none) h) (hK: ∀b,Own ι H b→K b):
  ∃β,RowD K ι F w (H.set id .dead) s h r β∧ ∀b,β=some b→Live ι H b:=by
 cases hv with
 |all _ _ _ hv=>
 unfold OwnSl at hv
 rw [ho] at hv
 unfold SlAt at hv
 obtain ⟨ad,cap,rfl,h2,_,h4⟩:=hv
 simp only [Option.getD_none] at*
 by_cases hcap:cap=0
 ·subst hcap
  have:r= []:=List.length_eq_zero_iff.1 (by omega)
  subst this
  exact ⟨none,⟨rfl,ad,rfl⟩,by simp⟩
 ·obtain ⟨h0,_,hb|⟨b,cs,e,h5,h6,h7,h8,h9,h10,h11⟩⟩:=hg.obj id _ ho
  ·rw [hb.1] at h4;exact absurd h4 hcap
  ·rw [h5] at h4
   obtain ⟨h12,h13⟩:=h4
   have had:ad=some ⟨b,0,none⟩:=by
    rcases h12 with h12|h12
    ·exact absurd h12 hcap
    ·simpa using h12
   subst had
   have hown:Own ι H b:=⟨id,_,ho,rfl,.inl h5⟩
   refine ⟨some b,⟨cap,cs,e,rfl,h2,h6,?_,h10,h11,hg.sep b hown,?_,hK b hown⟩,fun b' hb'=>by cases hb';exact hown.live⟩
   ·simp only [blk,h6,Nat.zero_add] at h13
    exact h13.symm
   ·rintro ⟨i,oi,k1,k2,k3⟩
    by_cases hne:i=id
    ·subst hne
     rw [List.getElem?_set_self (List.getElem?_eq_some_iff.1 ho).1] at k1
     cases k1
     simp [Ob.isDead] at k2
    ·rw [List.getElem?_set_ne (Ne.symm hne)] at k1
     exact hne (hg.inj i id oi _ b k1 ho k2 rfl k3 (.inl h5))
theorem RowD.tr {K:Nat→Prop} {s:Nat} {h:Value} {r:List T} {β:Option Nat} (hr:RowD K ι F w H s h r β):TR (fun b=>F b∨β=some b) w (.sl s r) h:=by
 cases β with
 |none=>
  obtain ⟨rfl,a,rfl⟩:=hr
  exact .slN _ _ _
 |some b=>
  obtain ⟨cap,cs,e,rfl,k2,k3,k4,k5,⟨c,c1,c2,c3⟩,k7,k8,k9⟩:=hr
  by_cases hn:r= []
  ·subst hn;exact .slN _ _ _
  ·exact .slC s r b 0 cap c hn k2 (.inr rfl) (fun i j hi hj=>by rw [Nat.zero_add];exact c1 i j hi hj) c2 fun i j x t h1 h2 h3=>(c3 i j x t h1 h2 h3).mono (fun _ h=> .inl h) (fun _ _=>rfl)
abbrev pinE (x:T) (h:Value):T:= .agg [x,.pin h]
theorem AiL {b m:Nat} {x:T} (h:CellsR F w b 2 (zj m (.agg [x,.nul]))): ∃hs:List Value,hs.length=m∧CellsR F w b 2 (hs.map (pinE x))∧ ∀h∈hs,∃a,h= .slice a 0 0:=by
 obtain ⟨c,c1,c2,c3⟩:=h
 have key: ∀i,i<m→TR F w .nul (c i 1):=fun i hi=>c3 i 1 (.agg [x,.nul]) .nul (by simp [hi]) (by simp) rfl
 refine ⟨(List.range m).map fun i=>c i 1,by simp,⟨c,fun i j hi hj=>c1 i j (by simpa using hi) hj,?_,?_⟩,?_⟩
 ·intro i y hy hn
  simp only [List.getElem?_map] at hy
  obtain ⟨h,_,rfl⟩:=Option.map_eq_some_iff.1 hy
  rfl
 ·intro i j y t hy hn ht
  simp only [List.getElem?_map] at hy
  obtain ⟨h,hh,rfl⟩:=Option.map_eq_some_iff.1 hy
  obtain ⟨i',hi',rfl⟩:=Option.map_eq_some_iff.1 hh
  have him:i<m:=by have:=(List.getElem?_eq_some_iff.1 hi').1;simpa using this
  have e:i'=i:=by have:=(List.getElem?_eq_some_iff.1 hi').2;simpa using this.symm
  subst e
  match j,ht with
  |0,ht=>
   simp [T.cells] at ht;subst ht
   exact c3 i' 0 (.agg [x,.nul]) x (by simp [him]) (by simp) rfl
  |1,ht=>
   simp [T.cells] at ht;subst ht
   exact .pin _ (c1 i' 1 (by simpa using him) (by omega)).2
  |j+2,ht=>simp [T.cells] at ht
 ·intro h hh
  obtain ⟨i,hi,rfl⟩:=List.mem_map.1 hh
  have:=key i (by simpa using hi)
  generalize c i 1=v at this
  cases this with
  |nul a=>exact ⟨a,rfl⟩
theorem AiN {b s:Nat} {x:T} {hs:List Value} {rows:List (List T)} {F':Nat→Prop} (h:CellsR F w b 2 (hs.map (pinE x))) (hl:hs.length=rows.length) (hF: ∀b,F b→F' b)
  (hr: ∀(k:Nat) h r,hs[k]?=some h→rows[k]?=some r→TR F' w (.sl s r) h):CellsR F' w b 2 (rows.map fun r=> .agg [x,.sl s r]):=by
 obtain ⟨c,c1,c2,c3⟩:=h
 refine ⟨c,fun i j hi hj=>c1 i j (by simp at hi⊢;omega) hj,?_,?_⟩
 ·intro i y hy hn
  simp only [List.getElem?_map] at hy
  obtain ⟨r,_,rfl⟩:=Option.map_eq_some_iff.1 hy
  rfl
 ·intro i j y t hy hn ht
  simp only [List.getElem?_map] at hy
  obtain ⟨r,hrr,rfl⟩:=Option.map_eq_some_iff.1 hy
  have hi:i<hs.length:=by have:=(List.getElem?_eq_some_iff.1 hrr).1;omega
  have hh:hs[i]?=some hs[i]:=List.getElem?_eq_getElem hi
  match j,ht with
  |0,ht=>
   simp [T.cells] at ht;subst ht
   exact (c3 i 0 (pinE x hs[i]) x (by simp [hh]) (by simp) rfl).mono hF (fun _ _=>rfl)
  |1,ht=>
   simp [T.cells] at ht;subst ht
   have hp:=c3 i 1 (pinE x hs[i]) (.pin hs[i]) (by simp [hh]) (by simp) rfl
   have:=hr i _ _ hh hrr
   generalize hs[i]=v at hp this
   generalize c i 1=u at hp
   cases hp with
   |pin _ _=>exact this
  |j+2,ht=>simp [T.cells] at ht
end
end Go.Eva
namespace Go.Eva.S8
open Go.Proofs
noncomputable def c42 (p:List Nat):Code:=match subAt (codeOf Tryz.f14) (p++ [0,1,0,1,1,1,1]) with|some c=>c|none=> .skip
noncomputable def o42 (p:List Nat):Array Oper:=match c42 p with| .region _ ops _=>ops|_=> #[]
theorem w6 (c:Config) (g i:Int) (hs:List Value) (os:List T):Wp cx (peek [1,2,4,5,6,24] (runOps cx (o42 [0,0,0]).toList (o42 [0,0,0]).toList (zipE [1,2,4,5,6] [.ptr 0 0 0,.ptr 1 0 0,vi g,.ptr 2 0 0,vi i]) [.one 5 (.t c.enc) false,.one 2 (.agg [.fit 2 [],.fit 1 []]) false,.one 2 (.agg [.all 3 none,.all 4 none]) false,.arr 2 (hs.map (pinE (ti 0))) (some 0) false,.arr 1 os (some 0) false]))
  (· =⟨.normal,[.ptr 0 0 0,.ptr 1 0 0,vi g,.ptr 2 0 0,vi i,vb (decide (i≤c.players))],[.one 5 (.t c.enc) false,.one 2 (.agg [.fit 2 [],.fit 1 []]) false,.one 2 (.agg [.all 3 none,.all 4 none]) false,.arr 2 (hs.map (pinE (ti 0))) (some 0) false,.arr 1 os (some 0) false]⟩):=by
 exact ge
theorem w8 (c:Config) (g i:Int) (hs:List Value) (os:List T) (hg:0<g) (hi:1≤i∧i≤1000000):Wp cx (peek [1,2,4,5,6,7] (runOps cx (o42 [0,0,0,1,0]).toList (o42 [0,0,0,1,0]).toList (zipE [1,2,4,5,6] [.ptr 0 0 0,.ptr 1 0 0,vi g,.ptr 2 0 0,vi i]) [.one 5 (.t c.enc) false,.one 2 (.agg [.fit 2 [],.fit 1 []]) false,.one 2 (.agg [.all 3 none,.all 4 none]) false,.arr 2 (hs.map (pinE (ti 0))) (some 0) false,.arr 1 os (some 0) false]))
  (· =⟨.normal,[.ptr 0 0 0,.ptr 1 0 0,vi g,.ptr 2 0 0,vi i,vi ((i-1).tmod g)],[.one 5 (.t c.enc) false,.one 2 (.agg [.fit 2 [],.fit 1 []]) false,.one 2 (.agg [.all 3 none,.all 4 none]) false,.arr 2 (hs.map (pinE (ti 0))) (some 0) false,.arr 1 os (some 0) false]⟩):=by
 refine gg [.i zd (i-1) (i-1),.w (g≠(0:Int)),.s (ti (zg (i-1) g))] ⟨oI,oW,trivial⟩ ?_
 exact ge
theorem w9 (c:Config) (g i r:Int) (hs:List Value) (os:List T):Wp cx (peek [1,2,4,5,6,7,8,9] (runOps cx (o42 [0,1,0,0,1,0]).toList (o42 [0,1,0,0,1,0]).toList (zipE [1,2,4,5,6,7] [.ptr 0 0 0,.ptr 1 0 0,vi g,.ptr 2 0 0,vi i,vi r]) [.one 5 (.t c.enc) false,.one 2 (.agg [.fit 2 [],.fit 1 []]) false,.one 2 (.agg [.all 3 none,.all 4 none]) false,.arr 2 (hs.map (pinE (ti 0))) (some 0) false,.arr 1 os (some 0) false]))
  (· =⟨.normal,[.ptr 0 0 0,.ptr 1 0 0,vi g,.ptr 2 0 0,vi i,vi r,vi (c.cornerX r),vi (c.cornerY r)],[.one 5 (.t c.enc) false,.one 2 (.agg [.fit 2 [],.fit 1 []]) false,.one 2 (.agg [.all 3 none,.all 4 none]) false,.arr 2 (hs.map (pinE (ti 0))) (some 0) false,.arr 1 os (some 0) false]⟩):=by
 have h:=AbN c r
 refine gg [.a _ _] ⟨o_a h,trivial⟩ ?_
 exact ge
noncomputable def d42a:Ord:= .one 0 (.one 2 (.one 3 (.one 5 (.one 9 (.one 10 (.one 11 (.one 12 (.one 13 (.one 14 (.one 4 (.one 6 (.one 7 (.one 8 .done)))))))))))))
noncomputable def d42b:Ord:= .two 1 (.one 15 (.one 16 (.one 17 (.one 18 .done)))) 15 (.two 1 (.one 16 (.one 17 (.one 18 .done))) 16 (.one 1 (.one 17 (.one 18 .done))))
noncomputable def d42c:Ord:= .one 19 .done
theorem w10a (c:Config) (g i:Int) (r:Nat) (x y:Int) (hs:List Value) (os:List T) (hr:r<hs.length) (hx:0≤x∧x≤1000000) (hy:0≤y∧y≤1000000) (hi:1≤i∧i≤1000000):
  Wp cx (peek [1,2,4,5,6,37,39,51,45] (ordQ cx (o42 [1,1,0,0,1,0]).toList d42a (zipE [1,2,4,5,6,7,8,9] [.ptr 0 0 0,.ptr 1 0 0,vi g,.ptr 2 0 0,vi i,vi r,vi x,vi y]) [.one 5 (.t c.enc) false,.one 2 (.agg [.fit 2 [],.fit 1 []]) false,.one 2 (.agg [.all 3 none,.all 4 none]) false,.arr 2 (hs.map (pinE (ti 0))) (some 0) false,.arr 1 os (some 0) false]))
  (· =⟨.normal,[.ptr 0 0 0,.ptr 1 0 0,vi g,.ptr 2 0 0,vi i,.ptr 2 0 0,vi r,.t (zm ⟨i,1,x+512,y+512,0,0,100,0,0⟩),.t (.pin (gt hs r))],[.one 5 (.t c.enc) false,.one 2 (.agg [.fit 2 [],.fit 1 []]) false,.one 2 (.agg [.all 3 none,.all 4 none]) false,.arr 2 (hs.map (pinE (ti 0))) (some 0) false,.arr 1 os (some 0) false]⟩):=by
 refine gg [.i zd (x+512) (x+512),.i zd (y+512) (y+512),.w (0≤(r:Int)),.n (zy (r:Int)) r,.w (r<zq (zz (pinE (ti (0:Int))) hs)),.g (zz (pinE (ti 0)) hs) r (pinE (ti 0) (gt hs r))] ⟨oI,oI,oW,nK,o_w (by (simp;omega)),o_gt rfl (by assumption) (by intro h;cases h),trivial⟩ ?_
 exact ge
theorem w10b (c:Config) (g i:Int) (r:Nat) (p:Entity) (row:List Entity) (hs:List Value) (os:List T) (hr:r<hs.length) (hn:row.length≤100000):
  Wp cx (peek [1,2,4,5,6,55,53] (ordQ cx (o42 [1,1,0,0,1,0]).toList d42b (zipE [1,2,4,5,6,37,39,51,45] [.ptr 0 0 0,.ptr 1 0 0,vi g,.ptr 2 0 0,vi i,.ptr 2 0 0,vi r,.t p.enc,.all 5 none]) [.one 5 (.t c.enc) false,.one 2 (.agg [.fit 2 [],.fit 1 []]) false,.one 2 (.agg [.all 3 none,.all 4 none]) false,.arr 2 (hs.map (pinE (ti 0))) (some 0) false,.arr 1 os (some 0) false,.arr 9 (row.map zm) none false]))
  (· =⟨.normal,[.ptr 0 0 0,.ptr 1 0 0,vi g,.ptr 2 0 0,vi i,.ptr 3 r 1,.all 6 none],[.one 5 (.t c.enc) false,.one 2 (.agg [.fit 2 [],.fit 1 []]) false,.one 2 (.agg [.all 3 none,.all 4 none]) false,.arr 2 (hs.map (pinE (ti 0))) (some 0) false,.arr 1 os (some 0) false,.dead,.arr 9 ((row++ [p]).map zm) none false]⟩):=by
 refine bO ?_ (bO ?_ ?_)
 all_goals
  refine gg [.w ((0:Nat)<(72:Nat)),.t (qp 0 [zm p]) (qp 0 (zz zm [p])),.t (qp 0 (zz zm row++zz zm [p])) (qp 0 (zz zm (row++ [p]))),.w (room (zq (zz zm (row++ [p]))) (72:Nat)),.w (0≤(r:Int)),.n (zy (r:Int)) r,.w (r<zq (zz (pinE (ti (0:Int))) hs))] ⟨oW,o_l (Afm rfl AhS),o_l (AiA rfl rfl),o_w (by (simp [room,appendMax];omega)),oW,nK,o_w (by (simp [room,appendMax];omega)),trivial⟩ ?_
  exact ge
theorem w10c (c:Config) (g i:Int) (r:Nat) (h:Value) (hs:List Value) (os:List T) (hr:r<hs.length):
  Wp cx (peek [1,2,4,5,6] (ordQ cx (o42 [1,1,0,0,1,0]).toList d42c (zipE [1,2,4,5,6,55,53] [.ptr 0 0 0,.ptr 1 0 0,vi g,.ptr 2 0 0,vi i,.ptr 3 r 1,.t (.pin h)]) [.one 5 (.t c.enc) false,.one 2 (.agg [.fit 2 [],.fit 1 []]) false,.one 2 (.agg [.all 3 none,.all 4 none]) false,.arr 2 (hs.map (pinE (ti 0))) (some 0) false,.arr 1 os (some 0) false,.dead,.dead]))
  (· =⟨.normal,[.ptr 0 0 0,.ptr 1 0 0,vi g,.ptr 2 0 0,vi i],[.one 5 (.t c.enc) false,.one 2 (.agg [.fit 2 [],.fit 1 []]) false,.one 2 (.agg [.all 3 none,.all 4 none]) false,.arr 2 ((hs.set r h).map (pinE (ti 0))) (some 0) false,.arr 1 os (some 0) false,.dead,.dead]⟩):=by
 refine gg [.g (zz (pinE (ti 0)) hs) r (pinE (ti 0) (gt hs r)),.t (qp 0 (zx (zz (pinE (ti 0)) hs) r (T.agg [ti 0,T.pin h]))) (qp 0 (zz (pinE (ti 0)) (zx hs r h)))] ⟨o_gt rfl (by assumption) (by intro h;cases h),o_l (Ajj (e:=h) rfl rfl),trivial⟩ ?_
 exact ge
theorem w7 (c:Config) (g i:Int) (hs:List Value) (os:List T) (hi:1≤i∧i≤1000000):Wp cx (peekG [1,2,4,5,6] (runOps cx (o42 [1,1,0]).toList (o42 [1,1,0]).toList (zipE [1,2,4,5,6] [.ptr 0 0 0,.ptr 1 0 0,vi g,.ptr 2 0 0,vi i]) [.one 5 (.t c.enc) false,.one 2 (.agg [.fit 2 [],.fit 1 []]) false,.one 2 (.agg [.all 3 none,.all 4 none]) false,.arr 2 (hs.map (pinE (ti 0))) (some 0) false,.arr 1 os (some 0) false,.dead,.dead]))
  (· =⟨.normal,[.ptr 0 0 0,.ptr 1 0 0,vi g,.ptr 2 0 0,vi (i+1)],[.one 5 (.t c.enc) false,.one 2 (.agg [.fit 2 [],.fit 1 []]) false,.one 2 (.agg [.all 3 none,.all 4 none]) false,.arr 2 (hs.map (pinE (ti 0))) (some 0) false,.arr 1 os (some 0) false]⟩):=by
 refine gg [.i zd (i+1) (i+1)] ⟨oI,trivial⟩ ?_
 exact ge
end Go.Eva.S8
namespace Go.Eva
theorem AeM {c:Config} {r:Int}:(0≤c.cornerX r∧c.cornerX r≤4096)∧(0≤c.cornerY r∧c.cornerY r≤4096):=by
 unfold Config.cornerX Config.cornerY
 cases hr:c.is r with
 |false=>simp
 |true=>
  have h:=Config.is_right hr
  have hi:=(Config.is_iff h).1 hr
  obtain ⟨hc,hrr,_⟩:=Config.right_iff.1 h
  have k1:=Abe (v:=r) (k:=c.cols) (m:=c.rows) (by omega) (by omega) (by omega)
  have k2:=AaL (v:=r) (k:=c.cols) (by omega) (by omega)
  simp only [if_true]
  omega
theorem AhP {c:Config} {r x y:Int} (hr:c.is r=true) (hx:0≤x∧x<1024) (hy:0≤y∧y<1024):c.inside (c.cornerX r+x) (c.cornerY r+y)=true∧c.of (c.cornerX r+x) (c.cornerY r+y)=r:=by
 have h:=Config.is_right hr
 have hi:=(Config.is_iff h).1 hr
 obtain ⟨hc,hrr,_⟩:=Config.right_iff.1 h
 have hw:c.width=c.cols*1024:=by simp [Config.width,h]
 have hh:c.height=c.rows*1024:=by simp [Config.height,h]
 have k1:=Abe (v:=r) (k:=c.cols) (m:=c.rows) (by omega) (by omega) (by omega)
 have k2:=AaL (v:=r) (k:=c.cols) (by omega) (by omega)
 have e:=Int.tmod_add_tdiv_mul r c.cols
 have ex:c.cornerX r=r.tmod c.cols*1024:=by unfold Config.cornerX;rw [if_pos hr]
 have ey:c.cornerY r=r.tdiv c.cols*1024:=by unfold Config.cornerY;rw [if_pos hr]
 have hin:c.inside (c.cornerX r+x) (c.cornerY r+y)=true:=by
  simp only [Config.inside,Bool.and_eq_true,AaJ];omega
 refine ⟨hin,?_⟩
 rw [(of_eq h (by omega) (by omega)).1,Int.tdiv_eq_ediv_of_nonneg (by omega),Int.tdiv_eq_ediv_of_nonneg (by omega),ex,ey]
 have d1:(r.tmod c.cols*1024+x)/1024=r.tmod c.cols:=by omega
 have d2:(r.tdiv c.cols*1024+y)/1024=r.tdiv c.cols:=by omega
 rw [d1,d2]
 omega
end Go.Eva
namespace Go.Eva
def plI (l:List Entity):List Int:=(l.filter fun e=>decide (e.kind=1)).map Entity.id
end Go.Eva
namespace Go.Eva
structure WFine (c:Config) (w:World) (f:Int):Prop where
 right:c.right=true
 regs:(w.regions.length:Int)=c.regions
 outs:w.outs.length=w.regions.length
 sane: ∀r:Nat,r<w.regions.length→Sane c r (gt w.regions r).ents∧(gt w.regions r).frame=f∧(gt w.regions r).ents.length≤31
 sent: ∀q:Nat,q<w.outs.length→(∀m∈gt w.outs q,blastOk c q (f-1) m)∧(gt w.outs q).length≤400
theorem AhQ {c:Config} (hr:c.right=true) {i:Int} (hi:1≤i∧i≤c.players):(playerP c.cols c.regions i).right c=true∧c.of (playerP c.cols c.regions i).x (playerP c.cols c.regions i).y=(i-1).tmod c.regions:=by
 have hml:=Config.mul_le hr
 have hre:c.regions=c.cols*c.rows:=by simp [qq,hr]
 have hk:=AaL (v:=i-1) (k:=c.regions) (by omega) (by omega)
 have his:c.is ((i-1).tmod c.regions)=true:=by rw [Config.is_iff hr];omega
 obtain ⟨h1,h2⟩:=AhP (x:=512) (y:=512) his (by omega) (by omega)
 simp only [Config.cornerX,Config.cornerY,his,if_true] at h1 h2
 have e1:within i 1 c.players=true:=AaJ.2 hi
 have e2:within 0 (-64) 64=true:=by decide
 have e3:within 100 1 100=true:=by decide
 have e4:within 0 0 6=true:=by decide
 refine ⟨?_,h2⟩
 simp only [qv,playerP,h1,e1,e2,e3,e4]
 simp
theorem Adw {c:Config} (hr:c.right=true): ∀ {d:Nat} {i:Int} {rs:List Region},1≤i→i+d=c.players+1→(rs.length:Int)=c.regions→(∀r:Nat,r<rs.length→Srt (gt rs r).ents∧things (gt rs r).ents=0∧(gt rs r).frame=0∧ ∀e∈(gt rs r).ents,e.right c=true∧c.of e.x e.y=r)→
  ∀r:Nat,r<rs.length→Srt (gt (beginP c.cols c.regions d i rs) r).ents∧things (gt (beginP c.cols c.regions d i rs) r).ents=0∧(gt (beginP c.cols c.regions d i rs) r).frame=0∧ ∀e∈(gt (beginP c.cols c.regions d i rs) r).ents,e.right c=true∧c.of e.x e.y=r
 |0,_,_,_,_,_,h=>h
 |d+1,i,rs,h1,h2,hl,h=>by
  have hml:=Config.mul_le hr
  have hre:c.regions=c.cols*c.rows:=by simp [qq,hr]
  have hk:=AaL (v:=i-1) (k:=c.regions) (by omega) (by omega)
  obtain ⟨p1,p2⟩:=AhQ hr (i:=i) (by omega)
  have hkl:((i-1).tmod c.regions).toNat<rs.length:=by omega
  have hb:(begin1 c.cols c.regions rs i).length=rs.length:=by simp [begin1]
  rw [beginP]
  intro r hrr
  refine Adw hr (d:=d) (i:=i+1) (by omega) (by omega) (by rw [hb];exact hl) (fun q hq=> ?_) r (by rw [hb];exact hrr)
  rw [hb] at hq
  unfold begin1
  rw [Aju hkl]
  split
  ·rename_i e
   obtain ⟨a1,a2,a3,a4⟩:=h _ hkl
   have ht:= @AcW (gt rs ((i-1).tmod c.regions).toNat).ents (playerP c.cols c.regions i)
   rw [show (playerP c.cols c.regions i).kind=1 from rfl,if_pos rfl] at ht
   have ht0:0≤things (put1 (gt rs ((i-1).tmod c.regions).toNat).ents (playerP c.cols c.regions i)):=by unfold things;omega
   refine ⟨Adn a1,by simp only;omega,a3,fun x hx=> ?_⟩
   rcases AcF hx with rfl|hx
   ·exact ⟨p1,by rw [p2];omega⟩
   ·have:=a4 x hx
    exact ⟨this.1,by rw [this.2];omega⟩
  ·exact h q hq
theorem AgD {c:Config} (hr:c.right=true):WFine c (beginW c.cols c.regions c.players.toNat) 0:=by
 have hcr:=Config.right_iff.1 hr
 have hgl:= @Config.regions_le c
 have hl:(beginW c.cols c.regions c.players.toNat).regions.length=c.regions.toNat:=by simp [beginW,Ad3]
 have hl2:(beginW c.cols c.regions c.players.toNat).outs.length=c.regions.toNat:=by simp [beginW]
 refine ⟨hr,by rw [hl];omega,by rw [hl,hl2],fun r h=> ?_,fun q h=> ?_⟩
 ·have key:=Adw hr (d:=c.players.toNat) (i:=1) (rs:=zj c.regions.toNat ⟨0,[]⟩) (by omega) (by omega) (by simp;omega) (fun r h=>by
   rw [show gt (zj c.regions.toNat (⟨0,[]⟩:Region)) r=⟨0,[]⟩ by
    unfold gt;rw [List.getElem?_replicate];simp at h;simp [h]]
   simp [Srt,things]) r (by simpa [hl] using h)
  obtain ⟨a1,a2,a3,a4⟩:=key
  have hlen:=Ah1 (n:=c.players) a1 (fun x hx hk=>Entity.right_player (a4 x hx).1 hk) (by omega)
  refine ⟨⟨a1,Int.le_trans (Int.le_of_eq a2) (by decide),a4⟩,a3,?_⟩
  show (gt (beginP c.cols c.regions c.players.toNat 1 (zj c.regions.toNat ⟨0,[]⟩)) r).ents.length≤31
  omega
 ·have e:gt (beginW c.cols c.regions c.players.toNat).outs q= []:=by
   show gt (zj c.regions.toNat ([]:CrossL)) q= []
   unfold gt;rw [List.getElem?_replicate];rw [hl2] at h;simp [h]
  rw [e]
  simp
end Go.Eva
namespace Go.Eva
end Go.Eva
namespace Go.Eva
end Go.Eva
namespace Go.Eva
def cat {α:Type}:Nat→(Nat→List α)→List α
 |0,_=> []
 |n+1,g=>cat n g++g n
section
variable {α β:Type}
end
end Go.Eva
namespace Go.Eva
structure Once (c:Config) (w:World) (f:Int):Prop where
 nodup:(cat w.regions.length fun r=>(gt w.regions r).ents.map Entity.id++(handed (gt w.outs r)).map Entity.id).Nodup
 pl:(cat w.regions.length fun r=>plI (gt w.regions r).ents++plI (handed (gt w.outs r))).Perm ((List.range c.players.toNat).map fun k:Nat=>(k:Int)+1)
 low: ∀r,r<w.regions.length→ ∀i∈(gt w.regions r).ents.map Entity.id++(handed (gt w.outs r)).map Entity.id,i<1000+f*c.regions*8
end Go.Eva
namespace Go.Eva
end Go.Eva
namespace Go.Eva
section
variable (c:Config) (r f:Int) (ins:List Input)
end
end Go.Eva
namespace Go.Eva
def plB (c:Config) (g i:Int):Entity:=⟨i,1,c.cornerX ((i-1).tmod g)+512,c.cornerY ((i-1).tmod g)+512,0,0,100,0,0⟩
def rowsB (c:Config) (g:Int):Nat→Int→List (List Entity)→List (List Entity)
 |0,_,L=>L
 |d+1,i,L=>rowsB c g d (i+1) (L.set ((i-1).tmod g).toNat (gt L ((i-1).tmod g).toNat++ [plB c g i]))
theorem AhZ {l:List Entity} {e:Entity} (h: ∀x∈l,x.id<e.id):put1 l e=l++ [e]:=by
 have h1:(l.findIdx? fun x=>x.id==e.id)=none:=by
  rw [List.findIdx?_eq_none_iff]
  intro x hx
  have:=h x hx
  simp;omega
 have h2:(l.findIdx? fun x=>decide (x.id≥e.id))=none:=by
  rw [List.findIdx?_eq_none_iff]
  intro x hx
  have:=h x hx
  simp;omega
 unfold put1 ins
 rw [h1,h2]
theorem AgB {c:Config} (hr:c.right=true) {i:Int} (hi:1≤i):plB c c.regions i=playerP c.cols c.regions i:=by
 have h1:=Config.right_iff.1 hr
 have hml:=Config.mul_le hr
 have hre:c.regions=c.cols*c.rows:=by simp [qq,hr]
 have hk:=AaL (v:=i-1) (k:=c.regions) (by omega) (by omega)
 have his:c.is ((i-1).tmod c.regions)=true:=by rw [Config.is_iff hr];omega
 simp only [plB,playerP,Config.cornerX,Config.cornerY,his,if_true]
theorem Ag0 {c:Config} (hr:c.right=true): ∀ {d:Nat} {i:Int} {L:List (List Entity)},1≤i→(L.length:Int)=c.regions→(∀l∈L,∀x∈l,x.id<i)→
  beginP c.cols c.regions d i (L.map (Region.mk 0))=(rowsB c c.regions d i L).map (Region.mk 0):=by
 intro d
 induction d with
 |zero=>intro i L _ _ _;rfl
 |succ d ih=>
  intro i L hi hL hx
  have h1:=Config.right_iff.1 hr
  have hml:=Config.mul_le hr
  have hre:c.regions=c.cols*c.rows:=by simp [qq,hr]
  have hk:=AaL (v:=i-1) (k:=c.regions) (by omega) (by omega)
  have hlt:((i-1).tmod c.regions).toNat<L.length:=by omega
  rw [beginP,rowsB]
  generalize hkk:((i-1).tmod c.regions).toNat=k at*
  have hg:gt (L.map (Region.mk 0)) k=⟨0,gt L k⟩:=by simp [gt,hlt]
  have e:begin1 c.cols c.regions (L.map (Region.mk 0)) i=(L.set k (gt L k++ [plB c c.regions i])).map (Region.mk 0):=by
   unfold begin1
   rw [hkk,hg]
   simp only
   rw [←AgB hr hi,AhZ (hx _ (Afy hlt)),List.map_set]
  rw [e]
  refine ih (by omega) (by simpa using hL) ?_
  intro l hl x hxl
  rcases List.mem_or_eq_of_mem_set hl with hl|rfl
  ·have:=hx l hl x hxl;omega
  ·rcases List.mem_append.1 hxl with hxl|hxl
   ·have:=hx _ (Afy hlt) x hxl;omega
   ·simp at hxl;subst hxl;show i<i+1;omega
theorem Ag6 {c:Config} (hr:c.right=true):beginW c.cols c.regions c.players.toNat=⟨(rowsB c c.regions c.players.toNat 1 (zj c.regions.toNat [])).map (Region.mk 0),zj c.regions.toNat []⟩:=by
 have hgl:= @Config.regions_le c
 have h:=Ag0 hr (d:=c.players.toNat) (i:=1) (L:=zj c.regions.toNat []) (by omega) (by simp;omega) (fun l hl=>by rw [List.eq_of_mem_replicate hl];simp)
 rw [List.map_replicate] at h
 unfold beginW
 rw [h]
end Go.Eva
namespace Go.Eva.S8
open Go.Proofs Go.RowKit
abbrev hB (c:Config) (xs os:List T):Heap:= [.one 5 (.t c.enc) false,.one 2 (.agg [.fit 2 [],.fit 1 []]) false,.one 2 (.agg [.all 3 none,.all 4 none]) false,.arr 2 (xs) (some 0) false,.arr 1 os (some 0) false]
abbrev hB2 (c:Config) (xs os:List T):Heap:= [.one 5 (.t c.enc) false,.one 2 (.agg [.fit 2 [],.fit 1 []]) false,.one 2 (.agg [.all 3 none,.all 4 none]) false,.arr 2 (xs) (some 0) false,.arr 1 os (some 0) false,.dead,.dead]
abbrev vB (g i:Int):List V:= [.ptr 0 0 0,.ptr 1 0 0,vi g,.ptr 2 0 0,vi i]
section
variable {P:Program} {n:Nat} {w0:Go.World} {ι0:Io} {F0:Nat→Prop} {H0:Heap}
structure BInv (n:Nat) (w0:Go.World) (ι0:Io) (F0:Nat→Prop) (H0:Heap) (c:Config) (g:Int) (os:List T) (i:Int) (L:List (List Entity)) (w:Go.World) (a:Act) (ι:Io) (F:Nat→Prop) (hs:List Value) (β:Nat→Option Nat):Prop where
 inn:In n ι F w (hB c (hs.map (pinE (ti 0))) os) (zipE [1,2,4,5,6] (vB g i)) a
 ext:Ext 0 ι0 F0 H0 w0 ι F (hB c (hs.map (pinE (ti 0))) os) w
 len:hs.length=L.length
 row: ∀(k:Nat) h r,hs[k]?=some h→L[k]?=some r→RowD (fun b=>b<w0.heap.size→Own ι0 H0 b) ι F w (hB c (hs.map (pinE (ti 0))) os) 9 h (r.map zm) (β k)
 inj: ∀(i j:Nat) b,i<hs.length→j<hs.length→β i=some b→β j=some b→i=j
theorem AfE:c42 [0]= .seq (.seq (c42 [0,0,0]) (.cond (.tmp 24) .skip (.exit 0))) (.seq (.block 1 (.seq (c42 [0,0,0,1,0]) (.seq (c42 [0,1,0,0,1,0]) (c42 [1,1,0,0,1,0])))) (c42 [1,1,0])):=by kernel_rfl
theorem c42_6:c42 [0,0,0]= .region 6 (o42 [0,0,0]) false:=by kernel_rfl
theorem c42_8:c42 [0,0,0,1,0]= .region 8 (o42 [0,0,0,1,0]) false:=by kernel_rfl
theorem c42_9:c42 [0,1,0,0,1,0]= .region 9 (o42 [0,1,0,0,1,0]) false:=by kernel_rfl
theorem Ai9:c42 [1,1,0,0,1,0]= .region 10 (o42 [1,1,0,0,1,0]) true:=by kernel_rfl
theorem c42_7:c42 [1,1,0]= .region 7 (o42 [1,1,0]) false:=by kernel_rfl
theorem fit42 {n:Nat} (h:fitC cx fi14 n fi14.code=true) {p:List Nat} {id:Nat} {b:Bool} (hp:c42 p= .region id (o42 p) b) (hs:subAt fi14.code (p++ [0,1,0,1,1,1,1])=some (c42 p)): ∀o∈(o42 p).toList,fitO cx n o=true:=by
 have:=Ah9 h hs
 rw [hp] at this
 simp only [fitC,Bool.and_eq_true] at this
 exact fun o ho=>List.all_eq_true.1 this.1 o ho
theorem Ajq (hc:CxTy P cx) (hfn:FnsOK P cx) (hfit:fitC cx fi14 n fi14.code=true) {Q:Exit→Act→Go.World→Prop} (hQ: ∀c a w,¬Q (.panic c) a w) {c:Config} {g i:Int} {os:List T} {L:List (List Entity)} {w:Go.World} {a:Act} {ι:Io} {F:Nat→Prop} {hs:List Value} {β:Nat→Option Nat} {r:Nat} {x y:Int} {row:List Entity}
  (hi:In n ι F w (hB c (hs.map (pinE (ti 0))) os) (zipE [1,2,4,5,6,7,8,9] (vB g i++ [vi r,vi x,vi y])) a) (hx:Ext 0 ι0 F0 H0 w0 ι F (hB c (hs.map (pinE (ti 0))) os) w) (hlen:hs.length=L.length)
  (hrow: ∀(k:Nat) h r,hs[k]?=some h→L[k]?=some r→RowD (fun b=>b<w0.heap.size→Own ι0 H0 b) ι F w (hB c (hs.map (pinE (ti 0))) os) 9 h (r.map zm) (β k)) (hinj: ∀(i j:Nat) b,i<hs.length→j<hs.length→β i=some b→β j=some b→i=j)
  (hr:r<hs.length) (hL:L[r]?=some row) (hn:row.length≤100000) (h1:0≤x∧x≤1000000) (h2:0≤y∧y≤1000000) (h3:1≤i∧i≤1000000)
  (hq: ∀a' w' ι' F' (h':Value) (β':Nat→Option Nat),In n ι' F' w' (hB2 c ((hs.set r h').map (pinE (ti 0))) os) (zipE [1,2,4,5,6] (vB g i)) a'→Ext 0 ι0 F0 H0 w0 ι' F' (hB2 c ((hs.set r h').map (pinE (ti 0))) os) w'→
   (∀(k:Nat) h rr,(hs.set r h')[k]?=some h→(L.set r (row++ [⟨i,1,x+512,y+512,0,0,100,0,0⟩]))[k]?=some rr→RowD (fun b=>b<w0.heap.size→Own ι0 H0 b) ι' F' w' (hB2 c ((hs.set r h').map (pinE (ti 0))) os) 9 h (rr.map zm) (β' k))→
   (∀(i j:Nat) b,i<hs.length→j<hs.length→β' i=some b→β' j=some b→i=j)→Q .normal a' w'):(c42 [1,1,0,0,1,0]).wp P Q a w:=by
 rw [Ai9]
 have hall:=fit42 hfit Ai9 (by kernel_rfl)
 have hsel:Region.noSelect (o42 [1,1,0,0,1,0])=true:=by kernel_rfl
 refine wp_region_any hc.orders (Aej (cx:=cx) _ _ _ _ ?_)
 obtain ⟨d1,d2⟩:=Ab6 hi.good
 have hrow:=fun k h rr e1 e2=>(hrow k h rr e1 e2).ext hi.good (d2.ext 0)
 change wpAnyR P cx (o42 [1,1,0,0,1,0]) Q _ _ a w.drew
 have hi:In n ι F w.drew (hB c (hs.map (pinE (ti 0))) os) (zipE [1,2,4,5,6,7,8,9] (vB g i++ [vi r,vi x,vi y])) a:=⟨d1,fun t=>d2.vr hi.good (hi.sim t),hi.size,hi.defers⟩
 have hx:=hx.trans (d2.ext 0)
 generalize w.drew=w at*
 clear d1 d2
 refine Acr hc hfn hall hsel hQ (fin:=finAt 6 [true,false,true,true,true,true,true,true,true,true,true,true,true,true,true,false,false,false,false,false]) (d:=d42a) (by kernel_rfl) hi (w10a c g i r x y hs os hr h1 h2 h3) ?_
 intro f1 l1 hf1 a1 w1 ι1 F1 hi1 hst1
 obtain ⟨rfl,rfl⟩:=Af8 hf1
 have hx1:=hx.trans (hst1.ext 0)
 have hrow1:=fun k h r e1 e2=>(hrow k h r e1 e2).ext hi.good (hst1.ext 0)
 clear hrow hst1 hi hx hf1
 have hR:=hrow1 r (gt hs r) row (Aht hr) hL
 obtain ⟨ga,va,hl,ho,hlv⟩:=adopt (by decide) hi1.good hR
 generalize hp:(⟨i,1,x+512,y+512,0,0,100,0,0⟩:Entity)=p at*
 have hva:VRs ι1 F1 w1 (hB c (hs.map (pinE (ti 0))) os) (vB g i++ [.ptr 2 0 0,vi r,.t p.enc]) (slots a1 [1,2,4,5,6,37,39,51]):=AeJ hi1 [1,2,4,5,6,37,39,51]
 have h45:a1.tmps.getD 45 undef=gt hs r:=by
  have h:VR ι1 F1 w1 (hB c (hs.map (pinE (ti 0))) os) (.t (.pin (gt hs r))) (a1.tmps.getD 45 undef):=hi1.sim 45
  generalize a1.tmps.getD 45 undef=u at h
  have h:=h.t_inv
  generalize gt hs r=v at h
  cases h
  rfl
 have hva2:=Af5 (Afg hva fun v u h=>h.mono (fun _ h=>h) (fun _ _=>rfl) hl) (v:= .all 5 none) (u:=a1.tmps.getD 45 undef) (by rw [h45];exact va)
 have hi1':In n (upd ι1 5 (β r)) F1 w1 (hB c (hs.map (pinE (ti 0))) os++ [.arr 9 (row.map zm) none false]) (zipE [1,2,4,5,6,37,39,51,45] (vB g i++ [.ptr 2 0 0,vi r,.t p.enc,.all 5 none])) a1:=⟨ga,Aa0 hva2,hi1.size,hi1.defers⟩
 have hxa:Ext 0 ι0 F0 H0 w0 (upd ι1 5 (β r)) F1 (hB c (hs.map (pinE (ti 0))) os++ [.arr 9 (row.map zm) none false]) w1:=
  ⟨hx1.os,hx1.tape,hx1.output,hx1.size,hx1.same,fun b hb h=>(ho b h).elim (hx1.own b hb) fun e=>(hR.dark e).2.2 hb,hx1.fsub,hx1.ffr,fun id o hid=>absurd hid (by simp),fun b hb h=>(hlv b h).elim (hx1.live b hb) fun e=>((hR.dark e).2.2 hb).live⟩
 have get: ∀k,k<hs.length→ ∃h rr,hs[k]?=some h∧L[k]?=some rr:=fun k hk=>⟨hs[k],L[k]'(by omega),List.getElem?_eq_getElem hk,List.getElem?_eq_getElem (by omega)⟩
 have hrowa: ∀(k:Nat) h rr,k≠r→hs[k]?=some h→L[k]?=some rr→RowD (fun b=>b<w0.heap.size→Own ι0 H0 b) (upd ι1 5 (β r)) F1 w1 (hB c (hs.map (pinE (ti 0))) os++ [.arr 9 (row.map zm) none false]) 9 h (rr.map zm) (β k):=by
  intro k h rr hk e1 e2
  refine (hrow1 k h rr e1 e2).other fun b hb hl=> ?_
  rcases hlv b hl with hl|hl
  ·exact ((hrow1 k h rr e1 e2).dark hb).2.1 hl
  ·exact hk (hinj k r b (List.getElem?_eq_some_iff.1 e1).1 hr hb hl)
 clear hva hva2 h45 va hl ho hlv hrow1 hi1 hx1
 refine Acr hc hfn hall hsel hQ (fin:=finAt 1 [true,true,true,true,true,true,true,true,true,true,true,true,true,true,true,true,true,true,true,false]) (d:=d42b) (by kernel_rfl) hi1' (w10b c g i r p row hs os hr hn) ?_
 intro f2 l2 hf2 a2 w2 ι2 F2 hi2 hst2
 obtain ⟨rfl,rfl⟩:=Af8 hf2
 have hx2:=hxa.trans (hst2.ext 0)
 have hrow2:=fun k h r hk e1 e2=>(hrowa k h r hk e1 e2).ext ga (hst2.ext 0)
 clear hrowa hst2 hi1' hxa hf2
 have hva:VRs ι2 F2 w2 ([.one 5 (.t c.enc) false,.one 2 (.agg [.fit 2 [],.fit 1 []]) false,.one 2 (.agg [.all 3 none,.all 4 none]) false,.arr 2 (hs.map (pinE (ti 0))) (some 0) false,.arr 1 os (some 0) false,.dead,.arr 9 ((row++ [p]).map zm) none false]) (vB g i++ [.ptr 3 r 1]) (slots a2 [1,2,4,5,6,55]):=AeJ hi2 [1,2,4,5,6,55]
 have h53:VR ι2 F2 w2 ([.one 5 (.t c.enc) false,.one 2 (.agg [.fit 2 [],.fit 1 []]) false,.one 2 (.agg [.all 3 none,.all 4 none]) false,.arr 2 (hs.map (pinE (ti 0))) (some 0) false,.arr 1 os (some 0) false,.dead,.arr 9 ((row++ [p]).map zm) none false]) (.all 6 none) (a2.tmps.getD 53 undef):=hi2.sim 53
 have hone:(a2.tmps.getD 53 undef).oneCell'=true:=(h53.shape (by simp) rfl).2 0 _ (by
  have:=(h53.shape (by simp) rfl).1
  generalize a2.tmps.getD 53 undef=u at h53 this
  cases h53 with
  |all _ _ _ h=>
   obtain ⟨ad,cap,rfl,_⟩:=h
   rfl)
 obtain ⟨β6,hR6,hlive6⟩:=release (K:=fun b=>b<w0.heap.size→Own ι0 H0 b) (id:=6) hi2.good rfl h53 fun b ho hb=>hx2.own b hb ho
 obtain ⟨gk,sk⟩:=Acj (id:=6) hi2.good rfl
 have hva2:=Af5 (Afg hva fun v u h=>sk.vr hi2.good h) (v:= .t (.pin (a2.tmps.getD 53 undef))) (u:=a2.tmps.getD 53 undef) (.t _ _ (.pin _ hone))
 have hi2':In n ι2 F2 w2 (hB2 c (hs.map (pinE (ti 0))) os) (zipE [1,2,4,5,6,55,53] (vB g i++ [.ptr 3 r 1,.t (.pin (a2.tmps.getD 53 undef))])) a2:=⟨gk,Aa0 hva2,hi2.size,hi2.defers⟩
 have hx3:=hx2.trans (sk.ext 0)
 have hrow3:=fun k h r hk e1 e2=>(hrow2 k h r hk e1 e2).ext hi2.good (sk.ext 0)
 generalize a2.tmps.getD 53 undef=h' at*
 refine Acr hc hfn hall hsel hQ (fin:=okEnd (o42 [1,1,0,0,1,0])) (d:=d42c) (by kernel_rfl) hi2' (w10c c g i r h' hs os hr) ?_
 intro f3 l3 hf3 a3 w3 ι3 F3 hi3 hst3
 refine AiO hf3 (hq a3 w3 ι3 F3 h' (fun k=>if k=r then β6 else β k) hi3 (hx3.trans (hst3.ext 0)) ?_ ?_)
 ·intro k h rr e1 e2
  by_cases hk:k=r
  ·subst hk
   rw [List.getElem?_set_self hr] at e1
   rw [List.getElem?_set_self (by omega)] at e2
   cases e1
   cases e2
   simp only [if_pos]
   exact hR6.ext gk (hst3.ext 0)
  ·rw [List.getElem?_set_ne (Ne.symm hk)] at e1 e2
   rw [if_neg hk]
   exact (hrow3 k h rr hk e1 e2).ext gk (hst3.ext 0)
 ·have new: ∀j b,j<hs.length→j≠r→β j=some b→β6=some b→False:=by
   intro j b hj hne e1 e2
   obtain ⟨h,rr,k1,k2⟩:=get j hj
   exact ((hrow2 j h rr hne k1 k2).dark e1).2.1 (hlive6 b e2)
  intro i' j b hi hj e1 e2
  by_cases c1:i'=r
  ·by_cases c2:j=r
   ·rw [c1,c2]
   ·simp only [c1,c2,if_true,if_false] at e1 e2
    exact (new j b hj c2 e2 e1).elim
  ·by_cases c2:j=r
   ·simp only [c1,c2,if_true,if_false] at e1 e2
    exact (new i' b hi c1 e1 e2).elim
   ·simp only [c1,c2,if_false] at e1 e2
    exact hinj i' j b hi hj e1 e2
end
end Go.Eva.S8
namespace Go.Eva.S8
open Go.Proofs Go.RowKit
abbrev rowT (l:List Entity):T:= .agg [ti 0,.sl 9 (l.map zm)]
theorem AhY {L:List (List Entity)}:((L.map fun l=>l.map zm).map fun r=>T.agg [ti 0,.sl 9 r])=L.map rowT:=by rw [List.map_map];rfl
section
variable {P:Program} {n:Nat} {w0:Go.World} {ι0:Io} {F0:Nat→Prop} {H0:Heap}
def QB (n:Nat) (w0:Go.World) (ι0:Io) (F0:Nat→Prop) (H0:Heap) (c:Config) (g:Int) (os:List T) (i:Int) (L:List (List Entity)) (ex:Exit) (a':Act) (w':Go.World):Prop:=
 ∃ι' F',exEq ex (.exit 0)∧In n ι' F' w' (hB c (L.map rowT) os) (zipE [1,2,4,5,6] (vB g i)) a'∧Ext 0 ι0 F0 H0 w0 ι' F' (hB c (L.map rowT) os) w'
theorem AgJ {c:Config} {g i:Int} {os:List T} {L:List (List Entity)} {w:Go.World} {a:Act} {ι:Io} {F:Nat→Prop} {hs:List Value} {β:Nat→Option Nat} (hv:BInv n w0 ι0 F0 H0 c g os i L w a ι F hs β):QB n w0 ι0 F0 H0 c g os i L (.exit 0) a w:=by
 obtain ⟨hi,hx,hl,hrow,hinj⟩:=hv
 have get: ∀k,k<hs.length→ ∃h rr,hs[k]?=some h∧L[k]?=some rr:=fun k hk=>⟨hs[k],L[k]'(by omega),List.getElem?_eq_getElem hk,List.getElem?_eq_getElem (by omega)⟩
 have hd: ∀b,(∃k,k<hs.length∧β k=some b)→b<w.heap.size∧ ¬Live ι (hB c (hs.map (pinE (ti 0))) os) b∧(b<w0.heap.size→Own ι0 H0 b):=by
  rintro b ⟨k,hk,hb⟩
  obtain ⟨h,rr,e1,e2⟩:=get k hk
  exact (hrow k h rr e1 e2).dark hb
 have gw:=widen (R:=fun b=> ∃k,k<hs.length∧β k=some b) hi.good fun b hb=>⟨(hd b hb).1,(hd b hb).2.1⟩
 obtain ⟨gr,sr⟩:=retree (id:=3) (ys:=L.map rowT) gw rfl (by simp [hl]) (fun b hcb=>by
  have:=AiN (s:=9) (rows:=L.map fun l=>l.map zm) (F':=fun b=>F b∨ ∃k,k<hs.length∧β k=some b) hcb (by simp [hl]) (fun _ h=>h) (fun k h r e1 e2=>by
   simp only [List.getElem?_map] at e2
   obtain ⟨l,e3,rfl⟩:=Option.map_eq_some_iff.1 e2
   exact (hrow k h l e1 e3).tr.mono (fun b hb=>hb.elim .inl fun hb=> .inr ⟨k,(List.getElem?_eq_some_iff.1 e1).1,hb⟩) (fun _ _=>rfl))
  rw [AhY] at this
  exact this)
 have hvr: ∀v u,VR ι F w (hB c (hs.map (pinE (ti 0))) os) v u→VR ι (fun b=>F b∨ ∃k,k<hs.length∧β k=some b) w (hB c (L.map rowT) os) v u:=fun v u h=>
  sr.vr gw (h.mono (fun _ h=> .inl h) (fun _ _=>rfl) fun i o h=>⟨o,h,.refl ι w i o⟩)
 refine ⟨ι,_,rfl,⟨gr,Aa0 (Afg (AeJ hi [1,2,4,5,6]) hvr),hi.size,hi.defers⟩,⟨hx.os,hx.tape,hx.output,hx.size,hx.same,fun b hb h=>hx.own b hb (sr.own b (Nat.lt_of_lt_of_le hb hx.size) h),fun b hb=> .inl (hx.fsub b hb),?_,fun id o hid=>absurd hid (by simp),fun b hb h=>hx.live b hb (sr.live b (Nat.lt_of_lt_of_le hb hx.size) h)⟩⟩
 rintro b hb (h|h)
 ·exact hx.ffr b hb h
 ·exact .inr ((hd b h).2.2 hb)
theorem AgR (hc:CxTy P cx) (hfn:FnsOK P cx) (hfit:fitC cx fi14 n fi14.code=true) {c:Config} {g:Int} {os:List T} (hg:0<g) (hp:c.players≤1000): ∀(d:Nat) (i:Int) (L:List (List Entity)) (w:Go.World) (a:Act) {ι:Io} {F:Nat→Prop} {hs:List Value} {β:Nat→Option Nat},
  i+d=c.players+1→1≤i→(L.length:Int)=g→(∀l∈L,l.length+d≤10000)→BInv n w0 ι0 F0 H0 c g os i L w a ι F hs β→LoopWp P (c42 [0]) (QB n w0 ι0 F0 H0 c g os (c.players+1) (rowsB c g d i L)) a w:=by
 intro d
 induction d with
 |zero=>
  intro i L w a ι F hs β hd h1 hL hb hv
  obtain rfl:i=c.players+1:=by omega
  refine LoopWp.round ?_
  rw [AfE]
  refine wp_seq (wp_seq ?_)
  rw [c42_6]
  refine Abm hc hfn (fit42 hfit c42_6 (by kernel_rfl)) hv.inn (w6 c g (c.players+1) hs os) ?_
  intro a1 w1 ι1 F1 hi1 hst1
  have hev:a1.eval (.tmp 24)= .bool (decide (c.players+1≤c.players)):=by
   have h:=Aaf hi1.sim (.tmp 24)
   exact (show VR ι1 F1 w1 _ (vb (decide (c.players+1≤c.players))) _ from h).t_inv.bool_inv
  rw [show decide (c.players+1≤c.players)=false by simp;omega] at hev
  refine wp_cond_false hev (wp_exit ?_)
  refine AgJ (hs:=hs) (β:=β) ⟨⟨hi1.good,Aa0 (AeJ hi1 [1,2,4,5,6]),hi1.size,hi1.defers⟩,hv.ext.trans (hst1.ext 0),hv.len,fun k h r e1 e2=>(hv.row k h r e1 e2).ext hv.inn.good (hst1.ext 0),hv.inj⟩
 |succ d ih=>
  intro i L w a ι F hs β hd h1 hL hb hv
  refine LoopWp.round ?_
  rw [AfE]
  refine wp_seq (wp_seq ?_)
  rw [c42_6]
  refine Abm hc hfn (fit42 hfit c42_6 (by kernel_rfl)) hv.inn (w6 c g i hs os) ?_
  intro a1 w1 ι1 F1 hi1 hst1
  have hev:a1.eval (.tmp 24)= .bool (decide (i≤c.players)):=by
   have h:=Aaf hi1.sim (.tmp 24)
   exact (show VR ι1 F1 w1 _ (vb (decide (i≤c.players))) _ from h).t_inv.bool_inv
  rw [show decide (i≤c.players)=true by simp;omega] at hev
  refine wp_cond_true hev (wp_skip ?_)
  have hi1:In n ι1 F1 w1 (hB c (hs.map (pinE (ti 0))) os) (zipE [1,2,4,5,6] (vB g i)) a1:=⟨hi1.good,Aa0 (AeJ hi1 [1,2,4,5,6]),hi1.size,hi1.defers⟩
  have hx1:=hv.ext.trans (hst1.ext 0)
  have hr1:=fun k h r e1 e2=>(hv.row k h r e1 e2).ext hv.inn.good (hst1.ext 0)
  have hlen:=hv.len
  have hinj:=hv.inj
  clear hv hst1 hev
  refine wp_seq (wp_block (wp_seq ?_))
  rw [c42_8]
  refine Abm hc hfn (fit42 hfit c42_8 (by kernel_rfl)) hi1 (w8 c g i hs os hg (by omega)) ?_
  intro a2 w2 ι2 F2 hi2 hst2
  have hx2:=hx1.trans (hst2.ext 0)
  have hr2:=fun k h r e1 e2=>(hr1 k h r e1 e2).ext hi1.good (hst2.ext 0)
  clear hr1 hx1 hst2 hi1
  have htm:=AaL (v:=i-1) (k:=g) (by omega) (by omega)
  obtain ⟨r,hr⟩: ∃r:Nat,(i-1).tmod g=r:=⟨((i-1).tmod g).toNat,by omega⟩
  have hrL:r<L.length:=by omega
  have hcor:= @AeM c ((i-1).tmod g)
  have hbk:=hb _ (Afy hrL)
  rw [hr] at hi2 hcor
  refine wp_seq ?_
  rw [c42_9]
  refine Abm hc hfn (fit42 hfit c42_9 (by kernel_rfl)) hi2 (w9 c g i r hs os) ?_
  intro a3 w3 ι3 F3 hi3 hst3
  have hx3:=hx2.trans (hst3.ext 0)
  have hr3:=fun k h r e1 e2=>(hr2 k h r e1 e2).ext hi2.good (hst3.ext 0)
  clear hr2 hx2 hst3 hi2
  refine Ajq hc hfn hfit (β:=β) ?_ hi3 hx3 hlen hr3 hinj (r:=r) (row:=gt L r) (by omega) (Aht hrL) (by omega) (by omega) (by omega) (by omega) ?_
  ·rintro cc aa ww ⟨_,_,h,_⟩
   exact h
  intro a4 w4 ι4 F4 h' β4 hi4 hx4 hr4 hinj4
  show (c42 [1,1,0]).wp P _ a4 w4
  rw [c42_7]
  refine Ae3 hc hfn (fit42 hfit c42_7 (by kernel_rfl)) hi4 (w7 c g i (hs.set r h') os (by omega)) ?_
  rintro a5 w5 ι5 F5 hi5 ⟨ι6,F6,H6,g6,hst6,hx6⟩
  show LoopWp P (c42 [0]) _ a5 w5
  have e:rowsB c g (d+1) i L=rowsB c g d (i+1) (L.set r (gt L r++ [⟨i,1,c.cornerX r+512,c.cornerY r+512,0,0,100,0,0⟩])):=by
   rw [rowsB]
   unfold plB
   rw [hr,Int.toNat_natCast]
  rw [e]
  refine ih (i+1) _ w5 a5 (hs:=hs.set r h') (β:=β4) (by omega) (by omega) (by simpa using hL) ?_ ⟨hi5,(hx4.trans (hst6.ext 0)).trans hx6,by simp [hlen],fun k h rr e1 e2=>((hr4 k h rr e1 e2).ext hi4.good (hst6.ext 0)).ext g6 hx6,by simpa using hinj4⟩
  intro l hl
  rcases List.mem_or_eq_of_mem_set hl with hl|rfl
  ·have:=hb l hl;omega
  ·simp;omega
end
end Go.Eva.S8
namespace Go.Eva.S8
open Go.Proofs Go.RowKit
theorem Abl (c:Config) (g:Int) (m:Nat) (os:List T) (hg:0<g) (hm:(m:Int)=g) (hp:0≤c.players∧c.players≤1000):
  Is cx (.loop 14 [0,1,0,1,1,1,1] 0 (vB g 1) (hB c (zj m (.agg [ti 0,.nul])) os)) ⟨.exit 0,vB g (c.players+1),hB c ((rowsB c g c.players.toNat 1 (zj m [])).map rowT) os⟩:=by
 intro P hc hfn fi cc live n hf hsub hlive hfit w ι F a hi
 have e1:cx.fn.get 14=some (some fi14):=by kernel_rfl
 rw [e1] at hf
 simp only [Option.some.injEq] at hf
 subst hf
 have e2:subAt fi14.code [0,1,0,1,1,1,1]=some (.loop (c42 [0])):=by kernel_rfl
 rw [e2] at hsub
 simp only [Option.some.injEq,Code.loop.injEq] at hsub
 subst hsub
 have e3:liveAt fi14.live [0,1,0,1,1,1,1]=some [1,2,4,5,6]:=by kernel_rfl
 rw [e3] at hlive
 simp only [Option.some.injEq] at hlive
 subst hlive
 have hob:=hi.good.obj 3 _ rfl
 have key: ∃hs:List Value,hs.length=m∧(∀h∈hs,∃ad,h= .slice ad 0 0)∧Good ι F w (hB c (hs.map (pinE (ti 0))) os)∧Step ι F (hB c (zj m (.agg [ti 0,.nul])) os) w ι F (hB c (hs.map (pinE (ti 0))) os) w:=by
  obtain ⟨h0,_,h⟩:=hob
  rcases h with ⟨_,h2,_⟩|⟨b,cs,e,h1,h2,h3,h4,h5,h6,h7⟩
  ·have:=congrArg zq h2
   simp at this
   omega
  ·obtain ⟨hs,k1,k2,k3⟩:=AiL h7
   obtain ⟨g1,g2⟩:=retree' (id:=3) (ys:=hs.map (pinE (ti 0))) hi.good rfl (by simp [k1]) (fun b' hb'=>by
    rw [h1] at hb'
    cases hb'
    exact k2)
   exact ⟨hs,k1,k3,g1,g2⟩
 obtain ⟨hs,k1,k2,k3,k4⟩:=key
 have hi':In n ι F w (hB c (hs.map (pinE (ti 0))) os) (zipE [1,2,4,5,6] (vB g 1)) a:=⟨k3,fun t=>k4.vr hi.good (hi.sim t),hi.size,hi.defers⟩
 have hx:Ext 0 ι F (hB c (zj m (.agg [ti 0,.nul])) os) w ι F (hB c (hs.map (pinE (ti 0))) os) w:=k4.ext 0
 have hmain:=AgR hc hfn hfit hg hp.2 c.players.toNat 1 (zj m []) w a (os:=os) (hs:=hs) (β:=fun _=>none) (by omega) (by omega) (by simpa using hm) (fun l hl=>by rw [List.eq_of_mem_replicate hl];simp;omega) ⟨hi',hx,by simp [k1],fun k h r e1 e2=>by
  have hr:r= []:=List.eq_of_mem_replicate (List.mem_of_getElem? e2)
  subst hr
  exact ⟨rfl,k2 h (List.mem_of_getElem? e1)⟩,fun i j b _ _ h=>by simp at h⟩
 refine hmain.mono ?_
 rintro ex a' w' ⟨ι',F',q1,q2,q3⟩
 exact ⟨_,ι',F',rfl,q1,q2,q3⟩
end Go.Eva.S8
namespace Go.Eva.S8
theorem Abo (c:Config) (h:c.right=true):Is cx (.call 14 [.t c.enc] []) ⟨.ret,[.t (.agg [.sl 2 ((rowsB c c.regions c.players.toNat 1 (zj c.regions.toNat [])).map rowT),.sl 1 (zj c.regions.toNat (qp 15 []))]),vi 0],[]⟩:=by
 have hgr:=Config.right_iff.1 h
 have hgl:= @Config.regions_le c
 have hml:=Config.mul_le h
 have hre:c.regions=c.cols*c.rows:=by simp [qq,h]
 have hR:=Aas c
 rw [h] at hR
 have hG:=AaB c
 have hL:=Abl c c.regions c.regions.toNat (zj c.regions.toNat (qp 15 [])) (by omega) (by omega) (by omega)
 simp only [hB,vB] at hL
 generalize (rowsB c c.regions c.players.toNat 1 (zj c.regions.toNat [])).map rowT=X at*
 generalize c.regions=g at*
 refine qk ?_
 refine gg [.a _ _,.b (!true) false,.a _ _] ⟨o_a hR,bK,o_a hG,trivial⟩ ?_
 refine bO ?_ ?_
 ·refine gg [.w (0≤g∧g≤g∧room (zy g) (32:Nat)),.l (zy g)] ⟨o_w ⟨(by omega),⟨(by omega),(by (simp [room,appendMax];omega))⟩⟩,trivial⟩ ?_
  refine bO ?_ ?_
  all_goals
   refine gg [.w (0≤g∧g≤g∧room (zy g) (24:Nat)),.l (zy g),.a _ _] ⟨o_w ⟨(by omega),⟨(by omega),(by (simp [room,appendMax];omega))⟩⟩,o_a hL,trivial⟩ ?_
   exact ge
 ·refine bO ?_ ?_
  ·refine gg [.w (0≤g∧g≤g∧room (zy g) (24:Nat)),.l (zy g)] ⟨o_w ⟨(by omega),⟨(by omega),(by (simp [room,appendMax];omega))⟩⟩,trivial⟩ ?_
   refine bO ?_ ?_
   all_goals
    refine gg [.w (0≤g∧g≤g∧room (zy g) (32:Nat)),.l (zy g),.a _ _] ⟨o_w ⟨(by omega),⟨(by omega),(by (simp [room,appendMax];omega))⟩⟩,o_a hL,trivial⟩ ?_
    exact ge
  ·refine bO ?_ ?_
   ·refine gg [.w (0≤g∧g≤g∧room (zy g) (32:Nat)),.l (zy g),.w (0≤g∧g≤g∧room (zy g) (24:Nat)),.l (zy g),.a _ _] ⟨o_w ⟨(by omega),⟨(by omega),(by (simp [room,appendMax];omega))⟩⟩,o_w ⟨(by omega),⟨(by omega),(by (simp [room,appendMax];omega))⟩⟩,o_a hL,trivial⟩ ?_
    exact ge
   ·refine gg [.w (0≤g∧g≤g∧room (zy g) (24:Nat)),.l (zy g),.w (0≤g∧g≤g∧room (zy g) (32:Nat)),.l (zy g),.a _ _] ⟨o_w ⟨(by omega),⟨(by omega),(by (simp [room,appendMax];omega))⟩⟩,o_w ⟨(by omega),⟨(by omega),(by (simp [room,appendMax];omega))⟩⟩,o_a hL,trivial⟩ ?_
    exact ge
theorem Abq (c:Config) (h:c.right=true):Is cx (.call 14 [.t c.enc] []) ⟨.ret,[.t (beginW c.cols c.regions c.players.toNat).enc,vi 0],[]⟩:=by
 have hB:=Abo c h
 rw [Ag6 h]
 have e:(World.enc ⟨(rowsB c c.regions c.players.toNat 1 (zj c.regions.toNat [])).map (Region.mk 0),zj c.regions.toNat []⟩)= .agg [.sl 2 ((rowsB c c.regions c.players.toNat 1 (zj c.regions.toNat [])).map rowT),.sl 1 (zj c.regions.toNat (qp 15 []))]:=by
  simp only [World.enc,List.map_map,List.map_replicate]
  rfl
 rw [e]
 exact hB
end Go.Eva.S8
namespace Go.Eva
theorem AeY {c:Config} (hr:c.right=true): ∃s rest outs,beginW c.cols c.regions c.players.toNat=⟨s::rest,outs⟩∧regionRight c 0 s=true∧small s.ents∧s.frame=0:=by
 have hF:=AgD hr
 have hml:=Config.mul_le hr
 have hre:c.regions=c.cols*c.rows:=by simp [qq,hr]
 generalize beginW c.cols c.regions c.players.toNat=W at hF
 obtain ⟨regs,outs⟩:=W
 have hl:=hF.regs
 simp only at hl
 cases regs with
 |nil=>simp at hl;omega
 |cons s rest=>
  obtain ⟨h1,h2,h3⟩:=hF.sane 0 (by simp)
  have e:gt (s::rest) 0=s:=by simp [gt]
  simp only [e] at h1 h2 h3
  refine ⟨s,rest,outs,rfl,?_,by unfold small;omega,h2⟩
  have his:c.is 0=true:=(Config.is_iff hr).2 (by omega)
  simp only [regionRight,his,h2,within,Bool.and_eq_true,decide_eq_true_eq,List.all_eq_true,Bool.true_and]
  exact ⟨⟨⟨by decide,Adz.2 h1.srt⟩,h1.things⟩,fun x hx=>h1.ents x hx⟩
end Go.Eva
namespace Go.Eva.S8
theorem AaD (c:Config) (what n:Int):Fn cx 9 [c.enc,ti what,ti n] (.bool true):=by
 have hP:=Acd c
 obtain ⟨hr,_⟩:= @Config.play_ok c
 generalize c.play=g at*
 have k2:= @Aa6 n 100 (by decide)
 have k3:= @Aa6 what 8 (by decide)
 have hA:=Ack
 have hN:=Adv g hr
 have hZ:=AbQ
 have hB:=Abq g hr
 obtain ⟨s,rest,outs,hW,hs,hn,h0⟩:=AeY hr
 rw [hW] at hB
 obtain ⟨L,O,hL,hLs⟩: ∃L O,World.enc ⟨s::rest,outs⟩= .agg [.sl 2 L,.sl 1 O]∧L[0]?=some s.enc:=⟨_,_,rfl,rfl⟩
 rw [hL] at hB
 obtain ⟨x,hx⟩: ∃x,(IntKind.u64.wrap n).tmod 100=x:=⟨_,rfl⟩
 obtain ⟨y,hy⟩: ∃y,(IntKind.u64.wrap what).tmod 8=y:=⟨_,rfl⟩
 rw [hx] at k2
 rw [hy] at k3
 obtain ⟨N,hN0⟩: ∃N:Eng,N=Eng.new g:=⟨_,rfl⟩
 rw [←hN0] at hN
 have nC:N.c=g:=by rw [hN0];rfl
 have hS:=Abt N s hn (by rw [hN0];exact ⟨rfl,rfl⟩) (by rw [nC];exact hs)
 obtain ⟨U,hU⟩: ∃U:Eng,U= {N with ks:= [ti 0],xs:= [subNew s],dirty:=minI N.dirty s.frame}:=⟨_,rfl⟩
 rw [←hU] at hS
 have hAd:=Abg U (1+x)
 have uN:U.now=0:=by rw [hU,hN0];rfl
 rw [if_neg (by omega),if_neg (by omega)] at hAd
 obtain ⟨E,hE⟩: ∃E:Eng,E= {U with now:=1+x,dirty:=minI U.dirty U.now}:=⟨_,rfl⟩
 rw [←hE] at hAd
 have z1:Is cx (.call 24 [.t .nilp,vi 0,vi 0] []) ⟨.ret,[.agg [vi 0,.fit 9 []],vb false],[]⟩:=Aaw (n:=20) (by kernel_rfl)
 have z2:Is cx (.call 15 [.t .nilp,vi 0,base0 0] []) ⟨.ret,[vi 2],[]⟩:=Aaw (n:=20) (by kernel_rfl)
 have z3:Is cx (.call 29 [.t .nilp,vi 0] []) ⟨.ret,[vi 2],[]⟩:=Aaw (n:=20) (by kernel_rfl)
 have z4:Is cx (.call 16 [.t .nilp,vi 1] []) ⟨.ret,[vi 2],[]⟩:=Aaw (n:=20) (by kernel_rfl)
 have z5:Is cx (.call 17 [.t .nilp] []) ⟨.ret,[vi 0],[]⟩:=Aaw (n:=20) (by kernel_rfl)
 have z6:Is cx (.call 21 [.t .nilp,vi 0] []) ⟨.ret,[vi (-1)],[]⟩:=Aaw (n:=20) (by kernel_rfl)
 have z7:Is cx (.call 33 [.t .nilp,vi 0] []) ⟨.ret,[vi (-1)],[]⟩:=Aaw (n:=20) (by kernel_rfl)
 have z8:Is cx (.call 35 [.t .nilp,vi 0] []) ⟨.ret,[vi (-1)],[]⟩:=Aaw (n:=20) (by kernel_rfl)
 have z9:Is cx (.call 20 [.t .nilp] []) ⟨.ret,[vi 0],[]⟩:=Aaw (n:=20) (by kernel_rfl)
 have z10:Is cx (.call 30 [.t .nilp] []) ⟨.ret,[vi 0],[]⟩:=Aaw (n:=20) (by kernel_rfl)
 have z11:Is cx (.call 31 [.t .nilp] []) ⟨.ret,[.fit 1 []],[]⟩:=Aaw (n:=20) (by kernel_rfl)
 have z12:Is cx (.call 36 [.t .nilp] []) ⟨.ret,[.t .nilp],[]⟩:=Aaw (n:=20) (by kernel_rfl)
 have z13:Is cx (.call 27 [.t .nilp,.agg [vi 0,vi 0,.fit 15 []]] []) ⟨.ret,[vb false],[]⟩:=Aaw (n:=20) (by kernel_rfl)
 have z14:Is cx (.call 37 [.t .nilp,vi 1] []) ⟨.ret,[vi 0],[]⟩:=Aaw (n:=20) (by kernel_rfl)
 have eC:E.c=g:=by rw [hE,hU];exact nC
 have eX:E.now=1+x:=by rw [hE]
 have eE:E= {E with ks:= [ti 0],xs:= [subNew s]}:=by rw [hE,hU]
 have u:Is cx (.call 29 [.ptr 0 0 0,vi 0] [E.ob]) ⟨.ret,[vi 0],[Eng.ob {E with ks:= [],xs:= [],dirty:=minI E.dirty s.frame}]⟩:=by
  have:=Abz E s (eC ▸ hr)
  rwa [←eE] at this
 obtain ⟨E0,hE0⟩: ∃E0:Eng,E0= {E with ks:= [],xs:= [],dirty:=minI E.dirty s.frame}:=⟨_,rfl⟩
 rw [←hE0] at u
 have e0:E0= {E0 with ks:= [],xs:= []}:=by rw [hE0]
 have e0C:E0.c=g:=by rw [hE0];exact eC
 have m1:Is cx (.call 30 [.ptr 0 0 0] [E.ob]) ⟨.ret,[vi (1+x)],[E.ob]⟩:=by have:=Aew E;rwa [eX] at this
 have m2:Is cx (.call 30 [.ptr 0 0 0] [E0.ob]) ⟨.ret,[vi (1+x)],[E0.ob]⟩:=by have:=Aew E0;rwa [show E0.now=1+x by rw [hE0];exact eX] at this
 have hgr:=Config.right_iff.1 hr
 have hml:=Config.mul_le hr
 have c0:Is cx (.call 15 [.ptr 0 0 0,vi (g.cols*g.rows),base0 0] [E.ob]) ⟨.ret,[vi 13],[E.ob]⟩:=Abn E _ (by rw [eC];simp [qq,hr])
 have c1:Is cx (.call 15 [.ptr 0 0 0,vi 0,base0 0] [E.ob]) ⟨.ret,[vi 18],[E.ob]⟩:=by
  have:=Abx E s (eC ▸ hr)
  rw [eE];exact this
 have c2:Is cx (.call 15 [.ptr 0 0 0,vi 0,base0 (-1)] [E0.ob]) ⟨.ret,[vi 4],[E0.ob]⟩:=by
  have:=AbD E0 (e0C ▸ hr)
  rwa [←e0] at this
 have c3:=Abb E
 have c4:Is cx (.call 29 [.ptr 0 0 0,vi 0] [E0.ob]) ⟨.ret,[vi 8],[E0.ob]⟩:=by
  have:=Abp E0 (e0C ▸ hr)
  rwa [←e0] at this
 have c5:Is cx (.call 16 [.ptr 0 0 0,vi x] [E.ob]) ⟨.ret,[vi 1],[E.ob]⟩:=by
  have:=Abg E x
  rwa [if_pos (by omega)] at this
 have c6:Is cx (.call 16 [.ptr 0 0 0,vi 10001] [E.ob]) ⟨.ret,[vi 16],[E.ob]⟩:=by
  have:=Abg E 10001
  rwa [if_neg (by omega),if_pos (by omega)] at this
 have c7:=Ado E (eC ▸ hr)
 clear hE hE0 eE e0 eC e0C hU hN0 nC uN hs hn hW hL
 have hcases:y=0∨y=1∨y=2∨y=3∨y=4∨y=5∨y=6∨y=7:=by omega
 have hx5:(1+x)-1=x:=by omega
 rcases hcases with rfl|rfl|rfl|rfl|rfl|rfl|rfl|rfl
 ·refine qk ?_
  refine gg [.a _ _,.a _ _,.a _ _,.a _ _,.b (!true) false,.ff,.ff,.b (0 !=0) false,.ff,.ff,.ff,.ff,.ff,.b (!true) false,.ff,.ff] ⟨o_a hP,o_a hN,o_a hZ,o_a hA,bK,bK,bK,trivial⟩ ?_
  refine gg [.b (10 !=10) false,.a _ _,.i zf n (zp zf n),.w ((100:Int)≠(0:Int)),.t (T.int zf (zg (zp zf n) 100)) (T.int zf x),.i zd x x,.i zd (1+x) (1+x),.w (0≤(0:Int)),.l 0,.g L 0 (zt s),.a _ _,.a _ _,.i zf what (zp zf what),.w ((8:Int)≠(0:Int)),.t (T.int zf (zg (zp zf what) 8)) (T.int zf 0),.b (0==0) true] ⟨bK,o_a hB,o_i rfl,o_w (by intro h;cases h),o_t (by rw [hx]),oI,oI,oW,o_g hLs (by intro h;cases h),o_a hS,o_a hAd,o_i rfl,o_w (by intro h;cases h),o_t (by rw [hy]),bK,trivial⟩ ?_
  refine gg [.i zd (g.cols*g.rows) (g.cols*g.rows),.a _ _,.a _ _,.b (13==13) true,.tt,.a _ _,.tt,.tt,.tt,.b (1+x==1+x) true,.tt,.tt,.a _ _,.tt,.tt,.b (2==2) true] ⟨oI,o_a c0,o_a z1,bK,o_a m1,t_bre rfl,o_a z2,bK,trivial⟩ ?_
  refine gg [.tt,.a _ _,.tt,.tt,.b (2==2) true,.tt,.a _ _,.tt,.tt,.b (2==2) true,.tt,.a _ _,.tt,.tt,.b (0==0) true,.tt] ⟨o_a z3,bK,o_a z4,bK,o_a z5,bK,trivial⟩ ?_
  refine gg [.tt,.b (!false) true,.tt,.a _ _,.tt,.tt,.b (-1== -1) true,.tt,.a _ _,.tt,.tt,.b (-1== -1) true,.tt,.a _ _,.tt,.tt] ⟨bK,o_a z6,bK,o_a z7,bK,o_a z8,trivial⟩ ?_
  refine gg [.b (-1== -1) true,.tt,.a _ _,.tt,.tt,.b (0==0) true,.tt,.a _ _,.tt,.tt,.b (0==0) true,.tt,.a _ _,.tt,.l 0,.tt] ⟨bK,o_a z9,bK,o_a z10,bK,o_a z11,trivial⟩ ?_
  refine gg [.tt,.b (0==0) true,.tt,.a _ _,.tt,.tt,.tt,.tt,.tt,.a _ _,.tt,.tt,.b (!false) true,.tt,.a _ _,.tt] ⟨bK,o_a z12,o_a z13,bK,o_a z14,trivial⟩ ?_
  refine gg [.tt] trivial ?_
  exact ge
 ·refine qk ?_
  refine gg [.a _ _,.a _ _,.a _ _,.a _ _,.b (!true) false,.ff,.ff,.b (0 !=0) false,.ff,.ff,.ff,.ff,.ff,.b (!true) false,.ff,.ff] ⟨o_a hP,o_a hN,o_a hZ,o_a hA,bK,bK,bK,trivial⟩ ?_
  refine gg [.b (10 !=10) false,.a _ _,.i zf n (zp zf n),.w ((100:Int)≠(0:Int)),.t (T.int zf (zg (zp zf n) 100)) (T.int zf x),.i zd x x,.i zd (1+x) (1+x),.w (0≤(0:Int)),.l 0,.g L 0 (zt s),.a _ _,.a _ _,.i zf what (zp zf what),.w ((8:Int)≠(0:Int)),.t (T.int zf (zg (zp zf what) 8)) (T.int zf 1),.b (1==0) false] ⟨bK,o_a hB,o_i rfl,o_w (by intro h;cases h),o_t (by rw [hx]),oI,oI,oW,o_g hLs (by intro h;cases h),o_a hS,o_a hAd,o_i rfl,o_w (by intro h;cases h),o_t (by rw [hy]),bK,trivial⟩ ?_
  refine gg [.b (1==1) true,.a _ _,.a _ _,.b (18==18) true,.tt,.a _ _,.tt,.tt,.tt,.b (1+x==1+x) true,.tt,.tt,.a _ _,.tt,.tt,.b (2==2) true] ⟨bK,o_a c1,o_a z1,bK,o_a m1,t_bre rfl,o_a z2,bK,trivial⟩ ?_
  refine gg [.tt,.a _ _,.tt,.tt,.b (2==2) true,.tt,.a _ _,.tt,.tt,.b (2==2) true,.tt,.a _ _,.tt,.tt,.b (0==0) true,.tt] ⟨o_a z3,bK,o_a z4,bK,o_a z5,bK,trivial⟩ ?_
  refine gg [.tt,.b (!false) true,.tt,.a _ _,.tt,.tt,.b (-1== -1) true,.tt,.a _ _,.tt,.tt,.b (-1== -1) true,.tt,.a _ _,.tt,.tt] ⟨bK,o_a z6,bK,o_a z7,bK,o_a z8,trivial⟩ ?_
  refine gg [.b (-1== -1) true,.tt,.a _ _,.tt,.tt,.b (0==0) true,.tt,.a _ _,.tt,.tt,.b (0==0) true,.tt,.a _ _,.tt,.l 0,.tt] ⟨bK,o_a z9,bK,o_a z10,bK,o_a z11,trivial⟩ ?_
  refine gg [.tt,.b (0==0) true,.tt,.a _ _,.tt,.tt,.tt,.tt,.tt,.a _ _,.tt,.tt,.b (!false) true,.tt,.a _ _,.tt] ⟨bK,o_a z12,o_a z13,bK,o_a z14,trivial⟩ ?_
  refine gg [.tt] trivial ?_
  exact ge
 ·refine qk ?_
  refine gg [.a _ _,.a _ _,.a _ _,.a _ _,.b (!true) false,.ff,.ff,.b (0 !=0) false,.ff,.ff,.ff,.ff,.ff,.b (!true) false,.ff,.ff] ⟨o_a hP,o_a hN,o_a hZ,o_a hA,bK,bK,bK,trivial⟩ ?_
  refine gg [.b (10 !=10) false,.a _ _,.i zf n (zp zf n),.w ((100:Int)≠(0:Int)),.t (T.int zf (zg (zp zf n) 100)) (T.int zf x),.i zd x x,.i zd (1+x) (1+x),.w (0≤(0:Int)),.l 0,.g L 0 (zt s),.a _ _,.a _ _,.i zf what (zp zf what),.w ((8:Int)≠(0:Int)),.t (T.int zf (zg (zp zf what) 8)) (T.int zf 2),.b (2==0) false] ⟨bK,o_a hB,o_i rfl,o_w (by intro h;cases h),o_t (by rw [hx]),oI,oI,oW,o_g hLs (by intro h;cases h),o_a hS,o_a hAd,o_i rfl,o_w (by intro h;cases h),o_t (by rw [hy]),bK,trivial⟩ ?_
  refine gg [.b (2==1) false,.b (2==2) true,.a _ _,.a _ _,.a _ _,.b (4==4) true,.tt,.a _ _,.tt,.tt,.tt,.b (1+x==1+x) true,.tt,.tt,.a _ _,.tt] ⟨bK,bK,o_a u,o_a c2,o_a z1,bK,o_a m2,t_bre rfl,o_a z2,trivial⟩ ?_
  refine gg [.tt,.b (2==2) true,.tt,.a _ _,.tt,.tt,.b (2==2) true,.tt,.a _ _,.tt,.tt,.b (2==2) true,.tt,.a _ _,.tt,.tt] ⟨bK,o_a z3,bK,o_a z4,bK,o_a z5,trivial⟩ ?_
  refine gg [.b (0==0) true,.tt,.tt,.b (!false) true,.tt,.a _ _,.tt,.tt,.b (-1== -1) true,.tt,.a _ _,.tt,.tt,.b (-1== -1) true,.tt,.a _ _] ⟨bK,bK,o_a z6,bK,o_a z7,bK,o_a z8,trivial⟩ ?_
  refine gg [.tt,.tt,.b (-1== -1) true,.tt,.a _ _,.tt,.tt,.b (0==0) true,.tt,.a _ _,.tt,.tt,.b (0==0) true,.tt,.a _ _,.tt] ⟨bK,o_a z9,bK,o_a z10,bK,o_a z11,trivial⟩ ?_
  refine gg [.l 0,.tt,.tt,.b (0==0) true,.tt,.a _ _,.tt,.tt,.tt,.tt,.tt,.a _ _,.tt,.tt,.b (!false) true,.tt] ⟨bK,o_a z12,o_a z13,bK,trivial⟩ ?_
  refine gg [.a _ _,.tt,.tt] ⟨o_a z14,trivial⟩ ?_
  exact ge
 ·refine qk ?_
  refine gg [.a _ _,.a _ _,.a _ _,.a _ _,.b (!true) false,.ff,.ff,.b (0 !=0) false,.ff,.ff,.ff,.ff,.ff,.b (!true) false,.ff,.ff] ⟨o_a hP,o_a hN,o_a hZ,o_a hA,bK,bK,bK,trivial⟩ ?_
  refine gg [.b (10 !=10) false,.a _ _,.i zf n (zp zf n),.w ((100:Int)≠(0:Int)),.t (T.int zf (zg (zp zf n) 100)) (T.int zf x),.i zd x x,.i zd (1+x) (1+x),.w (0≤(0:Int)),.l 0,.g L 0 (zt s),.a _ _,.a _ _,.i zf what (zp zf what),.w ((8:Int)≠(0:Int)),.t (T.int zf (zg (zp zf what) 8)) (T.int zf 3),.b (3==0) false] ⟨bK,o_a hB,o_i rfl,o_w (by intro h;cases h),o_t (by rw [hx]),oI,oI,oW,o_g hLs (by intro h;cases h),o_a hS,o_a hAd,o_i rfl,o_w (by intro h;cases h),o_t (by rw [hy]),bK,trivial⟩ ?_
  refine gg [.b (3==1) false,.b (3==2) false,.b (3==3) true,.a _ _,.a _ _,.b (13==13) true,.tt,.a _ _,.tt,.tt,.tt,.b (1+x==1+x) true,.tt,.tt,.a _ _,.tt] ⟨bK,bK,bK,o_a c3,o_a z1,bK,o_a m1,t_bre rfl,o_a z2,trivial⟩ ?_
  refine gg [.tt,.b (2==2) true,.tt,.a _ _,.tt,.tt,.b (2==2) true,.tt,.a _ _,.tt,.tt,.b (2==2) true,.tt,.a _ _,.tt,.tt] ⟨bK,o_a z3,bK,o_a z4,bK,o_a z5,trivial⟩ ?_
  refine gg [.b (0==0) true,.tt,.tt,.b (!false) true,.tt,.a _ _,.tt,.tt,.b (-1== -1) true,.tt,.a _ _,.tt,.tt,.b (-1== -1) true,.tt,.a _ _] ⟨bK,bK,o_a z6,bK,o_a z7,bK,o_a z8,trivial⟩ ?_
  refine gg [.tt,.tt,.b (-1== -1) true,.tt,.a _ _,.tt,.tt,.b (0==0) true,.tt,.a _ _,.tt,.tt,.b (0==0) true,.tt,.a _ _,.tt] ⟨bK,o_a z9,bK,o_a z10,bK,o_a z11,trivial⟩ ?_
  refine gg [.l 0,.tt,.tt,.b (0==0) true,.tt,.a _ _,.tt,.tt,.tt,.tt,.tt,.a _ _,.tt,.tt,.b (!false) true,.tt] ⟨bK,o_a z12,o_a z13,bK,trivial⟩ ?_
  refine gg [.a _ _,.tt,.tt] ⟨o_a z14,trivial⟩ ?_
  exact ge
 ·refine qk ?_
  refine gg [.a _ _,.a _ _,.a _ _,.a _ _,.b (!true) false,.ff,.ff,.b (0 !=0) false,.ff,.ff,.ff,.ff,.ff,.b (!true) false,.ff,.ff] ⟨o_a hP,o_a hN,o_a hZ,o_a hA,bK,bK,bK,trivial⟩ ?_
  refine gg [.b (10 !=10) false,.a _ _,.i zf n (zp zf n),.w ((100:Int)≠(0:Int)),.t (T.int zf (zg (zp zf n) 100)) (T.int zf x),.i zd x x,.i zd (1+x) (1+x),.w (0≤(0:Int)),.l 0,.g L 0 (zt s),.a _ _,.a _ _,.i zf what (zp zf what),.w ((8:Int)≠(0:Int)),.t (T.int zf (zg (zp zf what) 8)) (T.int zf 4),.b (4==0) false] ⟨bK,o_a hB,o_i rfl,o_w (by intro h;cases h),o_t (by rw [hx]),oI,oI,oW,o_g hLs (by intro h;cases h),o_a hS,o_a hAd,o_i rfl,o_w (by intro h;cases h),o_t (by rw [hy]),bK,trivial⟩ ?_
  refine gg [.b (4==1) false,.b (4==2) false,.b (4==3) false,.b (4==4) true,.a _ _,.a _ _,.a _ _,.b (8==8) true,.tt,.a _ _,.tt,.tt,.tt,.b (1+x==1+x) true,.tt,.tt] ⟨bK,bK,bK,bK,o_a u,o_a c4,o_a z1,bK,o_a m2,t_bre rfl,trivial⟩ ?_
  refine gg [.a _ _,.tt,.tt,.b (2==2) true,.tt,.a _ _,.tt,.tt,.b (2==2) true,.tt,.a _ _,.tt,.tt,.b (2==2) true,.tt,.a _ _] ⟨o_a z2,bK,o_a z3,bK,o_a z4,bK,o_a z5,trivial⟩ ?_
  refine gg [.tt,.tt,.b (0==0) true,.tt,.tt,.b (!false) true,.tt,.a _ _,.tt,.tt,.b (-1== -1) true,.tt,.a _ _,.tt,.tt,.b (-1== -1) true] ⟨bK,bK,o_a z6,bK,o_a z7,bK,trivial⟩ ?_
  refine gg [.tt,.a _ _,.tt,.tt,.b (-1== -1) true,.tt,.a _ _,.tt,.tt,.b (0==0) true,.tt,.a _ _,.tt,.tt,.b (0==0) true,.tt] ⟨o_a z8,bK,o_a z9,bK,o_a z10,bK,trivial⟩ ?_
  refine gg [.a _ _,.tt,.l 0,.tt,.tt,.b (0==0) true,.tt,.a _ _,.tt,.tt,.tt,.tt,.tt,.a _ _,.tt,.tt] ⟨o_a z11,bK,o_a z12,o_a z13,trivial⟩ ?_
  refine gg [.b (!false) true,.tt,.a _ _,.tt,.tt] ⟨bK,o_a z14,trivial⟩ ?_
  exact ge
 ·refine qk ?_
  refine gg [.a _ _,.a _ _,.a _ _,.a _ _,.b (!true) false,.ff,.ff,.b (0 !=0) false,.ff,.ff,.ff,.ff,.ff,.b (!true) false,.ff,.ff] ⟨o_a hP,o_a hN,o_a hZ,o_a hA,bK,bK,bK,trivial⟩ ?_
  refine gg [.b (10 !=10) false,.a _ _,.i zf n (zp zf n),.w ((100:Int)≠(0:Int)),.t (T.int zf (zg (zp zf n) 100)) (T.int zf x),.i zd x x,.i zd (1+x) (1+x),.w (0≤(0:Int)),.l 0,.g L 0 (zt s),.a _ _,.a _ _,.i zf what (zp zf what),.w ((8:Int)≠(0:Int)),.t (T.int zf (zg (zp zf what) 8)) (T.int zf 5),.b (5==0) false] ⟨bK,o_a hB,o_i rfl,o_w (by intro h;cases h),o_t (by rw [hx]),oI,oI,oW,o_g hLs (by intro h;cases h),o_a hS,o_a hAd,o_i rfl,o_w (by intro h;cases h),o_t (by rw [hy]),bK,trivial⟩ ?_
  refine gg [.b (5==1) false,.b (5==2) false,.b (5==3) false,.b (5==4) false,.b (5==5) true,.i zd (1+x-1) x,.a _ _,.a _ _,.b (1==1) true,.tt,.a _ _,.tt,.tt,.tt,.b (1+x==1+x) true,.tt] ⟨bK,bK,bK,bK,bK,oI,o_a c5,o_a z1,bK,o_a m1,t_bre rfl,trivial⟩ ?_
  refine gg [.tt,.a _ _,.tt,.tt,.b (2==2) true,.tt,.a _ _,.tt,.tt,.b (2==2) true,.tt,.a _ _,.tt,.tt,.b (2==2) true,.tt] ⟨o_a z2,bK,o_a z3,bK,o_a z4,bK,trivial⟩ ?_
  refine gg [.a _ _,.tt,.tt,.b (0==0) true,.tt,.tt,.b (!false) true,.tt,.a _ _,.tt,.tt,.b (-1== -1) true,.tt,.a _ _,.tt,.tt] ⟨o_a z5,bK,bK,o_a z6,bK,o_a z7,trivial⟩ ?_
  refine gg [.b (-1== -1) true,.tt,.a _ _,.tt,.tt,.b (-1== -1) true,.tt,.a _ _,.tt,.tt,.b (0==0) true,.tt,.a _ _,.tt,.tt,.b (0==0) true] ⟨bK,o_a z8,bK,o_a z9,bK,o_a z10,bK,trivial⟩ ?_
  refine gg [.tt,.a _ _,.tt,.l 0,.tt,.tt,.b (0==0) true,.tt,.a _ _,.tt,.tt,.tt,.tt,.tt,.a _ _,.tt] ⟨o_a z11,bK,o_a z12,o_a z13,trivial⟩ ?_
  refine gg [.tt,.b (!false) true,.tt,.a _ _,.tt,.tt] ⟨bK,o_a z14,trivial⟩ ?_
  exact ge
 ·refine qk ?_
  refine gg [.a _ _,.a _ _,.a _ _,.a _ _,.b (!true) false,.ff,.ff,.b (0 !=0) false,.ff,.ff,.ff,.ff,.ff,.b (!true) false,.ff,.ff] ⟨o_a hP,o_a hN,o_a hZ,o_a hA,bK,bK,bK,trivial⟩ ?_
  refine gg [.b (10 !=10) false,.a _ _,.i zf n (zp zf n),.w ((100:Int)≠(0:Int)),.t (T.int zf (zg (zp zf n) 100)) (T.int zf x),.i zd x x,.i zd (1+x) (1+x),.w (0≤(0:Int)),.l 0,.g L 0 (zt s),.a _ _,.a _ _,.i zf what (zp zf what),.w ((8:Int)≠(0:Int)),.t (T.int zf (zg (zp zf what) 8)) (T.int zf 6),.b (6==0) false] ⟨bK,o_a hB,o_i rfl,o_w (by intro h;cases h),o_t (by rw [hx]),oI,oI,oW,o_g hLs (by intro h;cases h),o_a hS,o_a hAd,o_i rfl,o_w (by intro h;cases h),o_t (by rw [hy]),bK,trivial⟩ ?_
  refine gg [.b (6==1) false,.b (6==2) false,.b (6==3) false,.b (6==4) false,.b (6==5) false,.b (6==6) true,.a _ _,.a _ _,.b (16==16) true,.tt,.a _ _,.tt,.tt,.tt,.b (1+x==1+x) true,.tt] ⟨bK,bK,bK,bK,bK,bK,o_a c6,o_a z1,bK,o_a m1,t_bre rfl,trivial⟩ ?_
  refine gg [.tt,.a _ _,.tt,.tt,.b (2==2) true,.tt,.a _ _,.tt,.tt,.b (2==2) true,.tt,.a _ _,.tt,.tt,.b (2==2) true,.tt] ⟨o_a z2,bK,o_a z3,bK,o_a z4,bK,trivial⟩ ?_
  refine gg [.a _ _,.tt,.tt,.b (0==0) true,.tt,.tt,.b (!false) true,.tt,.a _ _,.tt,.tt,.b (-1== -1) true,.tt,.a _ _,.tt,.tt] ⟨o_a z5,bK,bK,o_a z6,bK,o_a z7,trivial⟩ ?_
  refine gg [.b (-1== -1) true,.tt,.a _ _,.tt,.tt,.b (-1== -1) true,.tt,.a _ _,.tt,.tt,.b (0==0) true,.tt,.a _ _,.tt,.tt,.b (0==0) true] ⟨bK,o_a z8,bK,o_a z9,bK,o_a z10,bK,trivial⟩ ?_
  refine gg [.tt,.a _ _,.tt,.l 0,.tt,.tt,.b (0==0) true,.tt,.a _ _,.tt,.tt,.tt,.tt,.tt,.a _ _,.tt] ⟨o_a z11,bK,o_a z12,o_a z13,trivial⟩ ?_
  refine gg [.tt,.b (!false) true,.tt,.a _ _,.tt,.tt] ⟨bK,o_a z14,trivial⟩ ?_
  exact ge
 ·refine qk ?_
  refine gg [.a _ _,.a _ _,.a _ _,.a _ _,.b (!true) false,.ff,.ff,.b (0 !=0) false,.ff,.ff,.ff,.ff,.ff,.b (!true) false,.ff,.ff] ⟨o_a hP,o_a hN,o_a hZ,o_a hA,bK,bK,bK,trivial⟩ ?_
  refine gg [.b (10 !=10) false,.a _ _,.i zf n (zp zf n),.w ((100:Int)≠(0:Int)),.t (T.int zf (zg (zp zf n) 100)) (T.int zf x),.i zd x x,.i zd (1+x) (1+x),.w (0≤(0:Int)),.l 0,.g L 0 (zt s),.a _ _,.a _ _,.i zf what (zp zf what),.w ((8:Int)≠(0:Int)),.t (T.int zf (zg (zp zf what) 8)) (T.int zf 7),.b (7==0) false] ⟨bK,o_a hB,o_i rfl,o_w (by intro h;cases h),o_t (by rw [hx]),oI,oI,oW,o_g hLs (by intro h;cases h),o_a hS,o_a hAd,o_i rfl,o_w (by intro h;cases h),o_t (by rw [hy]),bK,trivial⟩ ?_
  refine gg [.b (7==1) false,.b (7==2) false,.b (7==3) false,.b (7==4) false,.b (7==5) false,.b (7==6) false,.a _ _,.ff,.a _ _,.b (0==0) true,.tt,.a _ _,.tt,.tt,.tt,.b (1+x==1+x) true] ⟨bK,bK,bK,bK,bK,bK,o_a c7,o_a z1,bK,o_a m1,t_bre rfl,trivial⟩ ?_
  refine gg [.tt,.tt,.a _ _,.tt,.tt,.b (2==2) true,.tt,.a _ _,.tt,.tt,.b (2==2) true,.tt,.a _ _,.tt,.tt,.b (2==2) true] ⟨o_a z2,bK,o_a z3,bK,o_a z4,bK,trivial⟩ ?_
  refine gg [.tt,.a _ _,.tt,.tt,.b (0==0) true,.tt,.tt,.b (!false) true,.tt,.a _ _,.tt,.tt,.b (-1== -1) true,.tt,.a _ _,.tt] ⟨o_a z5,bK,bK,o_a z6,bK,o_a z7,trivial⟩ ?_
  refine gg [.tt,.b (-1== -1) true,.tt,.a _ _,.tt,.tt,.b (-1== -1) true,.tt,.a _ _,.tt,.tt,.b (0==0) true,.tt,.a _ _,.tt,.tt] ⟨bK,o_a z8,bK,o_a z9,bK,o_a z10,trivial⟩ ?_
  refine gg [.b (0==0) true,.tt,.a _ _,.tt,.l 0,.tt,.tt,.b (0==0) true,.tt,.a _ _,.tt,.tt,.tt,.tt,.tt,.a _ _] ⟨bK,o_a z11,bK,o_a z12,o_a z13,trivial⟩ ?_
  refine gg [.tt,.tt,.b (!false) true,.tt,.a _ _,.tt,.tt] ⟨bK,o_a z14,trivial⟩ ?_
  exact ge
end Go.Eva.S8
namespace Go.Eva
open Go.RowKit Go.Maps Go.Sort Go.Shelf Go.Proofs
theorem Adh (n:Int): ∀l:List Int,(insI n l).Perm (n::l)
 | []=> .refl _
 |m::r=>by
  unfold insI
  split
  ·exact .refl _
  ·exact ((Adh n r).cons m).trans (.swap _ _ _)
theorem Acy: ∀l:List Int,(sortI l).Perm l
 | []=> .refl _
 |n::r=>(Adh n _).trans ((Acy r).cons n)
theorem Adl (n:Int): ∀ {l:List Int},l.Pairwise (· ≤ ·)→(insI n l).Pairwise (· ≤ ·)
 | [],_=>by simp [insI]
 |m::r,h=>by
  unfold insI
  have h':=List.pairwise_cons.1 h
  split
  ·rename_i hd
   have hd:=of_decide_eq_true hd
   exact List.pairwise_cons.2 ⟨fun x hx=>by
    rcases List.mem_cons.1 hx with rfl|hx
    ·exact hd
    ·have:=h'.1 x hx;omega,h⟩
  ·rename_i hd
   have hd:=of_decide_eq_false hd
   refine List.pairwise_cons.2 ⟨fun x hx=> ?_,Adl n h'.2⟩
   rcases List.mem_cons.1 ((Adh n r).mem_iff.1 hx) with rfl|hx
   ·omega
   ·exact h'.1 x hx
theorem AcB: ∀l:List Int,(sortI l).Pairwise (· ≤ ·)
 | []=> .nil
 |n::r=>Adl n (AcB r)
theorem Aiz {l m:List Int} (h:l.Perm m) (hs:m.Pairwise (· ≤ ·)):sortI l=m:=
 List.Perm.eq_of_pairwise (le:=fun a b:Int=>a≤b) (fun a b _ _ h1 h2=>by omega) (AcB l) hs ((Acy l).trans h)
theorem Afd {l m:List Int} (h:l.Perm m):l.mergeSort (fun x y=>decide (x≤y))=sortI m:=by
 refine (Aiz ((List.mergeSort_perm l _).trans h).symm ?_).symm
 have tr: ∀a b c:Int,decide (a≤b)=true→decide (b≤c)=true→decide (a≤c)=true:=fun a b c h1 h2=>by simp only [decide_eq_true_eq] at*;omega
 have to: ∀a b:Int,(decide (a≤b)||decide (b≤a))=true:=fun a b=>by simp only [Bool.or_eq_true,decide_eq_true_eq];omega
 exact (List.pairwise_mergeSort tr to l).imp fun h=>by simpa using h
theorem Agj {n:Int}: ∀ {l:List Int},newI n l=true→n∉l
 | [],_=>by simp
 |m::r,h=>by
  unfold newI at h
  split at h
  ·contradiction
  ·rename_i hn
   simp only [List.mem_cons,not_or]
   exact ⟨by simpa using hn,Agj h⟩
theorem AcZ: ∀ {l:List Int},goodI l=true→l.Nodup∧ ∀n∈l,-9223372036854775808≤n∧n≤9223372036854775807
 | [],_=>⟨.nil,by simp⟩
 |n::r,h=>by
  simp only [goodI,Bool.and_eq_true,decide_eq_true_eq] at h
  obtain ⟨⟨⟨h1,h2⟩,h3⟩,h4⟩:=h
  obtain ⟨h5,h6⟩:=AcZ h4
  refine ⟨List.nodup_cons.2 ⟨Agj h3,h5⟩,fun x hx=> ?_⟩
  rcases List.mem_cons.1 hx with rfl|hx
  ·exact ⟨h1,h2⟩
  ·exact h6 x hx
theorem Ahf {P:Program} {cx:Cx} {ρ ρ' ρ'':Ren} (K:SlLaysZI.n10 P ρ) (L:SlLaysZI.n6 P ρ') (Y:SlLaysM.n5 P ρ'') (h5:ρ''.f 5=ρ'.f 9) {f g:Nat} (hf:ρ'.f 6=f) (hg:ρ.f 10=g):ExOK P cx f (.keys g):=by
 subst hf hg
 refine ⟨L.f6.enters rfl,fun w Bm b es clock zs hcell hb he hsz hkey hgood hmax=> ?_⟩
 obtain ⟨hnd,hrg⟩:=AcZ hgood
 let R:Value→Option (DataW Unit×List MemPlace):=fun _=>some (.nil,[])
 have hrd: ∀x∈es.toList,∃z∈zs,x.key= .int .i64 z∧WideElems.rd P (ρ.t 26) R x=some (.int .i64 z,.nil):=by
  intro x hx
  obtain ⟨i,hi,rfl⟩:=List.mem_iff_getElem.1 hx
  have hi':i<es.size:=by simpa using hi
  have hx:es[i]?=some es.toList[i]:=by rw [Array.getElem?_eq_getElem hi'];simp
  have hz:zs[i]?=some (zs[i]'(by omega)):=List.getElem?_eq_getElem _
  have hk:=hkey i _ _ hz hx
  have hm:zs[i]'(by omega)∈zs:=List.getElem_mem _
  refine ⟨_,hm,hk,?_⟩
  have:=hrg _ hm
  have hw:(Lit.int .i64 (zs[i]'(by omega))).wf=true:=by simp [Lit.wf,IntKind.min,IntKind.max,IntKind.bits,IntKind.signed];omega
  unfold WideElems.rd keyOf mapKey
  rw [K.t26,hk]
  simp [hw,R]
 have hkeys:es.toList.map (fun x=>x.key)=zs.map (.int .i64):=by
  refine List.ext_getElem? fun i=> ?_
  simp only [List.getElem?_map,Array.getElem?_toList]
  by_cases hi:i<es.size
  ·have hz:zs[i]?=some (zs[i]'(by omega)):=List.getElem?_eq_getElem _
   have hx:es[i]?=some es[i]:=Array.getElem?_eq_getElem hi
   rw [hz,hx]
   simp [hkey i _ _ hz hx]
  ·rw [Array.getElem?_eq_none (by omega),List.getElem?_eq_none (by omega)]
   rfl
 have hfit:WideElems.Fit P (ρ.t 26) R es clock:=by
  refine ⟨by unfold maxLen;omega,⟨fun x hx=> ?_,?_,?_⟩,fun x hx=> ?_⟩
  ·obtain ⟨i,hi,rfl⟩:=List.mem_iff_getElem.1 hx
   exact he.1 i _ (by rw [←Array.getElem?_toList];exact List.getElem?_eq_getElem hi)
  ·refine List.pairwise_iff_getElem.2 fun i j hi hj hij e=> ?_
   simp only [List.getElem_map] at e
   simp only [List.length_map] at hi hj
   have:=he.2 i j _ _ (by rw [←Array.getElem?_toList];exact List.getElem?_eq_getElem hi) (by rw [←Array.getElem?_toList];exact List.getElem?_eq_getElem hj) e
   omega
  ·rw [hkeys]
   exact List.pairwise_map.2 (hnd.imp fun h e=>h (by simpa using e))
  ·obtain ⟨z,_,_,h⟩:=hrd x hx
   exact ⟨_,h⟩
 have hown:w.ownsMap P (ρ.t 26) R b es.size (.map ((es.toList.map (WideElems.rg P (ρ.t 26) R)).foldr DataW.insert [])):=⟨es,clock,hb,hfit,Nat.le_refl _,rfl⟩
 have hint:(intKeys (.map ((es.toList.map (WideElems.rg P (ρ.t 26) R)).foldr DataW.insert []))).Perm zs:=by
  refine ((WideShapes.sorted_perm _).map _).trans ?_
  rw [List.map_map]
  have:es.toList.map ((fun p:Lit×DataW Unit=>intOf p.1)∘WideElems.rg P (ρ.t 26) R)=zs:=by
   have h2:es.toList.map ((fun p:Lit×DataW Unit=>intOf p.1)∘WideElems.rg P (ρ.t 26) R)=(es.toList.map (fun x=>x.key)).map fun v=>match v with| .int _ n=>n|_=>0:=by
    rw [List.map_map]
    refine List.map_congr_left fun x hx=> ?_
    obtain ⟨z,_,h1,h2⟩:=hrd x hx
    simp [WideElems.rg,h2,h1,intOf]
   rw [h2,hkeys,List.map_map]
   simp [Function.comp_def]
  rw [this]
 have hsize:Maps.size (.map ((es.toList.map (WideElems.rg P (ρ.t 26) R)).foldr DataW.insert []))=es.size:=by
  simp only [Maps.size]
  rw [length_sorted]
  simp
 refine (callsIn_wide (n:=6)).1 ?_
 have hBm:Bm<w.heap.size:=by
  refine Nat.lt_of_not_le fun h=> ?_
  simp [World.cell?,Array.getElem?_eq_none h] at hcell
 have hseq:=AnyZI.keys_gives K Fence.wide 3 trivial rfl (by omega) Bm b es.size _ w hBm hcell hown
 have hsort:AnyZI.SortsIn P ρ' Fence.wide 5:=⟨fun blk off cap ss W hH hblk hs=>callsIn_wide.2 (by rw [←h5];exact AnyM.slices_Sort_int Y blk off cap ss W hH hblk hs),fun p cap W=>callsIn_wide.2 (by rw [←h5];exact AnyM.slices_Sort_int_none Y p cap W)⟩
 have e9:Enters P (ρ'.f 9):=by rw [←h5];exact Y.f5.enters rfl
 have cS:=AnyZI.sorted_in L Fence.wide 6 trivial trivial trivial trivial rfl (by omega) hsort e9 (ρ.f 10) #[.pointer (some ⟨Bm,0,none⟩)] trivial (K.f10.enters rfl) _ _ (by rw [hsize];unfold maxLen;omega) (by rw [hsize];omega) w hseq
 refine cS.mono ?_
 rintro e w' ⟨v,ss,rfl,hS,hrow,_,hbl⟩
 refine ⟨v,rfl,?_,hbl⟩
 rw [Afd (hS.trans hint)] at hrow
 have hlen:(sortI zs).length=ss.length:=(Acy zs).length_eq.trans (hS.trans hint).length_eq.symm
 obtain ⟨hl,hrow⟩:=hrow
 rcases hrow with ⟨rfl,h0⟩|⟨gb,cap,cur,rfl,h1,h2,h3,h4,h6,h7⟩
 ·rw [List.eq_nil_of_length_eq_zero (show (sortI zs).length=0 by omega)]
  exact .slN _ _ _
 ·by_cases hn:sortI zs= []
  ·rw [hn] at hlen⊢
   rw [←hlen]
   exact .slN _ _ _
  rw [←hlen,show (sortI zs).length=((sortI zs).map (T.int .i64)).length by simp]
  refine .slC 1 _ gb 0 cap (fun i _=> .int .i64 ((sortI zs).getD i 0)) (by simpa using hn) (by simp;omega) ⟨h1,(Array.getElem?_eq_some_iff.1 h2).1⟩ ?_ ?_ ?_
  ·intro i j hi hj
   simp only [List.length_map] at hi
   refine ⟨?_,rfl⟩
   obtain rfl:j=0:=by omega
   have hc:cur[i]?=some (.int .i64 ((sortI zs).getD i 0)):=by
    have:=congrArg (·[i]?) h7
    simp only [List.getElem?_map] at this
    rw [List.getElem?_take_of_lt (by omega),Array.getElem?_toList] at this
    rw [this,List.getElem?_eq_getElem hi]
    simp [List.getD,List.getElem?_eq_getElem hi]
   simp [World.cell?,h2,hc]
  ·intro i x hx _
   simp only [List.getElem?_map] at hx
   obtain ⟨z,_,rfl⟩:=Option.map_eq_some_iff.1 hx
   rfl
  ·intro i j x t hx _ ht
   simp only [List.getElem?_map] at hx
   obtain ⟨z,hz,rfl⟩:=Option.map_eq_some_iff.1 hx
   match j,ht with
   |0,ht=>
    simp [T.cells] at ht
    subst ht
    simp only [List.getD,hz]
    exact .int _ _
   |j+1,ht=>simp [T.cells] at ht
end Go.Eva
namespace Go.Eva.S8
open Go.Proofs Go.Shelf
def keysRen:Ren:=⟨fun|7=>78|10=>157|n=>n,fun|23=>103|26=>3|3=>112|28=>138|0=>0|27=>137|33=>111|4=>4|n=>n,fun n=>n⟩
theorem keysLay:SlLaysZI.n10 Tryz.prog keysRen where
 mixed:=by kernel_rfl
 f10:=⟨Tryz.f157.name,of_decide_eq_true (by kernel_rfl),Tryz.func157.trans (congrArg some (by kernel_rfl))⟩
 t0:=Tryz.underlying0
 a0:=Tryz.isAgg0
 z0:=Tryz.sizeOf0
 v0:=Tryz.zeroValue0
 t4:=Tryz.underlying4
 a4:=Tryz.isAgg4
 z4:=Tryz.sizeOf4
 v4:=Tryz.zeroValue4
 t23:=Tryz.underlying103
 a23:=Tryz.isAgg103
 z23:=Tryz.sizeOf103
 v23:=Tryz.zeroValue103
 t26:=Tryz.underlying3
 a26:=Tryz.isAgg3
 z26:=Tryz.sizeOf3
 v26:=Tryz.zeroValue3
 t33:=Tryz.underlying111
 a33:=Tryz.isAgg111
 z33:=Tryz.sizeOf111
 v33:=Tryz.zeroValue111
def sortedRen:Ren:=⟨fun|6=>77|8=>155|9=>156|11=>220|13=>222|12=>221|23=>274|24=>275|14=>265|15=>266|16=>267|17=>268|18=>269|19=>270|20=>271|21=>272|22=>273|25=>290|26=>291|27=>292|28=>293|29=>294|30=>276|31=>301|n=>n,fun|26=>3|28=>138|24=>66|0=>0|3=>3|37=>46|48=>308|50=>24|4=>4|40=>301|39=>300|45=>305|5=>5|9=>9|51=>315|55=>319|57=>324|58=>109|33=>111|n=>n,fun n=>n⟩
theorem sortedLay:SlLaysZI.n6 Tryz.prog sortedRen where
 mixed:=by kernel_rfl
 f6:=⟨Tryz.f77.name,of_decide_eq_true (by kernel_rfl),Tryz.func77.trans (congrArg some (by kernel_rfl))⟩
 f8:=⟨Tryz.f155.name,of_decide_eq_true (by kernel_rfl),Tryz.func155.trans (congrArg some (by kernel_rfl))⟩
 f11:=⟨Tryz.f220.name,of_decide_eq_true (by kernel_rfl),Tryz.func220.trans (congrArg some (by kernel_rfl))⟩
 t0:=Tryz.underlying0
 a0:=Tryz.isAgg0
 z0:=Tryz.sizeOf0
 v0:=Tryz.zeroValue0
 t24:=Tryz.underlying66
 a24:=Tryz.isAgg66
 z24:=Tryz.sizeOf66
 v24:=Tryz.zeroValue66
 t26:=Tryz.underlying3
 a26:=Tryz.isAgg3
 z26:=Tryz.sizeOf3
 v26:=Tryz.zeroValue3
 t28:=Tryz.underlying138
 a28:=Tryz.isAgg138
 z28:=Tryz.sizeOf138
 v28:=Tryz.zeroValue138
 i26:=by kernel_rfl
def sortRen:Ren:=⟨fun|5=>156|8=>222|7=>221|19=>274|20=>275|10=>265|11=>266|12=>267|13=>268|14=>269|15=>270|16=>271|17=>272|18=>273|30=>290|31=>291|32=>292|33=>293|34=>294|35=>276|40=>301|n=>n,fun|23=>66|25=>3|3=>3|32=>46|22=>66|0=>0|44=>308|46=>24|4=>4|36=>301|35=>300|41=>305|5=>5|9=>9|53=>315|57=>319|63=>324|64=>109|n=>n,fun n=>n⟩
theorem sortLay:SlLaysM.n5 Tryz.prog sortRen where
 mixed:=by kernel_rfl
 f5:=⟨Tryz.f156.name,of_decide_eq_true (by kernel_rfl),Tryz.func156.trans (congrArg some (by kernel_rfl))⟩
 f7:=⟨Tryz.f221.name,of_decide_eq_true (by kernel_rfl),Tryz.func221.trans (congrArg some (by kernel_rfl))⟩
 f8:=Tryz.func222.trans (congrArg some (by kernel_rfl))
 f10:=⟨Tryz.f265.name,of_decide_eq_true (by kernel_rfl),Tryz.func265.trans (congrArg some (by kernel_rfl))⟩
 f11:=⟨Tryz.f266.name,of_decide_eq_true (by kernel_rfl),Tryz.func266.trans (congrArg some (by kernel_rfl))⟩
 f12:=⟨Tryz.f267.name,of_decide_eq_true (by kernel_rfl),Tryz.func267.trans (congrArg some (by kernel_rfl))⟩
 f13:=⟨Tryz.f268.name,of_decide_eq_true (by kernel_rfl),Tryz.func268.trans (congrArg some (by kernel_rfl))⟩
 f14:=⟨Tryz.f269.name,of_decide_eq_true (by kernel_rfl),Tryz.func269.trans (congrArg some (by kernel_rfl))⟩
 f15:=⟨Tryz.f270.name,of_decide_eq_true (by kernel_rfl),Tryz.func270.trans (congrArg some (by kernel_rfl))⟩
 f16:=⟨Tryz.f271.name,of_decide_eq_true (by kernel_rfl),Tryz.func271.trans (congrArg some (by kernel_rfl))⟩
 f17:=⟨Tryz.f272.name,of_decide_eq_true (by kernel_rfl),Tryz.func272.trans (congrArg some (by kernel_rfl))⟩
 f18:=⟨Tryz.f273.name,of_decide_eq_true (by kernel_rfl),Tryz.func273.trans (congrArg some (by kernel_rfl))⟩
 f19:=Tryz.func274.trans (congrArg some (by kernel_rfl))
 f20:=Tryz.func275.trans (congrArg some (by kernel_rfl))
 f30:=⟨Tryz.f290.name,of_decide_eq_true (by kernel_rfl),Tryz.func290.trans (congrArg some (by kernel_rfl))⟩
 f31:=Tryz.func291.trans (congrArg some (by kernel_rfl))
 f32:=Tryz.func292.trans (congrArg some (by kernel_rfl))
 f33:=⟨Tryz.f293.name,of_decide_eq_true (by kernel_rfl),Tryz.func293.trans (congrArg some (by kernel_rfl))⟩
 f34:=⟨Tryz.f294.name,of_decide_eq_true (by kernel_rfl),Tryz.func294.trans (congrArg some (by kernel_rfl))⟩
 f35:=⟨Tryz.f276.name,of_decide_eq_true (by kernel_rfl),Tryz.func276.trans (congrArg some (by kernel_rfl))⟩
 f40:=⟨Tryz.f301.name,of_decide_eq_true (by kernel_rfl),Tryz.func301.trans (congrArg some (by kernel_rfl))⟩
 t0:=Tryz.underlying0
 a0:=Tryz.isAgg0
 z0:=Tryz.sizeOf0
 v0:=Tryz.zeroValue0
 t3:=Tryz.underlying3
 a3:=Tryz.isAgg3
 z3:=Tryz.sizeOf3
 v3:=Tryz.zeroValue3
 t4:=Tryz.underlying4
 a4:=Tryz.isAgg4
 z4:=Tryz.sizeOf4
 v4:=Tryz.zeroValue4
 t5:=Tryz.underlying5
 a5:=Tryz.isAgg5
 z5:=Tryz.sizeOf5
 v5:=Tryz.zeroValue5
 t9:=Tryz.underlying9
 a9:=Tryz.isAgg9
 z9:=Tryz.sizeOf9
 v9:=Tryz.zeroValue9
 t22:=Tryz.underlying66
 a22:=Tryz.isAgg66
 z22:=Tryz.sizeOf66
 v22:=Tryz.zeroValue66
 t23:=Tryz.underlying66
 a23:=Tryz.isAgg66
 z23:=Tryz.sizeOf66
 v23:=Tryz.zeroValue66
 t25:=Tryz.underlying3
 a25:=Tryz.isAgg3
 z25:=Tryz.sizeOf3
 v25:=Tryz.zeroValue3
 t32:=Tryz.underlying46
 a32:=Tryz.isAgg46
 z32:=Tryz.sizeOf46
 v32:=Tryz.zeroValue46
 t35:=Tryz.underlying300
 a35:=Tryz.isAgg300
 z35:=Tryz.sizeOf300
 v35:=Tryz.zeroValue300
 t36:=Tryz.underlying301
 a36:=Tryz.isAgg301
 z36:=Tryz.sizeOf301
 v36:=Tryz.zeroValue301
 t41:=Tryz.underlying305
 a41:=Tryz.isAgg305
 z41:=Tryz.sizeOf305
 v41:=Tryz.zeroValue305
 t44:=Tryz.underlying308
 a44:=Tryz.isAgg308
 z44:=Tryz.sizeOf308
 v44:=Tryz.zeroValue308
 t46:=Tryz.underlying24
 a46:=Tryz.isAgg24
 z46:=Tryz.sizeOf24
 v46:=Tryz.zeroValue24
 t53:=Tryz.underlying315
 a53:=Tryz.isAgg315
 z53:=Tryz.sizeOf315
 v53:=Tryz.zeroValue315
 t57:=Tryz.underlying319
 a57:=Tryz.isAgg319
 z57:=Tryz.sizeOf319
 v57:=Tryz.zeroValue319
 t63:=Tryz.underlying324
 a63:=Tryz.isAgg324
 z63:=Tryz.sizeOf324
 v63:=Tryz.zeroValue324
 t64:=Tryz.underlying109
 a64:=Tryz.isAgg109
 z64:=Tryz.sizeOf109
 v64:=Tryz.zeroValue109
theorem keysOK:ExOK Tryz.prog cx 77 (.keys 157):=Ahf keysLay sortedLay sortLay rfl rfl rfl
end Go.Eva.S8
namespace Go.Eva.S8
open Go.Proofs
theorem cxTy:CxTy Tryz.prog cx:=AiS (by decide+kernel) (by decide+kernel) (⟨⟨Tryz.f295,by kernel_rfl,by decide+kernel,by kernel_rfl,by kernel_rfl,by kernel_rfl,by kernel_rfl,79,by kernel_rfl⟩,keysOK,trivial⟩)
theorem ok9:FnOK Tryz.prog cx 9 fi9 Tryz.f9:=mkOk
theorem ok11:FnOK Tryz.prog cx 11 fi11 Tryz.f11:=mkOk
theorem ok12:FnOK Tryz.prog cx 12 fi12 Tryz.f12:=mkOk
theorem ok14:FnOK Tryz.prog cx 14 fi14 Tryz.f14:=mkOk
theorem ok15:FnOK Tryz.prog cx 15 fi15 Tryz.f15:=mkOk
theorem ok16:FnOK Tryz.prog cx 16 fi16 Tryz.f16:=mkOk
theorem ok17:FnOK Tryz.prog cx 17 fi17 Tryz.f17:=mkOk
theorem ok19:FnOK Tryz.prog cx 19 fi19 Tryz.f19:=mkOk
theorem ok20:FnOK Tryz.prog cx 20 fi20 Tryz.f20:=mkOk
theorem ok21:FnOK Tryz.prog cx 21 fi21 Tryz.f21:=mkOk
theorem ok24:FnOK Tryz.prog cx 24 fi24 Tryz.f24:=mkOk
theorem ok27:FnOK Tryz.prog cx 27 fi27 Tryz.f27:=mkOk
theorem ok29:FnOK Tryz.prog cx 29 fi29 Tryz.f29:=mkOk
theorem ok30:FnOK Tryz.prog cx 30 fi30 Tryz.f30:=mkOk
theorem ok31:FnOK Tryz.prog cx 31 fi31 Tryz.f31:=mkOk
theorem ok33:FnOK Tryz.prog cx 33 fi33 Tryz.f33:=mkOk
theorem ok35:FnOK Tryz.prog cx 35 fi35 Tryz.f35:=mkOk
theorem ok36:FnOK Tryz.prog cx 36 fi36 Tryz.f36:=mkOk
theorem ok37:FnOK Tryz.prog cx 37 fi37 Tryz.f37:=mkOk
theorem ok49:FnOK Tryz.prog cx 49 fi49 Tryz.f49:=mkOk
theorem ok50:FnOK Tryz.prog cx 50 fi50 Tryz.f50:=mkOk
theorem ok51:FnOK Tryz.prog cx 51 fi51 Tryz.f51:=mkOk
theorem ok52:FnOK Tryz.prog cx 52 fi52 Tryz.f52:=mkOk
theorem ok54:FnOK Tryz.prog cx 54 fi54 Tryz.f54:=mkOk
theorem ok55:FnOK Tryz.prog cx 55 fi55 Tryz.f55:=mkOk
theorem ok56:FnOK Tryz.prog cx 56 fi56 Tryz.f56:=mkOk
theorem ok57:FnOK Tryz.prog cx 57 fi57 Tryz.f57:=mkOk
theorem ok58:FnOK Tryz.prog cx 58 fi58 Tryz.f58:=mkOk
theorem ok59:FnOK Tryz.prog cx 59 fi59 Tryz.f59:=mkOk
theorem ok60:FnOK Tryz.prog cx 60 fi60 Tryz.f60:=mkOk
theorem ok61:FnOK Tryz.prog cx 61 fi61 Tryz.f61:=mkOk
theorem ok62:FnOK Tryz.prog cx 62 fi62 Tryz.f62:=mkOk
theorem ok63:FnOK Tryz.prog cx 63 fi63 Tryz.f63:=mkOk
theorem ok64:FnOK Tryz.prog cx 64 fi64 Tryz.f64:=mkOk
theorem ok65:FnOK Tryz.prog cx 65 fi65 Tryz.f65:=mkOk
theorem ok67:FnOK Tryz.prog cx 67 fi67 Tryz.f67:=mkOk
theorem ok69:FnOK Tryz.prog cx 69 fi69 Tryz.f69:=mkOk
theorem ok71:FnOK Tryz.prog cx 71 fi71 Tryz.f71:=mkOk
theorem ok72:FnOK Tryz.prog cx 72 fi72 Tryz.f72:=mkOk
theorem ok73:FnOK Tryz.prog cx 73 fi73 Tryz.f73:=mkOk
theorem ok74:FnOK Tryz.prog cx 74 fi74 Tryz.f74:=mkOk
theorem ok78:FnOK Tryz.prog cx 78 fi78 Tryz.f78:=mkOk
theorem ok80:FnOK Tryz.prog cx 80 fi80 Tryz.f80:=mkOk
theorem ok81:FnOK Tryz.prog cx 81 fi81 Tryz.f81:=mkOk
theorem ok82:FnOK Tryz.prog cx 82 fi82 Tryz.f82:=mkOk
theorem ok83:FnOK Tryz.prog cx 83 fi83 Tryz.f83:=mkOk
theorem ok84:FnOK Tryz.prog cx 84 fi84 Tryz.f84:=mkOk
theorem ok85:FnOK Tryz.prog cx 85 fi85 Tryz.f85:=mkOk
theorem ok90:FnOK Tryz.prog cx 90 fi90 Tryz.f90:=mkOk
theorem ok111:FnOK Tryz.prog cx 111 fi111 Tryz.f111:=mkOk
theorem ok112:FnOK Tryz.prog cx 112 fi112 Tryz.f112:=mkOk
theorem ok113:FnOK Tryz.prog cx 113 fi113 Tryz.f113:=mkOk
theorem ok114:FnOK Tryz.prog cx 114 fi114 Tryz.f114:=mkOk
theorem ok115:FnOK Tryz.prog cx 115 fi115 Tryz.f115:=mkOk
theorem ok116:FnOK Tryz.prog cx 116 fi116 Tryz.f116:=mkOk
theorem ok117:FnOK Tryz.prog cx 117 fi117 Tryz.f117:=mkOk
theorem ok118:FnOK Tryz.prog cx 118 fi118 Tryz.f118:=mkOk
theorem ok119:FnOK Tryz.prog cx 119 fi119 Tryz.f119:=mkOk
theorem ok120:FnOK Tryz.prog cx 120 fi120 Tryz.f120:=mkOk
theorem ok121:FnOK Tryz.prog cx 121 fi121 Tryz.f121:=mkOk
theorem ok122:FnOK Tryz.prog cx 122 fi122 Tryz.f122:=mkOk
theorem ok123:FnOK Tryz.prog cx 123 fi123 Tryz.f123:=mkOk
theorem ok124:FnOK Tryz.prog cx 124 fi124 Tryz.f124:=mkOk
theorem ok125:FnOK Tryz.prog cx 125 fi125 Tryz.f125:=mkOk
theorem ok126:FnOK Tryz.prog cx 126 fi126 Tryz.f126:=mkOk
theorem ok127:FnOK Tryz.prog cx 127 fi127 Tryz.f127:=mkOk
theorem ok148:FnOK Tryz.prog cx 148 fi148 Tryz.f148:=mkOk
theorem ok149:FnOK Tryz.prog cx 149 fi149 Tryz.f149:=mkOk
theorem ok150:FnOK Tryz.prog cx 150 fi150 Tryz.f150:=mkOk
theorem ok151:FnOK Tryz.prog cx 151 fi151 Tryz.f151:=mkOk
theorem ok152:FnOK Tryz.prog cx 152 fi152 Tryz.f152:=mkOk
theorem ok153:FnOK Tryz.prog cx 153 fi153 Tryz.f153:=mkOk
theorem ok154:FnOK Tryz.prog cx 154 fi154 Tryz.f154:=mkOk
theorem ok157:FnOK Tryz.prog cx 157 fi157 Tryz.f157:=mkOk
theorem ok160:FnOK Tryz.prog cx 160 fi160 Tryz.f160:=mkOk
theorem ok161:FnOK Tryz.prog cx 161 fi161 Tryz.f161:=mkOk
theorem ok162:FnOK Tryz.prog cx 162 fi162 Tryz.f162:=mkOk
theorem ok179:FnOK Tryz.prog cx 179 fi179 Tryz.f179:=mkOk
theorem ok180:FnOK Tryz.prog cx 180 fi180 Tryz.f180:=mkOk
theorem ok181:FnOK Tryz.prog cx 181 fi181 Tryz.f181:=mkOk
theorem ok182:FnOK Tryz.prog cx 182 fi182 Tryz.f182:=mkOk
theorem ok183:FnOK Tryz.prog cx 183 fi183 Tryz.f183:=mkOk
theorem ok184:FnOK Tryz.prog cx 184 fi184 Tryz.f184:=mkOk
theorem ok185:FnOK Tryz.prog cx 185 fi185 Tryz.f185:=mkOk
theorem ok186:FnOK Tryz.prog cx 186 fi186 Tryz.f186:=mkOk
theorem ok187:FnOK Tryz.prog cx 187 fi187 Tryz.f187:=mkOk
theorem ok188:FnOK Tryz.prog cx 188 fi188 Tryz.f188:=mkOk
theorem ok189:FnOK Tryz.prog cx 189 fi189 Tryz.f189:=mkOk
theorem ok190:FnOK Tryz.prog cx 190 fi190 Tryz.f190:=mkOk
theorem ok191:FnOK Tryz.prog cx 191 fi191 Tryz.f191:=mkOk
theorem ok192:FnOK Tryz.prog cx 192 fi192 Tryz.f192:=mkOk
theorem ok193:FnOK Tryz.prog cx 193 fi193 Tryz.f193:=mkOk
theorem ok194:FnOK Tryz.prog cx 194 fi194 Tryz.f194:=mkOk
theorem ok195:FnOK Tryz.prog cx 195 fi195 Tryz.f195:=mkOk
theorem ok196:FnOK Tryz.prog cx 196 fi196 Tryz.f196:=mkOk
theorem ok197:FnOK Tryz.prog cx 197 fi197 Tryz.f197:=mkOk
theorem ok198:FnOK Tryz.prog cx 198 fi198 Tryz.f198:=mkOk
theorem ok199:FnOK Tryz.prog cx 199 fi199 Tryz.f199:=mkOk
theorem ok200:FnOK Tryz.prog cx 200 fi200 Tryz.f200:=mkOk
theorem ok201:FnOK Tryz.prog cx 201 fi201 Tryz.f201:=mkOk
theorem ok202:FnOK Tryz.prog cx 202 fi202 Tryz.f202:=mkOk
theorem ok203:FnOK Tryz.prog cx 203 fi203 Tryz.f203:=mkOk
theorem ok204:FnOK Tryz.prog cx 204 fi204 Tryz.f204:=mkOk
theorem ok205:FnOK Tryz.prog cx 205 fi205 Tryz.f205:=mkOk
theorem ok206:FnOK Tryz.prog cx 206 fi206 Tryz.f206:=mkOk
theorem ok214:FnOK Tryz.prog cx 214 fi214 Tryz.f214:=mkOk
theorem ok215:FnOK Tryz.prog cx 215 fi215 Tryz.f215:=mkOk
theorem ok216:FnOK Tryz.prog cx 216 fi216 Tryz.f216:=mkOk
theorem ok217:FnOK Tryz.prog cx 217 fi217 Tryz.f217:=mkOk
theorem ok218:FnOK Tryz.prog cx 218 fi218 Tryz.f218:=mkOk
theorem ok219:FnOK Tryz.prog cx 219 fi219 Tryz.f219:=mkOk
theorem ok229:FnOK Tryz.prog cx 229 fi229 Tryz.f229:=mkOk
theorem ok230:FnOK Tryz.prog cx 230 fi230 Tryz.f230:=mkOk
theorem ok231:FnOK Tryz.prog cx 231 fi231 Tryz.f231:=mkOk
theorem ok232:FnOK Tryz.prog cx 232 fi232 Tryz.f232:=mkOk
theorem ok233:FnOK Tryz.prog cx 233 fi233 Tryz.f233:=mkOk
theorem ok234:FnOK Tryz.prog cx 234 fi234 Tryz.f234:=mkOk
theorem ok235:FnOK Tryz.prog cx 235 fi235 Tryz.f235:=mkOk
theorem ok236:FnOK Tryz.prog cx 236 fi236 Tryz.f236:=mkOk
theorem ok237:FnOK Tryz.prog cx 237 fi237 Tryz.f237:=mkOk
theorem ok238:FnOK Tryz.prog cx 238 fi238 Tryz.f238:=mkOk
theorem ok239:FnOK Tryz.prog cx 239 fi239 Tryz.f239:=mkOk
theorem ok240:FnOK Tryz.prog cx 240 fi240 Tryz.f240:=mkOk
theorem ok241:FnOK Tryz.prog cx 241 fi241 Tryz.f241:=mkOk
theorem ok242:FnOK Tryz.prog cx 242 fi242 Tryz.f242:=mkOk
theorem ok243:FnOK Tryz.prog cx 243 fi243 Tryz.f243:=mkOk
theorem ok244:FnOK Tryz.prog cx 244 fi244 Tryz.f244:=mkOk
theorem ok245:FnOK Tryz.prog cx 245 fi245 Tryz.f245:=mkOk
theorem ok246:FnOK Tryz.prog cx 246 fi246 Tryz.f246:=mkOk
theorem ok247:FnOK Tryz.prog cx 247 fi247 Tryz.f247:=mkOk
theorem ok248:FnOK Tryz.prog cx 248 fi248 Tryz.f248:=mkOk
theorem ok249:FnOK Tryz.prog cx 249 fi249 Tryz.f249:=mkOk
theorem ok250:FnOK Tryz.prog cx 250 fi250 Tryz.f250:=mkOk
theorem ok251:FnOK Tryz.prog cx 251 fi251 Tryz.f251:=mkOk
theorem ok252:FnOK Tryz.prog cx 252 fi252 Tryz.f252:=mkOk
theorem ok253:FnOK Tryz.prog cx 253 fi253 Tryz.f253:=mkOk
theorem ok254:FnOK Tryz.prog cx 254 fi254 Tryz.f254:=mkOk
theorem ok255:FnOK Tryz.prog cx 255 fi255 Tryz.f255:=mkOk
theorem ok256:FnOK Tryz.prog cx 256 fi256 Tryz.f256:=mkOk
theorem ok257:FnOK Tryz.prog cx 257 fi257 Tryz.f257:=mkOk
theorem ok258:FnOK Tryz.prog cx 258 fi258 Tryz.f258:=mkOk
theorem ok259:FnOK Tryz.prog cx 259 fi259 Tryz.f259:=mkOk
theorem ok260:FnOK Tryz.prog cx 260 fi260 Tryz.f260:=mkOk
theorem ok276:FnOK Tryz.prog cx 276 fi276 Tryz.f276:=mkOk
theorem ok277:FnOK Tryz.prog cx 277 fi277 Tryz.f277:=mkOk
theorem ok278:FnOK Tryz.prog cx 278 fi278 Tryz.f278:=mkOk
theorem ok279:FnOK Tryz.prog cx 279 fi279 Tryz.f279:=mkOk
theorem ok280:FnOK Tryz.prog cx 280 fi280 Tryz.f280:=mkOk
theorem ok281:FnOK Tryz.prog cx 281 fi281 Tryz.f281:=mkOk
theorem ok282:FnOK Tryz.prog cx 282 fi282 Tryz.f282:=mkOk
theorem ok283:FnOK Tryz.prog cx 283 fi283 Tryz.f283:=mkOk
theorem ok284:FnOK Tryz.prog cx 284 fi284 Tryz.f284:=mkOk
theorem ok285:FnOK Tryz.prog cx 285 fi285 Tryz.f285:=mkOk
theorem ok286:FnOK Tryz.prog cx 286 fi286 Tryz.f286:=mkOk
theorem ok287:FnOK Tryz.prog cx 287 fi287 Tryz.f287:=mkOk
theorem ok288:FnOK Tryz.prog cx 288 fi288 Tryz.f288:=mkOk
theorem ok289:FnOK Tryz.prog cx 289 fi289 Tryz.f289:=mkOk
theorem ok296:FnOK Tryz.prog cx 296 fi296 Tryz.f296:=mkOk
theorem ok297:FnOK Tryz.prog cx 297 fi297 Tryz.f297:=mkOk
theorem ok298:FnOK Tryz.prog cx 298 fi298 Tryz.f298:=mkOk
theorem ok299:FnOK Tryz.prog cx 299 fi299 Tryz.f299:=mkOk
theorem ok300:FnOK Tryz.prog cx 300 fi300 Tryz.f300:=mkOk
theorem ok302:FnOK Tryz.prog cx 302 fi302 Tryz.f302:=mkOk
theorem ok303:FnOK Tryz.prog cx 303 fi303 Tryz.f303:=mkOk
theorem ok304:FnOK Tryz.prog cx 304 fi304 Tryz.f304:=mkOk
theorem ok305:FnOK Tryz.prog cx 305 fi305 Tryz.f305:=mkOk
theorem fnsOK:FnsOK Tryz.prog cx:=AhX (⟨Aac _,⟨Aac _,⟨Aac _,⟨Aac _,⟨Aab ok15,⟨Aab ok31,⟨Aab ok63,⟨Aab ok127,⟨Aab ok255,trivial,trivial⟩,trivial⟩,⟨Aab ok191,⟨Aac _,trivial,trivial⟩,trivial⟩⟩,⟨Aac _,⟨Aac _,⟨Aab ok287,trivial,trivial⟩,trivial⟩,⟨Aac _,trivial,trivial⟩⟩⟩,⟨Aac _,⟨Aac _,⟨Aac _,⟨Aac _,trivial,trivial⟩,trivial⟩,⟨Aac _,trivial,trivial⟩⟩,⟨Aab ok111,⟨Aac _,⟨Aab ok303,trivial,trivial⟩,trivial⟩,⟨Aab ok239,trivial,trivial⟩⟩⟩⟩,⟨Aac _,⟨Aac _,⟨Aab ok71,⟨Aac _,⟨Aac _,trivial,trivial⟩,trivial⟩,⟨Aab ok199,trivial,trivial⟩⟩,⟨Aac _,⟨Aac _,⟨Aac _,trivial,trivial⟩,trivial⟩,⟨Aab ok231,trivial,trivial⟩⟩⟩,⟨Aab ok55,⟨Aac _,⟨Aab ok151,⟨Aab ok279,trivial,trivial⟩,trivial⟩,⟨Aab ok215,trivial,trivial⟩⟩,⟨Aab ok119,⟨Aab ok183,⟨Aac _,trivial,trivial⟩,trivial⟩,⟨Aab ok247,trivial,trivial⟩⟩⟩⟩⟩,⟨Aab ok11,⟨Aab ok19,⟨Aab ok35,⟨Aab ok67,⟨Aac _,⟨Aab ok259,trivial,trivial⟩,trivial⟩,⟨Aab ok195,trivial,trivial⟩⟩,⟨Aac _,⟨Aac _,⟨Aac _,trivial,trivial⟩,trivial⟩,⟨Aac _,trivial,trivial⟩⟩⟩,⟨Aab ok51,⟨Aab ok83,⟨Aac _,⟨Aac _,trivial,trivial⟩,trivial⟩,⟨Aac _,trivial,trivial⟩⟩,⟨Aab ok115,⟨Aab ok179,⟨Aac _,trivial,trivial⟩,trivial⟩,⟨Aab ok243,trivial,trivial⟩⟩⟩⟩,⟨Aab ok27,⟨Aac _,⟨Aac _,⟨Aac _,⟨Aac _,trivial,trivial⟩,trivial⟩,⟨Aab ok203,trivial,trivial⟩⟩,⟨Aac _,⟨Aac _,⟨Aab ok299,trivial,trivial⟩,trivial⟩,⟨Aab ok235,trivial,trivial⟩⟩⟩,⟨Aab ok59,⟨Aac _,⟨Aac _,⟨Aab ok283,trivial,trivial⟩,trivial⟩,⟨Aab ok219,trivial,trivial⟩⟩,⟨Aab ok123,⟨Aab ok187,⟨Aac _,trivial,trivial⟩,trivial⟩,⟨Aab ok251,trivial,trivial⟩⟩⟩⟩⟩⟩,⟨Aac _,⟨Aab ok9,⟨Aab ok17,⟨Aab ok33,⟨Aab ok65,⟨Aac _,⟨Aab ok257,trivial,trivial⟩,trivial⟩,⟨Aab ok193,⟨Aac _,trivial,trivial⟩,trivial⟩⟩,⟨Aac _,⟨Aab ok161,⟨Aab ok289,trivial,trivial⟩,trivial⟩,⟨Aac _,trivial,trivial⟩⟩⟩,⟨Aab ok49,⟨Aab ok81,⟨Aac _,⟨Aac _,trivial,trivial⟩,trivial⟩,⟨Aac _,trivial,trivial⟩⟩,⟨Aab ok113,⟨Aac _,⟨Aab ok305,trivial,trivial⟩,trivial⟩,⟨Aab ok241,trivial,trivial⟩⟩⟩⟩,⟨Aac _,⟨Aac _,⟨Aab ok73,⟨Aac _,⟨Aac _,trivial,trivial⟩,trivial⟩,⟨Aab ok201,trivial,trivial⟩⟩,⟨Aac _,⟨Aac _,⟨Aab ok297,trivial,trivial⟩,trivial⟩,⟨Aab ok233,trivial,trivial⟩⟩⟩,⟨Aab ok57,⟨Aac _,⟨Aab ok153,⟨Aab ok281,trivial,trivial⟩,trivial⟩,⟨Aab ok217,trivial,trivial⟩⟩,⟨Aab ok121,⟨Aab ok185,⟨Aac _,trivial,trivial⟩,trivial⟩,⟨Aab ok249,trivial,trivial⟩⟩⟩⟩⟩,⟨Aac _,⟨Aab ok21,⟨Aab ok37,⟨Aab ok69,⟨Aac _,⟨Aac _,trivial,trivial⟩,trivial⟩,⟨Aab ok197,trivial,trivial⟩⟩,⟨Aac _,⟨Aac _,⟨Aac _,trivial,trivial⟩,trivial⟩,⟨Aab ok229,trivial,trivial⟩⟩⟩,⟨Aac _,⟨Aab ok85,⟨Aab ok149,⟨Aab ok277,trivial,trivial⟩,trivial⟩,⟨Aac _,trivial,trivial⟩⟩,⟨Aab ok117,⟨Aab ok181,⟨Aac _,trivial,trivial⟩,trivial⟩,⟨Aab ok245,trivial,trivial⟩⟩⟩⟩,⟨Aab ok29,⟨Aac _,⟨Aac _,⟨Aac _,⟨Aac _,trivial,trivial⟩,trivial⟩,⟨Aab ok205,trivial,trivial⟩⟩,⟨Aac _,⟨Aac _,⟨Aac _,trivial,trivial⟩,trivial⟩,⟨Aab ok237,trivial,trivial⟩⟩⟩,⟨Aab ok61,⟨Aac _,⟨Aab ok157,⟨Aab ok285,trivial,trivial⟩,trivial⟩,⟨Aac _,trivial,trivial⟩⟩,⟨Aab ok125,⟨Aab ok189,⟨Aac _,trivial,trivial⟩,trivial⟩,⟨Aab ok253,trivial,trivial⟩⟩⟩⟩⟩⟩⟩,⟨Aac _,⟨Aac _,⟨Aac _,⟨Aab ok16,⟨Aac _,⟨Aab ok64,⟨Aac _,⟨Aab ok256,trivial,trivial⟩,trivial⟩,⟨Aab ok192,⟨Aac _,trivial,trivial⟩,trivial⟩⟩,⟨Aac _,⟨Aab ok160,⟨Aab ok288,trivial,trivial⟩,trivial⟩,⟨Aac _,trivial,trivial⟩⟩⟩,⟨Aac _,⟨Aab ok80,⟨Aac _,⟨Aac _,trivial,trivial⟩,trivial⟩,⟨Aac _,trivial,trivial⟩⟩,⟨Aab ok112,⟨Aac _,⟨Aab ok304,trivial,trivial⟩,trivial⟩,⟨Aab ok240,trivial,trivial⟩⟩⟩⟩,⟨Aab ok24,⟨Aac _,⟨Aab ok72,⟨Aac _,⟨Aac _,trivial,trivial⟩,trivial⟩,⟨Aab ok200,trivial,trivial⟩⟩,⟨Aac _,⟨Aac _,⟨Aab ok296,trivial,trivial⟩,trivial⟩,⟨Aab ok232,trivial,trivial⟩⟩⟩,⟨Aab ok56,⟨Aac _,⟨Aab ok152,⟨Aab ok280,trivial,trivial⟩,trivial⟩,⟨Aab ok216,trivial,trivial⟩⟩,⟨Aab ok120,⟨Aab ok184,⟨Aac _,trivial,trivial⟩,trivial⟩,⟨Aab ok248,trivial,trivial⟩⟩⟩⟩⟩,⟨Aab ok12,⟨Aab ok20,⟨Aab ok36,⟨Aac _,⟨Aac _,⟨Aab ok260,trivial,trivial⟩,trivial⟩,⟨Aab ok196,trivial,trivial⟩⟩,⟨Aac _,⟨Aac _,⟨Aac _,trivial,trivial⟩,trivial⟩,⟨Aac _,trivial,trivial⟩⟩⟩,⟨Aab ok52,⟨Aab ok84,⟨Aab ok148,⟨Aab ok276,trivial,trivial⟩,trivial⟩,⟨Aac _,trivial,trivial⟩⟩,⟨Aab ok116,⟨Aab ok180,⟨Aac _,trivial,trivial⟩,trivial⟩,⟨Aab ok244,trivial,trivial⟩⟩⟩⟩,⟨Aac _,⟨Aac _,⟨Aac _,⟨Aac _,⟨Aac _,trivial,trivial⟩,trivial⟩,⟨Aab ok204,trivial,trivial⟩⟩,⟨Aac _,⟨Aac _,⟨Aab ok300,trivial,trivial⟩,trivial⟩,⟨Aab ok236,trivial,trivial⟩⟩⟩,⟨Aab ok60,⟨Aac _,⟨Aac _,⟨Aab ok284,trivial,trivial⟩,trivial⟩,⟨Aac _,trivial,trivial⟩⟩,⟨Aab ok124,⟨Aab ok188,⟨Aac _,trivial,trivial⟩,trivial⟩,⟨Aab ok252,trivial,trivial⟩⟩⟩⟩⟩⟩,⟨Aac _,⟨Aac _,⟨Aac _,⟨Aac _,⟨Aac _,⟨Aac _,⟨Aab ok258,trivial,trivial⟩,trivial⟩,⟨Aab ok194,⟨Aac _,trivial,trivial⟩,trivial⟩⟩,⟨Aac _,⟨Aab ok162,⟨Aac _,trivial,trivial⟩,trivial⟩,⟨Aac _,trivial,trivial⟩⟩⟩,⟨Aab ok50,⟨Aab ok82,⟨Aac _,⟨Aac _,trivial,trivial⟩,trivial⟩,⟨Aac _,trivial,trivial⟩⟩,⟨Aab ok114,⟨Aac _,⟨Aac _,trivial,trivial⟩,trivial⟩,⟨Aab ok242,trivial,trivial⟩⟩⟩⟩,⟨Aac _,⟨Aac _,⟨Aab ok74,⟨Aac _,⟨Aac _,trivial,trivial⟩,trivial⟩,⟨Aab ok202,trivial,trivial⟩⟩,⟨Aac _,⟨Aac _,⟨Aab ok298,trivial,trivial⟩,trivial⟩,⟨Aab ok234,trivial,trivial⟩⟩⟩,⟨Aab ok58,⟨Aab ok90,⟨Aab ok154,⟨Aab ok282,trivial,trivial⟩,trivial⟩,⟨Aab ok218,trivial,trivial⟩⟩,⟨Aab ok122,⟨Aab ok186,⟨Aac _,trivial,trivial⟩,trivial⟩,⟨Aab ok250,trivial,trivial⟩⟩⟩⟩⟩,⟨Aab ok14,⟨Aac _,⟨Aac _,⟨Aac _,⟨Aac _,⟨Aac _,trivial,trivial⟩,trivial⟩,⟨Aab ok198,trivial,trivial⟩⟩,⟨Aac _,⟨Aac _,⟨Aac _,trivial,trivial⟩,trivial⟩,⟨Aab ok230,trivial,trivial⟩⟩⟩,⟨Aab ok54,⟨Aac _,⟨Aab ok150,⟨Aab ok278,trivial,trivial⟩,trivial⟩,⟨Aab ok214,trivial,trivial⟩⟩,⟨Aab ok118,⟨Aab ok182,⟨Aac _,trivial,trivial⟩,trivial⟩,⟨Aab ok246,trivial,trivial⟩⟩⟩⟩,⟨Aab ok30,⟨Aac _,⟨Aab ok78,⟨Aac _,⟨Aac _,trivial,trivial⟩,trivial⟩,⟨Aab ok206,trivial,trivial⟩⟩,⟨Aac _,⟨Aac _,⟨Aab ok302,trivial,trivial⟩,trivial⟩,⟨Aab ok238,trivial,trivial⟩⟩⟩,⟨Aab ok62,⟨Aac _,⟨Aac _,⟨Aab ok286,trivial,trivial⟩,trivial⟩,⟨Aac _,trivial,trivial⟩⟩,⟨Aab ok126,⟨Aab ok190,⟨Aac _,trivial,trivial⟩,trivial⟩,⟨Aab ok254,trivial,trivial⟩⟩⟩⟩⟩⟩⟩⟩)
end Go.Eva.S8
namespace Go.Eva
section
variable {cx:Cx} {t m:Nat} {ts:List T} {i:TI}
theorem Agm (hti:cx.ti.get t=some i) (hk:i.ty= .int .i64) (h:Conf cx m t ts): ∃n,ts= [ti n]∧i64 n:=by
 cases m with
 |zero=>exact h.elim
 |succ m=>
  simp only [Conf,hti,hk] at h
  obtain ⟨n,rfl,hw⟩:=h
  refine ⟨n,rfl,?_⟩
  simp [Lit.wf,IntKind.min,IntKind.max,IntKind.signed,IntKind.bits] at hw
  exact ⟨by omega,by omega⟩
theorem Ai2 (hti:cx.ti.get t=some i) (hk:i.ty= .int .u64) (h:Conf cx m t ts): ∃n,ts= [.int .u64 n]∧0≤n∧n≤18446744073709551615:=by
 cases m with
 |zero=>exact h.elim
 |succ m=>
  simp only [Conf,hti,hk] at h
  obtain ⟨n,rfl,hw⟩:=h
  refine ⟨n,rfl,?_⟩
  simp [Lit.wf,IntKind.min,IntKind.max,IntKind.signed,IntKind.bits] at hw
  exact ⟨by omega,by omega⟩
theorem Afh {fs:List (Nat×Nat)} (hti:cx.ti.get t=some i) (hk:i.ty= .struct fs) (h:Conf cx (m+1) t ts):ts.length=i.size∧ ∀p∈fs,Conf cx m p.2 ((ts.drop p.1).take (sizeOf cx p.2)):=by
 simpa only [Conf,hti,hk] using h
theorem Aeb {j k:Nat} {fs:List (Nat×Nat)} (hi:cx.ti.get k=some i) (hk:i.ty= .int .i64) (hs:sizeOf cx k=1) (h: ∀p∈fs,Conf cx m p.2 ((ts.drop p.1).take (sizeOf cx p.2))) (hp:(j,k)∈fs): ∃n,ts[j]?=some (ti n)∧i64 n:=by
 have:=h _ hp
 simp only [hs] at this
 obtain ⟨n,h1,h2⟩:=Agm hi hk this
 refine ⟨n,?_,h2⟩
 have h3:=congrArg (fun l=>l[0]?) h1
 simpa [List.getElem?_take,List.getElem?_drop] using h3
def Entity.ok (e:Entity):Prop:=i64 e.id∧i64 e.kind∧i64 e.x∧i64 e.y∧i64 e.vx∧i64 e.vy∧i64 e.health∧i64 e.age∧i64 e.owner
def Input.ok (e:Input):Prop:=i64 e.dx∧i64 e.dy
def Cross.ok (c:Cross):Prop:=i64 c.kind∧i64 c.frm∧i64 c.to∧i64 c.frame∧c.ent.ok∧i64 c.x∧i64 c.y
theorem Afl {k u:Nat} {j v:TI} (hk:cx.ti.get k=some j) (hkt:j.ty= .int .i64) (hs:sizeOf cx k=1) (hu:cx.ti.get u=some v) (hut:v.ty= .int .u64) (hus:sizeOf cx u=1) (hti:cx.ti.get t=some i)
  (hty:i.ty= .struct [(0,k),(1,k),(2,k),(3,k),(4,u)]) (hsz:i.size=5) (h:Conf cx (m+1) t ts): ∃c:Config,ts=c.enc.cells∧c.ok:=by
 obtain ⟨h1,h2⟩:=Afh hti hty h
 rw [hsz] at h1
 obtain ⟨n0,a0,b0⟩:=Aeb (j:=0) hk hkt hs h2 (by simp)
 obtain ⟨n1,a1,b1⟩:=Aeb (j:=1) hk hkt hs h2 (by simp)
 obtain ⟨n2,a2,b2⟩:=Aeb (j:=2) hk hkt hs h2 (by simp)
 obtain ⟨n3,a3,b3⟩:=Aeb (j:=3) hk hkt hs h2 (by simp)
 have h4:=h2 (4,u) (by simp)
 simp only [hus] at h4
 obtain ⟨n4,a4,b4⟩:=Ai2 hu hut h4
 refine ⟨⟨n0,n1,n2,n3,n4⟩,?_,b0,b1,b2,b3,b4⟩
 match ts,h1 with
 | [_,_,_,_,_],_=>simp_all [Config.enc,T.cells]
theorem AgH (hti:cx.ti.get t=some i) (h: ∀fs,i.ty≠ .struct fs):isStruct cx t=false:=by
 unfold isStruct
 rw [hti]
 cases i with
 |mk ty s b q=>cases ty<;>simp_all
theorem AhE {fs:List (Nat×Nat)} (hti:cx.ti.get t=some i) (h:i.ty= .struct fs):isStruct cx t=true:=by
 unfold isStruct
 rw [hti]
 cases i with
 |mk ty s b q=>simp only at h;subst h;rfl
theorem Ah2 (hti:cx.ti.get t=some i) (hk:i.ty= .int .i64) {x:T} (h:Arg cx m t x): ∃n,x=ti n∧i64 n:=by
 obtain ⟨h1,h2,h3,h4⟩:=h
 obtain ⟨n,h5,h6⟩:=Agm hti hk h4
 rw [h3 (AgH hti (by rw [hk];simp))] at h5
 exact ⟨n,by simpa using h5,h6⟩
theorem Ajn {α:Type} {f:α→T} {P:α→Prop} {fs:List (Nat×Nat)} (hti:cx.ti.get t=some i) (hk:i.ty= .struct fs) (hf: ∀e,∃l,f e= .agg l) (hc: ∀ {ts},Conf cx m t ts→ ∃e,ts=(f e).cells∧P e) {x:T} (h:Arg cx m t x): ∃e,x=f e∧P e:=by
 obtain ⟨h1,h2,h3,h4⟩:=h
 obtain ⟨l,rfl⟩:=h2 (AhE hti hk)
 obtain ⟨e,h5,h6⟩:=hc h4
 obtain ⟨l',hl⟩:=hf e
 rw [hl] at h5
 simp only [T.cells] at h5
 exact ⟨e,by rw [hl,h5],h6⟩
end
end Go.Eva