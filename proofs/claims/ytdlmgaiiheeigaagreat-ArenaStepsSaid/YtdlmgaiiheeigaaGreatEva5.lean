/- A reading of the program, proved sound against the model, and what its functions answer by it: part 5. -/
import Derived.Test.YtdlmgaiiheeigaaGreatEva4
set_option linter.unusedSimpArgs false
set_option linter.unusedVariables false
open List renaming length → zq, map → zz, replicate → zj, set → zx, take → zw, drop → zk
open Int renaming toNat → zy, tmod → zg, fdiv → zh
open Go.IntKind renaming i64 → zd, u64 → zf, wrap → zp
open BitVec renaming ofInt → zb
open Go.Eva.Entity renaming enc → zm, less → z8, right → z9, mk → qw
open Go.Eva.Cross renaming enc → zn, less → z7
open Go.Eva.Input renaming enc → zr
open Go.Eva.Region renaming enc → zt
open Go.Eva.Config renaming regions → z0, near → z6
open Go.Eva.Wp renaming ev → qq
open Go.Eva.Res renaming mk → qz
open Go.Eva.Ex renaming ret → qj, exit → qx
open Go.Eva.Ob renaming arr → qv, one → qg
open Go.Eva.T renaming sl → qk
open Go.Eva.V renaming all → qy
namespace Go.Eva.S4
def blastAt (r f q:Int) (e:Entity):Cross:=⟨2,r,q,f,Entity.zero,e.x,e.y⟩
theorem f_fall_inner_b (c:Config) (r f made:Int) (A:List Entity) (k:Nat) (id:Int) (ids near:List Int) (i:Nat) (hk:k<A.length) (hA:A.length≤1000) (hids:ids.length≤1000) (hn:near.length≤9): ∀(d j:Nat) (o:List Cross),j+d=near.length→o.length≤50000+j→
  Is cx (.loop 67 [0,1,0,1,1,0,0,1,1,0,0,1] 2 [.ptr 0 0 0,vi id,.ptr 1 k 0,.all 2 none,vi ids.length,vi i,.t (.sl 1 (near.map ti)),vi near.length,vi j] [.one 10 (stepV c r f made (.all 1 none) (.all 3 none)) false,.arr 9 (A.map zm) none false,.arr 1 (ids.map ti) none false,.arr 15 (o.map zn) none false])
   ⟨.exit 2,[.ptr 0 0 0,vi id,.ptr 1 k 0,.all 2 none,vi ids.length,vi i,.t (.sl 1 (near.map ti)),vi near.length,vi near.length],[.one 10 (stepV c r f made (.all 1 none) (.all 3 none)) false,.arr 9 (A.map zm) none false,.arr 1 (ids.map ti) none false,.arr 15 ((o++(near.drop j).map fun q=>blastAt r f q (gt A k)).map zn) none false]⟩:=by
 intro d
 induction d with
 |zero=>
  intro j o hj ho
  rw [drop_end (by omega)]
  refine qq ?_
  refine gg [.b (decide ((j:Int)<(↑(zq near):Int))) false] ⟨fP,trivial⟩ ?_
  refine rT (a:=qz (qx 2) [V.ptr 0 0 0,vi id,V.ptr 1 k 0,qy 2 none,vi (↑(zq ids):Int),vi (i:Int),V.t (qk 1 (zz ti near)),vi (↑(zq near):Int),vi (j:Int)] [qg 10 (V.agg [vi c.cols,vi c.rows,vi c.players,vi c.window,V.t (T.int zf c.seed),vi r,vi f,qy 1 none,vi made,qy 3 none]) false,qv 9 (zz zm A) none false,qv 1 (zz ti ids) none false,qv 15 (zz zn o) none false]) ?_
  ((have hq:j=near.length:=by omega);subst hq;simp)
 |succ d ih=>
  intro j o hj ho
  have hlt:j<near.length:=by omega
  have ih1:=ih (j+1) (o++ [blastAt r f (gt near j) (gt A k)]) (by omega) (by simp;omega)
  clear ih
  rw [drop_gt hlt,List.map_cons,List.append_cons]
  have hs:=f_region_send_b c r f made A o ⟨2,0,gt near j,0,Entity.zero,(gt A k).x,(gt A k).y⟩ (by omega)
  unfold blastAt at ih1⊢
  unfold Entity.zero at*
  refine qq ?_
  refine gg [.b (decide ((j:Int)<(↑(zq near):Int))) true,.w (0≤(j:Int)),.n (zy (j:Int)) j,.g (zz ti near) j (ti (gt near j)),.g (zz zm A) k (zm (gt A k)),.g (zz zm A) k (zm (gt A k)),.a _ _,.i zd ((j:Int)+1) ((↑(j+1):Int)),.a _ _] ⟨tP,oW,nK,o_gt rfl (by assumption) (by intro h;cases h),o_gt rfl (by assumption) (by intro h;cases h),o_gt rfl (by assumption) (by intro h;cases h),o_a hs,oI,o_a ih1,trivial⟩ ?_
  exact ge
theorem f_fall_inner_a (c:Config) (r f made:Int) (A:List Entity) (k:Nat) (id:Int) (ids near:List Int) (i:Nat) (hk:k<A.length) (hA:A.length≤1000) (hids:ids.length≤1000) (hn:near.length≤9) (h0:0<near.length):
  Is cx (.loop 67 [0,1,0,1,1,0,0,1,1,0,0,1] 2 [.ptr 0 0 0,vi id,.ptr 1 k 0,.all 2 none,vi ids.length,vi i,.t (.sl 1 (near.map ti)),vi near.length,vi 0] [.one 10 (stepV c r f made (.all 1 none) (.fit 15 [])) false,.arr 9 (A.map zm) none false,.arr 1 (ids.map ti) none false])
   ⟨.exit 2,[.ptr 0 0 0,vi id,.ptr 1 k 0,.all 2 none,vi ids.length,vi i,.t (.sl 1 (near.map ti)),vi near.length,vi near.length],[.one 10 (stepV c r f made (.all 1 none) (.all 3 none)) false,.arr 9 (A.map zm) none false,.arr 1 (ids.map ti) none false,.arr 15 ((near.map fun q=>blastAt r f q (gt A k)).map zn) none false]⟩:=by
 have hs:=f_region_send_a c r f made A ⟨2,0,gt near 0,0,Entity.zero,(gt A k).x,(gt A k).y⟩
 have ih1:=f_fall_inner_b c r f made A k id ids near i hk hA hids hn (near.length-1) 1 [blastAt r f (gt near 0) (gt A k)] (by omega) (by simp)
 have e:near.map (fun q=>blastAt r f q (gt A k))= [blastAt r f (gt near 0) (gt A k)]++(near.drop 1).map fun q=>blastAt r f q (gt A k):=by
  have:=drop_gt h0
  rw [List.drop_zero] at this
  conv=>lhs;rw [this,List.map_cons]
  rfl
 rw [e]
 unfold blastAt at ih1⊢
 unfold Entity.zero at*
 refine qq ?_
 refine gg [.b (decide (0<(↑(zq near):Int))) true,.w (0≤(0:Int)),.l 0,.g (zz ti near) 0 (ti (gt near 0)),.g (zz zm A) k (zm (gt A k)),.g (zz zm A) k (zm (gt A k)),.a _ _,.i zd 1 1,.a _ _] ⟨tP,oW,o_gt rfl (by assumption) (by intro h;cases h),o_gt rfl (by assumption) (by intro h;cases h),o_gt rfl (by assumption) (by intro h;cases h),o_a hs,oK,o_a ih1,trivial⟩ ?_
 exact ge
theorem f_fall_outer_b (c:Config) (r f made:Int) (ids:List Int) (hids:ids.length≤1000): ∀(d i:Nat) (A:List Entity) (o:List Cross),i+d=ids.length→A.length≤1000→o.length≤9*i+9→(∀id∈ids.drop i,∃x∈A,x.id=id)→
  Is cx (.loop 67 [0,1] 2 [.ptr 0 0 0,.all 2 none,vi ids.length,vi i] [.one 10 (stepV c r f made (.all 1 none) (.all 3 none)) false,.arr 9 (A.map zm) none false,.arr 1 (ids.map ti) none false,.arr 15 (o.map zn) none false])
   ⟨.exit 0,[.ptr 0 0 0,.all 2 none,vi ids.length,vi ids.length],[.one 10 (stepV c r f made (.all 1 none) (.all 3 none)) false,.arr 9 (((ids.drop i).foldl (fall1 c r f) ⟨A,made,o⟩).l.map zm) none false,.arr 1 (ids.map ti) none false,.arr 15 (((ids.drop i).foldl (fall1 c r f) ⟨A,made,o⟩).out.map zn) none false]⟩:=by
 intro d
 induction d with
 |zero=>
  intro i A o hi hA ho hP
  rw [drop_end (by omega),List.foldl_nil]
  refine qq ?_
  refine gg [.b (decide ((i:Int)<(↑(zq ids):Int))) false] ⟨fP,trivial⟩ ?_
  refine rT (a:=qz (qx 0) [V.ptr 0 0 0,qy 2 none,vi (↑(zq ids):Int),vi (i:Int)] [qg 10 (V.agg [vi c.cols,vi c.rows,vi c.players,vi c.window,V.t (T.int zf c.seed),vi r,vi f,qy 1 none,vi made,qy 3 none]) false,qv 9 (zz zm A) none false,qv 1 (zz ti ids) none false,qv 15 (zz zn o) none false]) ?_
  ((have hq:i=ids.length:=by omega);subst hq;rfl)
 |succ d ih=>
  intro i A o hi hA ho hP
  have hlt:i<ids.length:=by omega
  have hd:=drop_gt hlt
  have hx:=hP (gt ids i) (by rw [hd];exact List.mem_cons_self ..)
  obtain ⟨k,hk1,hk2,_⟩:=find_lt hx
  have hns:= @near_small c r
  have hlenb:(o++blastsAt c r f (gt A k)).length≤9*(i+1)+9:=by simp [blastsAt];omega
  have ih1:=ih (i+1) (A.set k (anewE c r f (gt ids i) (gt A k))) (o++blastsAt c r f (gt A k)) (by omega) (by simpa using hA) hlenb fun id hid=>by
   have:=hP id (by rw [hd];exact List.mem_cons_of_mem _ hid)
   exact mem_ids (map_id_set (e:=anewE c r f (gt ids i) (gt A k)) hk2 rfl).symm this
  rw [hd,List.foldl_cons]
  have e1:fall1 c r f ⟨A,made,o⟩ (gt ids i)=⟨A.set k (anewE c r f (gt ids i) (gt A k)),made,o++blastsAt c r f (gt A k)⟩:=by simp [fall1,hk1]
  rw [e1]
  have hF:=f_entity_Find A (gt ids i) (by unfold small;omega)
  rw [hk1] at hF
  have hN:=f_grid_Near c r
  have hB:=f_fall_inner_b c r f made A k (gt ids i) ids (c.near r) i hk2 hA hids hns (c.near r).length 0 o (by omega) (by omega)
  rw [List.drop_zero] at hB
  change Is cx _ ⟨_,_,[_,_,_,.arr 15 ((o++blastsAt c r f (gt A k)).map zn) none false]⟩ at hB
  generalize blastsAt c r f (gt A k)=bl at*
  have hpl:=f_region_place c r f 1 2 (gt ids i) ⟨A.set k {gt A k with health:=100,vx:=0,vy:=0,age:=0},made,o++bl⟩
  clear ih hP e1 hx hk1 hd hlenb
  unfold anewE at ih1⊢
  refine qq ?_
  refine gg [.b (decide ((i:Int)<(↑(zq ids):Int))) true,.w (0≤(i:Int)),.n (zy (i:Int)) i,.w (i<zq (zz ti ids)),.g (zz ti ids) i (ti (gt ids i)),.a _ _,.b (flats [ti (k:Int)]) true,.w (0≤(k:Int)),.n (zy (k:Int)) k,.w (k<zq (zz zm A)),.a _ _,.n (zq (zz ti (z6 c r))) (zq (z6 c r)),.a _ _,.g (zz zm A) k (zm (gt A k)),.t (qk 0 (zx (zz zm A) k (T.agg [ti (gt A k).id,ti (gt A k).kind,ti (gt A k).x,ti (gt A k).y,ti (gt A k).vx,ti (gt A k).vy,ti 100,ti (gt A k).age,ti (gt A k).owner]))) (qk 0 (zz zm (zx A k (qw (gt A k).id (gt A k).kind (gt A k).x (gt A k).y (gt A k).vx (gt A k).vy 100 (gt A k).age (gt A k).owner)))),.g (zz zm (zx A k (qw (gt A k).id (gt A k).kind (gt A k).x (gt A k).y (gt A k).vx (gt A k).vy 100 (gt A k).age (gt A k).owner))) k (zm (qw (gt A k).id (gt A k).kind (gt A k).x (gt A k).y (gt A k).vx (gt A k).vy 100 (gt A k).age (gt A k).owner))] ⟨tP,oW,nK,o_w (by (simp;omega)),o_gt rfl (by assumption) (by intro h;cases h),o_a hF,bK,oW,nK,o_w (by (simp;omega)),o_a hN,o_n (by simp),o_a hB,o_gt rfl (by assumption) (by intro h;cases h),o_l (nm_set (e:=qw (gt A k).id (gt A k).kind (gt A k).x (gt A k).y (gt A k).vx (gt A k).vy 100 (gt A k).age (gt A k).owner) rfl rfl),o_gm rfl (get_set (by omega)) (by intro h;cases h),trivial⟩ ?_
  refine gg [.t (qk 0 (zx (zz zm (zx A k (qw (gt A k).id (gt A k).kind (gt A k).x (gt A k).y (gt A k).vx (gt A k).vy 100 (gt A k).age (gt A k).owner))) k (T.agg [ti (gt A k).id,ti (gt A k).kind,ti (gt A k).x,ti (gt A k).y,ti 0,ti (gt A k).vy,ti 100,ti (gt A k).age,ti (gt A k).owner]))) (qk 0 (zz zm (zx A k (qw (gt A k).id (gt A k).kind (gt A k).x (gt A k).y 0 (gt A k).vy 100 (gt A k).age (gt A k).owner)))),.g (zz zm (zx A k (qw (gt A k).id (gt A k).kind (gt A k).x (gt A k).y 0 (gt A k).vy 100 (gt A k).age (gt A k).owner))) k (zm (qw (gt A k).id (gt A k).kind (gt A k).x (gt A k).y 0 (gt A k).vy 100 (gt A k).age (gt A k).owner)),.t (qk 0 (zx (zz zm (zx A k (qw (gt A k).id (gt A k).kind (gt A k).x (gt A k).y 0 (gt A k).vy 100 (gt A k).age (gt A k).owner))) k (T.agg [ti (gt A k).id,ti (gt A k).kind,ti (gt A k).x,ti (gt A k).y,ti 0,ti 0,ti 100,ti (gt A k).age,ti (gt A k).owner]))) (qk 0 (zz zm (zx A k (qw (gt A k).id (gt A k).kind (gt A k).x (gt A k).y 0 0 100 (gt A k).age (gt A k).owner)))),.g (zz zm (zx A k (qw (gt A k).id (gt A k).kind (gt A k).x (gt A k).y 0 0 100 (gt A k).age (gt A k).owner))) k (zm (qw (gt A k).id (gt A k).kind (gt A k).x (gt A k).y 0 0 100 (gt A k).age (gt A k).owner)),.t (qk 0 (zx (zz zm (zx A k (qw (gt A k).id (gt A k).kind (gt A k).x (gt A k).y 0 0 100 (gt A k).age (gt A k).owner))) k (T.agg [ti (gt A k).id,ti (gt A k).kind,ti (gt A k).x,ti (gt A k).y,ti 0,ti 0,ti 100,ti 0,ti (gt A k).owner]))) (qk 0 (zz zm (zx A k (qw (gt A k).id (gt A k).kind (gt A k).x (gt A k).y 0 0 100 0 (gt A k).owner)))),.a _ _,.b (flats [ti (placeX c r f 1 (gt ids i)),ti (placeY c r f 2 (gt ids i))]) true,.g (zz zm (zx A k (qw (gt A k).id (gt A k).kind (gt A k).x (gt A k).y 0 0 100 0 (gt A k).owner))) k (zm (qw (gt A k).id (gt A k).kind (gt A k).x (gt A k).y 0 0 100 0 (gt A k).owner)),.t (qk 0 (zx (zz zm (zx A k (qw (gt A k).id (gt A k).kind (gt A k).x (gt A k).y 0 0 100 0 (gt A k).owner))) k (T.agg [ti (gt A k).id,ti (gt A k).kind,ti (placeX c r f 1 (gt ids i)),ti (gt A k).y,ti 0,ti 0,ti 100,ti 0,ti (gt A k).owner]))) (qk 0 (zz zm (zx A k (qw (gt A k).id (gt A k).kind (placeX c r f 1 (gt ids i)) (gt A k).y 0 0 100 0 (gt A k).owner)))),.g (zz zm (zx A k (qw (gt A k).id (gt A k).kind (placeX c r f 1 (gt ids i)) (gt A k).y 0 0 100 0 (gt A k).owner))) k (zm (qw (gt A k).id (gt A k).kind (placeX c r f 1 (gt ids i)) (gt A k).y 0 0 100 0 (gt A k).owner))] ⟨o_l (nm_eq (nm_set (e:=qw (gt A k).id (gt A k).kind (gt A k).x (gt A k).y 0 (gt A k).vy 100 (gt A k).age (gt A k).owner) rfl rfl) (by simp)),o_gm rfl (get_set (by omega)) (by intro h;cases h),o_l (nm_eq (nm_set (e:=qw (gt A k).id (gt A k).kind (gt A k).x (gt A k).y 0 0 100 (gt A k).age (gt A k).owner) rfl rfl) (by simp)),o_gm rfl (get_set (by omega)) (by intro h;cases h),o_l (nm_eq (nm_set (e:=qw (gt A k).id (gt A k).kind (gt A k).x (gt A k).y 0 0 100 0 (gt A k).owner) rfl rfl) (by simp)),o_a hpl,bK,o_gm rfl (get_set (by omega)) (by intro h;cases h),o_l (nm_eq (nm_set (e:=qw (gt A k).id (gt A k).kind (placeX c r f 1 (gt ids i)) (gt A k).y 0 0 100 0 (gt A k).owner) rfl rfl) (by simp)),o_gm rfl (get_set (by omega)) (by intro h;cases h),trivial⟩ ?_
  refine gg [.t (qk 0 (zx (zz zm (zx A k (qw (gt A k).id (gt A k).kind (placeX c r f 1 (gt ids i)) (gt A k).y 0 0 100 0 (gt A k).owner))) k (T.agg [ti (gt A k).id,ti (gt A k).kind,ti (placeX c r f 1 (gt ids i)),ti (placeY c r f 2 (gt ids i)),ti 0,ti 0,ti 100,ti 0,ti (gt A k).owner]))) (qk 0 (zz zm (zx A k (qw (gt A k).id (gt A k).kind (placeX c r f 1 (gt ids i)) (placeY c r f 2 (gt ids i)) 0 0 100 0 (gt A k).owner)))),.i zd ((i:Int)+1) ((↑(i+1):Int)),.a _ _] ⟨o_l (nm_eq (nm_set (e:=qw (gt A k).id (gt A k).kind (placeX c r f 1 (gt ids i)) (placeY c r f 2 (gt ids i)) 0 0 100 0 (gt A k).owner) rfl rfl) (by simp)),oI,o_a ih1,trivial⟩ ?_
  exact ge
theorem f_fall_outer_a (c:Config) (r f made:Int) (ids:List Int) (hids:ids.length≤1000) (A:List Entity) (hA:A.length≤1000) (h0:0<ids.length) (hnr:0<(c.near r).length) (hP: ∀id∈ids,∃x∈A,x.id=id):
  Is cx (.loop 67 [0,1] 2 [.ptr 0 0 0,.all 2 none,vi ids.length,vi 0] [.one 10 (stepV c r f made (.all 1 none) (.fit 15 [])) false,.arr 9 (A.map zm) none false,.arr 1 (ids.map ti) none false])
   ⟨.exit 0,[.ptr 0 0 0,.all 2 none,vi ids.length,vi ids.length],[.one 10 (stepV c r f made (.all 1 none) (.all 3 none)) false,.arr 9 ((ids.foldl (fall1 c r f) ⟨A,made,[]⟩).l.map zm) none false,.arr 1 (ids.map ti) none false,.arr 15 ((ids.foldl (fall1 c r f) ⟨A,made,[]⟩).out.map zn) none false]⟩:=by
 have hd:=drop_gt h0
 rw [List.drop_zero] at hd
 have hx:=hP (gt ids 0) (gt_mem h0)
 obtain ⟨k,hk1,hk2,_⟩:=find_lt hx
 have hns:= @near_small c r
 have hlenb:(blastsAt c r f (gt A k)).length≤9*1+9:=by simp [blastsAt];omega
 have ih1:=f_fall_outer_b c r f made ids hids (ids.length-1) 1 (A.set k (anewE c r f (gt ids 0) (gt A k))) (blastsAt c r f (gt A k)) (by omega) (by simpa using hA) hlenb fun id hid=>by
  have:=hP id (by rw [hd];exact List.mem_cons_of_mem _ hid)
  exact mem_ids (map_id_set (e:=anewE c r f (gt ids 0) (gt A k)) hk2 rfl).symm this
 have e0:ids.foldl (fall1 c r f) ⟨A,made,[]⟩=(ids.drop 1).foldl (fall1 c r f) (fall1 c r f ⟨A,made,[]⟩ (gt ids 0)):=by
  conv=>lhs;rw [hd]
  rfl
 rw [e0]
 have e1:fall1 c r f ⟨A,made,[]⟩ (gt ids 0)=⟨A.set k (anewE c r f (gt ids 0) (gt A k)),made,blastsAt c r f (gt A k)⟩:=by simp [fall1,hk1]
 rw [e1]
 have hF:=f_entity_Find A (gt ids 0) (by unfold small;omega)
 rw [hk1] at hF
 have hN:=f_grid_Near c r
 have hB:=f_fall_inner_a c r f made A k (gt ids 0) ids (c.near r) 0 hk2 hA hids hns hnr
 change Is cx _ ⟨_,_,[_,_,_,.arr 15 ((blastsAt c r f (gt A k)).map zn) none false]⟩ at hB
 generalize blastsAt c r f (gt A k)=bl at*
 have hpl:=f_region_place c r f 1 2 (gt ids 0) ⟨A.set k {gt A k with health:=100,vx:=0,vy:=0,age:=0},made,bl⟩
 clear hP e1 hx hk1 hd hlenb e0
 unfold anewE at ih1⊢
 refine qq ?_
 refine gg [.b (decide (0<(↑(zq ids):Int))) true,.w (0≤(0:Int)),.l 0,.w ((0:Nat)<zq (zz ti ids)),.g (zz ti ids) 0 (ti (gt ids 0)),.a _ _,.b (flats [ti (k:Int)]) true,.w (0≤(k:Int)),.n (zy (k:Int)) k,.w (k<zq (zz zm A)),.a _ _,.n (zq (zz ti (z6 c r))) (zq (z6 c r)),.a _ _,.g (zz zm A) k (zm (gt A k)),.t (qk 0 (zx (zz zm A) k (T.agg [ti (gt A k).id,ti (gt A k).kind,ti (gt A k).x,ti (gt A k).y,ti (gt A k).vx,ti (gt A k).vy,ti 100,ti (gt A k).age,ti (gt A k).owner]))) (qk 0 (zz zm (zx A k (qw (gt A k).id (gt A k).kind (gt A k).x (gt A k).y (gt A k).vx (gt A k).vy 100 (gt A k).age (gt A k).owner)))),.g (zz zm (zx A k (qw (gt A k).id (gt A k).kind (gt A k).x (gt A k).y (gt A k).vx (gt A k).vy 100 (gt A k).age (gt A k).owner))) k (zm (qw (gt A k).id (gt A k).kind (gt A k).x (gt A k).y (gt A k).vx (gt A k).vy 100 (gt A k).age (gt A k).owner))] ⟨tP,oW,o_w (by (simp;omega)),o_gt rfl (by assumption) (by intro h;cases h),o_a hF,bK,oW,nK,o_w (by (simp;omega)),o_a hN,o_n (by simp),o_a hB,o_gt rfl (by assumption) (by intro h;cases h),o_l (nm_set (e:=qw (gt A k).id (gt A k).kind (gt A k).x (gt A k).y (gt A k).vx (gt A k).vy 100 (gt A k).age (gt A k).owner) rfl rfl),o_gm rfl (get_set (by omega)) (by intro h;cases h),trivial⟩ ?_
 refine gg [.t (qk 0 (zx (zz zm (zx A k (qw (gt A k).id (gt A k).kind (gt A k).x (gt A k).y (gt A k).vx (gt A k).vy 100 (gt A k).age (gt A k).owner))) k (T.agg [ti (gt A k).id,ti (gt A k).kind,ti (gt A k).x,ti (gt A k).y,ti 0,ti (gt A k).vy,ti 100,ti (gt A k).age,ti (gt A k).owner]))) (qk 0 (zz zm (zx A k (qw (gt A k).id (gt A k).kind (gt A k).x (gt A k).y 0 (gt A k).vy 100 (gt A k).age (gt A k).owner)))),.g (zz zm (zx A k (qw (gt A k).id (gt A k).kind (gt A k).x (gt A k).y 0 (gt A k).vy 100 (gt A k).age (gt A k).owner))) k (zm (qw (gt A k).id (gt A k).kind (gt A k).x (gt A k).y 0 (gt A k).vy 100 (gt A k).age (gt A k).owner)),.t (qk 0 (zx (zz zm (zx A k (qw (gt A k).id (gt A k).kind (gt A k).x (gt A k).y 0 (gt A k).vy 100 (gt A k).age (gt A k).owner))) k (T.agg [ti (gt A k).id,ti (gt A k).kind,ti (gt A k).x,ti (gt A k).y,ti 0,ti 0,ti 100,ti (gt A k).age,ti (gt A k).owner]))) (qk 0 (zz zm (zx A k (qw (gt A k).id (gt A k).kind (gt A k).x (gt A k).y 0 0 100 (gt A k).age (gt A k).owner)))),.g (zz zm (zx A k (qw (gt A k).id (gt A k).kind (gt A k).x (gt A k).y 0 0 100 (gt A k).age (gt A k).owner))) k (zm (qw (gt A k).id (gt A k).kind (gt A k).x (gt A k).y 0 0 100 (gt A k).age (gt A k).owner)),.t (qk 0 (zx (zz zm (zx A k (qw (gt A k).id (gt A k).kind (gt A k).x (gt A k).y 0 0 100 (gt A k).age (gt A k).owner))) k (T.agg [ti (gt A k).id,ti (gt A k).kind,ti (gt A k).x,ti (gt A k).y,ti 0,ti 0,ti 100,ti 0,ti (gt A k).owner]))) (qk 0 (zz zm (zx A k (qw (gt A k).id (gt A k).kind (gt A k).x (gt A k).y 0 0 100 0 (gt A k).owner)))),.a _ _,.b (flats [ti (placeX c r f 1 (gt ids 0)),ti (placeY c r f 2 (gt ids 0))]) true,.g (zz zm (zx A k (qw (gt A k).id (gt A k).kind (gt A k).x (gt A k).y 0 0 100 0 (gt A k).owner))) k (zm (qw (gt A k).id (gt A k).kind (gt A k).x (gt A k).y 0 0 100 0 (gt A k).owner)),.t (qk 0 (zx (zz zm (zx A k (qw (gt A k).id (gt A k).kind (gt A k).x (gt A k).y 0 0 100 0 (gt A k).owner))) k (T.agg [ti (gt A k).id,ti (gt A k).kind,ti (placeX c r f 1 (gt ids 0)),ti (gt A k).y,ti 0,ti 0,ti 100,ti 0,ti (gt A k).owner]))) (qk 0 (zz zm (zx A k (qw (gt A k).id (gt A k).kind (placeX c r f 1 (gt ids 0)) (gt A k).y 0 0 100 0 (gt A k).owner)))),.g (zz zm (zx A k (qw (gt A k).id (gt A k).kind (placeX c r f 1 (gt ids 0)) (gt A k).y 0 0 100 0 (gt A k).owner))) k (zm (qw (gt A k).id (gt A k).kind (placeX c r f 1 (gt ids 0)) (gt A k).y 0 0 100 0 (gt A k).owner))] ⟨o_l (nm_eq (nm_set (e:=qw (gt A k).id (gt A k).kind (gt A k).x (gt A k).y 0 (gt A k).vy 100 (gt A k).age (gt A k).owner) rfl rfl) (by simp)),o_gm rfl (get_set (by omega)) (by intro h;cases h),o_l (nm_eq (nm_set (e:=qw (gt A k).id (gt A k).kind (gt A k).x (gt A k).y 0 0 100 (gt A k).age (gt A k).owner) rfl rfl) (by simp)),o_gm rfl (get_set (by omega)) (by intro h;cases h),o_l (nm_eq (nm_set (e:=qw (gt A k).id (gt A k).kind (gt A k).x (gt A k).y 0 0 100 0 (gt A k).owner) rfl rfl) (by simp)),o_a hpl,bK,o_gm rfl (get_set (by omega)) (by intro h;cases h),o_l (nm_eq (nm_set (e:=qw (gt A k).id (gt A k).kind (placeX c r f 1 (gt ids 0)) (gt A k).y 0 0 100 0 (gt A k).owner) rfl rfl) (by simp)),o_gm rfl (get_set (by omega)) (by intro h;cases h),trivial⟩ ?_
 refine gg [.t (qk 0 (zx (zz zm (zx A k (qw (gt A k).id (gt A k).kind (placeX c r f 1 (gt ids 0)) (gt A k).y 0 0 100 0 (gt A k).owner))) k (T.agg [ti (gt A k).id,ti (gt A k).kind,ti (placeX c r f 1 (gt ids 0)),ti (placeY c r f 2 (gt ids 0)),ti 0,ti 0,ti 100,ti 0,ti (gt A k).owner]))) (qk 0 (zz zm (zx A k (qw (gt A k).id (gt A k).kind (placeX c r f 1 (gt ids 0)) (placeY c r f 2 (gt ids 0)) 0 0 100 0 (gt A k).owner)))),.i zd 1 1,.a _ _] ⟨o_l (nm_eq (nm_set (e:=qw (gt A k).id (gt A k).kind (placeX c r f 1 (gt ids 0)) (placeY c r f 2 (gt ids 0)) 0 0 100 0 (gt A k).owner) rfl rfl) (by simp)),oK,o_a ih1,trivial⟩ ?_
 exact ge
theorem fallen_has {L:List Entity}: ∀id∈fallenL L,∃x∈L,x.id=id:=by
 intro id h
 obtain ⟨x,h1,h2⟩:=List.mem_map.1 h
 exact ⟨x,(List.mem_filter.1 h1).1,h2⟩
theorem fallen_len {L:List Entity}:(fallenL L).length≤L.length:=by
 unfold fallenL;rw [List.length_map];exact List.length_filter_le ..
theorem f_region_fall_a (c:Config) (r f made:Int) (L:List Entity) (hL:L.length≤1000) (h:fallenL L= []):
  Is cx (.call 67 [.ptr 0 0 0] [.one 10 (stepV c r f made (.all 1 none) (.fit 15 [])) false,.arr 9 (L.map zm) none false])
   ⟨.ret,[],[.one 10 (stepV c r f made (.all 1 none) (.fit 15 [])) false,.arr 9 (L.map zm) none false]⟩:=by
 have hF:=f_hitting_Fallen L (by unfold small;omega)
 rw [h] at hF
 have hl:Is cx (.loop 67 [0,1] 2 [.ptr 0 0 0,.all 2 none,vi 0,vi 0] [.one 10 (stepV c r f made (.all 1 none) (.fit 15 [])) false,.arr 9 (L.map zm) none false,.arr 1 [] none false])
   ⟨.exit 0,[.ptr 0 0 0,.all 2 none,vi 0,vi 0],[.one 10 (stepV c r f made (.all 1 none) (.fit 15 [])) false,.arr 9 (L.map zm) none false,.arr 1 [] none false]⟩:=by
  refine qq ?_
  refine gg [.b (decide (0<0)) false] ⟨bK,trivial⟩ ?_
  exact ge
 refine qq ?_
 refine gg [.a _ _,.l 0,.a _ _] ⟨o_a hF,o_a hl,trivial⟩ ?_
 exact ge
theorem f_region_fall_b (c:Config) (r f made:Int) (L:List Entity) (hL:L.length≤1000) (hnr:0<(c.near r).length) (h:fallenL L≠ []):
  Is cx (.call 67 [.ptr 0 0 0] [.one 10 (stepV c r f made (.all 1 none) (.fit 15 [])) false,.arr 9 (L.map zm) none false])
   ⟨.ret,[],[.one 10 (stepV c r f made (.all 1 none) (.all 2 none)) false,.arr 9 ((fallS c r f ⟨L,made,[]⟩).l.map zm) none false,.arr 15 ((fallS c r f ⟨L,made,[]⟩).out.map zn) none false]⟩:=by
 have hF:=f_hitting_Fallen L (by unfold small;omega)
 have hlen:= @fallen_len L
 have hP:= @fallen_has L
 unfold fallS
 simp only
 have h0:0<(fallenL L).length:=List.length_pos_iff.2 h
 generalize fallenL L=ids at*
 have hl:=f_fall_outer_a c r f made ids (by omega) L hL h0 hnr hP
 clear hP h
 generalize ids.foldl (fall1 c r f) ⟨L,made,[]⟩=S at*
 obtain ⟨A,m2,o⟩:=S
 simp only at hl⊢
 refine qq ?_
 refine gg [.a _ _,.n (zq (zz ti ids)) (zq ids),.a _ _] ⟨o_a hF,o_n (by simp),o_a hl,trivial⟩ ?_
 exact ge
theorem f_grow_loop_a (c:Config) (r f made:Int) (L:List Entity) (o:List Cross) (hL:L.length≤1000): ∀(d i n:Nat),i+d=L.length→n≤i→
  Is cx (.loop 68 [0,1,0,1] 2 [.ptr 0 0 0,vi n,.all 1 none,vi L.length,vi i] [.one 10 (stepV c r f made (.all 1 none) (.fit 15 [])) false,.arr 9 (L.map zm) none false])
   ⟨.exit 0,[.ptr 0 0 0,vi (n+(L.drop i).countP fun e=>e.kind==3:Nat),.all 1 none,vi L.length,vi L.length],[.one 10 (stepV c r f made (.all 1 none) (.fit 15 [])) false,.arr 9 (L.map zm) none false]⟩:=by
 intro d
 induction d with
 |zero=>
  intro i n hi hm
  rw [drop_end (by omega)]
  refine qq ?_
  refine gg [.b (decide ((i:Int)<(↑(zq L):Int))) false] ⟨fP,trivial⟩ ?_
  refine rT (a:=qz (qx 0) [V.ptr 0 0 0,vi (n:Int),qy 1 none,vi (↑(zq L):Int),vi (i:Int)] [qg 10 (V.agg [vi c.cols,vi c.rows,vi c.players,vi c.window,V.t (T.int zf c.seed),vi r,vi f,qy 1 none,vi made,V.fit 15 []]) false,qv 9 (zz zm L) none false]) ?_
  ((have hq:i=L.length:=by omega);subst hq;rfl)
 |succ d ih=>
  intro i n hi hm
  have hlt:i<L.length:=by omega
  have ih1:=ih (i+1) n (by omega) (by omega)
  have ih2:=ih (i+1) (n+1) (by omega) (by omega)
  clear ih
  rw [countP_gt _ hlt]
  refine qq ?_
  refine gg [.b (decide ((i:Int)<(↑(zq L):Int))) true,.w (0≤(i:Int)),.n (zy (i:Int)) i,.w (i<zq (zz zm L)),.g (zz zm L) i (zm (gt L i))] ⟨tP,oW,nK,o_w (by (simp;omega)),o_gt rfl (by assumption) (by intro h;cases h),trivial⟩ ?_
  refine bre (x:=(gt L i).kind) (y:=3) (by kernel_rfl) (fun h1=> ?_) (fun h1=> ?_)
  ·refine gg [.i zd ((n:Int)+1) ((↑(n+1):Int)),.i zd ((i:Int)+1) ((↑(i+1):Int)),.a _ _] ⟨oI,oI,o_a ih2,trivial⟩ ?_
   refine rT (a:=qz (qx 0) [V.ptr 0 0 0,vi (↑(n+1+List.countP (fun (e:Entity)↦e.kind==3) (zk (i+1) L)):Int),qy 1 none,vi (↑(zq L):Int),vi (↑(zq L):Int)] [qg 10 (V.agg [vi c.cols,vi c.rows,vi c.players,vi c.window,V.t (T.int zf c.seed),vi r,vi f,qy 1 none,vi made,V.fit 15 []]) false,qv 9 (zz zm L) none false]) ?_
   (simp_all;try omega)
  ·refine gg [.i zd ((i:Int)+1) ((↑(i+1):Int)),.a _ _] ⟨oI,o_a ih1,trivial⟩ ?_
   refine rT (a:=qz (qx 0) [V.ptr 0 0 0,vi (↑(n+List.countP (fun (e:Entity)↦e.kind==3) (zk (i+1) L)):Int),qy 1 none,vi (↑(zq L):Int),vi (↑(zq L):Int)] [qg 10 (V.agg [vi c.cols,vi c.rows,vi c.players,vi c.window,V.t (T.int zf c.seed),vi r,vi f,qy 1 none,vi made,V.fit 15 []]) false,qv 9 (zz zm L) none false]) ?_
   (simp_all;try omega)
theorem f_region_grow_no_a (c:Config) (r f made:Int) (L:List Entity) (o:List Cross) (hL:L.length≤1000) (h:below 8 c.seed [3,f,r]≠0∨3≤(L.countP fun e=>e.kind==3)∨Stg.room ⟨L,made,[]⟩=false):
  Is cx (.call 68 [.ptr 0 0 0] [.one 10 (stepV c r f made (.all 1 none) (.fit 15 [])) false,.arr 9 (L.map zm) none false])
   ⟨.ret,[],[.one 10 (stepV c r f made (.all 1 none) (.fit 15 [])) false,.arr 9 (L.map zm) none false]⟩:=by
 have hl:=f_grow_loop_a c r f made L o hL L.length 0 0 (by omega) (by omega)
 rw [List.drop_zero,Nat.zero_add] at hl
 have hb:=f_chance_Below 8 c.seed [3,f,r] (by decide) (by simp [small])
 have hrm:=f_region_room c r f ⟨L,made,[]⟩ (by unfold small;simp only;omega)
 have hc:(L.countP fun e=>e.kind==3)≤L.length:=List.countP_le_length
 generalize (L.countP fun e=>e.kind==3)=n at*
 generalize below 8 c.seed [3,f,r]=b at*
 generalize Stg.room ⟨L,made,[]⟩=rm at*
 by_cases h1:b=0
 ·by_cases h2:3≤n
  ·refine qq ?_
   refine gg [.n (zq (zz zm L)) (zq L),.a _ _,.a _ _,.b (b !=0) false,.ff,.ff,.b (decide ((n:Int)≥3)) true,.tt,.tt,.tt,.tt] ⟨o_n (by simp),o_a hl,o_a hb,f_brn (by assumption),tP,trivial⟩ ?_
   exact ge
  ·have h3:rm=false:=by rcases h with h|h|h;exact absurd h1 h;exact absurd h h2;exact h
   subst h3
   refine qq ?_
   refine gg [.n (zq (zz zm L)) (zq L),.a _ _,.a _ _,.b (b !=0) false,.ff,.ff,.b (decide ((n:Int)≥3)) false,.ff,.a _ _,.b (flats [T.bool false]) true,.ff,.ff,.b (!false) true] ⟨o_n (by simp),o_a hl,o_a hb,f_brn (by assumption),fP,o_a hrm,bK,bK,trivial⟩ ?_
   exact ge
 ·refine qq ?_
  refine gg [.n (zq (zz zm L)) (zq L),.a _ _,.a _ _,.b (b !=0) true,.tt,.tt,.tt,.tt,.tt,.tt,.tt] ⟨o_n (by simp),o_a hl,o_a hb,t_brn (by assumption),trivial⟩ ?_
  exact ge
theorem f_grow_loop_b (c:Config) (r f made:Int) (L:List Entity) (o:List Cross) (hL:L.length≤1000): ∀(d i n:Nat),i+d=L.length→n≤i→
  Is cx (.loop 68 [0,1,0,1] 3 [.ptr 0 0 0,vi n,.all 1 none,vi L.length,vi i] [.one 10 (stepV c r f made (.all 1 none) (.all 2 none)) false,.arr 9 (L.map zm) none false,.arr 15 (o.map zn) none false])
   ⟨.exit 0,[.ptr 0 0 0,vi (n+(L.drop i).countP fun e=>e.kind==3:Nat),.all 1 none,vi L.length,vi L.length],[.one 10 (stepV c r f made (.all 1 none) (.all 2 none)) false,.arr 9 (L.map zm) none false,.arr 15 (o.map zn) none false]⟩:=by
 intro d
 induction d with
 |zero=>
  intro i n hi hm
  rw [drop_end (by omega)]
  refine qq ?_
  refine gg [.b (decide ((i:Int)<(↑(zq L):Int))) false] ⟨fP,trivial⟩ ?_
  refine rT (a:=qz (qx 0) [V.ptr 0 0 0,vi (n:Int),qy 1 none,vi (↑(zq L):Int),vi (i:Int)] [qg 10 (V.agg [vi c.cols,vi c.rows,vi c.players,vi c.window,V.t (T.int zf c.seed),vi r,vi f,qy 1 none,vi made,qy 2 none]) false,qv 9 (zz zm L) none false,qv 15 (zz zn o) none false]) ?_
  ((have hq:i=L.length:=by omega);subst hq;rfl)
 |succ d ih=>
  intro i n hi hm
  have hlt:i<L.length:=by omega
  have ih1:=ih (i+1) n (by omega) (by omega)
  have ih2:=ih (i+1) (n+1) (by omega) (by omega)
  clear ih
  rw [countP_gt _ hlt]
  refine qq ?_
  refine gg [.b (decide ((i:Int)<(↑(zq L):Int))) true,.w (0≤(i:Int)),.n (zy (i:Int)) i,.w (i<zq (zz zm L)),.g (zz zm L) i (zm (gt L i))] ⟨tP,oW,nK,o_w (by (simp;omega)),o_gt rfl (by assumption) (by intro h;cases h),trivial⟩ ?_
  refine bre (x:=(gt L i).kind) (y:=3) (by kernel_rfl) (fun h1=> ?_) (fun h1=> ?_)
  ·refine gg [.i zd ((n:Int)+1) ((↑(n+1):Int)),.i zd ((i:Int)+1) ((↑(i+1):Int)),.a _ _] ⟨oI,oI,o_a ih2,trivial⟩ ?_
   refine rT (a:=qz (qx 0) [V.ptr 0 0 0,vi (↑(n+1+List.countP (fun (e:Entity)↦e.kind==3) (zk (i+1) L)):Int),qy 1 none,vi (↑(zq L):Int),vi (↑(zq L):Int)] [qg 10 (V.agg [vi c.cols,vi c.rows,vi c.players,vi c.window,V.t (T.int zf c.seed),vi r,vi f,qy 1 none,vi made,qy 2 none]) false,qv 9 (zz zm L) none false,qv 15 (zz zn o) none false]) ?_
   (simp_all;try omega)
  ·refine gg [.i zd ((i:Int)+1) ((↑(i+1):Int)),.a _ _] ⟨oI,o_a ih1,trivial⟩ ?_
   refine rT (a:=qz (qx 0) [V.ptr 0 0 0,vi (↑(n+List.countP (fun (e:Entity)↦e.kind==3) (zk (i+1) L)):Int),qy 1 none,vi (↑(zq L):Int),vi (↑(zq L):Int)] [qg 10 (V.agg [vi c.cols,vi c.rows,vi c.players,vi c.window,V.t (T.int zf c.seed),vi r,vi f,qy 1 none,vi made,qy 2 none]) false,qv 9 (zz zm L) none false,qv 15 (zz zn o) none false]) ?_
   (simp_all;try omega)
theorem f_region_grow_no_b (c:Config) (r f made:Int) (L:List Entity) (o:List Cross) (hL:L.length≤1000) (h:below 8 c.seed [3,f,r]≠0∨3≤(L.countP fun e=>e.kind==3)∨Stg.room ⟨L,made,o⟩=false):
  Is cx (.call 68 [.ptr 0 0 0] [.one 10 (stepV c r f made (.all 1 none) (.all 2 none)) false,.arr 9 (L.map zm) none false,.arr 15 (o.map zn) none false])
   ⟨.ret,[],[.one 10 (stepV c r f made (.all 1 none) (.all 2 none)) false,.arr 9 (L.map zm) none false,.arr 15 (o.map zn) none false]⟩:=by
 have hl:=f_grow_loop_b c r f made L o hL L.length 0 0 (by omega) (by omega)
 rw [List.drop_zero,Nat.zero_add] at hl
 have hb:=f_chance_Below 8 c.seed [3,f,r] (by decide) (by simp [small])
 have hrm:=f_region_room c r f ⟨L,made,o⟩ (by unfold small;simp only;omega)
 have hc:(L.countP fun e=>e.kind==3)≤L.length:=List.countP_le_length
 generalize (L.countP fun e=>e.kind==3)=n at*
 generalize below 8 c.seed [3,f,r]=b at*
 generalize Stg.room ⟨L,made,o⟩=rm at*
 by_cases h1:b=0
 ·by_cases h2:3≤n
  ·refine qq ?_
   refine gg [.n (zq (zz zm L)) (zq L),.a _ _,.a _ _,.b (b !=0) false,.ff,.ff,.b (decide ((n:Int)≥3)) true,.tt,.tt,.tt,.tt] ⟨o_n (by simp),o_a hl,o_a hb,f_brn (by assumption),tP,trivial⟩ ?_
   exact ge
  ·have h3:rm=false:=by rcases h with h|h|h;exact absurd h1 h;exact absurd h h2;exact h
   subst h3
   refine qq ?_
   refine gg [.n (zq (zz zm L)) (zq L),.a _ _,.a _ _,.b (b !=0) false,.ff,.ff,.b (decide ((n:Int)≥3)) false,.ff,.a _ _,.b (flats [T.bool false]) true,.ff,.ff,.b (!false) true] ⟨o_n (by simp),o_a hl,o_a hb,f_brn (by assumption),fP,o_a hrm,bK,bK,trivial⟩ ?_
   exact ge
 ·refine qq ?_
  refine gg [.n (zq (zz zm L)) (zq L),.a _ _,.a _ _,.b (b !=0) true,.tt,.tt,.tt,.tt,.tt,.tt,.tt] ⟨o_n (by simp),o_a hl,o_a hb,t_brn (by assumption),trivial⟩ ?_
  exact ge
theorem f_region_grow_yes_a (c:Config) (r f made:Int) (L:List Entity) (hL:L.length≤1000) (hr:0≤r∧r≤16) (hf:0≤f∧f≤10000) (hm:0≤made∧made≤1000) (h: ¬(below 8 c.seed [3,f,r]≠0∨3≤(L.countP fun e=>e.kind==3)∨Stg.room ⟨L,made,[]⟩=false)):
  Is cx (.call 68 [.ptr 0 0 0] [.one 10 (stepV c r f made (.all 1 none) (.fit 15 [])) false,.arr 9 (L.map zm) none false])
   ⟨.ret,[],[.one 10 (stepV c r f (made+1) (.all 2 none) (.fit 15 [])) false,.arr 9 (L.map zm) none true,.arr 9 ((put1 L (gemE c r f made)).map zm) none false]⟩:=by
 have hl:=f_grow_loop_a c r f made L [] hL L.length 0 0 (by omega) (by omega)
 rw [List.drop_zero,Nat.zero_add] at hl
 have hb:=f_chance_Below 8 c.seed [3,f,r] (by decide) (by simp [small])
 have hrm:=f_region_room c r f ⟨L,made,[]⟩ (by unfold small;simp only;omega)
 have hc:(L.countP fun e=>e.kind==3)≤L.length:=List.countP_le_length
 have hpl:=f_region_place c r f 4 5 r ⟨L,made,[]⟩
 have hnum:=f_region_number_a c r f made L [] hr hf hm
 have hput:=f_entity_Put L [gemE c r f made] (by omega) (by simp)
 change Is cx _ ⟨_,_,[.arr 9 ((put1 L (gemE c r f made)).map zm) none false]⟩ at hput
 unfold gemE at*
 generalize (L.countP fun e=>e.kind==3)=n at*
 generalize below 8 c.seed [3,f,r]=b at*
 generalize Stg.room ⟨L,made,[]⟩=rm at*
 generalize numI c r f made=nn at*
 have h1:b=0:=by
  by_cases q:b=0
  ·exact q
  ·exact absurd (Or.inl q) h
 have h2: ¬3≤n:=fun q=>h (.inr (.inl q))
 have h3:rm=true:=by
  cases rm with
  |true=>rfl
  |false=>exact absurd (Or.inr (Or.inr rfl)) h
 subst h1 h3
 clear h
 refine qq ?_
 refine gg [.n (zq (zz zm L)) (zq L),.a _ _,.a _ _,.b (0 !=0) false,.ff,.ff,.b (decide ((n:Int)≥3)) false,.ff,.a _ _,.b (flats [T.bool true]) true,.ff,.ff,.b (!true) false,.a _ _,.b (flats [ti (placeX c r f 4 r),ti (placeY c r f 5 r)]) true] ⟨o_n (by simp),o_a hl,o_a hb,bK,fP,o_a hrm,bK,bK,o_a hpl,bK,trivial⟩ ?_
 refine bO ?_ ?_
 all_goals
  refine gg [.a _ _,.a _ _] ⟨o_a hnum,o_a hput,trivial⟩ ?_
  exact ge
theorem f_region_grow_yes_b (c:Config) (r f made:Int) (L:List Entity) (o:List Cross) (hL:L.length≤1000) (hr:0≤r∧r≤16) (hf:0≤f∧f≤10000) (hm:0≤made∧made≤1000) (h: ¬(below 8 c.seed [3,f,r]≠0∨3≤(L.countP fun e=>e.kind==3)∨Stg.room ⟨L,made,o⟩=false)):
  Is cx (.call 68 [.ptr 0 0 0] [.one 10 (stepV c r f made (.all 1 none) (.all 2 none)) false,.arr 9 (L.map zm) none false,.arr 15 (o.map zn) none false])
   ⟨.ret,[],[.one 10 (stepV c r f (made+1) (.all 3 none) (.all 2 none)) false,.arr 9 (L.map zm) none true,.arr 15 (o.map zn) none false,.arr 9 ((put1 L (gemE c r f made)).map zm) none false]⟩:=by
 have hl:=f_grow_loop_b c r f made L o hL L.length 0 0 (by omega) (by omega)
 rw [List.drop_zero,Nat.zero_add] at hl
 have hb:=f_chance_Below 8 c.seed [3,f,r] (by decide) (by simp [small])
 have hrm:=f_region_room c r f ⟨L,made,o⟩ (by unfold small;simp only;omega)
 have hc:(L.countP fun e=>e.kind==3)≤L.length:=List.countP_le_length
 have hpl:=f_region_place c r f 4 5 r ⟨L,made,o⟩
 have hnum:=f_region_number_b c r f made L o hr hf hm
 have hput:=f_entity_Put L [gemE c r f made] (by omega) (by simp)
 change Is cx _ ⟨_,_,[.arr 9 ((put1 L (gemE c r f made)).map zm) none false]⟩ at hput
 unfold gemE at*
 generalize (L.countP fun e=>e.kind==3)=n at*
 generalize below 8 c.seed [3,f,r]=b at*
 generalize Stg.room ⟨L,made,o⟩=rm at*
 generalize numI c r f made=nn at*
 have h1:b=0:=by
  by_cases q:b=0
  ·exact q
  ·exact absurd (Or.inl q) h
 have h2: ¬3≤n:=fun q=>h (.inr (.inl q))
 have h3:rm=true:=by
  cases rm with
  |true=>rfl
  |false=>exact absurd (Or.inr (Or.inr rfl)) h
 subst h1 h3
 clear h
 refine qq ?_
 refine gg [.n (zq (zz zm L)) (zq L),.a _ _,.a _ _,.b (0 !=0) false,.ff,.ff,.b (decide ((n:Int)≥3)) false,.ff,.a _ _,.b (flats [T.bool true]) true,.ff,.ff,.b (!true) false,.a _ _,.b (flats [ti (placeX c r f 4 r),ti (placeY c r f 5 r)]) true] ⟨o_n (by simp),o_a hl,o_a hb,bK,fP,o_a hrm,bK,bK,o_a hpl,bK,trivial⟩ ?_
 refine bO ?_ ?_
 all_goals
  refine gg [.a _ _,.a _ _] ⟨o_a hnum,o_a hput,trivial⟩ ?_
  exact ge
theorem f_leave_loop_a1 (c:Config) (r f made:Int) (L:List Entity) (hL:L.length≤1000): ∀(d i:Nat) (A:List Entity) (o:List Cross),i+d=L.length→A.length≤i→o.length≤50000+i→
  Is cx (.loop 69 [0,1,0,1] 2 [.ptr 0 0 0,.all 2 none,.all 1 none,vi L.length,vi i] [.one 10 (stepV c r f made (.all 1 none) (.all 3 none)) false,.arr 9 (L.map zm) none false,.arr 9 (A.map zm) none false,.arr 15 (o.map zn) none false])
   ⟨.exit 0,[.ptr 0 0 0,.all 2 none,.all 1 none,vi L.length,vi L.length],[.one 10 (stepV c r f made (.all 1 none) (.all 3 none)) false,.arr 9 (L.map zm) none false,.arr 9 ((A++(L.drop i).filter fun e=>decide (c.of e.x e.y=r)).map zm) none false,.arr 15 ((o++((L.drop i).filter fun e=> !decide (c.of e.x e.y=r)).map (handE c r f)).map zn) none false]⟩:=by
 intro d
 induction d with
 |zero=>
  intro i A o hi hA ho
  rw [drop_end (by omega)]
  refine qq ?_
  refine gg [.b (decide ((i:Int)<(↑(zq L):Int))) false] ⟨fP,trivial⟩ ?_
  refine rT (a:=qz (qx 0) [V.ptr 0 0 0,qy 2 none,qy 1 none,vi (↑(zq L):Int),vi (i:Int)] [qg 10 (V.agg [vi c.cols,vi c.rows,vi c.players,vi c.window,V.t (T.int zf c.seed),vi r,vi f,qy 1 none,vi made,qy 3 none]) false,qv 9 (zz zm L) none false,qv 9 (zz zm A) none false,qv 15 (zz zn o) none false]) ?_
  ((have hq:i=L.length:=by omega);subst hq;simp)
 |succ d ih=>
  intro i A o hi hA ho
  have hlt:i<L.length:=by omega
  have hO:=f_grid_Of c (gt L i).x (gt L i).y
  rw [drop_gt hlt,List.filter_cons,List.filter_cons]
  by_cases h:c.of (gt L i).x (gt L i).y=r
  ·rw [if_pos (by simpa using h),if_neg (by simpa using h),List.append_cons]
   have ih1:=ih (i+1) (A++ [gt L i]) o (by omega) (by simp;omega) (by omega)
   clear ih
   refine qq ?_
   refine gg [.b (decide ((i:Int)<(↑(zq L):Int))) true,.w (0≤(i:Int)),.n (zy (i:Int)) i,.w (i<zq (zz zm L)),.g (zz zm L) i (zm (gt L i)),.a _ _,.b (Config.of c (gt L i).x (gt L i).y !=r) false,.w ((0:Nat)<(72:Nat)),.t (qk 0 [zm (gt L i)]) (qk 0 (zz zm [gt L i])),.t (qk 0 (zz zm A++zz zm [gt L i])) (qk 0 (zz zm (A++ [gt L i]))),.w (room (zq (zz zm (A++ [gt L i]))) (72:Nat)),.i zd ((i:Int)+1) ((↑(i+1):Int)),.a _ _] ⟨tP,oW,nK,o_w (by (simp [room,appendMax];omega)),o_gt rfl (by assumption) (by intro h;cases h),o_a hO,f_brn (by assumption),oW,o_l (nm_cons rfl nm_nil),o_l (nm_app rfl rfl),o_w (by (simp [room,appendMax];omega)),o_i (w64 (by (simp [room,appendMax];omega))),o_a ih1,trivial⟩ ?_
   exact ge
  ·rw [if_neg (by simpa using h),if_pos (by simpa using h),List.map_cons,List.append_cons]
   have ih1:=ih (i+1) A (o++ [handE c r f (gt L i)]) (by omega) (by omega) (by simp;omega)
   have hs:=f_region_send_b c r f made L o ⟨1,0,c.of (gt L i).x (gt L i).y,0,gt L i,0,0⟩ (by omega)
   clear ih
   unfold handE at ih1⊢
   refine qq ?_
   refine gg [.b (decide ((i:Int)<(↑(zq L):Int))) true,.w (0≤(i:Int)),.n (zy (i:Int)) i,.w (i<zq (zz zm L)),.g (zz zm L) i (zm (gt L i)),.a _ _,.b (Config.of c (gt L i).x (gt L i).y !=r) true,.a _ _,.i zd ((i:Int)+1) ((↑(i+1):Int)),.a _ _] ⟨tP,oW,nK,o_w (by (simp;omega)),o_gt rfl (by assumption) (by intro h;cases h),o_a hO,t_brn (by assumption),o_a hs,oI,o_a ih1,trivial⟩ ?_
   exact ge
theorem f_leave_loop_b1 (c:Config) (r f made:Int) (L:List Entity) (hL:L.length≤1000): ∀(d i:Nat) (A:List Entity) (o:List Cross),i+d=L.length→A.length≤i→o.length≤50000+i→
  Is cx (.loop 69 [0,1,0,1] 3 [.ptr 0 0 0,.all 3 none,.all 1 none,vi L.length,vi i] [.one 10 (stepV c r f made (.all 1 none) (.all 4 none)) false,.arr 9 (L.map zm) none false,.dead,.arr 9 (A.map zm) none false,.arr 15 (o.map zn) none false])
   ⟨.exit 0,[.ptr 0 0 0,.all 3 none,.all 1 none,vi L.length,vi L.length],[.one 10 (stepV c r f made (.all 1 none) (.all 4 none)) false,.arr 9 (L.map zm) none false,.dead,.arr 9 ((A++(L.drop i).filter fun e=>decide (c.of e.x e.y=r)).map zm) none false,.arr 15 ((o++((L.drop i).filter fun e=> !decide (c.of e.x e.y=r)).map (handE c r f)).map zn) none false]⟩:=by
 intro d
 induction d with
 |zero=>
  intro i A o hi hA ho
  rw [drop_end (by omega)]
  refine qq ?_
  refine gg [.b (decide ((i:Int)<(↑(zq L):Int))) false] ⟨fP,trivial⟩ ?_
  refine rT (a:=qz (qx 0) [V.ptr 0 0 0,qy 3 none,qy 1 none,vi (↑(zq L):Int),vi (i:Int)] [qg 10 (V.agg [vi c.cols,vi c.rows,vi c.players,vi c.window,V.t (T.int zf c.seed),vi r,vi f,qy 1 none,vi made,qy 4 none]) false,qv 9 (zz zm L) none false,Ob.dead,qv 9 (zz zm A) none false,qv 15 (zz zn o) none false]) ?_
  ((have hq:i=L.length:=by omega);subst hq;simp)
 |succ d ih=>
  intro i A o hi hA ho
  have hlt:i<L.length:=by omega
  have hO:=f_grid_Of c (gt L i).x (gt L i).y
  rw [drop_gt hlt,List.filter_cons,List.filter_cons]
  by_cases h:c.of (gt L i).x (gt L i).y=r
  ·rw [if_pos (by simpa using h),if_neg (by simpa using h),List.append_cons]
   have ih1:=ih (i+1) (A++ [gt L i]) o (by omega) (by simp;omega) (by omega)
   clear ih
   refine qq ?_
   refine gg [.b (decide ((i:Int)<(↑(zq L):Int))) true,.w (0≤(i:Int)),.n (zy (i:Int)) i,.w (i<zq (zz zm L)),.g (zz zm L) i (zm (gt L i)),.a _ _,.b (Config.of c (gt L i).x (gt L i).y !=r) false,.w ((0:Nat)<(72:Nat)),.t (qk 0 [zm (gt L i)]) (qk 0 (zz zm [gt L i])),.t (qk 0 (zz zm A++zz zm [gt L i])) (qk 0 (zz zm (A++ [gt L i]))),.w (room (zq (zz zm (A++ [gt L i]))) (72:Nat)),.i zd ((i:Int)+1) ((↑(i+1):Int)),.a _ _] ⟨tP,oW,nK,o_w (by (simp [room,appendMax];omega)),o_gt rfl (by assumption) (by intro h;cases h),o_a hO,f_brn (by assumption),oW,o_l (nm_cons rfl nm_nil),o_l (nm_app rfl rfl),o_w (by (simp [room,appendMax];omega)),o_i (w64 (by (simp [room,appendMax];omega))),o_a ih1,trivial⟩ ?_
   exact ge
  ·rw [if_neg (by simpa using h),if_pos (by simpa using h),List.map_cons,List.append_cons]
   have ih1:=ih (i+1) A (o++ [handE c r f (gt L i)]) (by omega) (by omega) (by simp;omega)
   have hs:=f_region_send_b c r f made L o ⟨1,0,c.of (gt L i).x (gt L i).y,0,gt L i,0,0⟩ (by omega)
   clear ih
   unfold handE at ih1⊢
   refine qq ?_
   refine gg [.b (decide ((i:Int)<(↑(zq L):Int))) true,.w (0≤(i:Int)),.n (zy (i:Int)) i,.w (i<zq (zz zm L)),.g (zz zm L) i (zm (gt L i)),.a _ _,.b (Config.of c (gt L i).x (gt L i).y !=r) true,.a _ _,.i zd ((i:Int)+1) ((↑(i+1):Int)),.a _ _] ⟨tP,oW,nK,o_w (by (simp;omega)),o_gt rfl (by assumption) (by intro h;cases h),o_a hO,t_brn (by assumption),o_a hs,oI,o_a ih1,trivial⟩ ?_
   exact ge
theorem f_leave_loop_a0 (c:Config) (r f made:Int) (L:List Entity) (hL:L.length≤1000): ∀(d i:Nat) (A:List Entity),i+d=L.length→A.length≤i→
  Is cx (.loop 69 [0,1,0,1] 2 [.ptr 0 0 0,.all 2 none,.all 1 none,vi L.length,vi i] [.one 10 (stepV c r f made (.all 1 none) (.fit 15 [])) false,.arr 9 (L.map zm) none false,.arr 9 (A.map zm) none false])
   (if ((L.drop i).filter fun e=> !decide (c.of e.x e.y=r))= [] then
    ⟨.exit 0,[.ptr 0 0 0,.all 2 none,.all 1 none,vi L.length,vi L.length],[.one 10 (stepV c r f made (.all 1 none) (.fit 15 [])) false,.arr 9 (L.map zm) none false,.arr 9 ((A++(L.drop i).filter fun e=>decide (c.of e.x e.y=r)).map zm) none false]⟩
   else ⟨.exit 0,[.ptr 0 0 0,.all 2 none,.all 1 none,vi L.length,vi L.length],[.one 10 (stepV c r f made (.all 1 none) (.all 3 none)) false,.arr 9 (L.map zm) none false,.arr 9 ((A++(L.drop i).filter fun e=>decide (c.of e.x e.y=r)).map zm) none false,.arr 15 ((((L.drop i).filter fun e=> !decide (c.of e.x e.y=r)).map (handE c r f)).map zn) none false]⟩):=by
 intro d
 induction d with
 |zero=>
  intro i A hi hA
  rw [drop_end (by omega),List.filter_nil,List.filter_nil,if_pos rfl]
  refine qq ?_
  refine gg [.b (decide ((i:Int)<(↑(zq L):Int))) false] ⟨fP,trivial⟩ ?_
  refine rT (a:=qz (qx 0) [V.ptr 0 0 0,qy 2 none,qy 1 none,vi (↑(zq L):Int),vi (i:Int)] [qg 10 (V.agg [vi c.cols,vi c.rows,vi c.players,vi c.window,V.t (T.int zf c.seed),vi r,vi f,qy 1 none,vi made,V.fit 15 []]) false,qv 9 (zz zm L) none false,qv 9 (zz zm A) none false]) ?_
  ((have hq:i=L.length:=by omega);subst hq;simp)
 |succ d ih=>
  intro i A hi hA
  have hlt:i<L.length:=by omega
  have hO:=f_grid_Of c (gt L i).x (gt L i).y
  rw [drop_gt hlt,List.filter_cons,List.filter_cons]
  by_cases h:c.of (gt L i).x (gt L i).y=r
  ·rw [if_pos (c:=decide (c.of (gt L i).x (gt L i).y=r)=true) (by simpa using h),if_neg (c:=(!decide (c.of (gt L i).x (gt L i).y=r))=true) (by simpa using h),List.append_cons]
   have ih1:=ih (i+1) (A++ [gt L i]) (by omega) (by simp;omega)
   clear ih
   split at ih1
   ·rename_i hq
    rw [if_pos hq]
    refine qq ?_
    refine gg [.b (decide ((i:Int)<(↑(zq L):Int))) true,.w (0≤(i:Int)),.n (zy (i:Int)) i,.w (i<zq (zz zm L)),.g (zz zm L) i (zm (gt L i)),.a _ _,.b (Config.of c (gt L i).x (gt L i).y !=r) false,.w ((0:Nat)<(72:Nat)),.t (qk 0 [zm (gt L i)]) (qk 0 (zz zm [gt L i])),.t (qk 0 (zz zm A++zz zm [gt L i])) (qk 0 (zz zm (A++ [gt L i]))),.w (room (zq (zz zm (A++ [gt L i]))) (72:Nat)),.i zd ((i:Int)+1) ((↑(i+1):Int)),.a _ _] ⟨tP,oW,nK,o_w (by (simp [room,appendMax];omega)),o_gt rfl (by assumption) (by intro h;cases h),o_a hO,f_brn (by assumption),oW,o_l (nm_cons rfl nm_nil),o_l (nm_app rfl rfl),o_w (by (simp [room,appendMax];omega)),o_i (w64 (by (simp [room,appendMax];omega))),o_a ih1,trivial⟩ ?_
    exact ge
   ·rename_i hq
    rw [if_neg hq]
    refine qq ?_
    refine gg [.b (decide ((i:Int)<(↑(zq L):Int))) true,.w (0≤(i:Int)),.n (zy (i:Int)) i,.w (i<zq (zz zm L)),.g (zz zm L) i (zm (gt L i)),.a _ _,.b (Config.of c (gt L i).x (gt L i).y !=r) false,.w ((0:Nat)<(72:Nat)),.t (qk 0 [zm (gt L i)]) (qk 0 (zz zm [gt L i])),.t (qk 0 (zz zm A++zz zm [gt L i])) (qk 0 (zz zm (A++ [gt L i]))),.w (room (zq (zz zm (A++ [gt L i]))) (72:Nat)),.i zd ((i:Int)+1) ((↑(i+1):Int)),.a _ _] ⟨tP,oW,nK,o_w (by (simp [room,appendMax];omega)),o_gt rfl (by assumption) (by intro h;cases h),o_a hO,f_brn (by assumption),oW,o_l (nm_cons rfl nm_nil),o_l (nm_app rfl rfl),o_w (by (simp [room,appendMax];omega)),o_i (w64 (by (simp [room,appendMax];omega))),o_a ih1,trivial⟩ ?_
    exact ge
  ·rw [if_neg (c:=decide (c.of (gt L i).x (gt L i).y=r)=true) (by simpa using h),if_pos (c:=(!decide (c.of (gt L i).x (gt L i).y=r))=true) (by simpa using h),if_neg (by simp),List.map_cons]
   have ih1:=f_leave_loop_a1 c r f made L hL d (i+1) A [handE c r f (gt L i)] (by omega) (by omega) (by simp;omega)
   have hs:=f_region_send_a c r f made L ⟨1,0,c.of (gt L i).x (gt L i).y,0,gt L i,0,0⟩
   clear ih
   unfold handE at ih1⊢
   refine qq ?_
   refine gg [.b (decide ((i:Int)<(↑(zq L):Int))) true,.w (0≤(i:Int)),.n (zy (i:Int)) i,.w (i<zq (zz zm L)),.g (zz zm L) i (zm (gt L i)),.a _ _,.b (Config.of c (gt L i).x (gt L i).y !=r) true,.a _ _,.i zd ((i:Int)+1) ((↑(i+1):Int)),.a _ _] ⟨tP,oW,nK,o_w (by (simp;omega)),o_gt rfl (by assumption) (by intro h;cases h),o_a hO,t_brn (by assumption),o_a hs,oI,o_a ih1,trivial⟩ ?_
   exact ge
theorem f_leave_loop_b0 (c:Config) (r f made:Int) (L:List Entity) (hL:L.length≤1000) (o:List Cross) (ho:o.length≤50000): ∀(d i:Nat) (A:List Entity),i+d=L.length→A.length≤i→
  Is cx (.loop 69 [0,1,0,1] 3 [.ptr 0 0 0,.all 3 none,.all 1 none,vi L.length,vi i] [.one 10 (stepV c r f made (.all 1 none) (.all 2 none)) false,.arr 9 (L.map zm) none false,.arr 15 (o.map zn) none false,.arr 9 (A.map zm) none false])
   (if ((L.drop i).filter fun e=> !decide (c.of e.x e.y=r))= [] then
    ⟨.exit 0,[.ptr 0 0 0,.all 3 none,.all 1 none,vi L.length,vi L.length],[.one 10 (stepV c r f made (.all 1 none) (.all 2 none)) false,.arr 9 (L.map zm) none false,.arr 15 (o.map zn) none false,.arr 9 ((A++(L.drop i).filter fun e=>decide (c.of e.x e.y=r)).map zm) none false]⟩
   else ⟨.exit 0,[.ptr 0 0 0,.all 3 none,.all 1 none,vi L.length,vi L.length],[.one 10 (stepV c r f made (.all 1 none) (.all 4 none)) false,.arr 9 (L.map zm) none false,.dead,.arr 9 ((A++(L.drop i).filter fun e=>decide (c.of e.x e.y=r)).map zm) none false,.arr 15 ((o++((L.drop i).filter fun e=> !decide (c.of e.x e.y=r)).map (handE c r f)).map zn) none false]⟩):=by
 intro d
 induction d with
 |zero=>
  intro i A hi hA
  rw [drop_end (by omega),List.filter_nil,List.filter_nil,if_pos rfl]
  refine qq ?_
  refine gg [.b (decide ((i:Int)<(↑(zq L):Int))) false] ⟨fP,trivial⟩ ?_
  refine rT (a:=qz (qx 0) [V.ptr 0 0 0,qy 3 none,qy 1 none,vi (↑(zq L):Int),vi (i:Int)] [qg 10 (V.agg [vi c.cols,vi c.rows,vi c.players,vi c.window,V.t (T.int zf c.seed),vi r,vi f,qy 1 none,vi made,qy 2 none]) false,qv 9 (zz zm L) none false,qv 15 (zz zn o) none false,qv 9 (zz zm A) none false]) ?_
  ((have hq:i=L.length:=by omega);subst hq;simp)
 |succ d ih=>
  intro i A hi hA
  have hlt:i<L.length:=by omega
  have hO:=f_grid_Of c (gt L i).x (gt L i).y
  rw [drop_gt hlt,List.filter_cons,List.filter_cons]
  by_cases h:c.of (gt L i).x (gt L i).y=r
  ·rw [if_pos (c:=decide (c.of (gt L i).x (gt L i).y=r)=true) (by simpa using h),if_neg (c:=(!decide (c.of (gt L i).x (gt L i).y=r))=true) (by simpa using h),List.append_cons]
   have ih1:=ih (i+1) (A++ [gt L i]) (by omega) (by simp;omega)
   clear ih
   split at ih1
   ·rename_i hq
    rw [if_pos hq]
    refine qq ?_
    refine gg [.b (decide ((i:Int)<(↑(zq L):Int))) true,.w (0≤(i:Int)),.n (zy (i:Int)) i,.w (i<zq (zz zm L)),.g (zz zm L) i (zm (gt L i)),.a _ _,.b (Config.of c (gt L i).x (gt L i).y !=r) false,.w ((0:Nat)<(72:Nat)),.t (qk 0 [zm (gt L i)]) (qk 0 (zz zm [gt L i])),.t (qk 0 (zz zm A++zz zm [gt L i])) (qk 0 (zz zm (A++ [gt L i]))),.w (room (zq (zz zm (A++ [gt L i]))) (72:Nat)),.i zd ((i:Int)+1) ((↑(i+1):Int)),.a _ _] ⟨tP,oW,nK,o_w (by (simp [room,appendMax];omega)),o_gt rfl (by assumption) (by intro h;cases h),o_a hO,f_brn (by assumption),oW,o_l (nm_cons rfl nm_nil),o_l (nm_app rfl rfl),o_w (by (simp [room,appendMax];omega)),o_i (w64 (by (simp [room,appendMax];omega))),o_a ih1,trivial⟩ ?_
    exact ge
   ·rename_i hq
    rw [if_neg hq]
    refine qq ?_
    refine gg [.b (decide ((i:Int)<(↑(zq L):Int))) true,.w (0≤(i:Int)),.n (zy (i:Int)) i,.w (i<zq (zz zm L)),.g (zz zm L) i (zm (gt L i)),.a _ _,.b (Config.of c (gt L i).x (gt L i).y !=r) false,.w ((0:Nat)<(72:Nat)),.t (qk 0 [zm (gt L i)]) (qk 0 (zz zm [gt L i])),.t (qk 0 (zz zm A++zz zm [gt L i])) (qk 0 (zz zm (A++ [gt L i]))),.w (room (zq (zz zm (A++ [gt L i]))) (72:Nat)),.i zd ((i:Int)+1) ((↑(i+1):Int)),.a _ _] ⟨tP,oW,nK,o_w (by (simp [room,appendMax];omega)),o_gt rfl (by assumption) (by intro h;cases h),o_a hO,f_brn (by assumption),oW,o_l (nm_cons rfl nm_nil),o_l (nm_app rfl rfl),o_w (by (simp [room,appendMax];omega)),o_i (w64 (by (simp [room,appendMax];omega))),o_a ih1,trivial⟩ ?_
    exact ge
  ·rw [if_neg (c:=decide (c.of (gt L i).x (gt L i).y=r)=true) (by simpa using h),if_pos (c:=(!decide (c.of (gt L i).x (gt L i).y=r))=true) (by simpa using h),if_neg (by simp),List.map_cons,List.append_cons]
   have ih1:=f_leave_loop_b1 c r f made L hL d (i+1) A (o++ [handE c r f (gt L i)]) (by omega) (by omega) (by simp;omega)
   have hs:=f_region_send_b c r f made L o ⟨1,0,c.of (gt L i).x (gt L i).y,0,gt L i,0,0⟩ (by omega)
   clear ih
   unfold handE at ih1⊢
   refine qq ?_
   refine gg [.b (decide ((i:Int)<(↑(zq L):Int))) true,.w (0≤(i:Int)),.n (zy (i:Int)) i,.w (i<zq (zz zm L)),.g (zz zm L) i (zm (gt L i)),.a _ _,.b (Config.of c (gt L i).x (gt L i).y !=r) true,.a _ _,.i zd ((i:Int)+1) ((↑(i+1):Int)),.a _ _] ⟨tP,oW,nK,o_w (by (simp;omega)),o_gt rfl (by assumption) (by intro h;cases h),o_a hO,t_brn (by assumption),o_a hs,oI,o_a ih1,trivial⟩ ?_
   exact ge
theorem f_region_leave_a (c:Config) (r f made:Int) (L:List Entity) (hL:L.length≤1000):
  Is cx (.call 69 [.ptr 0 0 0] [.one 10 (stepV c r f made (.all 1 none) (.fit 15 [])) false,.arr 9 (L.map zm) none false])
   (if (leaveS c r f ⟨L,made,[]⟩).out= [] then ⟨.ret,[],[.one 10 (stepV c r f made (.all 2 none) (.fit 15 [])) false,.arr 9 (L.map zm) none false,.arr 9 ((leaveS c r f ⟨L,made,[]⟩).l.map zm) none false]⟩
    else ⟨.ret,[],[.one 10 (stepV c r f made (.all 2 none) (.all 3 none)) false,.arr 9 (L.map zm) none false,.arr 9 ((leaveS c r f ⟨L,made,[]⟩).l.map zm) none false,.arr 15 ((leaveS c r f ⟨L,made,[]⟩).out.map zn) none false]⟩):=by
 have h:=f_leave_loop_a0 c r f made L hL L.length 0 [] (by omega) (by simp)
 simp only [List.drop_zero,List.nil_append] at h
 unfold leaveS
 simp only [List.nil_append,List.map_eq_nil_iff]
 generalize (L.filter fun e=>decide (c.of e.x e.y=r))=X at*
 generalize (L.filter fun e=> !decide (c.of e.x e.y=r))=Y at*
 generalize Y.map (handE c r f)=Z at*
 split at h
 ·rename_i hq
  rw [if_pos hq]
  refine qq ?_
  refine gg [.n (zq (zz zm L)) (zq L),.a _ _] ⟨o_n (by simp),o_a h,trivial⟩ ?_
  exact ge
 ·rename_i hq
  rw [if_neg hq]
  refine qq ?_
  refine gg [.n (zq (zz zm L)) (zq L),.a _ _] ⟨o_n (by simp),o_a h,trivial⟩ ?_
  exact ge
theorem f_region_leave_b (c:Config) (r f made:Int) (L:List Entity) (o:List Cross) (hL:L.length≤1000) (ho:o.length≤50000):
  Is cx (.call 69 [.ptr 0 0 0] [.one 10 (stepV c r f made (.all 1 none) (.all 2 none)) false,.arr 9 (L.map zm) none false,.arr 15 (o.map zn) none false])
   (if (L.filter fun e=> !decide (c.of e.x e.y=r))= [] then ⟨.ret,[],[.one 10 (stepV c r f made (.all 3 none) (.all 2 none)) false,.arr 9 (L.map zm) none false,.arr 15 (o.map zn) none false,.arr 9 ((leaveS c r f ⟨L,made,o⟩).l.map zm) none false]⟩
    else ⟨.ret,[],[.one 10 (stepV c r f made (.all 3 none) (.all 4 none)) false,.arr 9 (L.map zm) none false,.dead,.arr 9 ((leaveS c r f ⟨L,made,o⟩).l.map zm) none false,.arr 15 ((leaveS c r f ⟨L,made,o⟩).out.map zn) none false]⟩):=by
 have h:=f_leave_loop_b0 c r f made L hL o ho L.length 0 [] (by omega) (by simp)
 simp only [List.drop_zero,List.nil_append] at h
 unfold leaveS
 simp only
 generalize (L.filter fun e=>decide (c.of e.x e.y=r))=X at*
 generalize (L.filter fun e=> !decide (c.of e.x e.y=r))=Y at*
 generalize o++Y.map (handE c r f)=Z at*
 split at h
 ·rename_i hq
  rw [if_pos hq]
  refine qq ?_
  refine gg [.n (zq (zz zm L)) (zq L),.a _ _] ⟨o_n (by simp),o_a h,trivial⟩ ?_
  exact ge
 ·rename_i hq
  rw [if_neg hq]
  refine qq ?_
  refine gg [.n (zq (zz zm L)) (zq L),.a _ _] ⟨o_n (by simp),o_a h,trivial⟩ ?_
  exact ge
end Go.Eva.S4
namespace Go.Eva.S4
theorem f_region_Step_no (c:Config) (r:Int) (s:Region) (ins:List Input) (inbox:List Cross) (hn:small s.ents) (hi:small ins) (hb:small inbox) (h:askedE c r s ins inbox≠0):
  Is cx (.call 23 [.t c.enc,vi r,.t s.enc,.t (.sl 3 (ins.map zr)),.t (.sl 15 (inbox.map zn))] []) ⟨.ret,[.t Region.zero.enc,.t (.sl 15 []),vi (askedE c r s ins inbox)],[]⟩:=by
 have ha:=f_region_asked c r s ins inbox hn hi hb
 generalize askedE c r s ins inbox=e at*
 obtain ⟨f,l⟩:=s
 refine qq ?_
 refine gg [.a _ _,.b (e !=0) true] ⟨o_a ha,t_brn (by assumption),trivial⟩ ?_
 exact ge
theorem f_region_Step_yes (c:Config) (r:Int) (s:Region) (ins:List Input) (inbox:List Cross) (hn:s.ents.length≤100000) (hi:small ins) (hb:inbox.length≤100000) (h:askedE c r s ins inbox=0):
  Is cx (.call 23 [.t c.enc,vi r,.t s.enc,.t (.sl 3 (ins.map zr)),.t (.sl 15 (inbox.map zn))] []) ⟨.ret,[.t (zt ⟨s.frame+1,(stepS c r s ins inbox).l⟩),.t (.sl 15 ((sortS z7 (stepS c r s ins inbox).out).map zn)),vi 0],[]⟩:=by
 have hfine:=asked_fine h
 have hrc:=Config.is_right hfine.is
 have ha:=f_region_asked c r s ins inbox (by unfold small;omega) hi (by unfold small;omega)
 rw [h] at ha
 have hA:=f_region_Arrive c r s inbox hn hb
 have hsane:=hfine.sane
 obtain ⟨hst1,hst2⟩:=steer_ok hfine
 have hr:=Config.is_le hfine.is
 have hreg:= @Config.regions_le c
 have hf:=hfine.frame
 have hst:=f_region_steer c r s.frame ins (arriveL s.ents inbox) hi (by omega) (by omega) (Nat.le_trans (hsane.len hrc) (by omega)) fun p hp=>by
  have hpr:=(hsane.ents p hp).1
  refine ⟨?_,fun hk=> ?_⟩
  ·have:=right_age hpr;omega
  ·have:=Entity.right_player hpr hk
   have:=hfine.len
   omega
 unfold stepS restS
 have hnear:=near_pos hfine.is
 generalize steerS c r s.frame ins ⟨arriveL s.ents inbox,0,[]⟩=S at*
 generalize arriveL s.ents inbox=L at*
 obtain ⟨A,made,o⟩:=S
 simp only at hst hst1 hst2⊢
 subst hst2
 have hmade:=hst1.made
 simp only at hmade
 have hAs:=hst1.sane
 simp only at hAs
 have hAl:=hAs.len hrc
 have hmv:=f_region_move c r s.frame made A (by unfold small;omega) fun e he=>by have:=right_age (hAs.ents e he).1;omega
 obtain ⟨hM,hMr⟩:=move_moved hAs
 have hMl:=hM.len hrc
 have hHm:=(hits_moved (inbox:=inbox) hM).1
 have hHl:=hHm.len hrc
 have hsh:=f_hitting_Shots (moveL c A) (by unfold small;omega)
 have h1l:(shotsL (moveL c A)).length≤30:=by
  have:=(shots_hit (l:=moveL c A) fun e he _=>right_low (hMr e he)).moved hM
  exact this.len hrc
 have hge:=f_hitting_Gems (shotsL (moveL c A)) (by unfold small;omega)
 have h2l:(gemsL (shotsL (moveL c A))).length≤30:=by
  have k1:=shots_hit (l:=moveL c A) fun e he _=>right_low (hMr e he)
  have:=(gems_hit (l:=shotsL (moveL c A)) k1.low).moved (k1.moved hM)
  exact this.len hrc
 have hbl:=f_hitting_Blasts (gemsL (shotsL (moveL c A))) inbox (by unfold small;omega) (by unfold small;omega)
 clear hHm hM hMr hst1 hsane hfine h hAs
 generalize blastsL (gemsL (shotsL (moveL c A))) inbox=H at*
 generalize gemsL (shotsL (moveL c A))=M2 at*
 generalize shotsL (moveL c A)=M1 at*
 generalize moveL c A=M at*
 obtain ⟨f,l⟩:=s
 simp only at*
 by_cases hfl:fallenL H= []
 ·have hfa:=f_region_fall_a c r f made H (by omega) hfl
  have e1:fallS c r f ⟨H,made,[]⟩=⟨H,made,[]⟩:=by unfold fallS;simp only;rw [hfl];rfl
  rw [e1]
  by_cases hg:below 8 c.seed [3,f,r]≠0∨3≤(H.countP fun e=>e.kind==3)∨Stg.room ⟨H,made,[]⟩=false
  ·have hgr:=f_region_grow_no_a c r f made H [] (by omega) hg
   have e2:growS c r f ⟨H,made,[]⟩=⟨H,made,[]⟩:=by unfold growS;rw [if_pos hg]
   rw [e2]
   clear e1 e2 hg hfl
   have hlv:=f_region_leave_a c r f made H (by omega)
   have hso:=f_cross_Sort_1 (leaveS c r f ⟨H,made,[]⟩).out (by have:= @leave_len c r f ⟨H,made,[]⟩;unfold small;simp only [List.length_nil] at this;omega)
   split at hlv
   ·rename_i hq
    rw [hq] at hso⊢
    change Is cx _ ⟨_,[_,.t (.sl 15 []),_],_⟩
    replace hso:=f_cross_Sort_1 [] (by simp [small])
    clear hq
    generalize (leaveS c r f ⟨H,made,[]⟩).l=Z at*
    rcases hst with hst|⟨X,hst⟩
    ·refine qq ?_
     refine gg [.a _ _,.b (0 !=0) false,.a _ _,.a _ _,.a _ _,.a _ _,.a _ _,.a _ _,.a _ _,.a _ _,.a _ _] ⟨o_a ha,bK,o_a hA,o_a hst,o_a hmv,o_a hsh,o_a hge,o_a hbl,o_a hfa,o_a hgr,o_a hlv,trivial⟩ ?_
     refine gg [.i zd (f+1) (f+1),.a _ _] ⟨oI,o_a hso,trivial⟩ ?_
     exact ge
    ·refine qq ?_
     refine gg [.a _ _,.b (0 !=0) false,.a _ _,.a _ _,.a _ _,.a _ _,.a _ _,.a _ _,.a _ _,.a _ _,.a _ _] ⟨o_a ha,bK,o_a hA,o_a hst,o_a hmv,o_a hsh,o_a hge,o_a hbl,o_a hfa,o_a hgr,o_a hlv,trivial⟩ ?_
     refine gg [.i zd (f+1) (f+1),.a _ _] ⟨oI,o_a hso,trivial⟩ ?_
     exact ge
   ·rename_i hq
    clear hq
    generalize (leaveS c r f ⟨H,made,[]⟩).l=Z at*
    generalize hoo:(leaveS c r f ⟨H,made,[]⟩).out=oo at*
    generalize sortS z7 oo=so at*
    rcases hst with hst|⟨X,hst⟩
    ·refine qq ?_
     refine gg [.a _ _,.b (0 !=0) false,.a _ _,.a _ _,.a _ _,.a _ _,.a _ _,.a _ _,.a _ _,.a _ _,.a _ _] ⟨o_a ha,bK,o_a hA,o_a hst,o_a hmv,o_a hsh,o_a hge,o_a hbl,o_a hfa,o_a hgr,o_a hlv,trivial⟩ ?_
     refine gg [.i zd (f+1) (f+1),.s (qk 15 (zz zn oo)),.a _ _] ⟨oI,o_a hso,trivial⟩ ?_
     exact ge
    ·refine qq ?_
     refine gg [.a _ _,.b (0 !=0) false,.a _ _,.a _ _,.a _ _,.a _ _,.a _ _,.a _ _,.a _ _,.a _ _,.a _ _] ⟨o_a ha,bK,o_a hA,o_a hst,o_a hmv,o_a hsh,o_a hge,o_a hbl,o_a hfa,o_a hgr,o_a hlv,trivial⟩ ?_
     refine gg [.i zd (f+1) (f+1),.s (qk 15 (zz zn oo)),.a _ _] ⟨oI,o_a hso,trivial⟩ ?_
     exact ge
  ·have hgr:=f_region_grow_yes_a c r f made H (by omega) (by omega) (by omega) (by omega) hg
   have e2:growS c r f ⟨H,made,[]⟩=⟨put1 H (gemE c r f made),made+1,[]⟩:=by unfold growS;rw [if_neg hg]
   rw [e2]
   clear e1 e2 hg hfl
   have hpl:=(@put1_len H (gemE c r f made)).2
   generalize put1 H (gemE c r f made)=G at*
   have hlv:=f_region_leave_a c r f (made+1) G (by omega)
   have hso:=f_cross_Sort_1 (leaveS c r f ⟨G,made+1,[]⟩).out (by have:= @leave_len c r f ⟨G,made+1,[]⟩;unfold small;simp only [List.length_nil] at this;omega)
   split at hlv
   ·rename_i hq
    rw [hq] at hso⊢
    change Is cx _ ⟨_,[_,.t (.sl 15 []),_],_⟩
    replace hso:=f_cross_Sort_1 [] (by simp [small])
    clear hq
    generalize (leaveS c r f ⟨G,made+1,[]⟩).l=Z at*
    rcases hst with hst|⟨X,hst⟩
    ·refine qq ?_
     refine gg [.a _ _,.b (0 !=0) false,.a _ _,.a _ _,.a _ _,.a _ _,.a _ _,.a _ _,.a _ _,.a _ _,.a _ _] ⟨o_a ha,bK,o_a hA,o_a hst,o_a hmv,o_a hsh,o_a hge,o_a hbl,o_a hfa,o_a hgr,o_a hlv,trivial⟩ ?_
     refine gg [.i zd (f+1) (f+1),.a _ _] ⟨oI,o_a hso,trivial⟩ ?_
     exact ge
    ·refine qq ?_
     refine gg [.a _ _,.b (0 !=0) false,.a _ _,.a _ _,.a _ _,.a _ _,.a _ _,.a _ _,.a _ _,.a _ _,.a _ _] ⟨o_a ha,bK,o_a hA,o_a hst,o_a hmv,o_a hsh,o_a hge,o_a hbl,o_a hfa,o_a hgr,o_a hlv,trivial⟩ ?_
     refine gg [.i zd (f+1) (f+1),.a _ _] ⟨oI,o_a hso,trivial⟩ ?_
     exact ge
   ·rename_i hq
    clear hq
    generalize (leaveS c r f ⟨G,made+1,[]⟩).l=Z at*
    generalize hoo:(leaveS c r f ⟨G,made+1,[]⟩).out=oo at*
    generalize sortS z7 oo=so at*
    rcases hst with hst|⟨X,hst⟩
    ·refine qq ?_
     refine gg [.a _ _,.b (0 !=0) false,.a _ _,.a _ _,.a _ _,.a _ _,.a _ _,.a _ _,.a _ _,.a _ _,.a _ _] ⟨o_a ha,bK,o_a hA,o_a hst,o_a hmv,o_a hsh,o_a hge,o_a hbl,o_a hfa,o_a hgr,o_a hlv,trivial⟩ ?_
     refine gg [.i zd (f+1) (f+1),.s (qk 15 (zz zn oo)),.a _ _] ⟨oI,o_a hso,trivial⟩ ?_
     exact ge
    ·refine qq ?_
     refine gg [.a _ _,.b (0 !=0) false,.a _ _,.a _ _,.a _ _,.a _ _,.a _ _,.a _ _,.a _ _,.a _ _,.a _ _] ⟨o_a ha,bK,o_a hA,o_a hst,o_a hmv,o_a hsh,o_a hge,o_a hbl,o_a hfa,o_a hgr,o_a hlv,trivial⟩ ?_
     refine gg [.i zd (f+1) (f+1),.s (qk 15 (zz zn oo)),.a _ _] ⟨oI,o_a hso,trivial⟩ ?_
     exact ge
 ·have hfa:=f_region_fall_b c r f made H (by omega) hnear hfl
  have hlen:(fallS c r f ⟨H,made,[]⟩).l.length=H.length∧(fallS c r f ⟨H,made,[]⟩).made=made∧(fallS c r f ⟨H,made,[]⟩).out.length≤1000:=by
   obtain ⟨k1,k2,k3⟩:= @fall_len c r f (fallenL H) ⟨H,made,[]⟩
   refine ⟨k1,k2,?_⟩
   change ((fallenL H).foldl (fall1 c r f) ⟨H,made,[]⟩).out.length≤1000
   rw [k3]
   have hfn:= @fallen_len H
   have hns:= @near_small c r
   have:=Nat.mul_le_mul (Nat.le_trans hfn hHl) hns
   simp only [List.length_nil]
   omega
  generalize fallS c r f ⟨H,made,[]⟩=F at*
  obtain ⟨FL,fm,o⟩:=F
  simp only at hlen hfa⊢
  obtain ⟨hl1,rfl,hl3⟩:=hlen
  by_cases hg:below 8 c.seed [3,f,r]≠0∨3≤(FL.countP fun e=>e.kind==3)∨Stg.room ⟨FL,fm,o⟩=false
  ·have hgr:=f_region_grow_no_b c r f fm FL o (by omega) hg
   have e2:growS c r f ⟨FL,fm,o⟩=⟨FL,fm,o⟩:=by unfold growS;rw [if_pos hg]
   rw [e2]
   clear e2 hg hfl
   have hlv:=f_region_leave_b c r f fm FL o (by omega) (by omega)
   have hso:=f_cross_Sort_1 (leaveS c r f ⟨FL,fm,o⟩).out (by have:= @leave_len c r f ⟨FL,fm,o⟩;unfold small;simp only at this;omega)
   split at hlv
   ·rename_i hq
    rw [show (leaveS c r f ⟨FL,fm,o⟩).out=o from leave_none hq] at hso⊢
    clear hq
    generalize (leaveS c r f ⟨FL,fm,o⟩).l=Z at*
    generalize sortS z7 o=so at*
    rcases hst with hst|⟨X,hst⟩
    ·refine qq ?_
     refine gg [.a _ _,.b (0 !=0) false,.a _ _,.a _ _,.a _ _,.a _ _,.a _ _,.a _ _,.a _ _,.a _ _,.a _ _] ⟨o_a ha,bK,o_a hA,o_a hst,o_a hmv,o_a hsh,o_a hge,o_a hbl,o_a hfa,o_a hgr,o_a hlv,trivial⟩ ?_
     refine gg [.i zd (f+1) (f+1),.s (qk 15 (zz zn o)),.a _ _] ⟨oI,o_a hso,trivial⟩ ?_
     exact ge
    ·refine qq ?_
     refine gg [.a _ _,.b (0 !=0) false,.a _ _,.a _ _,.a _ _,.a _ _,.a _ _,.a _ _,.a _ _,.a _ _,.a _ _] ⟨o_a ha,bK,o_a hA,o_a hst,o_a hmv,o_a hsh,o_a hge,o_a hbl,o_a hfa,o_a hgr,o_a hlv,trivial⟩ ?_
     refine gg [.i zd (f+1) (f+1),.s (qk 15 (zz zn o)),.a _ _] ⟨oI,o_a hso,trivial⟩ ?_
     exact ge
   ·rename_i hq
    clear hq
    generalize (leaveS c r f ⟨FL,fm,o⟩).l=Z at*
    generalize hoo:(leaveS c r f ⟨FL,fm,o⟩).out=oo at*
    generalize sortS z7 oo=so at*
    rcases hst with hst|⟨X,hst⟩
    ·refine qq ?_
     refine gg [.a _ _,.b (0 !=0) false,.a _ _,.a _ _,.a _ _,.a _ _,.a _ _,.a _ _,.a _ _,.a _ _,.a _ _] ⟨o_a ha,bK,o_a hA,o_a hst,o_a hmv,o_a hsh,o_a hge,o_a hbl,o_a hfa,o_a hgr,o_a hlv,trivial⟩ ?_
     refine gg [.i zd (f+1) (f+1),.s (qk 15 (zz zn oo)),.a _ _] ⟨oI,o_a hso,trivial⟩ ?_
     exact ge
    ·refine qq ?_
     refine gg [.a _ _,.b (0 !=0) false,.a _ _,.a _ _,.a _ _,.a _ _,.a _ _,.a _ _,.a _ _,.a _ _,.a _ _] ⟨o_a ha,bK,o_a hA,o_a hst,o_a hmv,o_a hsh,o_a hge,o_a hbl,o_a hfa,o_a hgr,o_a hlv,trivial⟩ ?_
     refine gg [.i zd (f+1) (f+1),.s (qk 15 (zz zn oo)),.a _ _] ⟨oI,o_a hso,trivial⟩ ?_
     exact ge
  ·have hgr:=f_region_grow_yes_b c r f fm FL o (by omega) (by omega) (by omega) (by omega) hg
   have e2:growS c r f ⟨FL,fm,o⟩=⟨put1 FL (gemE c r f fm),fm+1,o⟩:=by unfold growS;rw [if_neg hg]
   rw [e2]
   clear e2 hg hfl
   have hpl:=(@put1_len FL (gemE c r f fm)).2
   generalize put1 FL (gemE c r f fm)=G at*
   have hlv:=f_region_leave_b c r f (fm+1) G o (by omega) (by omega)
   have hso:=f_cross_Sort_1 (leaveS c r f ⟨G,fm+1,o⟩).out (by have:= @leave_len c r f ⟨G,fm+1,o⟩;unfold small;simp only at this;omega)
   split at hlv
   ·rename_i hq
    rw [show (leaveS c r f ⟨G,fm+1,o⟩).out=o from leave_none hq] at hso⊢
    clear hq
    generalize (leaveS c r f ⟨G,fm+1,o⟩).l=Z at*
    generalize sortS z7 o=so at*
    rcases hst with hst|⟨X,hst⟩
    ·refine qq ?_
     refine gg [.a _ _,.b (0 !=0) false,.a _ _,.a _ _,.a _ _,.a _ _,.a _ _,.a _ _,.a _ _,.a _ _,.a _ _] ⟨o_a ha,bK,o_a hA,o_a hst,o_a hmv,o_a hsh,o_a hge,o_a hbl,o_a hfa,o_a hgr,o_a hlv,trivial⟩ ?_
     refine gg [.i zd (f+1) (f+1),.s (qk 15 (zz zn o)),.a _ _] ⟨oI,o_a hso,trivial⟩ ?_
     exact ge
    ·refine qq ?_
     refine gg [.a _ _,.b (0 !=0) false,.a _ _,.a _ _,.a _ _,.a _ _,.a _ _,.a _ _,.a _ _,.a _ _,.a _ _] ⟨o_a ha,bK,o_a hA,o_a hst,o_a hmv,o_a hsh,o_a hge,o_a hbl,o_a hfa,o_a hgr,o_a hlv,trivial⟩ ?_
     refine gg [.i zd (f+1) (f+1),.s (qk 15 (zz zn o)),.a _ _] ⟨oI,o_a hso,trivial⟩ ?_
     exact ge
   ·rename_i hq
    clear hq
    generalize (leaveS c r f ⟨G,fm+1,o⟩).l=Z at*
    generalize hoo:(leaveS c r f ⟨G,fm+1,o⟩).out=oo at*
    generalize sortS z7 oo=so at*
    rcases hst with hst|⟨X,hst⟩
    ·refine qq ?_
     refine gg [.a _ _,.b (0 !=0) false,.a _ _,.a _ _,.a _ _,.a _ _,.a _ _,.a _ _,.a _ _,.a _ _,.a _ _] ⟨o_a ha,bK,o_a hA,o_a hst,o_a hmv,o_a hsh,o_a hge,o_a hbl,o_a hfa,o_a hgr,o_a hlv,trivial⟩ ?_
     refine gg [.i zd (f+1) (f+1),.s (qk 15 (zz zn oo)),.a _ _] ⟨oI,o_a hso,trivial⟩ ?_
     exact ge
    ·refine qq ?_
     refine gg [.a _ _,.b (0 !=0) false,.a _ _,.a _ _,.a _ _,.a _ _,.a _ _,.a _ _,.a _ _,.a _ _,.a _ _] ⟨o_a ha,bK,o_a hA,o_a hst,o_a hmv,o_a hsh,o_a hge,o_a hbl,o_a hfa,o_a hgr,o_a hlv,trivial⟩ ?_
     refine gg [.i zd (f+1) (f+1),.s (qk 15 (zz zn oo)),.a _ _] ⟨oI,o_a hso,trivial⟩ ?_
     exact ge
theorem f_region_Step (c:Config) (r:Int) (s:Region) (ins:List Input) (inbox:List Cross) (hn:s.ents.length≤100000) (hi:small ins) (hb:inbox.length≤100000):
  Is cx (.call 23 [.t c.enc,vi r,.t s.enc,.t (.sl 3 (ins.map zr)),.t (.sl 15 (inbox.map zn))] []) ⟨.ret,[.t (stepP c r s ins inbox).1.enc,.t (.sl 15 ((stepP c r s ins inbox).2.1.map zn)),vi (stepP c r s ins inbox).2.2],[]⟩:=by
 unfold stepP
 by_cases h:askedE c r s ins inbox=0
 ·rw [if_neg (by simp [h])]
  exact f_region_Step_yes c r s ins inbox hn hi hb h
 ·rw [if_pos h]
  exact f_region_Step_no c r s ins inbox (by unfold small;omega) hi (by unfold small;omega) h
end Go.Eva.S4
namespace Go.Eva.S4
theorem f_arena_Begin_loop (g:Config) (os:List T) (hg:g.right=true): ∀(d j:Nat) (rs:List Region),((j+d:Nat):Int)=g.players→(rs.length:Int)=g.regions→(∀s∈rs,s.ents.length≤j)→
  Is cx (.loop 37 [0,1,0,1,1,1,1] 0 [.ptr 0 0 0,.ptr 1 0 0,.ptr 2 0 0,vi (j+1:Nat)] [.one 2 (.agg [.fit 2 [],.fit 1 []]) false,.one 5 (.t g.enc) false,.one 2 (.agg [.all 3 none,.all 4 none]) false,.arr 2 (rs.map zt) (some 0) false,.arr 1 os (some 0) false])
   ⟨.exit 0,[.ptr 0 0 0,.ptr 1 0 0,.ptr 2 0 0,vi (j+d+1:Nat)],[.one 2 (.agg [.fit 2 [],.fit 1 []]) false,.one 5 (.t g.enc) false,.one 2 (.agg [.all 3 none,.all 4 none]) false,.arr 2 ((beginP g.cols g.regions d (j+1:Nat) rs).map zt) (some 0) false,.arr 1 os (some 0) false]⟩:=by
 have hgr:=Config.right_iff.1 hg
 have hgl:= @Config.regions_le g
 have hml:=Config.mul_le hg
 have hre:g.regions=g.cols*g.rows:=by simp [z0,hg]
 intro d
 induction d with
 |zero=>
  intro j rs hj hl hb
  rw [beginP]
  clear hre
  refine qq ?_
  refine gg [.b (decide ((↑(j+1):Int)≤g.players)) false] ⟨fP,trivial⟩ ?_
  exact ge
 |succ d ih=>
  intro j rs hj hl hb
  obtain ⟨k,hk⟩: ∃k:Nat,zg (j:Int) g.regions=k:=⟨(zg (j:Int) g.regions).toNat,by
   have:=tmod_le (v:=(j:Int)) (k:=g.regions) (by omega) (by omega);omega⟩
  have hk2:=tmod_le (v:=(j:Int)) (k:=g.regions) (by omega) (by omega)
  rw [hk] at hk2
  have hkl:k<rs.length:=by omega
  have ej:((j+1:Nat):Int)-1=(j:Nat):=by omega
  have eb:begin1 g.cols g.regions rs (j+1:Nat)=rs.set k ⟨(gt rs k).frame,put1 (gt rs k).ents ⟨(j+1:Nat),1,(k:Int).tmod g.cols*1024+512,(k:Int).tdiv g.cols*1024+512,0,0,100,0,0⟩⟩:=by
   unfold begin1 playerP
   rw [ej,hk]
   rfl
  rw [beginP,eb]
  have hpl:=(@put1_len (gt rs k).ents ⟨(j+1:Nat),1,(k:Int).tmod g.cols*1024+512,(k:Int).tdiv g.cols*1024+512,0,0,100,0,0⟩).2
  have hbk:=hb _ (gt_mem hkl)
  have ih1:=ih (j+1) (rs.set k ⟨(gt rs k).frame,put1 (gt rs k).ents ⟨(j+1:Nat),1,(k:Int).tmod g.cols*1024+512,(k:Int).tdiv g.cols*1024+512,0,0,100,0,0⟩⟩) (by omega) (by simpa using hl) fun s hs=>by
   rcases set_mem hs with rfl|hs
   ·simp only;omega
   ·have:=hb s hs;omega
  have hC:=f_grid_Corner g k
  have his:g.is k=true:=by rw [Config.is_iff hg];omega
  simp only [Config.cornerX,Config.cornerY,his,if_true] at hC
  have q1:=tdiv_le (v:=(k:Int)) (k:=g.cols) (m:=g.rows) (by omega) (by omega) (by omega)
  have q2:=tmod_le (v:=(k:Int)) (k:=g.cols) (by omega) (by omega)
  have hG:=f_grid_Regions g
  have hput:=f_entity_Put (gt rs k).ents [⟨(j+1:Nat),1,(k:Int).tmod g.cols*1024+512,(k:Int).tdiv g.cols*1024+512,0,0,100,0,0⟩] (by omega) (by simp)
  change Is cx _ ⟨_,_,[.arr 9 ((put1 (gt rs k).ents ⟨(j+1:Nat),1,(k:Int).tmod g.cols*1024+512,(k:Int).tdiv g.cols*1024+512,0,0,100,0,0⟩).map zm) none false]⟩ at hput
  generalize put1 (gt rs k).ents ⟨(j+1:Nat),1,(k:Int).tmod g.cols*1024+512,(k:Int).tdiv g.cols*1024+512,0,0,100,0,0⟩=B at*
  clear ih eb hre hb his
  rw [show j+1+d+1=j+(d+1)+1 by omega] at ih1
  refine qq ?_
  refine gg [.b (decide ((↑(j+1):Int)≤g.players)) true,.i zd ((↑(j+1):Int)-1) (j:Int),.a _ _,.w (z0 g≠(0:Int)),.t (ti (zg (j:Int) (z0 g))) (ti (k:Int)),.a _ _,.i zd (zg (k:Int) g.cols*1024+512) (zg (k:Int) g.cols*1024+512),.i zd (Int.tdiv (k:Int) g.cols*1024+512) (Int.tdiv (k:Int) g.cols*1024+512),.w (0≤(k:Int)),.n (zy (k:Int)) k,.w (k<zq (zz zt rs)),.g (zz zt rs) k (zt (gt rs k)),.a _ _,.w (0≤(k:Int)),.n (zy (k:Int)) k,.w (k<zq (zz zt rs))] ⟨tP,oI,o_a hG,oW,o_t (by rw [hk]),o_a hC,oI,oI,oW,nK,o_w (by (simp;omega)),o_gt rfl (by assumption) (by intro h;cases h),o_a hput,oW,nK,o_w (by (simp;omega)),trivial⟩ ?_
  refine gg [.s (qk 9 (zz zm B)),.g (zz zt rs) k (zt (gt rs k)),.t (qk 0 (zx (zz zt rs) k (T.agg [ti (gt rs k).frame,qk 9 (zz zm B)]))) (qk 0 (zz zt (zx rs k (Region.mk (gt rs k).frame B)))),.i zd ((↑(j+1):Int)+1) ((↑(j+1+1):Int)),.a _ _] ⟨o_gt rfl (by assumption) (by intro h;cases h),o_l (nm_set (e:=Region.mk (gt rs k).frame B) rfl rfl),oI,o_a ih1,trivial⟩ ?_
  exact ge
theorem f_arena_Begin_yes (c:Config) (h:c.right=true):Is cx (.call 37 [.t c.enc] []) ⟨.ret,[.t (beginW c.cols (c.cols*c.rows) c.players.toNat).enc,vi 0],[]⟩:=by
 have hgr:=Config.right_iff.1 h
 have hgl:= @Config.regions_le c
 have hre:c.regions=c.cols*c.rows:=by simp [z0,h]
 have hN:=f_grid_New c
 rw [Config.grid_of h,Config.err_of h] at hN
 have hG:=f_grid_Regions c
 have hL:=f_arena_Begin_loop c (zj c.regions.toNat (qk 15 [])) h c.players.toNat 0 (zj c.regions.toNat ⟨0,[]⟩) (by omega) (by simp;omega) (fun s hs=>by rw [List.eq_of_mem_replicate hs];simp)
 have e1:beginP c.cols c.regions c.players.toNat ((0+1:Nat):Int) (zj c.regions.toNat ⟨0,[]⟩)=(beginW c.cols (c.cols*c.rows) c.players.toNat).regions:=by rw [←hre];rfl
 have e2:zj c.regions.toNat (qk 15 [])=(beginW c.cols (c.cols*c.rows) c.players.toNat).outs.map encL:=by rw [←hre];simp only [beginW,List.map_replicate];rfl
 rw [e1,List.map_replicate] at hL
 generalize hW:beginW c.cols (c.cols*c.rows) c.players.toNat=W at*
 obtain ⟨R,O⟩:=W
 simp only at hL e2⊢
 simp only [Nat.zero_add] at hL
 clear hre e1 hW
 have hfin:(World.enc ⟨R,O⟩)= .agg [.sl 2 (R.map zt),.sl 1 (zj c.regions.toNat (qk 15 []))]:=by rw [e2];rfl
 rw [hfin]
 clear hfin e2
 refine qq ?_
 refine gg [.a _ _,.b (0 !=0) false] ⟨o_a hN,bK,trivial⟩ ?_
 refine bO ?_ ?_
 ·refine gg [.a _ _] ⟨o_a hG,trivial⟩ ?_
  refine bO ?_ ?_
  ·refine gg [.s (T.agg [ti 0,qk 9 []]),.w (0≤z0 c∧z0 c≤z0 c∧room (zy (z0 c)) (32:Nat)),.l (zy (z0 c))] ⟨o_w ⟨(by omega),⟨(by omega),(by (simp [room,appendMax];omega))⟩⟩,trivial⟩ ?_
   refine bO ?_ ?_
   ·refine gg [.a _ _] ⟨o_a hG,trivial⟩ ?_
    refine bO ?_ ?_
    all_goals
     refine gg [.w (0≤z0 c∧z0 c≤z0 c∧room (zy (z0 c)) (24:Nat)),.l (zy (z0 c)),.a _ _] ⟨o_w ⟨(by omega),⟨(by omega),(by (simp [room,appendMax];omega))⟩⟩,o_a hL,trivial⟩ ?_
     exact ge
   ·refine gg [.a _ _,.w (0≤z0 c∧z0 c≤z0 c∧room (zy (z0 c)) (24:Nat)),.l (zy (z0 c)),.a _ _] ⟨o_a hG,o_w ⟨(by omega),⟨(by omega),(by (simp [room,appendMax];omega))⟩⟩,o_a hL,trivial⟩ ?_
    exact ge
  ·refine bO ?_ ?_
   ·refine gg [.a _ _] ⟨o_a hG,trivial⟩ ?_
    refine bO ?_ ?_
    ·refine gg [.s (T.agg [ti 0,qk 9 []]),.w (0≤z0 c∧z0 c≤z0 c∧room (zy (z0 c)) (32:Nat)),.l (zy (z0 c))] ⟨o_w ⟨(by omega),⟨(by omega),(by (simp [room,appendMax];omega))⟩⟩,trivial⟩ ?_
     refine bO ?_ ?_
     all_goals
      refine gg [.w (0≤z0 c∧z0 c≤z0 c∧room (zy (z0 c)) (24:Nat)),.l (zy (z0 c)),.a _ _] ⟨o_w ⟨(by omega),⟨(by omega),(by (simp [room,appendMax];omega))⟩⟩,o_a hL,trivial⟩ ?_
      exact ge
    ·refine bO ?_ ?_
     ·refine gg [.w (0≤z0 c∧z0 c≤z0 c∧room (zy (z0 c)) (24:Nat)),.l (zy (z0 c))] ⟨o_w ⟨(by omega),⟨(by omega),(by (simp [room,appendMax];omega))⟩⟩,trivial⟩ ?_
      refine bO ?_ ?_
      all_goals
       refine gg [.s (T.agg [ti 0,qk 9 []]),.w (0≤z0 c∧z0 c≤z0 c∧room (zy (z0 c)) (32:Nat)),.l (zy (z0 c)),.a _ _] ⟨o_w ⟨(by omega),⟨(by omega),(by (simp [room,appendMax];omega))⟩⟩,o_a hL,trivial⟩ ?_
       exact ge
     ·refine bO ?_ ?_
      ·refine gg [.s (T.agg [ti 0,qk 9 []]),.w (0≤z0 c∧z0 c≤z0 c∧room (zy (z0 c)) (32:Nat)),.l (zy (z0 c)),.w (0≤z0 c∧z0 c≤z0 c∧room (zy (z0 c)) (24:Nat)),.l (zy (z0 c)),.a _ _] ⟨o_w ⟨(by omega),⟨(by omega),(by (simp [room,appendMax];omega))⟩⟩,o_w ⟨(by omega),⟨(by omega),(by (simp [room,appendMax];omega))⟩⟩,o_a hL,trivial⟩ ?_
       exact ge
      ·refine gg [.w (0≤z0 c∧z0 c≤z0 c∧room (zy (z0 c)) (24:Nat)),.l (zy (z0 c)),.s (T.agg [ti 0,qk 9 []]),.w (0≤z0 c∧z0 c≤z0 c∧room (zy (z0 c)) (32:Nat)),.l (zy (z0 c)),.a _ _] ⟨o_w ⟨(by omega),⟨(by omega),(by (simp [room,appendMax];omega))⟩⟩,o_w ⟨(by omega),⟨(by omega),(by (simp [room,appendMax];omega))⟩⟩,o_a hL,trivial⟩ ?_
       exact ge
   ·refine bO ?_ ?_
    ·refine gg [.s (T.agg [ti 0,qk 9 []]),.w (0≤z0 c∧z0 c≤z0 c∧room (zy (z0 c)) (32:Nat)),.l (zy (z0 c)),.a _ _,.w (0≤z0 c∧z0 c≤z0 c∧room (zy (z0 c)) (24:Nat)),.l (zy (z0 c)),.a _ _] ⟨o_w ⟨(by omega),⟨(by omega),(by (simp [room,appendMax];omega))⟩⟩,o_a hG,o_w ⟨(by omega),⟨(by omega),(by (simp [room,appendMax];omega))⟩⟩,o_a hL,trivial⟩ ?_
     exact ge
    ·refine gg [.a _ _] ⟨o_a hG,trivial⟩ ?_
     refine bO ?_ ?_
     ·refine gg [.s (T.agg [ti 0,qk 9 []]),.w (0≤z0 c∧z0 c≤z0 c∧room (zy (z0 c)) (32:Nat)),.l (zy (z0 c)),.w (0≤z0 c∧z0 c≤z0 c∧room (zy (z0 c)) (24:Nat)),.l (zy (z0 c)),.a _ _] ⟨o_w ⟨(by omega),⟨(by omega),(by (simp [room,appendMax];omega))⟩⟩,o_w ⟨(by omega),⟨(by omega),(by (simp [room,appendMax];omega))⟩⟩,o_a hL,trivial⟩ ?_
      exact ge
     ·refine gg [.w (0≤z0 c∧z0 c≤z0 c∧room (zy (z0 c)) (24:Nat)),.l (zy (z0 c)),.s (T.agg [ti 0,qk 9 []]),.w (0≤z0 c∧z0 c≤z0 c∧room (zy (z0 c)) (32:Nat)),.l (zy (z0 c)),.a _ _] ⟨o_w ⟨(by omega),⟨(by omega),(by (simp [room,appendMax];omega))⟩⟩,o_w ⟨(by omega),⟨(by omega),(by (simp [room,appendMax];omega))⟩⟩,o_a hL,trivial⟩ ?_
      exact ge
 ·refine gg [.a _ _] ⟨o_a hG,trivial⟩ ?_
  refine bO ?_ ?_
  ·refine gg [.s (T.agg [ti 0,qk 9 []]),.w (0≤z0 c∧z0 c≤z0 c∧room (zy (z0 c)) (32:Nat)),.l (zy (z0 c)),.a _ _,.w (0≤z0 c∧z0 c≤z0 c∧room (zy (z0 c)) (24:Nat)),.l (zy (z0 c)),.a _ _] ⟨o_w ⟨(by omega),⟨(by omega),(by (simp [room,appendMax];omega))⟩⟩,o_a hG,o_w ⟨(by omega),⟨(by omega),(by (simp [room,appendMax];omega))⟩⟩,o_a hL,trivial⟩ ?_
   exact ge
  ·refine gg [.a _ _] ⟨o_a hG,trivial⟩ ?_
   refine bO ?_ ?_
   ·refine gg [.s (T.agg [ti 0,qk 9 []]),.w (0≤z0 c∧z0 c≤z0 c∧room (zy (z0 c)) (32:Nat)),.l (zy (z0 c)),.w (0≤z0 c∧z0 c≤z0 c∧room (zy (z0 c)) (24:Nat)),.l (zy (z0 c)),.a _ _] ⟨o_w ⟨(by omega),⟨(by omega),(by (simp [room,appendMax];omega))⟩⟩,o_w ⟨(by omega),⟨(by omega),(by (simp [room,appendMax];omega))⟩⟩,o_a hL,trivial⟩ ?_
    exact ge
   ·refine gg [.w (0≤z0 c∧z0 c≤z0 c∧room (zy (z0 c)) (24:Nat)),.l (zy (z0 c)),.s (T.agg [ti 0,qk 9 []]),.w (0≤z0 c∧z0 c≤z0 c∧room (zy (z0 c)) (32:Nat)),.l (zy (z0 c)),.a _ _] ⟨o_w ⟨(by omega),⟨(by omega),(by (simp [room,appendMax];omega))⟩⟩,o_w ⟨(by omega),⟨(by omega),(by (simp [room,appendMax];omega))⟩⟩,o_a hL,trivial⟩ ?_
    exact ge
theorem ents_gt {rs:List Region} {i:Nat} (h:i<rs.length):entsAll (rs.drop i)=(gt rs i).ents++entsAll (rs.drop (i+1)):=by unfold entsAll;rw [drop_gt h];simp
theorem handed_gt {l:List Cross} {i:Nat} (h:i<l.length):handed (l.drop i)=(if (gt l i).kind=1 then [(gt l i).ent] else [])++handed (l.drop (i+1)):=by
 unfold handed;rw [filter_gt _ h];split<;>simp_all
theorem handedAll_gt {os:List CrossL} {i:Nat} (h:i<os.length):handedAll (os.drop i)=handed (gt os i)++handedAll (os.drop (i+1)):=by unfold handedAll;rw [drop_gt h];simp
theorem f_arena_All_regions (w:World) (hn:w.regions.length≤1000) (hs:(entsAll w.regions).length≤100000): ∀(d i:Nat) (A:List Entity),i+d=w.regions.length→A.length+(entsAll (w.regions.drop i)).length=(entsAll w.regions).length→
  Is cx (.loop 46 [0,1,0,1,1] 0 [.ptr 0 0 0,.all 1 none,.t (.sl 2 (w.regions.map zt)),vi w.regions.length,vi i] [.one 2 (.t w.enc) false,.arr 9 (A.map zm) none false])
   ⟨.exit 0,[.ptr 0 0 0,.all 1 none,.t (.sl 2 (w.regions.map zt)),vi w.regions.length,vi w.regions.length],[.one 2 (.t w.enc) false,.arr 9 ((A++entsAll (w.regions.drop i)).map zm) none false]⟩:=by
 obtain ⟨R,O⟩:=w
 simp only at*
 intro d
 induction d with
 |zero=>
  intro i A hi hA
  rw [drop_end (by omega)]
  refine qq ?_
  refine gg [.b (decide ((i:Int)<(↑(zq R):Int))) false] ⟨fP,trivial⟩ ?_
  refine rT (a:=qz (qx 0) [V.ptr 0 0 0,qy 1 none,V.t (qk 2 (zz zt R)),vi (↑(zq R):Int),vi (i:Int)] [qg 2 (V.t (World.enc (World.mk R O))) false,qv 9 (zz zm A) none false]) ?_
  ((have hq:i=R.length:=by omega);subst hq;simp [entsAll])
 |succ d ih=>
  intro i A hi hA
  have hlt:i<R.length:=by omega
  rw [ents_gt hlt] at hA⊢
  rw [List.length_append] at hA
  have ih1:=ih (i+1) (A++(gt R i).ents) (by omega) (by rw [List.length_append];omega)
  clear ih
  rw [←List.append_assoc]
  refine qq ?_
  refine gg [.b (decide ((i:Int)<(↑(zq R):Int))) true,.w (0≤(i:Int)),.n (zy (i:Int)) i,.g (zz zt R) i (zt (gt R i)),.w ((0:Nat)<(72:Nat)),.s (qk 0 (zz zm (gt R i).ents)),.t (qk 0 (zz zm A++zz zm (gt R i).ents)) (qk 0 (zz zm (A++(gt R i).ents))),.w (room (zq (zz zm (A++(gt R i).ents))) (72:Nat)),.i zd ((i:Int)+1) ((↑(i+1):Int)),.a _ _] ⟨tP,oW,nK,o_gt rfl (by assumption) (by intro h;cases h),oW,o_l (nm_app rfl rfl),o_w (by (simp [room,appendMax];omega)),oI,o_a ih1,trivial⟩ ?_
  exact ge
theorem f_arena_All_list (os:List T) (n i:Nat) (l:List Cross) (hl:l.length≤1000): ∀(d j:Nat) (A:List Entity),j+d=l.length→A.length≤500000+j→
  Is cx (.loop 46 [0,1,1,0,0,1,1,0,0,1,0,1,1,1] 0 [.all 0 none,.t (.sl 1 os),vi n,vi i,.t (.sl 15 (l.map zn)),vi l.length,vi j] [.arr 9 (A.map zm) none false])
   ⟨.exit 4,[.all 0 none,.t (.sl 1 os),vi n,vi i,.t (.sl 15 (l.map zn)),vi l.length,vi l.length],[.arr 9 ((A++handed (l.drop j)).map zm) none false]⟩:=by
 intro d
 induction d with
 |zero=>
  intro j A hj hA
  rw [drop_end (by omega)]
  refine qq ?_
  refine gg [.b (decide ((j:Int)<(↑(zq l):Int))) false] ⟨fP,trivial⟩ ?_
  refine rT (a:=qz (qx 4) [qy 0 none,V.t (qk 1 os),vi (n:Int),vi (i:Int),V.t (qk 15 (zz zn l)),vi (↑(zq l):Int),vi (j:Int)] [qv 9 (zz zm A) none false]) ?_
  ((have hq:j=l.length:=by omega);subst hq;simp [handed])
 |succ d ih=>
  intro j A hj hA
  have hlt:j<l.length:=by omega
  rw [handed_gt hlt]
  by_cases hk:(gt l j).kind=1
  ·have ih1:=ih (j+1) (A++ [(gt l j).ent]) (by omega) (by simp;omega)
   rw [if_pos hk,←List.append_assoc]
   clear ih
   refine qq ?_
   refine gg [.b (decide ((j:Int)<(↑(zq l):Int))) true,.w (0≤(j:Int)),.n (zy (j:Int)) j,.g (zz zn l) j (zn (gt l j)),.b ((gt l j).kind==1) true,.w ((0:Nat)<(72:Nat)),.t (qk 0 [zm (gt l j).ent]) (qk 0 (zz zm [(gt l j).ent])),.t (qk 0 (zz zm A++zz zm [(gt l j).ent])) (qk 0 (zz zm (A++ [(gt l j).ent]))),.w (room (zq (zz zm (A++ [(gt l j).ent]))) (72:Nat)),.i zd ((j:Int)+1) ((↑(j+1):Int)),.a _ _] ⟨tP,oW,nK,o_gt rfl (by assumption) (by intro h;cases h),t_bre (by assumption),oW,o_l (nm_cons rfl nm_nil),o_l (nm_app rfl rfl),o_w (by (simp [room,appendMax];omega)),oI,o_a ih1,trivial⟩ ?_
   exact ge
  ·have ih1:=ih (j+1) A (by omega) (by omega)
   rw [if_neg hk,List.nil_append]
   clear ih
   refine qq ?_
   refine gg [.b (decide ((j:Int)<(↑(zq l):Int))) true,.w (0≤(j:Int)),.n (zy (j:Int)) j,.g (zz zn l) j (zn (gt l j)),.b ((gt l j).kind==1) false,.i zd ((j:Int)+1) ((↑(j+1):Int)),.a _ _] ⟨tP,oW,nK,o_gt rfl (by assumption) (by intro h;cases h),f_bre (by assumption),oI,o_a ih1,trivial⟩ ?_
   exact ge
theorem f_arena_All_outs (os:List CrossL) (hn:os.length≤100) (hs: ∀l∈os,l.length≤1000): ∀(d i:Nat) (A:List Entity),i+d=os.length→A.length≤100000+1000*i→
  Is cx (.loop 46 [0,1,0,1,1,1] 0 [.all 0 none,.t (.sl 1 (os.map encL)),vi os.length,vi i] [.arr 9 (A.map zm) none false])
   ⟨.exit 2,[.all 0 none,.t (.sl 1 (os.map encL)),vi os.length,vi os.length],[.arr 9 ((A++handedAll (os.drop i)).map zm) none false]⟩:=by
 intro d
 induction d with
 |zero=>
  intro i A hi hA
  rw [drop_end (by omega)]
  refine qq ?_
  refine gg [.b (decide ((i:Int)<(↑(zq os):Int))) false] ⟨fP,trivial⟩ ?_
  refine rT (a:=qz (qx 2) [qy 0 none,V.t (qk 1 (zz encL os)),vi (↑(zq os):Int),vi (i:Int)] [qv 9 (zz zm A) none false]) ?_
  ((have hq:i=os.length:=by omega);subst hq;simp [handedAll])
 |succ d ih=>
  intro i A hi hA
  have hlt:i<os.length:=by omega
  rw [handedAll_gt hlt]
  have hl:=hs _ (gt_mem hlt)
  have hh:(handed (gt os i)).length≤(gt os i).length:=by unfold handed;rw [List.length_map];exact List.length_filter_le ..
  have ih1:=ih (i+1) (A++handed (gt os i)) (by omega) (by rw [List.length_append];omega)
  have h2:=f_arena_All_list (os.map encL) os.length i (gt os i) hl (gt os i).length 0 A (by omega) (by omega)
  rw [List.drop_zero] at h2
  clear ih hs hh
  rw [←List.append_assoc]
  generalize handed (gt os i)=hd at*
  refine qq ?_
  refine gg [.b (decide ((i:Int)<(↑(zq os):Int))) true,.w (0≤(i:Int)),.n (zy (i:Int)) i,.g (zz encL os) i (encL (gt os i)),.n (zq (zz zn (gt os i))) (zq (gt os i)),.a _ _,.i zd ((i:Int)+1) ((↑(i+1):Int)),.a _ _] ⟨tP,oW,nK,o_gt rfl (by assumption) (by intro h;cases h),o_n (by simp),o_a h2,oI,o_a ih1,trivial⟩ ?_
  exact ge
theorem handedAll_len {os:List CrossL} (hs: ∀l∈os,l.length≤1000):(handedAll os).length≤1000*os.length:=by
 induction os with
 |nil=>simp [handedAll]
 |cons l os ih=>
  have h1:=ih fun x hx=>hs x (List.mem_cons_of_mem _ hx)
  have h2:=hs l (List.mem_cons_self ..)
  have hh:(handed l).length≤l.length:=by unfold handed;rw [List.length_map];exact List.length_filter_le ..
  have e:handedAll (l::os)=handed l++handedAll os:=rfl
  rw [e,List.length_append,List.length_cons]
  omega
theorem f_arena_All (w:World) (hn:w.regions.length≤1000) (hs:(entsAll w.regions).length≤100000) (ho:w.outs.length≤100) (hl: ∀l∈w.outs,l.length≤1000):Fn cx 46 [w.enc] (.sl 9 ((allL w).map zm)):=by
 have h1:=f_arena_All_regions w hn hs w.regions.length 0 [] (by omega) (by simp)
 rw [List.drop_zero,List.nil_append] at h1
 have h2:=f_arena_All_outs w.outs ho hl w.outs.length 0 (entsAll w.regions) (by omega) (by omega)
 rw [List.drop_zero] at h2
 have hlen:=handedAll_len hl
 unfold allL
 have h3:=f_SortStableFunc_Entity (entsAll w.regions++handedAll w.outs) (by unfold small;simp;omega)
 obtain ⟨R,O⟩:=w
 simp only at*
 generalize entsAll R=E at*
 generalize E++handedAll O=X at*
 generalize sortS z8 X=Y at*
 clear hl hlen
 refine qq ?_
 refine gg [.n (zq (zz zt R)) (zq R),.a _ _,.n (zq (zz encL O)) (zq O),.a _ _,.a _ _] ⟨o_n (by simp),o_a h1,o_n (by simp),o_a h2,o_a h3,trivial⟩ ?_
 exact ge
end Go.Eva.S4
namespace Go.Eva.S4
theorem inboxL_step {c:Config} {outs:List CrossL} {r:Int} {l:List Int} {i:Nat} (h:i<l.length):(((l.drop i).filter fun q=>decide (q<(outs.length:Int))).map fun q=>toL (gt outs q.toNat) r).flatten=(if gt l i<(outs.length:Int) then toL (gt outs (gt l i).toNat) r else [])++(((l.drop (i+1)).filter fun q=>decide (q<(outs.length:Int))).map fun q=>toL (gt outs q.toNat) r).flatten:=by
 rw [drop_gt h,List.filter_cons]
 by_cases h2:gt l i<(outs.length:Int)<;>simp [h2]
theorem f_arena_Inbox_loop (c:Config) (outs:List CrossL) (r:Int) (hr:c.is r=true) (ho:outs.length≤16) (hs: ∀l∈outs,l.length≤400): ∀(d i:Nat) (A:List Cross),i+d=(c.near r).length→A.length≤400*i→
  Is cx (.loop 38 [0,1,0,1,1] 0 [.t (.sl 1 (outs.map encL)),vi r,.all 0 none,.t (.sl 1 ((c.near r).map ti)),vi (c.near r).length,vi i] [.arr 15 (A.map zn) none false])
   ⟨.exit 0,[.t (.sl 1 (outs.map encL)),vi r,.all 0 none,.t (.sl 1 ((c.near r).map ti)),vi (c.near r).length,vi (c.near r).length],[.arr 15 ((A++((((c.near r).drop i).filter fun q=>decide (q<(outs.length:Int))).map fun q=>toL (gt outs q.toNat) r).flatten).map zn) none false]⟩:=by
 have hns:(c.near r).length≤9:=near_small
 intro d
 induction d with
 |zero=>
  intro i A hi hA
  rw [drop_end (by omega)]
  refine qq ?_
  refine gg [.b (decide ((i:Int)<(↑(zq (z6 c r)):Int))) false] ⟨fP,trivial⟩ ?_
  refine rT (a:=qz (qx 0) [V.t (qk 1 (zz encL outs)),vi r,qy 0 none,V.t (qk 1 (zz ti (z6 c r))),vi (↑(zq (z6 c r)):Int),vi (i:Int)] [qv 15 (zz zn A) none false]) ?_
  ((have:i=(c.near r).length:=by omega);subst this;simp)
 |succ d ih=>
  intro i A hi hA
  have hlt:i<(c.near r).length:=by omega
  have hq:=near_in hr (gt_mem hlt)
  rw [inboxL_step (c:=c) hlt]
  have ih0:=ih (i+1) A (by omega) (by omega)
  by_cases h2:gt (c.near r) i<(outs.length:Int)
  ·rw [if_pos h2]
   have hl:=hs _ (gt_mem (show (gt (c.near r) i).toNat<outs.length by omega))
   have hT:=f_cross_To (gt outs (gt (c.near r) i).toNat) r (by unfold small;omega)
   have hTl:= @toL_len (gt outs (gt (c.near r) i).toNat) r
   have ih1:=ih (i+1) (A++toL (gt outs (gt (c.near r) i).toNat) r) (by omega) (by rw [List.length_append];omega)
   rw [List.append_assoc] at ih1
   clear ih ih0 hs
   generalize ((((c.near r).drop (i+1)).filter fun q=>decide (q<(outs.length:Int))).map fun q=>toL (gt outs q.toNat) r).flatten=X at*
   generalize toL (gt outs (gt (c.near r) i).toNat) r=W at*
   refine qq ?_
   refine gg [.b (decide ((i:Int)<(↑(zq (z6 c r)):Int))) true,.w (0≤(i:Int)),.n (zy (i:Int)) i,.g (zz ti (z6 c r)) i (ti (gt (z6 c r) i)),.n (zq (zz encL outs)) (zq outs),.b (decide (gt (z6 c r) i<(↑(zq outs):Int))) true,.w (0≤gt (z6 c r) i),.l (zy (gt (z6 c r) i)),.g (zz encL outs) (zy (gt (z6 c r) i)) (encL (gt outs (zy (gt (z6 c r) i)))),.a _ _,.w ((0:Nat)<(120:Nat)),.s (qk 0 (zz zn W)),.t (qk 0 (zz zn A++zz zn W)) (qk 0 (zz zn (A++W))),.w (room (zq (zz zn (A++W))) (120:Nat)),.i zd ((i:Int)+1) ((↑(i+1):Int)),.a _ _] ⟨tP,oW,nK,o_gt rfl (by assumption) (by intro h;cases h),o_n (by simp),t_brp (by assumption),oW,oT,o_a hT,oW,o_l (nm_app rfl rfl),o_w (by (simp [room,appendMax];omega)),oI,o_a ih1,trivial⟩ ?_
   exact ge
  ·rw [if_neg h2,List.nil_append]
   clear ih hs
   generalize ((((c.near r).drop (i+1)).filter fun q=>decide (q<(outs.length:Int))).map fun q=>toL (gt outs q.toNat) r).flatten=X at*
   refine qq ?_
   refine gg [.b (decide ((i:Int)<(↑(zq (z6 c r)):Int))) true,.w (0≤(i:Int)),.n (zy (i:Int)) i,.g (zz ti (z6 c r)) i (ti (gt (z6 c r) i)),.n (zq (zz encL outs)) (zq outs),.b (decide (gt (z6 c r) i<(↑(zq outs):Int))) false,.i zd ((i:Int)+1) ((↑(i+1):Int)),.a _ _] ⟨tP,oW,nK,o_gt rfl (by assumption) (by intro h;cases h),o_n (by simp),f_brp (by assumption),oI,o_a ih0,trivial⟩ ?_
   exact ge
theorem f_arena_Inbox (c:Config) (outs:List CrossL) (r:Int) (hr:c.is r=true) (ho:outs.length≤16) (hs: ∀l∈outs,l.length≤400):Is cx (.call 38 [.t c.enc,.t (.sl 1 (outs.map encL)),vi r] []) ⟨.ret,[.t (.sl 15 ((inboxL c outs r).map zn))],[]⟩:=by
 have hN:=f_grid_Near c r
 have h:=f_arena_Inbox_loop c outs r hr ho hs (c.near r).length 0 [] (by omega) (by simp)
 rw [List.drop_zero,List.nil_append] at h
 unfold inboxL
 clear hs
 generalize (((c.near r).filter fun q=>decide (q<(outs.length:Int))).map fun q=>toL (gt outs q.toNat) r).flatten=X at*
 have hns:(c.near r).length≤9:=near_small
 refine qq ?_
 refine gg [.a _ _,.n (zq (zz ti (z6 c r))) (zq (z6 c r)),.a _ _] ⟨o_a hN,o_n (by simp),o_a h,trivial⟩ ?_
 exact ge
theorem f_arena_Step_one (c:Config) (w:World) (f:Int) (ins:List Input) (h:WFine c w f) (hf:0≤f∧f<10000) (hl:(ins.length:Int)=c.players) (hi: ∀i∈ins,i.right=true) {r:Nat} (hr:r<w.regions.length):
  Is cx (.call 38 [.t c.enc,.t (.sl 1 (w.outs.map encL)),vi r] []) ⟨.ret,[.t (.sl 15 ((inboxL c w.outs r).map zn))],[]⟩∧
  Is cx (.call 23 [.t c.enc,vi r,.t (gt w.regions r).enc,.t (.sl 3 (ins.map zr)),.t (.sl 15 ((inboxL c w.outs r).map zn))] []) ⟨.ret,[.t (nextR c w ins r).enc,.t (.sl 15 ((nextO c w ins r).map zn)),vi 0],[]⟩:=by
 have hreg:=h.regs
 have hout:=h.outs
 have hgl:= @Config.regions_le c
 have hcr:=Config.right_iff.1 h.right
 have hF:=world_fine h hf hl hi hr
 have hb:=inbox_ok h hr
 have hs:=h.sane r hr
 refine ⟨f_arena_Inbox c w.outs r hF.is (by omega) (fun l hl=> ?_),f_region_Step_yes c r (gt w.regions r) ins (inboxL c w.outs r) (by omega) (by unfold small;omega) (by omega) (fine_asked hF)⟩
 obtain ⟨k,hk,rfl⟩:=List.mem_iff_getElem.1 hl
 have:=(h.sent k hk).2
 have e:gt w.outs k=w.outs[k]:=by simp [gt,hk]
 rwa [e] at this
theorem f_arena_Step_loop (c:Config) (w:World) (f:Int) (ins:List Input) (h:WFine c w f) (hf:0≤f∧f<10000) (hl:(ins.length:Int)=c.players) (hi: ∀i∈ins,i.right=true): ∀(d i:Nat),i+d=w.regions.length→
  Is cx (.loop 34 [0,1,0,1,1,1,1] 0 [.t (.sl 3 (ins.map zr)),.ptr 0 0 0,.ptr 1 0 0,vi 0,.ptr 2 0 0,.ptr 3 0 0,.t (.sl 2 (w.regions.map zt)),vi w.regions.length,vi i] [.one 2 (.t w.enc) false,.one 2 (.agg [.fit 2 [],.fit 1 []]) false,.one 5 (.t c.enc) false,.one 2 (.agg [.all 4 none,.all 5 none]) false,.arr 2 (((List.range i).map (nextR c w ins)).map zt) none false,.arr 1 (((List.range i).map (nextO c w ins)).map encL) none false])
   ⟨.exit 1,[.t (.sl 3 (ins.map zr)),.ptr 0 0 0,.ptr 1 0 0,vi 0,.ptr 2 0 0,.ptr 3 0 0,.t (.sl 2 (w.regions.map zt)),vi w.regions.length,vi w.regions.length],[.one 2 (.t w.enc) false,.one 2 (.agg [.fit 2 [],.fit 1 []]) false,.one 5 (.t c.enc) false,.one 2 (.agg [.all 4 none,.all 5 none]) false,.arr 2 (((List.range w.regions.length).map (nextR c w ins)).map zt) none false,.arr 1 (((List.range w.regions.length).map (nextO c w ins)).map encL) none false]⟩:=by
 have hreg:=h.regs
 have hgl:= @Config.regions_le c
 intro d
 induction d with
 |zero=>
  intro i hi
  obtain rfl:i=w.regions.length:=by omega
  generalize (List.range w.regions.length).map (nextR c w ins)=A at*
  generalize (List.range w.regions.length).map (nextO c w ins)=B at*
  obtain ⟨R,O⟩:=w
  refine qq ?_
  refine gg [.b (decide ((↑(zq R):Int)<(↑(zq R):Int))) false] ⟨fP,trivial⟩ ?_
  exact ge
 |succ d ih=>
  intro i hid
  have hlt:i<w.regions.length:=by omega
  have ih1:=ih (i+1) (by omega)
  obtain ⟨hI,hS⟩:=f_arena_Step_one c w f ins h hf hl hi hlt
  have e1:(List.range (i+1)).map (nextR c w ins)=(List.range i).map (nextR c w ins)++ [nextR c w ins i]:=by rw [List.range_succ,List.map_append];rfl
  have e2:(List.range (i+1)).map (nextO c w ins)=(List.range i).map (nextO c w ins)++ [nextO c w ins i]:=by rw [List.range_succ,List.map_append];rfl
  rw [e1,e2] at ih1
  have hA:((List.range i).map (nextR c w ins)).length=i:=by simp
  have hB:((List.range i).map (nextO c w ins)).length=i:=by simp
  clear ih hi e1 e2
  generalize (List.range i).map (nextR c w ins)=A at*
  generalize (List.range i).map (nextO c w ins)=B at*
  generalize (List.range w.regions.length).map (nextR c w ins)=A2 at*
  generalize (List.range w.regions.length).map (nextO c w ins)=B2 at*
  generalize nextR c w ins i=x at*
  generalize nextO c w ins i=y at*
  generalize inboxL c w.outs i=box at*
  obtain ⟨R,O⟩:=w
  simp only at hreg hlt hI hS ih1⊢
  clear h
  refine qq ?_
  refine gg [.b (decide ((i:Int)<(↑(zq R):Int))) true,.w (0≤(i:Int)),.n (zy (i:Int)) i,.g (zz zt R) i (zt (gt R i))] ⟨tP,oW,nK,o_gt rfl (by assumption) (by intro h;cases h),trivial⟩ ?_
  refine bO ?_ ?_
  ·refine gg [.a _ _] ⟨o_a hI,trivial⟩ ?_
   refine bO ?_ ?_
   all_goals
    refine gg [.a _ _,.b (0 !=0) false] ⟨o_a hS,bK,trivial⟩ ?_
    refine bO (bO ?_ (bO (bO ?_ ?_) (bO ?_ ?_))) (bO (bO (bO ?_ ?_) ?_) (bO (bO ?_ ?_) ?_))
    all_goals
     refine gg [.w ((0:Nat)<(32:Nat)),.t (qk 0 [zt x]) (qk 0 (zz zt [x])),.t (qk 0 (zz zt A++zz zt [x])) (qk 0 (zz zt (A++ [x]))),.w (room (zq (zz zt (A++ [x]))) (32:Nat)),.w ((0:Nat)<(24:Nat)),.s (qk 0 [qk 15 (zz zn y)]),.t (qk 0 (zz encL B++ [qk 15 (zz zn y)])) (qk 0 (zz encL (B++ [y]))),.w (room (zq (zz encL (B++ [y]))) (24:Nat)),.i zd ((i:Int)+1) ((↑(i+1):Int)),.a _ _] ⟨oW,o_l (nm_cons rfl nm_nil),o_l (nm_app rfl rfl),o_w (by (simp [room,appendMax];omega)),oW,o_l (nm_app rfl (nm_cons (e:=y) rfl nm_nil)),o_w (by (simp [room,appendMax];omega)),oI,o_a ih1,trivial⟩ ?_
     exact ge
  ·refine gg [.a _ _,.a _ _,.b (0 !=0) false] ⟨o_a hI,o_a hS,bK,trivial⟩ ?_
   refine bO (bO ?_ (bO (bO ?_ ?_) (bO ?_ ?_))) (bO (bO (bO ?_ ?_) ?_) (bO (bO ?_ ?_) ?_))
   all_goals
    refine gg [.w ((0:Nat)<(32:Nat)),.t (qk 0 [zt x]) (qk 0 (zz zt [x])),.t (qk 0 (zz zt A++zz zt [x])) (qk 0 (zz zt (A++ [x]))),.w (room (zq (zz zt (A++ [x]))) (32:Nat)),.w ((0:Nat)<(24:Nat)),.s (qk 0 [qk 15 (zz zn y)]),.t (qk 0 (zz encL B++ [qk 15 (zz zn y)])) (qk 0 (zz encL (B++ [y]))),.w (room (zq (zz encL (B++ [y]))) (24:Nat)),.i zd ((i:Int)+1) ((↑(i+1):Int)),.a _ _] ⟨oW,o_l (nm_cons rfl nm_nil),o_l (nm_app rfl rfl),o_w (by (simp [room,appendMax];omega)),oW,o_l (nm_app rfl (nm_cons (e:=y) rfl nm_nil)),o_w (by (simp [room,appendMax];omega)),oI,o_a ih1,trivial⟩ ?_
    exact ge
theorem f_arena_Step_first (c:Config) (w:World) (f:Int) (ins:List Input) (h:WFine c w f) (hf:0≤f∧f<10000) (hl:(ins.length:Int)=c.players) (hi: ∀i∈ins,i.right=true):
  Is cx (.loop 34 [0,1,0,1,1,1,1] 0 [.t (.sl 3 (ins.map zr)),.ptr 0 0 0,.ptr 1 0 0,vi 0,.ptr 2 0 0,.ptr 3 0 0,.t (.sl 2 (w.regions.map zt)),vi w.regions.length,vi 0] [.one 2 (.t w.enc) false,.one 2 (.agg [.fit 2 [],.fit 1 []]) false,.one 5 (.t c.enc) false,.one 2 (.agg [.fit 2 [],.fit 1 []]) false])
   ⟨.exit 1,[.t (.sl 3 (ins.map zr)),.ptr 0 0 0,.ptr 1 0 0,vi 0,.ptr 2 0 0,.ptr 3 0 0,.t (.sl 2 (w.regions.map zt)),vi w.regions.length,vi w.regions.length],[.one 2 (.t w.enc) false,.one 2 (.agg [.fit 2 [],.fit 1 []]) false,.one 5 (.t c.enc) false,.one 2 (.agg [.all 4 none,.all 5 none]) false,.arr 2 (((List.range w.regions.length).map (nextR c w ins)).map zt) none false,.arr 1 (((List.range w.regions.length).map (nextO c w ins)).map encL) none false]⟩:=by
 have hreg:=h.regs
 have hgl:= @Config.regions_le c
 have hml:=Config.mul_le h.right
 have hgr:c.regions=c.cols*c.rows:=by simp [z0,h.right]
 have hlt:0<w.regions.length:=by omega
 have ih1:=f_arena_Step_loop c w f ins h hf hl hi (w.regions.length-1) 1 (by omega)
 obtain ⟨hI,hS⟩:=f_arena_Step_one c w f ins h hf hl hi hlt
 change Is cx (.loop _ _ _ _ [_,_,_,_,.arr 2 [(nextR c w ins 0).enc] _ _,.arr 1 [encL (nextO c w ins 0)] _ _]) _ at ih1
 clear hi hgr
 generalize (List.range w.regions.length).map (nextR c w ins)=A2 at*
 generalize (List.range w.regions.length).map (nextO c w ins)=B2 at*
 generalize nextR c w ins 0=x at*
 generalize nextO c w ins 0=y at*
 generalize inboxL c w.outs (0:Nat)=box at*
 obtain ⟨R,O⟩:=w
 simp only at hreg hlt hI hS ih1⊢
 clear h
 refine qq ?_
 refine gg [.b (decide (0<(↑(zq R):Int))) true,.w (0≤(0:Int)),.l 0,.g (zz zt R) 0 (zt (gt R 0))] ⟨tP,oW,o_gt rfl (by assumption) (by intro h;cases h),trivial⟩ ?_
 refine bO ?_ ?_
 ·refine gg [.a _ _] ⟨o_a hI,trivial⟩ ?_
  refine bO ?_ ?_
  all_goals
   refine gg [.a _ _,.b (0 !=0) false] ⟨o_a hS,bK,trivial⟩ ?_
   refine bO (bO ?_ (bO (bO ?_ ?_) (bO ?_ ?_))) (bO (bO (bO ?_ ?_) ?_) (bO (bO ?_ ?_) ?_))
   all_goals
    refine gg [.w ((0:Nat)<(32:Nat)),.t (qk 0 [zt x]) (qk 0 (zz zt [x])),.t (qk 0 [zt x]) (qk 0 (zz zt [x])),.w (room (zq (zz zt [x])) (32:Nat)),.w ((0:Nat)<(24:Nat)),.s (qk 0 [qk 15 (zz zn y)]),.s (qk 0 [qk 15 (zz zn y)]),.w (room (zq [qk (15:Nat) (zz zn y)]) (24:Nat)),.i zd 1 1,.a _ _] ⟨oW,o_l (nm_cons rfl nm_nil),o_l (nm_cons rfl nm_nil),o_w (by (simp [room,appendMax])),oW,o_w (by (simp [room,appendMax])),oK,o_a ih1,trivial⟩ ?_
    exact ge
 ·refine gg [.a _ _,.a _ _,.b (0 !=0) false] ⟨o_a hI,o_a hS,bK,trivial⟩ ?_
  refine bO (bO ?_ (bO (bO ?_ ?_) (bO ?_ ?_))) (bO (bO (bO ?_ ?_) ?_) (bO (bO ?_ ?_) ?_))
  all_goals
   refine gg [.w ((0:Nat)<(32:Nat)),.t (qk 0 [zt x]) (qk 0 (zz zt [x])),.t (qk 0 [zt x]) (qk 0 (zz zt [x])),.w (room (zq (zz zt [x])) (32:Nat)),.w ((0:Nat)<(24:Nat)),.s (qk 0 [qk 15 (zz zn y)]),.s (qk 0 [qk 15 (zz zn y)]),.w (room (zq [qk (15:Nat) (zz zn y)]) (24:Nat)),.i zd 1 1,.a _ _] ⟨oW,o_l (nm_cons rfl nm_nil),o_l (nm_cons rfl nm_nil),o_w (by (simp [room,appendMax])),oW,o_w (by (simp [room,appendMax])),oK,o_a ih1,trivial⟩ ?_
   exact ge
theorem f_arena_Step_yes (c:Config) (w:World) (f:Int) (ins:List Input) (h:WFine c w f) (hf:0≤f∧f<10000) (hl:(ins.length:Int)=c.players) (hi: ∀i∈ins,i.right=true):
  Is cx (.call 34 [.t c.enc,.t w.enc,.t (.sl 3 (ins.map zr))] []) ⟨.ret,[.t (nextW c w ins).enc,vi 0],[]⟩:=by
 have hr:=h.right
 have hreg:=h.regs
 have hout:=h.outs
 have hgl:= @Config.regions_le c
 have hml:=Config.mul_le hr
 have hgr:c.regions=c.cols*c.rows:=by simp [z0,hr]
 have hN:=f_grid_New c
 rw [Config.grid_of hr,Config.err_of hr] at hN
 have hG:=f_grid_Regions c
 rw [←hreg] at hG
 have hE:=f_arena_Step_first c w f ins h hf hl hi
 have e3:(nextW c w ins).enc= .agg [.sl 2 (((List.range w.regions.length).map (nextR c w ins)).map zt),.sl 1 (((List.range w.regions.length).map (nextO c w ins)).map encL)]:=rfl
 rw [e3]
 clear hi e3
 generalize (List.range w.regions.length).map (nextR c w ins)=A at*
 generalize (List.range w.regions.length).map (nextO c w ins)=B at*
 obtain ⟨R,O⟩:=w
 simp only at hreg hout hG hE⊢
 clear hgr h
 refine qq ?_
 refine gg [.a _ _,.b (0 !=0) false,.n (zq (zz zt R)) (zq R),.a _ _,.b ((↑(zq R):Int) !=(↑(zq R):Int)) false,.ff,.ff,.n (zq (zz encL O)) (zq O),.ff,.ff,.a _ _,.ff,.ff,.b ((↑(zq O):Int) !=(↑(zq R):Int)) false,.n (zq (zz zt R)) (zq R),.a _ _] ⟨o_a hN,bK,o_n (by simp),o_a hG,f_brn rfl,o_n (by simp),o_a hG,fN,o_n (by simp),o_a hE,trivial⟩ ?_
 exact ge
end Go.Eva.S4
namespace Go.Eva.S4
def worldAt (c:Config) (rows:List InputL):World:=runW c (beginW c.cols c.regions c.players.toNat) rows
end Go.Eva.S4
namespace Go.Eva
theorem playFrames_ok {n:Nat} {l:List InputL} {most:Nat}: ∀i∈playFrames n l most,i.length=n∧ ∀x∈i,x.right=true:=fun i hi=>by
 obtain ⟨x,_,rfl⟩:=List.mem_map.1 hi
 exact ⟨playRow_len,playRow_right⟩
theorem playFrames_len {n:Nat} {l:List InputL} {most:Nat}:(playFrames n l most).length≤most:=by simp [playFrames];omega
end Go.Eva
namespace Go.Eva.S4
theorem f_joustref09_Run_loop (c:Config) (rows:List InputL) (hi: ∀i∈rows,(i.length:Int)=c.players∧ ∀x∈i,x.right=true) (hn:rows.length≤100): ∀(d i:Nat) (w:World) (f:Int),i+d=rows.length→WFine c w f→0≤f→f+d≤10000→
  Is cx (.loop 44 [0,1,0,1,1] 0 [.t (.sl 1 (rows.map encI)),.ptr 0 0 0,.ptr 1 0 0,.ptr 2 0 0,vi 0,vi i] [.one 5 (.t c.enc) false,.one 2 (.agg [.fit 2 [],.fit 1 []]) false,.one 2 (.t w.enc) false])
   ⟨.exit 0,[.t (.sl 1 (rows.map encI)),.ptr 0 0 0,.ptr 1 0 0,.ptr 2 0 0,vi 0,vi rows.length],[.one 5 (.t c.enc) false,.one 2 (.agg [.fit 2 [],.fit 1 []]) false,.one 2 (.t (runW c w (rows.drop i)).enc) false]⟩:=by
 intro d
 induction d with
 |zero=>
  intro i w f hid hw h0 hf
  rw [drop_end (by omega)]
  refine qq ?_
  refine gg [.n (zq (zz encI rows)) (zq rows),.b (decide ((i:Int)<(↑(zq rows):Int))) false,.ff,.ff,.ff] ⟨o_n (by simp),fP,trivial⟩ ?_
  refine rT (a:=qz (qx 0) [V.t (qk 1 (zz encI rows)),V.ptr 0 0 0,V.ptr 1 0 0,V.ptr 2 0 0,vi 0,vi (i:Int)] [qg 5 (V.t (Config.enc c)) false,qg 2 (V.agg [V.fit 2 [],V.fit 1 []]) false,qg 2 (V.t (World.enc w)) false]) ?_
  ((have:i=rows.length:=by omega);subst this;rfl)
 |succ d ih=>
  intro i w f hid hw h0 hf
  have hlt:i<rows.length:=by omega
  have h1:=hi _ (gt_mem hlt)
  have hS:=f_joustref09_Next_yes c w f (gt rows i) hw (by omega) h1.1 h1.2
  have ih1:=ih (i+1) (nextW c w (gt rows i)) (f+1) (by omega) (next_fine hw (by omega) h1.1 h1.2) (by omega) (by omega)
  rw [show runW c w (rows.drop i)=runW c (nextW c w (gt rows i)) (rows.drop (i+1)) by rw [drop_gt hlt];rfl]
  clear ih hi h1 hw
  generalize runW c (nextW c w (gt rows i)) (rows.drop (i+1))=W at*
  generalize nextW c w (gt rows i)=x at*
  refine qq ?_
  refine gg [.n (zq (zz encI rows)) (zq rows),.b (decide ((i:Int)<(↑(zq rows):Int))) true,.tt,.tt,.b (0==0) true,.w (0≤(i:Int)),.n (zy (i:Int)) i,.g (zz encI rows) i (encI (gt rows i)),.a _ _,.i zd ((i:Int)+1) ((↑(i+1):Int)),.a _ _] ⟨o_n (by simp),tP,bK,oW,nK,o_gt rfl (by assumption) (by intro h;cases h),o_a hS,oI,o_a ih1,trivial⟩ ?_
  exact ge
theorem f_joustref09_Run (c:Config) (rows:List InputL) (hr:c.right=true) (hi: ∀i∈rows,(i.length:Int)=c.players∧ ∀x∈i,x.right=true) (hn:rows.length≤100):
  Is cx (.call 44 [.t c.enc,.t (.sl 1 (rows.map encI))] []) ⟨.ret,[.t (worldAt c rows).enc,vi 0],[]⟩:=by
 have hB:=f_joustref09_Begin_yes c hr
 have hL:=f_joustref09_Run_loop c rows hi hn rows.length 0 (beginW c.cols c.regions c.players.toNat) 0 (by omega) (begin_fine hr) (by omega) (by omega)
 rw [List.drop_zero] at hL
 unfold worldAt
 generalize runW c (beginW c.cols c.regions c.players.toNat) rows=W at*
 generalize beginW c.cols c.regions c.players.toNat=B at*
 clear hi
 refine qq ?_
 refine gg [.a _ _,.a _ _] ⟨o_a hB,o_a hL,trivial⟩ ?_
 exact ge
theorem f_joustplay_World (c:Config) (l:List InputL) (most:Nat) (hr:c.right=true) (hl:long l) (hrr: ∀x∈l,long x) (hm:most≤100):
  Fn cx 32 [c.enc,.sl 1 (l.map encI),ti most] (worldAt c (playFrames c.players.toNat l most)).enc:=by
 have hc:=Config.right_iff.1 hr
 have hF:=f_joustplay_Frames c l most c.players.toNat (by omega) (by omega) hl (by omega) hrr
 have hok: ∀i∈playFrames c.players.toNat l most,(i.length:Int)=c.players∧ ∀x∈i,x.right=true:=fun i hi=>by
  obtain ⟨a,b⟩:=playFrames_ok i hi
  exact ⟨by omega,b⟩
 have hlen:(playFrames c.players.toNat l most).length≤100:=by unfold playFrames;simp;omega
 have hR:=f_joustref09_Run c (playFrames c.players.toNat l most) hr hok hlen
 generalize playFrames c.players.toNat l most=rows at*
 generalize worldAt c rows=W at*
 clear hok hrr
 refine qq ?_
 refine bO ?_ ?_
 ·refine gg [.a _ _] ⟨o_a hF,trivial⟩ ?_
  refine bO ?_ ?_
  all_goals
   refine gg [.a _ _] ⟨o_a hR,trivial⟩ ?_
   exact ge
 ·refine gg [.a _ _,.a _ _] ⟨o_a hF,o_a hR,trivial⟩ ?_
  exact ge
theorem f_joustref09_Next_form (c:Config) (w:World) (ins:List Input) (hr:c.right=true) (h1:w.regions.length≤100) (h2:w.outs.length≤100) (h:(w.regions.length:Int)≠c.regions∨(w.outs.length:Int)≠c.regions):
  Is cx (.call 35 [.t c.enc,.t w.enc,.t (.sl 3 (ins.map zr))] []) ⟨.ret,[.t (World.enc ⟨[],[]⟩),vi 4],[]⟩:=by
 have hR:=f_joustref03_Right c
 rw [hr] at hR
 have hG:=f_joustref03_Regions c
 have hgl:= @Config.regions_le c
 generalize c.regions=g at*
 obtain ⟨R,O⟩:=w
 simp only at h1 h2 h⊢
 by_cases q:(R.length:Int)=g
 ·have q2: ¬(O.length:Int)=g:=fun e=>h.elim (fun h=>h q) (fun h=>h e)
  clear h
  refine qq ?_
  refine gg [.a _ _,.b (!true) false,.a _ _,.n (zq (zz zt R)) (zq R),.b ((↑(zq R):Int) !=g) false,.ff,.ff,.n (zq (zz encL O)) (zq O),.ff,.ff,.ff,.b ((↑(zq O):Int) !=g) true] ⟨o_a hR,bK,o_a hG,o_n (by simp),f_brn (by assumption),o_n (by simp),t_brn (by assumption),trivial⟩ ?_
  exact ge
 ·clear h
  refine qq ?_
  refine gg [.a _ _,.b (!true) false,.a _ _,.n (zq (zz zt R)) (zq R),.b ((↑(zq R):Int) !=g) true,.tt,.tt,.tt,.tt,.tt,.tt] ⟨o_a hR,bK,o_a hG,o_n (by simp),t_brn (by assumption),trivial⟩ ?_
  exact ge
theorem f_arena_Step_form (c:Config) (w:World) (ins:List Input) (hr:c.right=true) (h1:w.regions.length≤100) (h2:w.outs.length≤100) (h:(w.regions.length:Int)≠c.regions∨(w.outs.length:Int)≠c.regions):
  Is cx (.call 34 [.t c.enc,.t w.enc,.t (.sl 3 (ins.map zr))] []) ⟨.ret,[.t (World.enc ⟨[],[]⟩),vi 4],[]⟩:=by
 have hN:=f_grid_New c
 rw [Config.grid_of hr,Config.err_of hr] at hN
 have hG:=f_grid_Regions c
 have hgl:= @Config.regions_le c
 generalize c.regions=g at*
 obtain ⟨R,O⟩:=w
 simp only at h1 h2 h⊢
 by_cases q:(R.length:Int)=g
 ·have q2: ¬(O.length:Int)=g:=fun e=>h.elim (fun h=>h q) (fun h=>h e)
  clear h
  refine qq ?_
  refine gg [.a _ _,.b (0 !=0) false,.n (zq (zz zt R)) (zq R),.a _ _,.b ((↑(zq R):Int) !=g) false,.ff,.ff,.n (zq (zz encL O)) (zq O),.ff,.ff,.a _ _,.ff,.ff,.b ((↑(zq O):Int) !=g) true] ⟨o_a hN,bK,o_n (by simp),o_a hG,f_brn (by assumption),o_n (by simp),o_a hG,t_brn (by assumption),trivial⟩ ?_
  exact ge
 ·clear h
  refine qq ?_
  refine gg [.a _ _,.b (0 !=0) false,.n (zq (zz zt R)) (zq R),.a _ _,.b ((↑(zq R):Int) !=g) true,.tt,.tt,.tt,.tt,.tt,.tt,.tt] ⟨o_a hN,bK,o_n (by simp),o_a hG,t_brn (by assumption),trivial⟩ ?_
  exact ge
end Go.Eva.S4
namespace Go.Eva.S4
theorem f_jousthelp_Same_self_loop_Region (a:List Region) (g:Nat) (hb:isFnB cx g=true) (hn:small a) (hg: ∀x∈a,Fn cx g [zt x,zt x] (.bool true)): ∀(d i:Nat),i+d=a.length→
  Is cx (.loop 39 [0,1,0,1,1] 0 [.t (.sl 2 (a.map zt)),.t (.sl 2 (a.map zt)),.t (.clo g []),vb false,vi i] [])
   ⟨.exit 0,[.t (.sl 2 (a.map zt)),.t (.sl 2 (a.map zt)),.t (.clo g []),vb false,vi a.length],[]⟩:=by
 unfold small at hn
 intro d
 induction d with
 |zero=>
  intro i hi
  refine qq ?_
  refine gg [.n (zq (zz zt a)) (zq a),.b (decide ((i:Int)<(↑(zq a):Int))) false] ⟨o_n (by simp),fP,trivial⟩ ?_
  refine rT (a:=qz (qx 0) [V.t (qk 2 (zz zt a)),V.t (qk 2 (zz zt a)),V.t (T.clo g []),vb false,vi (i:Int)] []) ?_
  ((have hq:i=a.length:=by omega);subst hq;rfl)
 |succ d ih=>
  intro i hi
  have hlt:i<a.length:=by omega
  have ih1:=ih (i+1) (by omega)
  have hy:=hg (gt a i) (gt_mem hlt)
  clear ih hg
  refine qq ?_
  refine gg [.n (zq (zz zt a)) (zq a),.b (decide ((i:Int)<(↑(zq a):Int))) true,.w (0≤(i:Int)),.n (zy (i:Int)) i,.g (zz zt a) i (zt (gt a i)),.w (0≤(i:Int)),.n (zy (i:Int)) i,.g (zz zt a) i (zt (gt a i)),.w (isFnB cx g=true),.a _ _,.b (!true) false,.i zd ((i:Int)+1) ((↑(i+1):Int)),.a _ _] ⟨o_n (by simp),tP,oW,nK,o_gt rfl (by assumption) (by intro h;cases h),oW,nK,o_gt rfl (by assumption) (by intro h;cases h),oA,o_a hy,bK,oI,o_a ih1,trivial⟩ ?_
  exact ge
theorem f_jousthelp_Same_self_Region (a:List Region) (g:Nat) (hb:isFnB cx g=true) (hn:small a) (hg: ∀x∈a,Fn cx g [zt x,zt x] (.bool true)):Fn cx 39 [.sl 2 (a.map zt),.sl 2 (a.map zt),.clo g []] (.bool true):=by
 have h:=f_jousthelp_Same_self_loop_Region a g hb hn hg a.length 0 (by omega)
 clear hg
 refine qq ?_
 refine gg [.n (zq (zz zt a)) (zq a),.n (zq (zz zt a)) (zq a),.b ((↑(zq a):Int) !=(↑(zq a):Int)) false,.a _ _] ⟨o_n (by simp),o_n (by simp),f_brn rfl,o_a h,trivial⟩ ?_
 exact ge
theorem f_jousthelp_Same_self_loop_Crosses (a:List CrossL) (g:Nat) (hb:isFnB cx g=true) (hn:small a) (hg: ∀x∈a,Fn cx g [encL x,encL x] (.bool true)): ∀(d i:Nat),i+d=a.length→
  Is cx (.loop 40 [0,1,0,1,1] 0 [.t (.sl 1 (a.map encL)),.t (.sl 1 (a.map encL)),.t (.clo g []),vb false,vi i] [])
   ⟨.exit 0,[.t (.sl 1 (a.map encL)),.t (.sl 1 (a.map encL)),.t (.clo g []),vb false,vi a.length],[]⟩:=by
 unfold small at hn
 intro d
 induction d with
 |zero=>
  intro i hi
  refine qq ?_
  refine gg [.n (zq (zz encL a)) (zq a),.b (decide ((i:Int)<(↑(zq a):Int))) false] ⟨o_n (by simp),fP,trivial⟩ ?_
  refine rT (a:=qz (qx 0) [V.t (qk 1 (zz encL a)),V.t (qk 1 (zz encL a)),V.t (T.clo g []),vb false,vi (i:Int)] []) ?_
  ((have hq:i=a.length:=by omega);subst hq;rfl)
 |succ d ih=>
  intro i hi
  have hlt:i<a.length:=by omega
  have ih1:=ih (i+1) (by omega)
  have hy:=hg (gt a i) (gt_mem hlt)
  clear ih hg
  refine qq ?_
  refine gg [.n (zq (zz encL a)) (zq a),.b (decide ((i:Int)<(↑(zq a):Int))) true,.w (0≤(i:Int)),.n (zy (i:Int)) i,.g (zz encL a) i (encL (gt a i)),.w (0≤(i:Int)),.n (zy (i:Int)) i,.g (zz encL a) i (encL (gt a i)),.w (isFnB cx g=true),.a _ _,.b (!true) false,.i zd ((i:Int)+1) ((↑(i+1):Int)),.a _ _] ⟨o_n (by simp),tP,oW,nK,o_gt rfl (by assumption) (by intro h;cases h),oW,nK,o_gt rfl (by assumption) (by intro h;cases h),oA,o_a hy,bK,oI,o_a ih1,trivial⟩ ?_
  exact ge
theorem f_jousthelp_Same_self_Crosses (a:List CrossL) (g:Nat) (hb:isFnB cx g=true) (hn:small a) (hg: ∀x∈a,Fn cx g [encL x,encL x] (.bool true)):Fn cx 40 [.sl 1 (a.map encL),.sl 1 (a.map encL),.clo g []] (.bool true):=by
 have h:=f_jousthelp_Same_self_loop_Crosses a g hb hn hg a.length 0 (by omega)
 clear hg
 refine qq ?_
 refine gg [.n (zq (zz encL a)) (zq a),.n (zq (zz encL a)) (zq a),.b ((↑(zq a):Int) !=(↑(zq a):Int)) false,.a _ _] ⟨o_n (by simp),o_n (by simp),f_brn rfl,o_a h,trivial⟩ ?_
 exact ge
theorem f_jousthelp_Region (a:Region) (hn:small a.ents):Fn cx 29 [a.enc,a.enc] (.bool true):=by
 have hP:=f_jousthelp_Plain_Entity a.ents a.ents hn
 rw [show plain a.ents a.ents=true by simp [plain]] at hP
 obtain ⟨f,l⟩:=a
 simp only at hP
 refine qq ?_
 refine gg [.b (f==f) true,.tt,.tt,.tt,.tt,.a _ _,.tt] ⟨t_bre rfl,o_a hP,trivial⟩ ?_
 refine rT (a:=qz qj [vb true] []) ?_
 (simp;done)
theorem f_jousthelp_Crosses (a:CrossL) (hn:small a):Fn cx 41 [encL a,encL a] (.bool true):=by
 have hP:=f_jousthelp_Plain_Cross a a hn
 rw [show plain a a=true by simp [plain]] at hP
 refine qq ?_
 refine gg [.a _ _] ⟨o_a hP,trivial⟩ ?_
 exact ge
theorem f_jousthelp_World (w:World) (h1:small w.regions) (h2:small w.outs) (h3: ∀s∈w.regions,small s.ents) (h4: ∀l∈w.outs,small l):Fn cx 36 [w.enc,w.enc] (.bool true):=by
 have e1:=f_jousthelp_Same_self_Region w.regions 29 (by kernel_rfl) h1 fun x hx=>f_jousthelp_Region x (h3 x hx)
 have e2:=f_jousthelp_Same_self_Crosses w.outs 41 (by kernel_rfl) h2 fun x hx=>f_jousthelp_Crosses x (h4 x hx)
 clear h3 h4
 obtain ⟨R,O⟩:=w
 simp only at e1 e2
 refine qq ?_
 refine gg [.a _ _,.tt,.tt,.tt,.tt,.tt,.a _ _,.tt] ⟨o_a e1,o_a e2,trivial⟩ ?_
 exact ge
end Go.Eva.S4
namespace Go.Eva.S4
end Go.Eva.S4
namespace Go.Eva.S4
theorem f_arena_Step_worse_first (c:Config) (w:World) (f:Int) (ins:List Input) (h:WFine c w f) (hf:0≤f∧f<10000) (hl:(ins.length:Int)≠c.players∨(ins.any fun i=> !i.right)=true) (hs:ins.length≤100):
  Is cx (.call 38 [.t c.enc,.t (.sl 1 (w.outs.map encL)),vi 0] []) ⟨.ret,[.t (.sl 15 ((inboxL c w.outs 0).map zn))],[]⟩∧
  Is cx (.call 23 [.t c.enc,vi 0,.t (gt w.regions 0).enc,.t (.sl 3 (ins.map zr)),.t (.sl 15 ((inboxL c w.outs 0).map zn))] []) ⟨.ret,[.t (.agg [ti 0,.sl 9 []]),.t (.sl 15 []),vi 11],[]⟩:=by
 have hreg:=h.regs
 have hout:=h.outs
 have hgl:= @Config.regions_le c
 have hml:=Config.mul_le h.right
 have hgr:c.regions=c.cols*c.rows:=by simp [z0,h.right]
 have hlt:0<w.regions.length:=by omega
 have his:c.is 0=true:=by rw [Config.is_iff h.right];omega
 have hb:=inbox_ok h hlt
 change (∀m∈inboxL c w.outs 0,_)∧(inboxL c w.outs 0).length≤3600 at hb
 obtain ⟨s1,s2,s3⟩:=h.sane 0 hlt
 refine ⟨f_arena_Inbox c w.outs 0 his (by omega) (fun l hl=> ?_),?_⟩
 ·obtain ⟨k,hk,rfl⟩:=List.mem_iff_getElem.1 hl
  have:=(h.sent k hk).2
  have e:gt w.outs k=w.outs[k]:=by simp [gt,hk]
  rwa [e] at this
 ·have hS:=f_region_Step c 0 (gt w.regions 0) ins (inboxL c w.outs 0) (by omega) (by unfold small;omega) (by omega)
  have hR:regionRight c 0 (gt w.regions 0)=true:=regionRight_iff.2 ⟨his,by omega,s1.srt,s1.things,s1.ents⟩
  have hA:askedE c 0 (gt w.regions 0) ins (inboxL c w.outs 0)=11:=by
   unfold askedE
   rw [if_neg (by simp [his]),if_neg (by simp [hR]),if_pos hl]
  have e:stepP c 0 (gt w.regions 0) ins (inboxL c w.outs 0)=(Region.zero,[],11):=by
   unfold stepP
   rw [hA]
   rfl
  rw [e] at hS
  exact hS
theorem f_arena_Step_worse_loop (c:Config) (w:World) (f:Int) (ins:List Input) (h:WFine c w f) (hf:0≤f∧f<10000) (hl:(ins.length:Int)≠c.players∨(ins.any fun i=> !i.right)=true) (hs:ins.length≤100):
  Is cx (.loop 34 [0,1,0,1,1,1,1] 0 [.t (.sl 3 (ins.map zr)),.ptr 0 0 0,.ptr 1 0 0,vi 0,.ptr 2 0 0,.ptr 3 0 0,.t (.sl 2 (w.regions.map zt)),vi w.regions.length,vi 0] [.one 2 (.t w.enc) false,.one 2 (.agg [.fit 2 [],.fit 1 []]) false,.one 5 (.t c.enc) false,.one 2 (.agg [.fit 2 [],.fit 1 []]) false])
   ⟨.ret,[.t (.sl 3 (ins.map zr)),.ptr 0 0 0,.ptr 1 0 0,vi 11,.ptr 2 0 0,.ptr 3 0 0,.t (.sl 2 (w.regions.map zt)),vi w.regions.length,vi 0],[.one 2 (.t w.enc) false,.one 2 (.agg [.fit 2 [],.fit 1 []]) false,.one 5 (.t c.enc) false,.one 2 (.agg [.fit 2 [],.fit 1 []]) false]⟩:=by
 have hreg:=h.regs
 have hgl:= @Config.regions_le c
 have hml:=Config.mul_le h.right
 have hgr:c.regions=c.cols*c.rows:=by simp [z0,h.right]
 have hlt:0<w.regions.length:=by omega
 obtain ⟨hI,hS⟩:=f_arena_Step_worse_first c w f ins h hf hl hs
 clear hgr
 generalize inboxL c w.outs 0=box at*
 obtain ⟨R,O⟩:=w
 simp only at hreg hlt hI hS⊢
 clear h hl
 refine qq ?_
 refine gg [.b (decide (0<(↑(zq R):Int))) true,.w (0≤(0:Int)),.l 0,.g (zz zt R) 0 (zt (gt R 0))] ⟨tP,oW,o_gt rfl (by assumption) (by intro h;cases h),trivial⟩ ?_
 refine bO ?_ ?_
 ·refine gg [.a _ _] ⟨o_a hI,trivial⟩ ?_
  refine bO ?_ ?_
  all_goals
   refine gg [.a _ _,.b (11 !=0) true] ⟨o_a hS,bK,trivial⟩ ?_
   exact ge
 ·refine gg [.a _ _,.a _ _,.b (11 !=0) true] ⟨o_a hI,o_a hS,bK,trivial⟩ ?_
  exact ge
theorem f_arena_Step_worse (c:Config) (w:World) (f:Int) (ins:List Input) (h:WFine c w f) (hf:0≤f∧f<10000) (hl:(ins.length:Int)≠c.players∨(ins.any fun i=> !i.right)=true) (hs:ins.length≤100):
  Is cx (.call 34 [.t c.enc,.t w.enc,.t (.sl 3 (ins.map zr))] []) ⟨.ret,[.t (World.enc ⟨[],[]⟩),vi 11],[]⟩:=by
 have hr:=h.right
 have hreg:=h.regs
 have hout:=h.outs
 have hgl:= @Config.regions_le c
 have hN:=f_grid_New c
 rw [Config.grid_of hr,Config.err_of hr] at hN
 have hG:=f_grid_Regions c
 rw [←hreg] at hG
 have hE:=f_arena_Step_worse_loop c w f ins h hf hl hs
 obtain ⟨R,O⟩:=w
 simp only at hreg hout hG hE⊢
 clear h hl
 refine qq ?_
 refine gg [.a _ _,.b (0 !=0) false,.n (zq (zz zt R)) (zq R),.a _ _,.b ((↑(zq R):Int) !=(↑(zq R):Int)) false,.ff,.ff,.n (zq (zz encL O)) (zq O),.ff,.ff,.a _ _,.ff,.ff,.b ((↑(zq O):Int) !=(↑(zq R):Int)) false,.n (zq (zz zt R)) (zq R),.a _ _] ⟨o_a hN,bK,o_n (by simp),o_a hG,f_brn rfl,o_n (by simp),o_a hG,fN,o_n (by simp),o_a hE,trivial⟩ ?_
 exact ge
end Go.Eva.S4
namespace Go.Eva.S4
def c213:Config:=⟨2,1,3,1,0⟩
theorem f_joustlaw10_awake:Fn cx 33 [] (.bool true):=by
 have hB:=f_arena_Begin_yes c213 (by decide)
 have hA:=f_arena_All (beginW 2 2 3) (by decide) (by decide) (by decide) (by decide)
 have e:allL (beginW 2 2 3)=playersP 2 2 3 1:=by decide+kernel
 rw [e] at hA
 have hl:(playersP 2 2 3 1).length=3:=rfl
 have hr:(beginW 2 2 3).regions.length=2:=rfl
 change Is cx _ ⟨_,[.t (beginW 2 2 3).enc,_],_⟩ at hB
 simp only [c213] at hB
 generalize playersP 2 2 3 1=P at*
 generalize beginW 2 2 3=W at*
 obtain ⟨R,O⟩:=W
 simp only at hr
 refine qq ?_
 refine gg [.a _ _,.b (0==0) true,.tt,.tt,.n (zq (zz zt R)) (zq R),.tt,.tt,.b ((↑(zq R):Int)==2) true,.tt,.a _ _,.tt,.n (zq (zz zm P)) (zq P),.tt,.tt] ⟨o_a hB,bK,o_n (by simp),tE,o_a hA,o_n (by simp),trivial⟩ ?_
 refine rT (a:=qz qj [vb ((↑(zq P):Int)==3)] []) ?_
 (simp;omega)
end Go.Eva.S4
namespace Go.Eva.S4
theorem steps_um {what t:Int} (h:(IntKind.u64.wrap what).tmod 5=t):0≤t∧t<5:=by
 have:=u64_tmod (n:=what) (k:=5) (by decide)
 omega
theorem f_steps_many (c g:Config) (w:World) (l:List InputL) (ins:List Input) (what:Int) (ha:Fn cx 33 [] (.bool true)) (hC:Fn cx 16 [c.enc] g.enc) (hW:Fn cx 32 [g.enc,.sl 1 (l.map encI),ti 15] w.enc) (hi:long ins) (h:20<ins.length):
  Fn cx 7 [c.enc,.sl 1 (l.map encI),.sl 3 (ins.map zr),ti what] (.bool true):=by
 unfold long at hi
 refine qq ?_
 refine gg [.a _ _,.a _ _,.n (zq (zz zr ins)) (zq ins),.b (decide ((↑(zq ins):Int)>20)) true,.a _ _] ⟨o_a hC,o_a hW,o_n (by simp),tP,o_a ha,trivial⟩ ?_
 exact ge
theorem f_steps_0 (c g:Config) (w x:World) (l:List InputL) (ins:List Input) (what e:Int) (ha:Fn cx 33 [] (.bool true)) (hC:Fn cx 16 [c.enc] g.enc) (hW:Fn cx 32 [g.enc,.sl 1 (l.map encI),ti 15] w.enc) (h:ins.length≤20) (hr:w.regions.length≤100)
  (hS:Is cx (.call 34 [.t g.enc,.t (World.enc ⟨w.regions++ [⟨0,[]⟩],w.outs⟩),.t (.sl 3 (ins.map zr))] []) ⟨.ret,[.t x.enc,vi e],[]⟩)
  (hN:Is cx (.call 35 [.t g.enc,.t (World.enc ⟨w.regions++ [⟨0,[]⟩],w.outs⟩),.t (.sl 3 (ins.map zr))] []) ⟨.ret,[.t x.enc,vi e],[]⟩)
  (hs:Fn cx 36 [x.enc,x.enc] (.bool true)) (ht:(IntKind.u64.wrap what).tmod 5=0):
  Fn cx 7 [c.enc,.sl 1 (l.map encI),.sl 3 (ins.map zr),ti what] (.bool true):=by
 have hm:=u64_tmod (n:=what) (k:=5) (by decide)
 obtain ⟨R,O⟩:=w
 simp only at hr hS hN
 unfold World.enc at hS hN
 simp only [List.map_append,List.map_cons,List.map_nil] at hS hN
 change Is cx (.call _ [_,.t (.agg [.sl 2 (R.map zt++ [.agg [ti 0,.sl 9 []]]),.sl 1 (O.map encL)]),_] _) _ at hS
 change Is cx (.call _ [_,.t (.agg [.sl 2 (R.map zt++ [.agg [ti 0,.sl 9 []]]),.sl 1 (O.map encL)]),_] _) _ at hN
 refine qq ?_
 refine gg [.a _ _,.a _ _,.n (zq (zz zr ins)) (zq ins),.b (decide ((↑(zq ins):Int)>20)) false,.i zf what (zp zf what),.w ((5:Int)≠(0:Int)),.t (T.int zf (zg (zp zf what) 5)) (T.int zf 0),.b (0==0) true,.w ((0:Nat)<(32:Nat)),.s (qk 0 (zz zt R)),.s (qk 0 (zz zt R)),.w (room (zq (zz zt R)) (32:Nat)),.s (T.agg [ti 0,qk 9 []]),.w ((0:Nat)<(32:Nat)),.s (qk 0 [T.agg [ti 0,qk 9 []]]),.s (qk 0 (zz zt R++ [T.agg [ti 0,qk 9 []]]))] ⟨o_a hC,o_a hW,o_n (by simp),fP,o_i rfl,o_w (by intro h;cases h),o_t (by rw [ht]),bK,oW,o_w (by (simp [room,appendMax];omega)),oW,trivial⟩ ?_
 refine gg [.w (room (zq (zz zt R++ [T.agg [ti (0:Int),qk (9:Nat) []]])) (32:Nat)),.a _ _,.b (flats [T.agg [qk 2 (zz zt x.regions),qk 1 (zz encL x.outs)],ti e]) false,.a _ _,.b (flats [T.agg [qk 2 (zz zt x.regions),qk 1 (zz encL x.outs)],ti e]) false,.a _ _,.tt,.tt,.tt,.a _ _,.tt,.tt,.tt,.tt,.tt] ⟨o_w (by (simp [room,appendMax];omega)),o_a hS,bK,o_a hN,bK,o_a ha,o_a hs,trivial⟩ ?_
 refine rT (a:=qz qj [vb (e==e)] []) ?_
 simp
theorem f_steps_1 (c g:Config) (w x:World) (l:List InputL) (ins:List Input) (what e:Int) (ha:Fn cx 33 [] (.bool true)) (hC:Fn cx 16 [c.enc] g.enc) (hW:Fn cx 32 [g.enc,.sl 1 (l.map encI),ti 15] w.enc) (h:ins.length≤20)
  (hS:Is cx (.call 34 [.t g.enc,.t (World.enc ⟨w.regions,[]⟩),.t (.sl 3 (ins.map zr))] []) ⟨.ret,[.t x.enc,vi e],[]⟩)
  (hN:Is cx (.call 35 [.t g.enc,.t (World.enc ⟨w.regions,[]⟩),.t (.sl 3 (ins.map zr))] []) ⟨.ret,[.t x.enc,vi e],[]⟩)
  (hs:Fn cx 36 [x.enc,x.enc] (.bool true)) (ht:(IntKind.u64.wrap what).tmod 5=1):
  Fn cx 7 [c.enc,.sl 1 (l.map encI),.sl 3 (ins.map zr),ti what] (.bool true):=by
 have hm:=u64_tmod (n:=what) (k:=5) (by decide)
 obtain ⟨R,O⟩:=w
 refine qq ?_
 refine gg [.a _ _,.a _ _,.n (zq (zz zr ins)) (zq ins),.b (decide ((↑(zq ins):Int)>20)) false,.i zf what (zp zf what),.w ((5:Int)≠(0:Int)),.t (T.int zf (zg (zp zf what) 5)) (T.int zf 1),.b (1==0) false,.b (1==1) true,.a _ _,.a _ _,.a _ _,.tt,.tt,.tt,.a _ _] ⟨o_a hC,o_a hW,o_n (by simp),fP,o_i rfl,o_w (by intro h;cases h),o_t (by rw [ht]),bK,bK,o_a hS,o_a hN,o_a ha,o_a hs,trivial⟩ ?_
 refine gg [.tt,.tt,.tt,.tt,.tt] trivial ?_
 refine rT (a:=qz qj [vb (e==e)] []) ?_
 simp
theorem f_steps_2 (c g:Config) (w x:World) (l:List InputL) (ins row:List Input) (what e:Int) (ha:Fn cx 33 [] (.bool true)) (hC:Fn cx 16 [c.enc] g.enc) (hW:Fn cx 32 [g.enc,.sl 1 (l.map encI),ti 15] w.enc) (h:ins.length≤20)
  (hF:Fn cx 22 [g.enc,.sl 1 ([ins].map encI),ti 1] (.sl 1 ([row].map encI)))
  (hS:Is cx (.call 34 [.t g.enc,.t w.enc,.t (.sl 3 (row.map zr))] []) ⟨.ret,[.t x.enc,vi e],[]⟩)
  (hN:Is cx (.call 35 [.t g.enc,.t w.enc,.t (.sl 3 (row.map zr))] []) ⟨.ret,[.t x.enc,vi e],[]⟩)
  (hs:Fn cx 36 [x.enc,x.enc] (.bool true)) (ht:(IntKind.u64.wrap what).tmod 5=2):
  Fn cx 7 [c.enc,.sl 1 (l.map encI),.sl 3 (ins.map zr),ti what] (.bool true):=by
 have hm:=u64_tmod (n:=what) (k:=5) (by decide)
 obtain ⟨R,O⟩:=w
 refine qq ?_
 refine gg [.a _ _,.a _ _,.n (zq (zz zr ins)) (zq ins),.b (decide ((↑(zq ins):Int)>20)) false,.i zf what (zp zf what),.w ((5:Int)≠(0:Int)),.t (T.int zf (zg (zp zf what) 5)) (T.int zf 2),.b (2==0) false,.b (2==1) false,.b (2==2) true,.a _ _,.w (0≤(0:Int)),.l 0,.g [qk 3 (zz zr row)] 0 (qk 3 (zz zr row)),.a _ _,.a _ _] ⟨o_a hC,o_a hW,o_n (by simp),fP,o_i rfl,o_w (by intro h;cases h),o_t (by rw [ht]),bK,bK,bK,o_a hF,oW,oG,o_a hS,o_a hN,trivial⟩ ?_
 refine gg [.a _ _,.tt,.tt,.tt,.a _ _,.tt,.tt,.tt,.tt,.tt] ⟨o_a ha,o_a hs,trivial⟩ ?_
 refine rT (a:=qz qj [vb (e==e)] []) ?_
 simp
theorem f_steps_3 (c g:Config) (w x:World) (l:List InputL) (ins:List Input) (what e t:Int) (ha:Fn cx 33 [] (.bool true)) (hC:Fn cx 16 [c.enc] g.enc) (hW:Fn cx 32 [g.enc,.sl 1 (l.map encI),ti 15] w.enc) (h:ins.length≤20)
  (hS:Is cx (.call 34 [.t g.enc,.t w.enc,.t (.sl 3 (ins.map zr))] []) ⟨.ret,[.t x.enc,vi e],[]⟩)
  (hN:Is cx (.call 35 [.t g.enc,.t w.enc,.t (.sl 3 (ins.map zr))] []) ⟨.ret,[.t x.enc,vi e],[]⟩)
  (hs:Fn cx 36 [x.enc,x.enc] (.bool true)) (ht:(IntKind.u64.wrap what).tmod 5=t) (ht3:3≤t):
  Fn cx 7 [c.enc,.sl 1 (l.map encI),.sl 3 (ins.map zr),ti what] (.bool true):=by
 have hm:=u64_tmod (n:=what) (k:=5) (by decide)
 obtain ⟨R,O⟩:=w
 refine qq ?_
 refine gg [.a _ _,.a _ _,.n (zq (zz zr ins)) (zq ins),.b (decide ((↑(zq ins):Int)>20)) false,.i zf what (zp zf what),.w ((5:Int)≠(0:Int)),.t (T.int zf (zg (zp zf what) 5)) (T.int zf t),.b (t==0) false,.b (t==1) false,.b (t==2) false,.a _ _,.a _ _,.a _ _,.tt,.tt,.tt] ⟨o_a hC,o_a hW,o_n (by simp),fP,o_i rfl,o_w (by intro h;cases h),o_t (by rw [ht]),fE,fE,fE,o_a hS,o_a hN,o_a ha,trivial⟩ ?_
 refine gg [.a _ _,.tt,.tt,.tt,.tt,.tt] ⟨o_a hs,trivial⟩ ?_
 refine rT (a:=qz qj [vb (e==e)] []) ?_
 simp
theorem same_none:Fn cx 36 [World.enc ⟨[],[]⟩,World.enc ⟨[],[]⟩] (.bool true):=f_jousthelp_World ⟨[],[]⟩ (by simp [small]) (by simp [small]) (by simp) (by simp)
theorem same_fine {c:Config} {w:World} {f:Int} (h:WFine c w f):Fn cx 36 [w.enc,w.enc] (.bool true):=by
 have hgl:= @Config.regions_le c
 have h1:=h.regs
 have h2:=h.outs
 refine f_jousthelp_World w (by unfold small;omega) (by unfold small;omega) (fun s hs=> ?_) (fun l hl=> ?_)
 ·obtain ⟨k,hk,rfl⟩:=List.mem_iff_getElem.1 hs
  have:=(h.sane k hk).2.2
  rw [gt_eq hk] at this
  unfold small;omega
 ·have:=outs_le h l hl
  unfold small;omega
theorem f_joustlaw10_ArenaSteps (c:Config) (l:List InputL) (ins:List Input) (what:Int) (hl:long l) (hr: ∀x∈l,long x) (hi:long ins):Fn cx 7 [c.enc,.sl 1 (l.map encI),.sl 3 (ins.map zr),ti what] (.bool true):=by
 have ha:=f_joustlaw10_awake
 obtain ⟨hrt,h1,h2,h3,h4⟩:= @Config.play_ok c
 have hC:=f_joustplay_Config c
 generalize c.play=g at*
 have hW:=f_joustplay_World g l 15 hrt hl hr (by decide)
 have hrows: ∀i∈playFrames g.players.toNat l 15,(i.length:Int)=g.players∧ ∀x∈i,x.right=true:=fun i hi=>by
  obtain ⟨a,b⟩:=playFrames_ok i hi
  exact ⟨by omega,b⟩
 have hrl:= @playFrames_len g.players.toNat l 15
 have hw:=run_fine (rows:=playFrames g.players.toNat l 15) (begin_fine hrt) (by omega) (by omega) hrows
 change WFine g (worldAt g (playFrames g.players.toNat l 15)) _ at hw
 obtain ⟨f,hfe⟩: ∃f:Int,(0:Int)+((playFrames g.players.toNat l 15).length:Int)=f:=⟨_,rfl⟩
 have hf:0≤f∧f≤15:=by omega
 rw [hfe] at hw
 clear hfe
 generalize worldAt g (playFrames g.players.toNat l 15)=w at*
 by_cases hm:20<ins.length
 ·exact f_steps_many c g w l ins what ha hC hW hi hm
 have hm:ins.length≤20:=by omega
 have hgl:= @Config.regions_le g
 have hreg:=hw.regs
 have hout:=hw.outs
 obtain ⟨t,ht⟩: ∃t,(IntKind.u64.wrap what).tmod 5=t:=⟨_,rfl⟩
 have htr:=steps_um ht
 by_cases t0:t=0
 ·subst t0
  exact f_steps_0 c g w ⟨[],[]⟩ l ins what 4 ha hC hW hm (by omega) (f_arena_Step_form g _ ins hrt (by simp;omega) (by simp only;omega) (.inl (by simp;omega))) (f_joustref09_Next_form g _ ins hrt (by simp;omega) (by simp only;omega) (.inl (by simp;omega))) same_none ht
 by_cases t1:t=1
 ·subst t1
  have hml:=Config.mul_le hrt
  have hre:g.regions=g.cols*g.rows:=by simp [z0,hrt]
  exact f_steps_1 c g w ⟨[],[]⟩ l ins what 4 ha hC hW hm (f_arena_Step_form g _ ins hrt (by simp only;omega) (by simp) (.inr (by simp;omega))) (f_joustref09_Next_form g _ ins hrt (by simp only;omega) (by simp) (.inr (by simp;omega))) same_none ht
 by_cases t2:t=2
 ·subst t2
  have hF:=f_joustplay_Frames g [ins] 1 g.players.toNat (by omega) (by omega) (by simp [long]) (by decide) (fun x hx=>by simp at hx;subst hx;exact hi)
  have hrow:= @playRow_len g.players.toNat ins
  have hrr:=fun x hx=> @playRow_right g.players.toNat ins x hx
  exact f_steps_2 c g w (nextW g w (playRow g.players.toNat ins)) l ins (playRow g.players.toNat ins) what 0 ha hC hW hm hF (f_arena_Step_yes g w f _ hw (by omega) (by omega) hrr) (f_joustref09_Next_yes g w f _ hw (by omega) (by omega) hrr) (same_fine (next_fine hw (by omega) (by omega) hrr)) ht
 ·by_cases hgood:(ins.length:Int)≠g.players∨(ins.any fun i=> !i.right)=true
  ·exact f_steps_3 c g w ⟨[],[]⟩ l ins what 11 t ha hC hW hm (f_arena_Step_worse g w f ins hw (by omega) hgood (by omega)) (f_joustref09_Next_worse g w f ins hw (by omega) hgood (by omega)) same_none ht (by omega)
  ·have hlen:(ins.length:Int)=g.players:=Decidable.byContradiction fun q=>hgood (.inl q)
   have hrr: ∀i∈ins,i.right=true:=fun i hi=>by
    cases q:i.right with
    |true=>rfl
    |false=>exact absurd (Or.inr (List.any_eq_true.2 ⟨i,hi,by simp [q]⟩)) hgood
   exact f_steps_3 c g w (nextW g w ins) l ins what 0 t ha hC hW hm (f_arena_Step_yes g w f ins hw (by omega) hlen hrr) (f_joustref09_Next_yes g w f ins hw (by omega) hlen hrr) (same_fine (next_fine hw (by omega) hlen hrr)) ht (by omega)
end Go.Eva.S4
namespace Go.Eva.S4
open Go.Proofs
theorem cxTy:CxTy Tryz.prog cx:=cxTy_of (by decide+kernel) (by decide+kernel) (⟨⟨Tryz.f179,by kernel_rfl,by decide+kernel,by kernel_rfl,by kernel_rfl,by kernel_rfl,by kernel_rfl,48,by kernel_rfl⟩,trivial⟩)
theorem ok3:FnOK Tryz.prog cx 3 fi3 Tryz.f3:=mkOk
theorem ok4:FnOK Tryz.prog cx 4 fi4 Tryz.f4:=mkOk
theorem ok5:FnOK Tryz.prog cx 5 fi5 Tryz.f5:=mkOk
theorem ok6:FnOK Tryz.prog cx 6 fi6 Tryz.f6:=mkOk
theorem ok7:FnOK Tryz.prog cx 7 fi7 Tryz.f7:=mkOk
theorem ok8:FnOK Tryz.prog cx 8 fi8 Tryz.f8:=mkOk
theorem ok9:FnOK Tryz.prog cx 9 fi9 Tryz.f9:=mkOk
theorem ok10:FnOK Tryz.prog cx 10 fi10 Tryz.f10:=mkOk
theorem ok11:FnOK Tryz.prog cx 11 fi11 Tryz.f11:=mkOk
theorem ok12:FnOK Tryz.prog cx 12 fi12 Tryz.f12:=mkOk
theorem ok13:FnOK Tryz.prog cx 13 fi13 Tryz.f13:=mkOk
theorem ok14:FnOK Tryz.prog cx 14 fi14 Tryz.f14:=mkOk
theorem ok15:FnOK Tryz.prog cx 15 fi15 Tryz.f15:=mkOk
theorem ok16:FnOK Tryz.prog cx 16 fi16 Tryz.f16:=mkOk
theorem ok17:FnOK Tryz.prog cx 17 fi17 Tryz.f17:=mkOk
theorem ok18:FnOK Tryz.prog cx 18 fi18 Tryz.f18:=mkOk
theorem ok19:FnOK Tryz.prog cx 19 fi19 Tryz.f19:=mkOk
theorem ok20:FnOK Tryz.prog cx 20 fi20 Tryz.f20:=mkOk
theorem ok21:FnOK Tryz.prog cx 21 fi21 Tryz.f21:=mkOk
theorem ok22:FnOK Tryz.prog cx 22 fi22 Tryz.f22:=mkOk
theorem ok23:FnOK Tryz.prog cx 23 fi23 Tryz.f23:=mkOk
theorem ok24:FnOK Tryz.prog cx 24 fi24 Tryz.f24:=mkOk
theorem ok25:FnOK Tryz.prog cx 25 fi25 Tryz.f25:=mkOk
theorem ok26:FnOK Tryz.prog cx 26 fi26 Tryz.f26:=mkOk
theorem ok27:FnOK Tryz.prog cx 27 fi27 Tryz.f27:=mkOk
theorem ok28:FnOK Tryz.prog cx 28 fi28 Tryz.f28:=mkOk
theorem ok29:FnOK Tryz.prog cx 29 fi29 Tryz.f29:=mkOk
theorem ok30:FnOK Tryz.prog cx 30 fi30 Tryz.f30:=mkOk
theorem ok31:FnOK Tryz.prog cx 31 fi31 Tryz.f31:=mkOk
theorem ok32:FnOK Tryz.prog cx 32 fi32 Tryz.f32:=mkOk
theorem ok33:FnOK Tryz.prog cx 33 fi33 Tryz.f33:=mkOk
theorem ok34:FnOK Tryz.prog cx 34 fi34 Tryz.f34:=mkOk
theorem ok35:FnOK Tryz.prog cx 35 fi35 Tryz.f35:=mkOk
theorem ok36:FnOK Tryz.prog cx 36 fi36 Tryz.f36:=mkOk
theorem ok37:FnOK Tryz.prog cx 37 fi37 Tryz.f37:=mkOk
theorem ok38:FnOK Tryz.prog cx 38 fi38 Tryz.f38:=mkOk
theorem ok39:FnOK Tryz.prog cx 39 fi39 Tryz.f39:=mkOk
theorem ok40:FnOK Tryz.prog cx 40 fi40 Tryz.f40:=mkOk
theorem ok41:FnOK Tryz.prog cx 41 fi41 Tryz.f41:=mkOk
theorem ok42:FnOK Tryz.prog cx 42 fi42 Tryz.f42:=mkOk
theorem ok43:FnOK Tryz.prog cx 43 fi43 Tryz.f43:=mkOk
theorem ok44:FnOK Tryz.prog cx 44 fi44 Tryz.f44:=mkOk
theorem ok45:FnOK Tryz.prog cx 45 fi45 Tryz.f45:=mkOk
theorem ok46:FnOK Tryz.prog cx 46 fi46 Tryz.f46:=mkOk
theorem ok47:FnOK Tryz.prog cx 47 fi47 Tryz.f47:=mkOk
theorem ok48:FnOK Tryz.prog cx 48 fi48 Tryz.f48:=mkOk
theorem ok49:FnOK Tryz.prog cx 49 fi49 Tryz.f49:=mkOk
theorem ok50:FnOK Tryz.prog cx 50 fi50 Tryz.f50:=mkOk
theorem ok51:FnOK Tryz.prog cx 51 fi51 Tryz.f51:=mkOk
theorem ok52:FnOK Tryz.prog cx 52 fi52 Tryz.f52:=mkOk
theorem ok53:FnOK Tryz.prog cx 53 fi53 Tryz.f53:=mkOk
theorem ok54:FnOK Tryz.prog cx 54 fi54 Tryz.f54:=mkOk
theorem ok55:FnOK Tryz.prog cx 55 fi55 Tryz.f55:=mkOk
theorem ok56:FnOK Tryz.prog cx 56 fi56 Tryz.f56:=mkOk
theorem ok57:FnOK Tryz.prog cx 57 fi57 Tryz.f57:=mkOk
theorem ok58:FnOK Tryz.prog cx 58 fi58 Tryz.f58:=mkOk
theorem ok59:FnOK Tryz.prog cx 59 fi59 Tryz.f59:=mkOk
theorem ok60:FnOK Tryz.prog cx 60 fi60 Tryz.f60:=mkOk
theorem ok61:FnOK Tryz.prog cx 61 fi61 Tryz.f61:=mkOk
theorem ok62:FnOK Tryz.prog cx 62 fi62 Tryz.f62:=mkOk
theorem ok63:FnOK Tryz.prog cx 63 fi63 Tryz.f63:=mkOk
theorem ok64:FnOK Tryz.prog cx 64 fi64 Tryz.f64:=mkOk
theorem ok65:FnOK Tryz.prog cx 65 fi65 Tryz.f65:=mkOk
theorem ok66:FnOK Tryz.prog cx 66 fi66 Tryz.f66:=mkOk
theorem ok67:FnOK Tryz.prog cx 67 fi67 Tryz.f67:=mkOk
theorem ok68:FnOK Tryz.prog cx 68 fi68 Tryz.f68:=mkOk
theorem ok69:FnOK Tryz.prog cx 69 fi69 Tryz.f69:=mkOk
theorem ok70:FnOK Tryz.prog cx 70 fi70 Tryz.f70:=mkOk
theorem ok71:FnOK Tryz.prog cx 71 fi71 Tryz.f71:=mkOk
theorem ok72:FnOK Tryz.prog cx 72 fi72 Tryz.f72:=mkOk
theorem ok73:FnOK Tryz.prog cx 73 fi73 Tryz.f73:=mkOk
theorem ok74:FnOK Tryz.prog cx 74 fi74 Tryz.f74:=mkOk
theorem ok75:FnOK Tryz.prog cx 75 fi75 Tryz.f75:=mkOk
theorem ok76:FnOK Tryz.prog cx 76 fi76 Tryz.f76:=mkOk
theorem ok77:FnOK Tryz.prog cx 77 fi77 Tryz.f77:=mkOk
theorem ok78:FnOK Tryz.prog cx 78 fi78 Tryz.f78:=mkOk
theorem ok79:FnOK Tryz.prog cx 79 fi79 Tryz.f79:=mkOk
theorem ok80:FnOK Tryz.prog cx 80 fi80 Tryz.f80:=mkOk
theorem ok81:FnOK Tryz.prog cx 81 fi81 Tryz.f81:=mkOk
theorem ok82:FnOK Tryz.prog cx 82 fi82 Tryz.f82:=mkOk
theorem ok83:FnOK Tryz.prog cx 83 fi83 Tryz.f83:=mkOk
theorem ok84:FnOK Tryz.prog cx 84 fi84 Tryz.f84:=mkOk
theorem ok85:FnOK Tryz.prog cx 85 fi85 Tryz.f85:=mkOk
theorem ok86:FnOK Tryz.prog cx 86 fi86 Tryz.f86:=mkOk
theorem ok87:FnOK Tryz.prog cx 87 fi87 Tryz.f87:=mkOk
theorem ok88:FnOK Tryz.prog cx 88 fi88 Tryz.f88:=mkOk
theorem ok89:FnOK Tryz.prog cx 89 fi89 Tryz.f89:=mkOk
theorem ok90:FnOK Tryz.prog cx 90 fi90 Tryz.f90:=mkOk
theorem ok91:FnOK Tryz.prog cx 91 fi91 Tryz.f91:=mkOk
theorem ok92:FnOK Tryz.prog cx 92 fi92 Tryz.f92:=mkOk
theorem ok93:FnOK Tryz.prog cx 93 fi93 Tryz.f93:=mkOk
theorem ok94:FnOK Tryz.prog cx 94 fi94 Tryz.f94:=mkOk
theorem ok95:FnOK Tryz.prog cx 95 fi95 Tryz.f95:=mkOk
theorem ok96:FnOK Tryz.prog cx 96 fi96 Tryz.f96:=mkOk
theorem ok97:FnOK Tryz.prog cx 97 fi97 Tryz.f97:=mkOk
theorem ok98:FnOK Tryz.prog cx 98 fi98 Tryz.f98:=mkOk
theorem ok99:FnOK Tryz.prog cx 99 fi99 Tryz.f99:=mkOk
theorem ok100:FnOK Tryz.prog cx 100 fi100 Tryz.f100:=mkOk
theorem ok101:FnOK Tryz.prog cx 101 fi101 Tryz.f101:=mkOk
theorem ok102:FnOK Tryz.prog cx 102 fi102 Tryz.f102:=mkOk
theorem ok103:FnOK Tryz.prog cx 103 fi103 Tryz.f103:=mkOk
theorem ok104:FnOK Tryz.prog cx 104 fi104 Tryz.f104:=mkOk
theorem ok105:FnOK Tryz.prog cx 105 fi105 Tryz.f105:=mkOk
theorem ok106:FnOK Tryz.prog cx 106 fi106 Tryz.f106:=mkOk
theorem ok107:FnOK Tryz.prog cx 107 fi107 Tryz.f107:=mkOk
theorem ok108:FnOK Tryz.prog cx 108 fi108 Tryz.f108:=mkOk
theorem ok109:FnOK Tryz.prog cx 109 fi109 Tryz.f109:=mkOk
theorem ok110:FnOK Tryz.prog cx 110 fi110 Tryz.f110:=mkOk
theorem ok111:FnOK Tryz.prog cx 111 fi111 Tryz.f111:=mkOk
theorem ok112:FnOK Tryz.prog cx 112 fi112 Tryz.f112:=mkOk
theorem ok113:FnOK Tryz.prog cx 113 fi113 Tryz.f113:=mkOk
theorem ok114:FnOK Tryz.prog cx 114 fi114 Tryz.f114:=mkOk
theorem ok115:FnOK Tryz.prog cx 115 fi115 Tryz.f115:=mkOk
theorem ok116:FnOK Tryz.prog cx 116 fi116 Tryz.f116:=mkOk
theorem ok117:FnOK Tryz.prog cx 117 fi117 Tryz.f117:=mkOk
theorem ok118:FnOK Tryz.prog cx 118 fi118 Tryz.f118:=mkOk
theorem ok119:FnOK Tryz.prog cx 119 fi119 Tryz.f119:=mkOk
theorem ok120:FnOK Tryz.prog cx 120 fi120 Tryz.f120:=mkOk
theorem ok121:FnOK Tryz.prog cx 121 fi121 Tryz.f121:=mkOk
theorem ok122:FnOK Tryz.prog cx 122 fi122 Tryz.f122:=mkOk
theorem ok123:FnOK Tryz.prog cx 123 fi123 Tryz.f123:=mkOk
theorem ok124:FnOK Tryz.prog cx 124 fi124 Tryz.f124:=mkOk
theorem ok125:FnOK Tryz.prog cx 125 fi125 Tryz.f125:=mkOk
theorem ok126:FnOK Tryz.prog cx 126 fi126 Tryz.f126:=mkOk
theorem ok127:FnOK Tryz.prog cx 127 fi127 Tryz.f127:=mkOk
theorem ok128:FnOK Tryz.prog cx 128 fi128 Tryz.f128:=mkOk
theorem ok129:FnOK Tryz.prog cx 129 fi129 Tryz.f129:=mkOk
theorem ok130:FnOK Tryz.prog cx 130 fi130 Tryz.f130:=mkOk
theorem ok131:FnOK Tryz.prog cx 131 fi131 Tryz.f131:=mkOk
theorem ok132:FnOK Tryz.prog cx 132 fi132 Tryz.f132:=mkOk
theorem ok133:FnOK Tryz.prog cx 133 fi133 Tryz.f133:=mkOk
theorem ok134:FnOK Tryz.prog cx 134 fi134 Tryz.f134:=mkOk
theorem ok135:FnOK Tryz.prog cx 135 fi135 Tryz.f135:=mkOk
theorem ok136:FnOK Tryz.prog cx 136 fi136 Tryz.f136:=mkOk
theorem ok137:FnOK Tryz.prog cx 137 fi137 Tryz.f137:=mkOk
theorem ok138:FnOK Tryz.prog cx 138 fi138 Tryz.f138:=mkOk
theorem ok139:FnOK Tryz.prog cx 139 fi139 Tryz.f139:=mkOk
theorem ok140:FnOK Tryz.prog cx 140 fi140 Tryz.f140:=mkOk
theorem ok141:FnOK Tryz.prog cx 141 fi141 Tryz.f141:=mkOk
theorem ok142:FnOK Tryz.prog cx 142 fi142 Tryz.f142:=mkOk
theorem ok143:FnOK Tryz.prog cx 143 fi143 Tryz.f143:=mkOk
theorem ok144:FnOK Tryz.prog cx 144 fi144 Tryz.f144:=mkOk
theorem ok145:FnOK Tryz.prog cx 145 fi145 Tryz.f145:=mkOk
theorem ok146:FnOK Tryz.prog cx 146 fi146 Tryz.f146:=mkOk
theorem ok147:FnOK Tryz.prog cx 147 fi147 Tryz.f147:=mkOk
theorem ok148:FnOK Tryz.prog cx 148 fi148 Tryz.f148:=mkOk
theorem ok149:FnOK Tryz.prog cx 149 fi149 Tryz.f149:=mkOk
theorem ok150:FnOK Tryz.prog cx 150 fi150 Tryz.f150:=mkOk
theorem ok151:FnOK Tryz.prog cx 151 fi151 Tryz.f151:=mkOk
theorem ok152:FnOK Tryz.prog cx 152 fi152 Tryz.f152:=mkOk
theorem ok153:FnOK Tryz.prog cx 153 fi153 Tryz.f153:=mkOk
theorem ok154:FnOK Tryz.prog cx 154 fi154 Tryz.f154:=mkOk
theorem ok155:FnOK Tryz.prog cx 155 fi155 Tryz.f155:=mkOk
theorem ok156:FnOK Tryz.prog cx 156 fi156 Tryz.f156:=mkOk
theorem ok157:FnOK Tryz.prog cx 157 fi157 Tryz.f157:=mkOk
theorem ok158:FnOK Tryz.prog cx 158 fi158 Tryz.f158:=mkOk
theorem ok159:FnOK Tryz.prog cx 159 fi159 Tryz.f159:=mkOk
theorem ok160:FnOK Tryz.prog cx 160 fi160 Tryz.f160:=mkOk
theorem ok161:FnOK Tryz.prog cx 161 fi161 Tryz.f161:=mkOk
theorem ok162:FnOK Tryz.prog cx 162 fi162 Tryz.f162:=mkOk
theorem ok163:FnOK Tryz.prog cx 163 fi163 Tryz.f163:=mkOk
theorem ok164:FnOK Tryz.prog cx 164 fi164 Tryz.f164:=mkOk
theorem ok165:FnOK Tryz.prog cx 165 fi165 Tryz.f165:=mkOk
theorem ok166:FnOK Tryz.prog cx 166 fi166 Tryz.f166:=mkOk
theorem ok167:FnOK Tryz.prog cx 167 fi167 Tryz.f167:=mkOk
theorem ok168:FnOK Tryz.prog cx 168 fi168 Tryz.f168:=mkOk
theorem ok169:FnOK Tryz.prog cx 169 fi169 Tryz.f169:=mkOk
theorem ok170:FnOK Tryz.prog cx 170 fi170 Tryz.f170:=mkOk
theorem ok171:FnOK Tryz.prog cx 171 fi171 Tryz.f171:=mkOk
theorem ok172:FnOK Tryz.prog cx 172 fi172 Tryz.f172:=mkOk
theorem ok173:FnOK Tryz.prog cx 173 fi173 Tryz.f173:=mkOk
theorem ok174:FnOK Tryz.prog cx 174 fi174 Tryz.f174:=mkOk
theorem ok175:FnOK Tryz.prog cx 175 fi175 Tryz.f175:=mkOk
theorem ok176:FnOK Tryz.prog cx 176 fi176 Tryz.f176:=mkOk
theorem ok177:FnOK Tryz.prog cx 177 fi177 Tryz.f177:=mkOk
theorem ok178:FnOK Tryz.prog cx 178 fi178 Tryz.f178:=mkOk
theorem ok180:FnOK Tryz.prog cx 180 fi180 Tryz.f180:=mkOk
theorem ok181:FnOK Tryz.prog cx 181 fi181 Tryz.f181:=mkOk
theorem ok182:FnOK Tryz.prog cx 182 fi182 Tryz.f182:=mkOk
theorem ok183:FnOK Tryz.prog cx 183 fi183 Tryz.f183:=mkOk
theorem ok184:FnOK Tryz.prog cx 184 fi184 Tryz.f184:=mkOk
theorem ok185:FnOK Tryz.prog cx 185 fi185 Tryz.f185:=mkOk
theorem ok186:FnOK Tryz.prog cx 186 fi186 Tryz.f186:=mkOk
theorem ok187:FnOK Tryz.prog cx 187 fi187 Tryz.f187:=mkOk
theorem ok188:FnOK Tryz.prog cx 188 fi188 Tryz.f188:=mkOk
theorem ok189:FnOK Tryz.prog cx 189 fi189 Tryz.f189:=mkOk
theorem ok190:FnOK Tryz.prog cx 190 fi190 Tryz.f190:=mkOk
theorem ok191:FnOK Tryz.prog cx 191 fi191 Tryz.f191:=mkOk
theorem ok192:FnOK Tryz.prog cx 192 fi192 Tryz.f192:=mkOk
theorem ok193:FnOK Tryz.prog cx 193 fi193 Tryz.f193:=mkOk
theorem ok194:FnOK Tryz.prog cx 194 fi194 Tryz.f194:=mkOk
theorem ok195:FnOK Tryz.prog cx 195 fi195 Tryz.f195:=mkOk
theorem ok196:FnOK Tryz.prog cx 196 fi196 Tryz.f196:=mkOk
theorem ok197:FnOK Tryz.prog cx 197 fi197 Tryz.f197:=mkOk
theorem fnsOK:FnsOK Tryz.prog cx:=fnsOK_of (⟨none_ok _,⟨none_ok _,⟨some_ok ok3,⟨some_ok ok7,⟨some_ok ok15,⟨some_ok ok31,⟨some_ok ok63,⟨some_ok ok127,trivial,trivial⟩,⟨some_ok ok191,trivial,trivial⟩⟩,⟨some_ok ok95,⟨some_ok ok159,trivial,trivial⟩,trivial⟩⟩,⟨some_ok ok47,⟨some_ok ok79,⟨some_ok ok143,trivial,trivial⟩,⟨none_ok _,trivial,trivial⟩⟩,⟨some_ok ok111,⟨some_ok ok175,trivial,trivial⟩,trivial⟩⟩⟩,⟨some_ok ok23,⟨some_ok ok39,⟨some_ok ok71,⟨some_ok ok135,trivial,trivial⟩,⟨none_ok _,trivial,trivial⟩⟩,⟨some_ok ok103,⟨some_ok ok167,trivial,trivial⟩,trivial⟩⟩,⟨some_ok ok55,⟨some_ok ok87,⟨some_ok ok151,trivial,trivial⟩,trivial⟩,⟨some_ok ok119,⟨some_ok ok183,trivial,trivial⟩,trivial⟩⟩⟩⟩,⟨some_ok ok11,⟨some_ok ok19,⟨some_ok ok35,⟨some_ok ok67,⟨some_ok ok131,trivial,trivial⟩,⟨some_ok ok195,trivial,trivial⟩⟩,⟨some_ok ok99,⟨some_ok ok163,trivial,trivial⟩,trivial⟩⟩,⟨some_ok ok51,⟨some_ok ok83,⟨some_ok ok147,trivial,trivial⟩,⟨none_ok _,trivial,trivial⟩⟩,⟨some_ok ok115,⟨none_ok _,trivial,trivial⟩,trivial⟩⟩⟩,⟨some_ok ok27,⟨some_ok ok43,⟨some_ok ok75,⟨some_ok ok139,trivial,trivial⟩,⟨none_ok _,trivial,trivial⟩⟩,⟨some_ok ok107,⟨some_ok ok171,trivial,trivial⟩,trivial⟩⟩,⟨some_ok ok59,⟨some_ok ok91,⟨some_ok ok155,trivial,trivial⟩,trivial⟩,⟨some_ok ok123,⟨some_ok ok187,trivial,trivial⟩,trivial⟩⟩⟩⟩⟩,⟨some_ok ok5,⟨some_ok ok9,⟨some_ok ok17,⟨some_ok ok33,⟨some_ok ok65,⟨some_ok ok129,trivial,trivial⟩,⟨some_ok ok193,trivial,trivial⟩⟩,⟨some_ok ok97,⟨some_ok ok161,trivial,trivial⟩,trivial⟩⟩,⟨some_ok ok49,⟨some_ok ok81,⟨some_ok ok145,trivial,trivial⟩,⟨none_ok _,trivial,trivial⟩⟩,⟨some_ok ok113,⟨some_ok ok177,trivial,trivial⟩,trivial⟩⟩⟩,⟨some_ok ok25,⟨some_ok ok41,⟨some_ok ok73,⟨some_ok ok137,trivial,trivial⟩,⟨none_ok _,trivial,trivial⟩⟩,⟨some_ok ok105,⟨some_ok ok169,trivial,trivial⟩,trivial⟩⟩,⟨some_ok ok57,⟨some_ok ok89,⟨some_ok ok153,trivial,trivial⟩,trivial⟩,⟨some_ok ok121,⟨some_ok ok185,trivial,trivial⟩,trivial⟩⟩⟩⟩,⟨some_ok ok13,⟨some_ok ok21,⟨some_ok ok37,⟨some_ok ok69,⟨some_ok ok133,trivial,trivial⟩,⟨some_ok ok197,trivial,trivial⟩⟩,⟨some_ok ok101,⟨some_ok ok165,trivial,trivial⟩,trivial⟩⟩,⟨some_ok ok53,⟨some_ok ok85,⟨some_ok ok149,trivial,trivial⟩,⟨none_ok _,trivial,trivial⟩⟩,⟨some_ok ok117,⟨some_ok ok181,trivial,trivial⟩,trivial⟩⟩⟩,⟨some_ok ok29,⟨some_ok ok45,⟨some_ok ok77,⟨some_ok ok141,trivial,trivial⟩,⟨none_ok _,trivial,trivial⟩⟩,⟨some_ok ok109,⟨some_ok ok173,trivial,trivial⟩,trivial⟩⟩,⟨some_ok ok61,⟨some_ok ok93,⟨some_ok ok157,trivial,trivial⟩,trivial⟩,⟨some_ok ok125,⟨some_ok ok189,trivial,trivial⟩,trivial⟩⟩⟩⟩⟩⟩,⟨none_ok _,⟨some_ok ok4,⟨some_ok ok8,⟨some_ok ok16,⟨some_ok ok32,⟨some_ok ok64,⟨some_ok ok128,trivial,trivial⟩,⟨some_ok ok192,trivial,trivial⟩⟩,⟨some_ok ok96,⟨some_ok ok160,trivial,trivial⟩,trivial⟩⟩,⟨some_ok ok48,⟨some_ok ok80,⟨some_ok ok144,trivial,trivial⟩,⟨none_ok _,trivial,trivial⟩⟩,⟨some_ok ok112,⟨some_ok ok176,trivial,trivial⟩,trivial⟩⟩⟩,⟨some_ok ok24,⟨some_ok ok40,⟨some_ok ok72,⟨some_ok ok136,trivial,trivial⟩,⟨none_ok _,trivial,trivial⟩⟩,⟨some_ok ok104,⟨some_ok ok168,trivial,trivial⟩,trivial⟩⟩,⟨some_ok ok56,⟨some_ok ok88,⟨some_ok ok152,trivial,trivial⟩,trivial⟩,⟨some_ok ok120,⟨some_ok ok184,trivial,trivial⟩,trivial⟩⟩⟩⟩,⟨some_ok ok12,⟨some_ok ok20,⟨some_ok ok36,⟨some_ok ok68,⟨some_ok ok132,trivial,trivial⟩,⟨some_ok ok196,trivial,trivial⟩⟩,⟨some_ok ok100,⟨some_ok ok164,trivial,trivial⟩,trivial⟩⟩,⟨some_ok ok52,⟨some_ok ok84,⟨some_ok ok148,trivial,trivial⟩,⟨none_ok _,trivial,trivial⟩⟩,⟨some_ok ok116,⟨some_ok ok180,trivial,trivial⟩,trivial⟩⟩⟩,⟨some_ok ok28,⟨some_ok ok44,⟨some_ok ok76,⟨some_ok ok140,trivial,trivial⟩,⟨none_ok _,trivial,trivial⟩⟩,⟨some_ok ok108,⟨some_ok ok172,trivial,trivial⟩,trivial⟩⟩,⟨some_ok ok60,⟨some_ok ok92,⟨some_ok ok156,trivial,trivial⟩,trivial⟩,⟨some_ok ok124,⟨some_ok ok188,trivial,trivial⟩,trivial⟩⟩⟩⟩⟩,⟨some_ok ok6,⟨some_ok ok10,⟨some_ok ok18,⟨some_ok ok34,⟨some_ok ok66,⟨some_ok ok130,trivial,trivial⟩,⟨some_ok ok194,trivial,trivial⟩⟩,⟨some_ok ok98,⟨some_ok ok162,trivial,trivial⟩,trivial⟩⟩,⟨some_ok ok50,⟨some_ok ok82,⟨some_ok ok146,trivial,trivial⟩,⟨none_ok _,trivial,trivial⟩⟩,⟨some_ok ok114,⟨some_ok ok178,trivial,trivial⟩,trivial⟩⟩⟩,⟨some_ok ok26,⟨some_ok ok42,⟨some_ok ok74,⟨some_ok ok138,trivial,trivial⟩,⟨none_ok _,trivial,trivial⟩⟩,⟨some_ok ok106,⟨some_ok ok170,trivial,trivial⟩,trivial⟩⟩,⟨some_ok ok58,⟨some_ok ok90,⟨some_ok ok154,trivial,trivial⟩,trivial⟩,⟨some_ok ok122,⟨some_ok ok186,trivial,trivial⟩,trivial⟩⟩⟩⟩,⟨some_ok ok14,⟨some_ok ok22,⟨some_ok ok38,⟨some_ok ok70,⟨some_ok ok134,trivial,trivial⟩,⟨none_ok _,trivial,trivial⟩⟩,⟨some_ok ok102,⟨some_ok ok166,trivial,trivial⟩,trivial⟩⟩,⟨some_ok ok54,⟨some_ok ok86,⟨some_ok ok150,trivial,trivial⟩,trivial⟩,⟨some_ok ok118,⟨some_ok ok182,trivial,trivial⟩,trivial⟩⟩⟩,⟨some_ok ok30,⟨some_ok ok46,⟨some_ok ok78,⟨some_ok ok142,trivial,trivial⟩,⟨none_ok _,trivial,trivial⟩⟩,⟨some_ok ok110,⟨some_ok ok174,trivial,trivial⟩,trivial⟩⟩,⟨some_ok ok62,⟨some_ok ok94,⟨some_ok ok158,trivial,trivial⟩,trivial⟩,⟨some_ok ok126,⟨some_ok ok190,trivial,trivial⟩,trivial⟩⟩⟩⟩⟩⟩⟩)
end Go.Eva.S4
namespace Go.Eva
section
variable {cx:Cx} {t m:Nat} {ts:List T} {i:TI}
theorem conf_int (hti:cx.ti.get t=some i) (hk:i.ty= .int .i64) (h:Conf cx m t ts): ∃n,ts= [ti n]∧i64 n:=by
 cases m with
 |zero=>exact h.elim
 |succ m=>
  simp only [Conf,hti,hk] at h
  obtain ⟨n,rfl,hw⟩:=h
  refine ⟨n,rfl,?_⟩
  simp [Lit.wf,IntKind.min,IntKind.max,IntKind.signed,IntKind.bits] at hw
  exact ⟨by omega,by omega⟩
theorem conf_u64 (hti:cx.ti.get t=some i) (hk:i.ty= .int .u64) (h:Conf cx m t ts): ∃n,ts= [.int .u64 n]∧0≤n∧n≤18446744073709551615:=by
 cases m with
 |zero=>exact h.elim
 |succ m=>
  simp only [Conf,hti,hk] at h
  obtain ⟨n,rfl,hw⟩:=h
  refine ⟨n,rfl,?_⟩
  simp [Lit.wf,IntKind.min,IntKind.max,IntKind.signed,IntKind.bits] at hw
  exact ⟨by omega,by omega⟩
theorem conf_bool (hti:cx.ti.get t=some i) (hk:i.ty= .bool) (h:Conf cx m t ts): ∃b,ts= [.bool b]:=by
 cases m with
 |zero=>exact h.elim
 |succ m=>simpa only [Conf,hti,hk] using h
theorem conf_struct {fs:List (Nat×Nat)} (hti:cx.ti.get t=some i) (hk:i.ty= .struct fs) (h:Conf cx (m+1) t ts):ts.length=i.size∧ ∀p∈fs,Conf cx m p.2 ((ts.drop p.1).take (sizeOf cx p.2)):=by
 simpa only [Conf,hti,hk] using h
theorem conf_slice {e:Nat} (hti:cx.ti.get t=some i) (hk:i.ty= .slice e) (h:Conf cx (m+1) t ts):
  ∃xs,ts= [.sl (sizeOf cx e) xs]∧xs.length≤maxLen∧xs.length*bytesOf cx e≤reachBytes∧ ∀x∈xs,x≠ .any∧(isStruct cx e=true→ ∃l,x= .agg l)∧(isStruct cx e=false→x.cells= [x])∧Conf cx m e x.cells:=by
 simpa only [Conf,hti,hk] using h
theorem conf_at {j k:Nat} {fs:List (Nat×Nat)} (hi:cx.ti.get k=some i) (hk:i.ty= .int .i64) (hs:sizeOf cx k=1) (h: ∀p∈fs,Conf cx m p.2 ((ts.drop p.1).take (sizeOf cx p.2))) (hp:(j,k)∈fs): ∃n,ts[j]?=some (ti n)∧i64 n:=by
 have:=h _ hp
 simp only [hs] at this
 obtain ⟨n,h1,h2⟩:=conf_int hi hk this
 refine ⟨n,?_,h2⟩
 have h3:=congrArg (fun l=>l[0]?) h1
 simpa [List.getElem?_take,List.getElem?_drop] using h3
theorem list_of {α:Type} {f:α→T} {P:α→Prop}: ∀ {xs:List T},(∀x∈xs,∃e,x=f e∧P e)→ ∃l:List α,xs=l.map f∧ ∀e∈l,P e
 | [],_=>⟨[],rfl,by simp⟩
 |x::xs,h=>by
  obtain ⟨e,rfl,he⟩:=h x (List.mem_cons_self ..)
  obtain ⟨l,rfl,hl⟩:=list_of fun y hy=>h y (List.mem_cons_of_mem _ hy)
  exact ⟨e::l,rfl,fun y hy=>by
   rcases List.mem_cons.1 hy with rfl|hy
   ·exact he
   ·exact hl y hy⟩
def Entity.ok (e:Entity):Prop:=i64 e.id∧i64 e.kind∧i64 e.x∧i64 e.y∧i64 e.vx∧i64 e.vy∧i64 e.health∧i64 e.age∧i64 e.owner
def Input.ok (e:Input):Prop:=i64 e.dx∧i64 e.dy
def Cross.ok (c:Cross):Prop:=i64 c.kind∧i64 c.frm∧i64 c.to∧i64 c.frame∧c.ent.ok∧i64 c.x∧i64 c.y
theorem conf_config {k u:Nat} {j v:TI} (hk:cx.ti.get k=some j) (hkt:j.ty= .int .i64) (hs:sizeOf cx k=1) (hu:cx.ti.get u=some v) (hut:v.ty= .int .u64) (hus:sizeOf cx u=1) (hti:cx.ti.get t=some i)
  (hty:i.ty= .struct [(0,k),(1,k),(2,k),(3,k),(4,u)]) (hsz:i.size=5) (h:Conf cx (m+1) t ts): ∃c:Config,ts=c.enc.cells∧c.ok:=by
 obtain ⟨h1,h2⟩:=conf_struct hti hty h
 rw [hsz] at h1
 obtain ⟨n0,a0,b0⟩:=conf_at (j:=0) hk hkt hs h2 (by simp)
 obtain ⟨n1,a1,b1⟩:=conf_at (j:=1) hk hkt hs h2 (by simp)
 obtain ⟨n2,a2,b2⟩:=conf_at (j:=2) hk hkt hs h2 (by simp)
 obtain ⟨n3,a3,b3⟩:=conf_at (j:=3) hk hkt hs h2 (by simp)
 have h4:=h2 (4,u) (by simp)
 simp only [hus] at h4
 obtain ⟨n4,a4,b4⟩:=conf_u64 hu hut h4
 refine ⟨⟨n0,n1,n2,n3,n4⟩,?_,b0,b1,b2,b3,b4⟩
 match ts,h1 with
 | [_,_,_,_,_],_=>simp_all [Config.enc,T.cells]
theorem conf_input {k u:Nat} {j v:TI} (hk:cx.ti.get k=some j) (hkt:j.ty= .int .i64) (hs:sizeOf cx k=1) (hu:cx.ti.get u=some v) (hut:v.ty= .bool) (hus:sizeOf cx u=1) (hti:cx.ti.get t=some i)
  (hty:i.ty= .struct [(0,k),(1,k),(2,u)]) (hsz:i.size=3) (h:Conf cx (m+1) t ts): ∃c:Input,ts=c.enc.cells∧c.ok:=by
 obtain ⟨h1,h2⟩:=conf_struct hti hty h
 rw [hsz] at h1
 obtain ⟨n0,a0,b0⟩:=conf_at (j:=0) hk hkt hs h2 (by simp)
 obtain ⟨n1,a1,b1⟩:=conf_at (j:=1) hk hkt hs h2 (by simp)
 have h4:=h2 (2,u) (by simp)
 simp only [hus] at h4
 obtain ⟨n2,a2⟩:=conf_bool hu hut h4
 refine ⟨⟨n0,n1,n2⟩,?_,b0,b1⟩
 match ts,h1 with
 | [_,_,_],_=>simp_all [zr,T.cells]
theorem not_struct (hti:cx.ti.get t=some i) (h: ∀fs,i.ty≠ .struct fs):isStruct cx t=false:=by
 unfold isStruct
 rw [hti]
 cases i with
 |mk ty s b q=>cases ty<;>simp_all
theorem is_struct {fs:List (Nat×Nat)} (hti:cx.ti.get t=some i) (h:i.ty= .struct fs):isStruct cx t=true:=by
 unfold isStruct
 rw [hti]
 cases i with
 |mk ty s b q=>simp only at h;subst h;rfl
theorem arg_int (hti:cx.ti.get t=some i) (hk:i.ty= .int .i64) {x:T} (h:Arg cx m t x): ∃n,x=ti n∧i64 n:=by
 obtain ⟨h1,h2,h3,h4⟩:=h
 obtain ⟨n,h5,h6⟩:=conf_int hti hk h4
 rw [h3 (not_struct hti (by rw [hk];simp))] at h5
 exact ⟨n,by simpa using h5,h6⟩
theorem arg_of {α:Type} {f:α→T} {P:α→Prop} {fs:List (Nat×Nat)} (hti:cx.ti.get t=some i) (hk:i.ty= .struct fs) (hf: ∀e,∃l,f e= .agg l) (hc: ∀ {ts},Conf cx m t ts→ ∃e,ts=(f e).cells∧P e) {x:T} (h:Arg cx m t x): ∃e,x=f e∧P e:=by
 obtain ⟨h1,h2,h3,h4⟩:=h
 obtain ⟨l,rfl⟩:=h2 (is_struct hti hk)
 obtain ⟨e,h5,h6⟩:=hc h4
 obtain ⟨l',hl⟩:=hf e
 rw [hl] at h5
 simp only [T.cells] at h5
 exact ⟨e,by rw [hl,h5],h6⟩
theorem arg_slice {α:Type} {f:α→T} {P:α→Prop} {e s:Nat} (hti:cx.ti.get t=some i) (hk:i.ty= .slice e) (hs:sizeOf cx e=s) (hc: ∀ {x},Arg cx m e x→ ∃a,x=f a∧P a) {x:T} (h:Arg cx (m+1) t x):
  ∃l:List α,x= .sl s (l.map f)∧(∀a∈l,P a)∧l.length≤maxLen∧l.length*bytesOf cx e≤reachBytes:=by
 obtain ⟨h1,h2,h3,h4⟩:=h
 obtain ⟨xs,h5,h6,h7,h8⟩:=conf_slice hti hk h4
 rw [h3 (not_struct hti (by rw [hk];simp))] at h5
 obtain ⟨l,rfl,hl⟩:=list_of (f:=f) (P:=P) fun x hx=>hc (h8 x hx)
 refine ⟨l,?_,hl,by simpa using h6,by simpa using h7⟩
 rw [←hs]
 simpa using h5
end
end Go.Eva