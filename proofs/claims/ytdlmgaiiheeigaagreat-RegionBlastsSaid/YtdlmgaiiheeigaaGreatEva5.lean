/- A reading of the program, proved sound against the model, and what its functions answer by it: part 5. -/
import Derived.Test.YtdlmgaiiheeigaaGreatEva4
set_option linter.unusedSimpArgs false
set_option linter.unusedVariables false
/- The statements of a region: in whatever order blasts come in. -/
namespace Go.Eva.S3
theorem f_jousthelp_Region (a : Region) (hn : small a.ents) : Fn cx 29 [a.enc, a.enc] (.bool true) := by
  have hP := f_jousthelp_Plain_Entity a.ents a.ents hn
  rw [show plain a.ents a.ents = true by simp [plain]] at hP
  obtain ⟨f, l⟩ := a
  simp only at hP
  refine Wp.ev ?_
  refine gg [.b (f == f) true, .tt, .tt, .tt, .tt, .a _ _, .tt] ⟨t_bre rfl, o_a hP, trivial⟩ ?_
  refine rt (a := Res.mk Ex.ret [vb true] []) (by kernel_rfl) ?_
  (simp; done)
theorem f_joustlaw09_RegionBlasts_first (q : Int) (turns : List Int) (g : Config) (gg : Config) (s : Region) (all : List Cross) (hx : all.length ≤ 12) : ∀ d i, i + d = all.length → ∀ A : List Cross, A.length ≤ i →
    Is cx (.loop 4 [0, 1, 0, 1, 1, 1, 1, 1, 1, 1, 1] 0 [vi q, .t (.sl 1 (turns.map ti)), .ptr 0 0 0, .ptr 1 0 0, .ptr 2 0 0, .all 3 none, .t (.sl 15 (all.map Cross.enc)), vi i] [.one 5 (.t g.enc) false, .one 5 (.t gg.enc) false, .one 2 (.t s.enc) false, .arr 15 (A.map Cross.enc) none false])
      ⟨.exit 0, [vi q, .t (.sl 1 (turns.map ti)), .ptr 0 0 0, .ptr 1 0 0, .ptr 2 0 0, .all 3 none, .t (.sl 15 (all.map Cross.enc)), vi all.length], [.one 5 (.t g.enc) false, .one 5 (.t gg.enc) false, .one 2 (.t s.enc) false, .arr 15 ((A ++ (all.drop i).filter fun m => decide (m.kind = 2)).map Cross.enc) none false]⟩ := by
  intro d
  induction d with
  | zero =>
    intro i hi A hA
    rw [drop_end (by omega)]
    refine Wp.ev ?_
    refine gs (l := [.n (List.length (List.map Cross.enc all)) (List.length all), .b (decide ((↑i : Int) < (↑(List.length all) : Int))) false]) (by kernel_rfl) ⟨o_n (by simp), f_brp (by omega), trivial⟩ ?_
    refine rt (a := Res.mk (Ex.exit 0) [vi q, V.t (T.sl 1 (List.map ti turns)), V.ptr 0 0 0, V.ptr 1 0 0, V.ptr 2 0 0, V.all 3 none, V.t (T.sl 15 (List.map Cross.enc all)), vi (↑i : Int)] [Ob.one 5 (V.t (Config.enc g)) false, Ob.one 5 (V.t (Config.enc gg)) false, Ob.one 2 (V.t (Region.enc s)) false, Ob.arr 15 (List.map Cross.enc A) none false]) (by kernel_rfl) ?_
    ((have : i = all.length := by omega); subst this; simp)
  | succ d ih =>
    intro i hi A hA
    have hlt : i < all.length := by omega
    have ih0 := ih (i + 1) (by omega) A (by omega)
    have ih1 := ih (i + 1) (by omega) (A ++ [gt all i]) (by simp; omega)
    rw [drop_gt hlt, List.filter_cons]
    clear ih
    by_cases h : (gt all i).kind = 2
    · rw [if_pos (by simpa using h)]
      rw [List.append_assoc, List.singleton_append] at ih1
      generalize ((all.drop (i + 1)).filter fun m => decide (m.kind = 2)) = X at *
      refine Wp.ev ?_
      refine gs (l := [.n (List.length (List.map Cross.enc all)) (List.length all), .b (decide ((↑i : Int) < (↑(List.length all) : Int))) true, .w ((0 : Int) ≤ (↑i : Int)), .n (Int.toNat (↑i : Int)) i, .g (List.map Cross.enc all) i (Cross.enc (gt all i)), .b ((gt all i).kind == 2) true, .w ((0 : Int) ≤ (↑i : Int)), .n (Int.toNat (↑i : Int)) i, .g (List.map Cross.enc all) i (Cross.enc (gt all i)), .w ((0 : Nat) < (120 : Nat)), .t (T.sl 0 [Cross.enc (gt all i)]) (T.sl 0 (List.map Cross.enc [gt all i])), .t (T.sl 0 (List.map Cross.enc A ++ List.map Cross.enc [gt all i])) (T.sl 0 (List.map Cross.enc (A ++ [gt all i]))), .w (room (List.length (List.map Cross.enc (A ++ [gt all i]))) (120 : Nat)), .i IntKind.i64 ((↑i : Int) + 1) ((↑(i + 1) : Int)), .a (Task.loop 4 [0, 1, 0, 1, 1, 1, 1, 1, 1, 1, 1] 0 [vi q, V.t (T.sl 1 (List.map ti turns)), V.ptr 0 0 0, V.ptr 1 0 0, V.ptr 2 0 0, V.all 3 none, V.t (T.sl 15 (List.map Cross.enc all)), vi (↑(i + 1) : Int)] [Ob.one 5 (V.t (Config.enc g)) false, Ob.one 5 (V.t (Config.enc gg)) false, Ob.one 2 (V.t (Region.enc s)) false, Ob.arr 15 (List.map Cross.enc (A ++ [gt all i])) none false]) (Res.mk (Ex.exit 0) [vi q, V.t (T.sl 1 (List.map ti turns)), V.ptr 0 0 0, V.ptr 1 0 0, V.ptr 2 0 0, V.all 3 none, V.t (T.sl 15 (List.map Cross.enc all)), vi (↑(List.length all) : Int)] [Ob.one 5 (V.t (Config.enc g)) false, Ob.one 5 (V.t (Config.enc gg)) false, Ob.one 2 (V.t (Region.enc s)) false, Ob.arr 15 (List.map Cross.enc (A ++ gt all i :: X)) none false])]) (by kernel_rfl) ⟨o_n (by simp), t_brp (by omega), o_w (by omega), o_n (by kernel_rfl), o_gt rfl (by assumption) (by intro h; cases h), t_bre (by assumption), o_w (by omega), o_n (by kernel_rfl), o_gt rfl (by assumption) (by intro h; cases h), o_w (by omega), o_l (nm_cons rfl nm_nil), o_l (nm_app rfl rfl), o_w (by (simp [room, appendMax]; omega)), o_i (w64 (by omega)), o_a ih1, trivial⟩ ?_
      exact ge
    · rw [if_neg (by simpa using h)]
      generalize ((all.drop (i + 1)).filter fun m => decide (m.kind = 2)) = X at *
      refine Wp.ev ?_
      refine gs (l := [.n (List.length (List.map Cross.enc all)) (List.length all), .b (decide ((↑i : Int) < (↑(List.length all) : Int))) true, .w ((0 : Int) ≤ (↑i : Int)), .n (Int.toNat (↑i : Int)) i, .g (List.map Cross.enc all) i (Cross.enc (gt all i)), .b ((gt all i).kind == 2) false, .i IntKind.i64 ((↑i : Int) + 1) ((↑(i + 1) : Int)), .a (Task.loop 4 [0, 1, 0, 1, 1, 1, 1, 1, 1, 1, 1] 0 [vi q, V.t (T.sl 1 (List.map ti turns)), V.ptr 0 0 0, V.ptr 1 0 0, V.ptr 2 0 0, V.all 3 none, V.t (T.sl 15 (List.map Cross.enc all)), vi (↑(i + 1) : Int)] [Ob.one 5 (V.t (Config.enc g)) false, Ob.one 5 (V.t (Config.enc gg)) false, Ob.one 2 (V.t (Region.enc s)) false, Ob.arr 15 (List.map Cross.enc A) none false]) (Res.mk (Ex.exit 0) [vi q, V.t (T.sl 1 (List.map ti turns)), V.ptr 0 0 0, V.ptr 1 0 0, V.ptr 2 0 0, V.all 3 none, V.t (T.sl 15 (List.map Cross.enc all)), vi (↑(List.length all) : Int)] [Ob.one 5 (V.t (Config.enc g)) false, Ob.one 5 (V.t (Config.enc gg)) false, Ob.one 2 (V.t (Region.enc s)) false, Ob.arr 15 (List.map Cross.enc (A ++ X)) none false])]) (by kernel_rfl) ⟨o_n (by simp), t_brp (by omega), o_w (by omega), o_n (by kernel_rfl), o_gt rfl (by assumption) (by intro h; cases h), f_bre (by assumption), o_i (w64 (by omega)), o_a ih0, trivial⟩ ?_
      exact ge
theorem f_joustlaw09_RegionBlasts_next (q : Int) (turns : List Int) (g : Config) (gg : Config) (s : Region) (inn : List Cross) (ht : long turns) (hl : inn.length ≤ 12) (h0 : 0 < inn.length) : ∀ d i, i + d = min turns.length 40 → ∀ m : List Cross, m.length = inn.length →
    Is cx (.loop 4 [0, 1, 0, 1, 1, 1, 1, 1, 1, 1, 1, 1, 1] 0 [vi q, .t (.sl 1 (turns.map ti)), .ptr 0 0 0, .ptr 1 0 0, .ptr 2 0 0, .all 3 none, .all 4 none, vi i] [.one 5 (.t g.enc) false, .one 5 (.t gg.enc) false, .one 2 (.t s.enc) false, .arr 15 (inn.map Cross.enc) none false, .arr 15 (m.map Cross.enc) none false])
      ⟨.exit 2, [vi q, .t (.sl 1 (turns.map ti)), .ptr 0 0 0, .ptr 1 0 0, .ptr 2 0 0, .all 3 none, .all 4 none, vi (min turns.length 40 : Nat)], [.one 5 (.t g.enc) false, .one 5 (.t gg.enc) false, .one 2 (.t s.enc) false, .arr 15 (inn.map Cross.enc) none false, .arr 15 ((turnN ((turns.take 40).drop i) i m).map Cross.enc) none false]⟩ := by
  unfold long at ht
  intro d
  induction d with
  | zero =>
    intro i hi m hm
    obtain rfl : i = min turns.length 40 := by omega
    rw [drop_end (by simp; omega)]
    generalize hmn : min turns.length 40 = n at *
    by_cases h : n = turns.length
    · refine Wp.ev ?_
      refine gs (l := [.n (List.length (List.map ti turns)) (List.length turns), .b (decide ((↑n : Int) < (↑(List.length turns) : Int))) false, .ff, .ff, .ff, .ff, .ff, .ff, .ff]) (by kernel_rfl) ⟨o_n (by simp), f_brp (by omega), trivial⟩ ?_
      exact ge
    · have : n = 40 := by omega
      subst this
      refine Wp.ev ?_
      refine gs (l := [.n (List.length (List.map ti turns)) (List.length turns), .b (decide (40 < (↑(List.length turns) : Int))) true, .tt, .tt, .b (decide (40 < 40)) false, .ff, .ff, .ff, .ff]) (by kernel_rfl) ⟨o_n (by simp), t_brp (by omega), o_b (by kernel_rfl), trivial⟩ ?_
      exact ge
  | succ d ih =>
    intro i hi m hm
    have hlt : i < turns.length := by omega
    have e : (turns.take 40).drop i = gt turns i :: (turns.take 40).drop (i + 1) := by
      have hlt2 : i < (turns.take 40).length := by simp; omega
      have hg : gt (turns.take 40) i = gt turns i := by unfold gt; rw [List.getElem?_take, if_pos (by omega)]
      rw [drop_gt hlt2, hg]
    have ih1 := ih (i + 1) (by omega) (turn1 m i (gt turns i)) (by rw [turn1, swap2_len]; exact hm)
    rw [e]
    change Is cx _ ⟨_, _, [_, _, _, _, .arr 15 ((turnN ((turns.take 40).drop (i + 1)) (i + 1) (turn1 m i (gt turns i))).map Cross.enc) _ _]⟩
    clear ih e
    generalize turnN ((turns.take 40).drop (i + 1)) (i + 1) (turn1 m i (gt turns i)) = W at *
    have hk := @um_le (gt turns i) m.length (by omega)
    have hw : IntKind.u64.wrap (m.length : Int) = (m.length : Int) := wu64 ⟨by omega, by omega, rfl⟩
    have hr : Int.tmod (i : Int) (m.length : Int) = ((i % m.length : Nat) : Int) := by rw [Int.tmod_eq_emod_of_nonneg (by omega)]; omega
    have hmod : i % m.length < m.length := Nat.mod_lt _ (by omega)
    unfold turn1 swap2 um at ih1
    obtain ⟨k, hke⟩ : ∃ k : Nat, (IntKind.u64.wrap (gt turns i)).tmod m.length = k := ⟨((IntKind.u64.wrap (gt turns i)).tmod m.length).toNat, by unfold um at hk; omega⟩
    unfold um at hk
    rw [hke] at ih1 hk
    rw [Int.toNat_natCast] at ih1
    generalize hje : i % m.length = j at *
    generalize hmn : min turns.length 40 = n at *
    refine Wp.ev ?_
    refine gs (l := [.n (List.length (List.map ti turns)) (List.length turns), .b (decide ((↑i : Int) < (↑(List.length turns) : Int))) true, .tt, .tt, .b (decide ((↑i : Int) < 40)) true, .tt, .n (List.length (List.map Cross.enc m)) (List.length m), .tt, .tt, .b (decide ((↑(List.length m) : Int) > 0)) true, .w ((0 : Int) ≤ (↑i : Int)), .n (Int.toNat (↑i : Int)) i, .g (List.map ti turns) i (ti (gt turns i)), .i IntKind.u64 (gt turns i) (IntKind.wrap IntKind.u64 (gt turns i)), .n (List.length (List.map Cross.enc m)) (List.length m), .i IntKind.u64 ((↑(List.length m) : Int)) ((↑(List.length m) : Int))]) (by kernel_rfl) ⟨o_n (by simp), t_brp (by omega), t_brp (by omega), o_n (by simp), t_brp (by omega), o_w (by omega), o_n (by kernel_rfl), o_gt rfl (by assumption) (by intro h; cases h), o_i rfl, o_n (by simp), o_i (wu64 (by omega)), trivial⟩ ?_
    refine gs (l := [.w ((↑(List.length m) : Int) ≠ (0 : Int)), .t (T.int IntKind.u64 (Int.tmod (IntKind.wrap IntKind.u64 (gt turns i)) (↑(List.length m) : Int))) (T.int IntKind.u64 (↑k : Int)), .i IntKind.i64 (↑k : Int) (↑k : Int), .n (List.length (List.map Cross.enc m)) (List.length m), .w ((↑(List.length m) : Int) ≠ (0 : Int)), .t (ti (Int.tmod (↑i : Int) (↑(List.length m) : Int))) (ti (↑j : Int)), .w ((0 : Int) ≤ (↑k : Int)), .n (Int.toNat (↑k : Int)) k, .w (k < List.length (List.map Cross.enc m)), .n (List.length (List.map Cross.enc m)) (List.length m), .w ((↑(List.length m) : Int) ≠ (0 : Int)), .t (ti (Int.tmod (↑i : Int) (↑(List.length m) : Int))) (ti (↑j : Int)), .w ((0 : Int) ≤ (↑j : Int)), .n (Int.toNat (↑j : Int)) j, .w (j < List.length (List.map Cross.enc m)), .g (List.map Cross.enc m) k (Cross.enc (gt m k))]) (by kernel_rfl) ⟨o_w (by omega), o_t (by rw [hke]), o_i (w64 (by omega)), o_n (by simp), o_w (by omega), o_t (by rw [hr]), o_w (by omega), o_n (by kernel_rfl), o_w (by (simp; omega)), o_n (by simp), o_w (by omega), o_t (by rw [hr]), o_w (by omega), o_n (by kernel_rfl), o_w (by (simp; omega)), o_gt rfl (by omega) (by intro h; cases h), trivial⟩ ?_
    refine gs (l := [.g (List.map Cross.enc m) j (Cross.enc (gt m j)), .w ((0 : Int) ≤ (↑j : Int)), .n (Int.toNat (↑j : Int)) j, .w (j < List.length (List.map Cross.enc m)), .w (j < List.length (List.map Cross.enc m)), .t (T.sl 0 (List.set (List.map Cross.enc m) j (Cross.enc (gt m k)))) (T.sl 0 (List.map Cross.enc (List.set m j (gt m k)))), .w ((0 : Int) ≤ (↑k : Int)), .n (Int.toNat (↑k : Int)) k, .w (k < List.length (List.map Cross.enc (List.set m j (gt m k)))), .w (k < List.length (List.map Cross.enc (List.set m j (gt m k)))), .t (T.sl 0 (List.set (List.map Cross.enc (List.set m j (gt m k))) k (Cross.enc (gt m j)))) (T.sl 0 (List.map Cross.enc (List.set (List.set m j (gt m k)) k (gt m j)))), .i IntKind.i64 ((↑i : Int) + 1) ((↑(i + 1) : Int)), .a (Task.loop 4 [0, 1, 0, 1, 1, 1, 1, 1, 1, 1, 1, 1, 1] 0 [vi q, V.t (T.sl 1 (List.map ti turns)), V.ptr 0 0 0, V.ptr 1 0 0, V.ptr 2 0 0, V.all 3 none, V.all 4 none, vi (↑(i + 1) : Int)] [Ob.one 5 (V.t (Config.enc g)) false, Ob.one 5 (V.t (Config.enc gg)) false, Ob.one 2 (V.t (Region.enc s)) false, Ob.arr 15 (List.map Cross.enc inn) none false, Ob.arr 15 (List.map Cross.enc (List.set (List.set m j (gt m k)) k (gt m j))) none false]) (Res.mk (Ex.exit 2) [vi q, V.t (T.sl 1 (List.map ti turns)), V.ptr 0 0 0, V.ptr 1 0 0, V.ptr 2 0 0, V.all 3 none, V.all 4 none, vi (↑n : Int)] [Ob.one 5 (V.t (Config.enc g)) false, Ob.one 5 (V.t (Config.enc gg)) false, Ob.one 2 (V.t (Region.enc s)) false, Ob.arr 15 (List.map Cross.enc inn) none false, Ob.arr 15 (List.map Cross.enc W) none false])]) (by kernel_rfl) ⟨o_gt rfl (by assumption) (by intro h; cases h), o_w (by omega), o_n (by kernel_rfl), o_w (by (simp; omega)), o_w (by (simp; omega)), o_l (nm_set rfl rfl), o_w (by omega), o_n (by kernel_rfl), o_w (by (simp; omega)), o_w (by (simp; omega)), o_l (nm_set rfl rfl), o_i (w64 (by omega)), o_a ih1, trivial⟩ ?_
    exact ge
theorem f_joustlaw09_RegionBlasts_none (q : Int) (turns : List Int) (g : Config) (gg : Config) (s : Region) (ht : long turns) :
    Is cx (.loop 4 [0, 1, 0, 1, 1, 1, 1, 1, 1, 1, 1, 1, 1] 0 [vi q, .t (.sl 1 (turns.map ti)), .ptr 0 0 0, .ptr 1 0 0, .ptr 2 0 0, .all 3 none, .all 4 none, vi 0] [.one 5 (.t g.enc) false, .one 5 (.t gg.enc) false, .one 2 (.t s.enc) false, .arr 15 [] none false, .arr 15 [] none false])
      ⟨.exit 2, [vi q, .t (.sl 1 (turns.map ti)), .ptr 0 0 0, .ptr 1 0 0, .ptr 2 0 0, .all 3 none, .all 4 none, vi 0], [.one 5 (.t g.enc) false, .one 5 (.t gg.enc) false, .one 2 (.t s.enc) false, .arr 15 [] none false, .arr 15 [] none false]⟩ := by
  unfold long at ht
  by_cases h : turns.length = 0
  · refine Wp.ev ?_
    refine gs (l := [.n (List.length (List.map ti turns)) (List.length turns), .b (decide (0 < (↑(List.length turns) : Int))) false, .ff, .ff, .ff, .ff, .ff, .ff, .ff]) (by kernel_rfl) ⟨o_n (by simp), f_brp (by omega), trivial⟩ ?_
    exact ge
  · refine Wp.ev ?_
    refine gs (l := [.n (List.length (List.map ti turns)) (List.length turns), .b (decide (0 < (↑(List.length turns) : Int))) true, .tt, .tt, .b (decide (0 < 40)) true, .tt, .l 0, .tt, .tt, .b (decide (0 > 0)) false]) (by kernel_rfl) ⟨o_n (by simp), t_brp (by omega), o_b (by kernel_rfl), o_b (by kernel_rfl), trivial⟩ ?_
    exact ge
theorem f_joustlaw09_RegionBlasts (c : Config) (r frame : Int) (l : List Entity) (inbox : List Cross) (turns : List Int) (hl : long l) (hb : long inbox) (ht : long turns) : Fn cx 4 [c.enc, ti r, ti frame, .sl 9 (l.map Entity.enc), .sl 15 (inbox.map Cross.enc), .sl 1 (turns.map ti)] (.bool true) := by
  have ha := f_joustlaw09_awake
  obtain ⟨hr, h1, h2, h3, h4⟩ := @Config.play_ok c
  have hC := f_joustplay_Config c
  generalize c.play = g at *
  have hN := f_grid_New g
  rw [Config.grid_of hr, Config.err_of hr] at hN
  have hG := f_grid_Regions g
  have hgr : g.regions = g.cols * g.rows := by simp [Config.regions, hr]
  have hml := Config.mul_le hr
  have hgl := @Config.regions_le g
  have hw : IntKind.u64.wrap g.regions = g.regions := wu64 ⟨by omega, by omega, rfl⟩
  have hq := u64_tmod (n := r) (k := g.regions) (by omega)
  obtain ⟨q, hqe⟩ : ∃ q, (IntKind.u64.wrap r).tmod g.regions = q := ⟨_, rfl⟩
  rw [hqe] at hq
  have his : g.is q = true := by simp only [Config.is, within_iff]; omega
  have hF := play_fine (frame := frame) (l := l) (ins := []) (inbox := inbox) his
  rw [show playRow g.players.toNat [] = List.replicate g.players.toNat Input.zero by simp [playRow, rowAt]] at hF
  have hre := f_joustplay_Region g q frame l his hl
  obtain ⟨k1, k2, k3⟩ := @playRegion_ok g q frame l his
  generalize playRegion g q frame l = s at *
  have hI := f_joustplay_Inbox g q s.frame inbox his hb (by omega)
  obtain ⟨b1, b2⟩ := @playInbox_ok g q s.frame inbox
  generalize playInbox g q s.frame inbox = box at *
  have hA := f_joustlaw09_RegionBlasts_first q turns g g s box b2 box.length 0 (Nat.zero_add _) [] (by simp)
  rw [List.drop_zero, List.nil_append] at hA
  have hin : ∀ x ∈ box.filter (fun m => decide (m.kind = 2)), x ∈ box ∧ x.kind ≠ 1 := fun x hx => by
    obtain ⟨p1, p2⟩ := List.mem_filter.1 hx
    refine ⟨p1, ?_⟩
    have : x.kind = 2 := by simpa using p2
    omega
  have hnl : (box.filter fun m => decide (m.kind = 2)).length ≤ 12 := Nat.le_trans (List.length_filter_le ..) b2
  generalize (box.filter fun m => decide (m.kind = 2)) = inn at *
  have hFi := fine_box hF (l := inn) fun x hx => (hin x hx).1
  have hlen : (List.replicate g.players.toNat Input.zero).length ≤ 4 := by simp; omega
  have hS := f_region_Step_yes g q s (List.replicate g.players.toNat Input.zero) inn (by omega) (by unfold small; omega) (by omega) (fine_asked hFi)
  have hn := fine_next (fine_asked hFi)
  have hol := stepS_outs hFi
  rw [List.map_replicate] at hS
  by_cases h0 : inn.length = 0
  · have : inn = [] := List.eq_nil_of_length_eq_zero h0
    subst this
    generalize (stepS g q s (List.replicate g.players.toNat Input.zero) []).l = X at *
    generalize sortS Cross.less (stepS g q s (List.replicate g.players.toNat Input.zero) []).out = out at *
    have hB := f_joustlaw09_RegionBlasts_none q turns g g s ht
    have hR := f_jousthelp_Region ⟨s.frame + 1, X⟩ (by unfold small; simp only; omega)
    have hP := f_jousthelp_Plain_Cross out out (by unfold small; omega)
    rw [show plain out out = true by simp [plain]] at hP
    clear k1 b1 hF hFi hgr hin
    obtain ⟨f, L⟩ := s
    simp only at hre hI hS hR k2 k3 hA hB ⊢
    refine Wp.ev ?_
    refine gg [.a _ _, .a _ _, .a _ _, .b (!true) false, .ff, .ff, .b (0 != 0) false, .i IntKind.u64 r (IntKind.wrap IntKind.u64 r), .a _ _, .i IntKind.u64 (Config.regions g) (Config.regions g), .w (Config.regions g ≠ (0 : Int)), .t (T.int IntKind.u64 (Int.tmod (IntKind.wrap IntKind.u64 r) (Config.regions g))) (T.int IntKind.u64 q), .i IntKind.i64 q q, .a _ _, .a _ _, .a _ _] ⟨o_a hC, o_a hN, o_a ha, o_b (by kernel_rfl), o_b (by kernel_rfl), o_i rfl, o_a hG, oU, oW, o_t (by rw [hqe]), oI, o_a hre, o_a hI, o_a hA, trivial⟩ ?_
    refine gg [.w ((0 : Nat) < (120 : Nat)), .s (T.sl 0 []), .s (T.sl 0 []), .w (room (0 : Nat) (120 : Nat)), .a _ _] ⟨oW, o_w (by (simp [room, appendMax])), o_a hB, trivial⟩ ?_
    refine bo (by kernel_rfl) ?_ ?_
    · refine gg [.w ((0 : Int) ≤ g.players ∧ g.players ≤ g.players ∧ room (Int.toNat g.players) (24 : Nat)), .l (Int.toNat g.players)] ⟨o_w ⟨(by omega), ⟨(by omega), (by (simp [room, appendMax]; omega))⟩⟩, trivial⟩ ?_
      refine bo (by kernel_rfl) ?_ ?_
      · refine gg [.a _ _, .b (flats [Region.enc (Region.mk (f + 1) X), T.sl 15 (List.map Cross.enc out), ti 0]) false] ⟨o_a hS, o_b (by kernel_rfl), trivial⟩ ?_
        refine bo (by kernel_rfl) ?_ ?_
        · refine gg [.w ((0 : Int) ≤ g.players ∧ g.players ≤ g.players ∧ room (Int.toNat g.players) (24 : Nat)), .l (Int.toNat g.players)] ⟨o_w ⟨(by omega), ⟨(by omega), (by (simp [room, appendMax]; omega))⟩⟩, trivial⟩ ?_
          refine bo (by kernel_rfl) ?_ ?_
          · refine gg [.a _ _, .b (flats [Region.enc (Region.mk (f + 1) X), T.sl 15 (List.map Cross.enc out), ti 0]) false, .a _ _, .tt, .tt, .tt, .a _ _, .tt, .tt, .tt, .tt, .tt] ⟨o_a hS, o_b (by kernel_rfl), o_a hR, o_a hP, trivial⟩ ?_
            exact ge
          · refine gg [.a _ _, .b (flats [Region.enc (Region.mk (f + 1) X), T.sl 15 (List.map Cross.enc out), ti 0]) false, .a _ _, .tt, .tt, .tt, .a _ _, .tt, .tt, .tt, .tt, .tt] ⟨o_a hS, o_b (by kernel_rfl), o_a hR, o_a hP, trivial⟩ ?_
            exact ge
        · refine gg [.w ((0 : Int) ≤ g.players ∧ g.players ≤ g.players ∧ room (Int.toNat g.players) (24 : Nat)), .l (Int.toNat g.players), .a _ _, .b (flats [Region.enc (Region.mk (f + 1) X), T.sl 15 (List.map Cross.enc out), ti 0]) false, .a _ _, .tt, .tt, .tt, .a _ _, .tt, .tt, .tt, .tt, .tt] ⟨o_w ⟨(by omega), ⟨(by omega), (by (simp [room, appendMax]; omega))⟩⟩, o_a hS, o_b (by kernel_rfl), o_a hR, o_a hP, trivial⟩ ?_
          exact ge
      · refine gg [.a _ _, .b (flats [Region.enc (Region.mk (f + 1) X), T.sl 15 (List.map Cross.enc out), ti 0]) false] ⟨o_a hS, o_b (by kernel_rfl), trivial⟩ ?_
        refine bo (by kernel_rfl) ?_ ?_
        · refine gg [.w ((0 : Int) ≤ g.players ∧ g.players ≤ g.players ∧ room (Int.toNat g.players) (24 : Nat)), .l (Int.toNat g.players)] ⟨o_w ⟨(by omega), ⟨(by omega), (by (simp [room, appendMax]; omega))⟩⟩, trivial⟩ ?_
          refine bo (by kernel_rfl) ?_ ?_
          · refine gg [.a _ _, .b (flats [Region.enc (Region.mk (f + 1) X), T.sl 15 (List.map Cross.enc out), ti 0]) false, .a _ _, .tt, .tt, .tt, .a _ _, .tt, .tt, .tt, .tt, .tt] ⟨o_a hS, o_b (by kernel_rfl), o_a hR, o_a hP, trivial⟩ ?_
            exact ge
          · refine gg [.a _ _, .b (flats [Region.enc (Region.mk (f + 1) X), T.sl 15 (List.map Cross.enc out), ti 0]) false, .a _ _, .tt, .tt, .tt, .a _ _, .tt, .tt, .tt, .tt, .tt] ⟨o_a hS, o_b (by kernel_rfl), o_a hR, o_a hP, trivial⟩ ?_
            exact ge
        · refine gg [.w ((0 : Int) ≤ g.players ∧ g.players ≤ g.players ∧ room (Int.toNat g.players) (24 : Nat)), .l (Int.toNat g.players), .a _ _, .b (flats [Region.enc (Region.mk (f + 1) X), T.sl 15 (List.map Cross.enc out), ti 0]) false, .a _ _, .tt, .tt, .tt, .a _ _, .tt, .tt, .tt, .tt, .tt] ⟨o_w ⟨(by omega), ⟨(by omega), (by (simp [room, appendMax]; omega))⟩⟩, o_a hS, o_b (by kernel_rfl), o_a hR, o_a hP, trivial⟩ ?_
          exact ge
    · refine gg [.w ((0 : Int) ≤ g.players ∧ g.players ≤ g.players ∧ room (Int.toNat g.players) (24 : Nat)), .l (Int.toNat g.players), .a _ _, .b (flats [Region.enc (Region.mk (f + 1) X), T.sl 15 (List.map Cross.enc out), ti 0]) false] ⟨o_w ⟨(by omega), ⟨(by omega), (by (simp [room, appendMax]; omega))⟩⟩, o_a hS, o_b (by kernel_rfl), trivial⟩ ?_
      refine bo (by kernel_rfl) ?_ ?_
      · refine gg [.w ((0 : Int) ≤ g.players ∧ g.players ≤ g.players ∧ room (Int.toNat g.players) (24 : Nat)), .l (Int.toNat g.players)] ⟨o_w ⟨(by omega), ⟨(by omega), (by (simp [room, appendMax]; omega))⟩⟩, trivial⟩ ?_
        refine bo (by kernel_rfl) ?_ ?_
        · refine gg [.a _ _, .b (flats [Region.enc (Region.mk (f + 1) X), T.sl 15 (List.map Cross.enc out), ti 0]) false, .a _ _, .tt, .tt, .tt, .a _ _, .tt, .tt, .tt, .tt, .tt] ⟨o_a hS, o_b (by kernel_rfl), o_a hR, o_a hP, trivial⟩ ?_
          exact ge
        · refine gg [.a _ _, .b (flats [Region.enc (Region.mk (f + 1) X), T.sl 15 (List.map Cross.enc out), ti 0]) false, .a _ _, .tt, .tt, .tt, .a _ _, .tt, .tt, .tt, .tt, .tt] ⟨o_a hS, o_b (by kernel_rfl), o_a hR, o_a hP, trivial⟩ ?_
          exact ge
      · refine gg [.w ((0 : Int) ≤ g.players ∧ g.players ≤ g.players ∧ room (Int.toNat g.players) (24 : Nat)), .l (Int.toNat g.players), .a _ _, .b (flats [Region.enc (Region.mk (f + 1) X), T.sl 15 (List.map Cross.enc out), ti 0]) false, .a _ _, .tt, .tt, .tt, .a _ _, .tt, .tt, .tt, .tt, .tt] ⟨o_w ⟨(by omega), ⟨(by omega), (by (simp [room, appendMax]; omega))⟩⟩, o_a hS, o_b (by kernel_rfl), o_a hR, o_a hP, trivial⟩ ?_
        exact ge
  · have hpm := turnN_perm (l := turns.take 40) (i := 0) (m := inn) (by omega)
    have hB := f_joustlaw09_RegionBlasts_next q turns g g s inn ht hnl (by omega) (min turns.length 40) 0 (Nat.zero_add _) inn rfl
    rw [List.drop_zero] at hB
    have hst := stepS_blasts (c := g) (r := q) (s := s) (ins := List.replicate g.players.toNat Input.zero) hpm fun x hx => (hin x hx).2
    have hFm := fine_box hF (l := turnN (turns.take 40) 0 inn) fun x hx => (hin x (hpm.mem_iff.1 hx)).1
    have hlm := hpm.length_eq
    generalize turnN (turns.take 40) 0 inn = m at *
    have hSm := f_region_Step_yes g q s (List.replicate g.players.toNat Input.zero) m (by omega) (by unfold small; omega) (by omega) (fine_asked hFm)
    rw [hst, List.map_replicate] at hSm
    generalize (stepS g q s (List.replicate g.players.toNat Input.zero) inn).l = X at *
    generalize sortS Cross.less (stepS g q s (List.replicate g.players.toNat Input.zero) inn).out = out at *
    have hR := f_jousthelp_Region ⟨s.frame + 1, X⟩ (by unfold small; simp only; omega)
    have hP := f_jousthelp_Plain_Cross out out (by unfold small; omega)
    rw [show plain out out = true by simp [plain]] at hP
    clear k1 b1 hF hFi hFm hgr hin hst hpm
    obtain ⟨f, L⟩ := s
    simp only at hre hI hS hSm hR k2 k3 hA hB ⊢
    refine Wp.ev ?_
    refine gg [.a _ _, .a _ _, .a _ _, .b (!true) false, .ff, .ff, .b (0 != 0) false, .i IntKind.u64 r (IntKind.wrap IntKind.u64 r), .a _ _, .i IntKind.u64 (Config.regions g) (Config.regions g), .w (Config.regions g ≠ (0 : Int)), .t (T.int IntKind.u64 (Int.tmod (IntKind.wrap IntKind.u64 r) (Config.regions g))) (T.int IntKind.u64 q), .i IntKind.i64 q q, .a _ _, .a _ _, .a _ _] ⟨o_a hC, o_a hN, o_a ha, o_b (by kernel_rfl), o_b (by kernel_rfl), o_i rfl, o_a hG, oU, oW, o_t (by rw [hqe]), oI, o_a hre, o_a hI, o_a hA, trivial⟩ ?_
    refine gg [.w ((0 : Nat) < (120 : Nat)), .s (T.sl 0 (List.map Cross.enc inn)), .s (T.sl 0 (List.map Cross.enc inn)), .w (room (List.length (List.map Cross.enc inn)) (120 : Nat)), .a _ _] ⟨oW, o_w (by (simp [room, appendMax]; omega)), o_a hB, trivial⟩ ?_
    refine bo (by kernel_rfl) ?_ ?_
    · refine gg [.w ((0 : Int) ≤ g.players ∧ g.players ≤ g.players ∧ room (Int.toNat g.players) (24 : Nat)), .l (Int.toNat g.players)] ⟨o_w ⟨(by omega), ⟨(by omega), (by (simp [room, appendMax]; omega))⟩⟩, trivial⟩ ?_
      refine bo (by kernel_rfl) ?_ ?_
      · refine gg [.a _ _, .b (flats [Region.enc (Region.mk (f + 1) X), T.sl 15 (List.map Cross.enc out), ti 0]) false] ⟨o_a hS, o_b (by kernel_rfl), trivial⟩ ?_
        refine bo (by kernel_rfl) ?_ ?_
        · refine gg [.w ((0 : Int) ≤ g.players ∧ g.players ≤ g.players ∧ room (Int.toNat g.players) (24 : Nat)), .l (Int.toNat g.players)] ⟨o_w ⟨(by omega), ⟨(by omega), (by (simp [room, appendMax]; omega))⟩⟩, trivial⟩ ?_
          refine bo (by kernel_rfl) ?_ ?_
          · refine gg [.a _ _, .b (flats [Region.enc (Region.mk (f + 1) X), T.sl 15 (List.map Cross.enc out), ti 0]) false, .a _ _, .tt, .tt, .tt, .a _ _, .tt, .tt, .tt, .tt, .tt] ⟨o_a hSm, o_b (by kernel_rfl), o_a hR, o_a hP, trivial⟩ ?_
            exact ge
          · refine gg [.a _ _, .b (flats [Region.enc (Region.mk (f + 1) X), T.sl 15 (List.map Cross.enc out), ti 0]) false, .a _ _, .tt, .tt, .tt, .a _ _, .tt, .tt, .tt, .tt, .tt] ⟨o_a hSm, o_b (by kernel_rfl), o_a hR, o_a hP, trivial⟩ ?_
            exact ge
        · refine gg [.w ((0 : Int) ≤ g.players ∧ g.players ≤ g.players ∧ room (Int.toNat g.players) (24 : Nat)), .l (Int.toNat g.players), .a _ _, .b (flats [Region.enc (Region.mk (f + 1) X), T.sl 15 (List.map Cross.enc out), ti 0]) false, .a _ _, .tt, .tt, .tt, .a _ _, .tt, .tt, .tt, .tt, .tt] ⟨o_w ⟨(by omega), ⟨(by omega), (by (simp [room, appendMax]; omega))⟩⟩, o_a hSm, o_b (by kernel_rfl), o_a hR, o_a hP, trivial⟩ ?_
          exact ge
      · refine gg [.a _ _, .b (flats [Region.enc (Region.mk (f + 1) X), T.sl 15 (List.map Cross.enc out), ti 0]) false] ⟨o_a hS, o_b (by kernel_rfl), trivial⟩ ?_
        refine bo (by kernel_rfl) ?_ ?_
        · refine gg [.w ((0 : Int) ≤ g.players ∧ g.players ≤ g.players ∧ room (Int.toNat g.players) (24 : Nat)), .l (Int.toNat g.players)] ⟨o_w ⟨(by omega), ⟨(by omega), (by (simp [room, appendMax]; omega))⟩⟩, trivial⟩ ?_
          refine bo (by kernel_rfl) ?_ ?_
          · refine gg [.a _ _, .b (flats [Region.enc (Region.mk (f + 1) X), T.sl 15 (List.map Cross.enc out), ti 0]) false, .a _ _, .tt, .tt, .tt, .a _ _, .tt, .tt, .tt, .tt, .tt] ⟨o_a hSm, o_b (by kernel_rfl), o_a hR, o_a hP, trivial⟩ ?_
            exact ge
          · refine gg [.a _ _, .b (flats [Region.enc (Region.mk (f + 1) X), T.sl 15 (List.map Cross.enc out), ti 0]) false, .a _ _, .tt, .tt, .tt, .a _ _, .tt, .tt, .tt, .tt, .tt] ⟨o_a hSm, o_b (by kernel_rfl), o_a hR, o_a hP, trivial⟩ ?_
            exact ge
        · refine gg [.w ((0 : Int) ≤ g.players ∧ g.players ≤ g.players ∧ room (Int.toNat g.players) (24 : Nat)), .l (Int.toNat g.players), .a _ _, .b (flats [Region.enc (Region.mk (f + 1) X), T.sl 15 (List.map Cross.enc out), ti 0]) false, .a _ _, .tt, .tt, .tt, .a _ _, .tt, .tt, .tt, .tt, .tt] ⟨o_w ⟨(by omega), ⟨(by omega), (by (simp [room, appendMax]; omega))⟩⟩, o_a hSm, o_b (by kernel_rfl), o_a hR, o_a hP, trivial⟩ ?_
          exact ge
    · refine gg [.w ((0 : Int) ≤ g.players ∧ g.players ≤ g.players ∧ room (Int.toNat g.players) (24 : Nat)), .l (Int.toNat g.players), .a _ _, .b (flats [Region.enc (Region.mk (f + 1) X), T.sl 15 (List.map Cross.enc out), ti 0]) false] ⟨o_w ⟨(by omega), ⟨(by omega), (by (simp [room, appendMax]; omega))⟩⟩, o_a hS, o_b (by kernel_rfl), trivial⟩ ?_
      refine bo (by kernel_rfl) ?_ ?_
      · refine gg [.w ((0 : Int) ≤ g.players ∧ g.players ≤ g.players ∧ room (Int.toNat g.players) (24 : Nat)), .l (Int.toNat g.players)] ⟨o_w ⟨(by omega), ⟨(by omega), (by (simp [room, appendMax]; omega))⟩⟩, trivial⟩ ?_
        refine bo (by kernel_rfl) ?_ ?_
        · refine gg [.a _ _, .b (flats [Region.enc (Region.mk (f + 1) X), T.sl 15 (List.map Cross.enc out), ti 0]) false, .a _ _, .tt, .tt, .tt, .a _ _, .tt, .tt, .tt, .tt, .tt] ⟨o_a hSm, o_b (by kernel_rfl), o_a hR, o_a hP, trivial⟩ ?_
          exact ge
        · refine gg [.a _ _, .b (flats [Region.enc (Region.mk (f + 1) X), T.sl 15 (List.map Cross.enc out), ti 0]) false, .a _ _, .tt, .tt, .tt, .a _ _, .tt, .tt, .tt, .tt, .tt] ⟨o_a hSm, o_b (by kernel_rfl), o_a hR, o_a hP, trivial⟩ ?_
          exact ge
      · refine gg [.w ((0 : Int) ≤ g.players ∧ g.players ≤ g.players ∧ room (Int.toNat g.players) (24 : Nat)), .l (Int.toNat g.players), .a _ _, .b (flats [Region.enc (Region.mk (f + 1) X), T.sl 15 (List.map Cross.enc out), ti 0]) false, .a _ _, .tt, .tt, .tt, .a _ _, .tt, .tt, .tt, .tt, .tt] ⟨o_w ⟨(by omega), ⟨(by omega), (by (simp [room, appendMax]; omega))⟩⟩, o_a hSm, o_b (by kernel_rfl), o_a hR, o_a hP, trivial⟩ ?_
        exact ge
end Go.Eva.S3

namespace Go.Eva.S3
open Go.Proofs
theorem cxTy : CxTy Tryz.prog cx := cxTy_of (by decide +kernel) (by decide +kernel) (⟨⟨Tryz.f179, by kernel_rfl, by decide +kernel, by kernel_rfl, by kernel_rfl, by kernel_rfl, by kernel_rfl, 48, by kernel_rfl⟩, trivial⟩)
theorem ok3 : FnOK Tryz.prog cx 3 fi3 Tryz.f3 := ⟨by kernel_rfl, by decide +kernel, by kernel_rfl, by kernel_rfl, by kernel_rfl, by decide +kernel⟩
theorem ok4 : FnOK Tryz.prog cx 4 fi4 Tryz.f4 := ⟨by kernel_rfl, by decide +kernel, by kernel_rfl, by kernel_rfl, by kernel_rfl, by decide +kernel⟩
theorem ok5 : FnOK Tryz.prog cx 5 fi5 Tryz.f5 := ⟨by kernel_rfl, by decide +kernel, by kernel_rfl, by kernel_rfl, by kernel_rfl, by decide +kernel⟩
theorem ok6 : FnOK Tryz.prog cx 6 fi6 Tryz.f6 := ⟨by kernel_rfl, by decide +kernel, by kernel_rfl, by kernel_rfl, by kernel_rfl, by decide +kernel⟩
theorem ok7 : FnOK Tryz.prog cx 7 fi7 Tryz.f7 := ⟨by kernel_rfl, by decide +kernel, by kernel_rfl, by kernel_rfl, by kernel_rfl, by decide +kernel⟩
theorem ok8 : FnOK Tryz.prog cx 8 fi8 Tryz.f8 := ⟨by kernel_rfl, by decide +kernel, by kernel_rfl, by kernel_rfl, by kernel_rfl, by decide +kernel⟩
theorem ok9 : FnOK Tryz.prog cx 9 fi9 Tryz.f9 := ⟨by kernel_rfl, by decide +kernel, by kernel_rfl, by kernel_rfl, by kernel_rfl, by decide +kernel⟩
theorem ok10 : FnOK Tryz.prog cx 10 fi10 Tryz.f10 := ⟨by kernel_rfl, by decide +kernel, by kernel_rfl, by kernel_rfl, by kernel_rfl, by decide +kernel⟩
theorem ok11 : FnOK Tryz.prog cx 11 fi11 Tryz.f11 := ⟨by kernel_rfl, by decide +kernel, by kernel_rfl, by kernel_rfl, by kernel_rfl, by decide +kernel⟩
theorem ok12 : FnOK Tryz.prog cx 12 fi12 Tryz.f12 := ⟨by kernel_rfl, by decide +kernel, by kernel_rfl, by kernel_rfl, by kernel_rfl, by decide +kernel⟩
theorem ok13 : FnOK Tryz.prog cx 13 fi13 Tryz.f13 := ⟨by kernel_rfl, by decide +kernel, by kernel_rfl, by kernel_rfl, by kernel_rfl, by decide +kernel⟩
theorem ok14 : FnOK Tryz.prog cx 14 fi14 Tryz.f14 := ⟨by kernel_rfl, by decide +kernel, by kernel_rfl, by kernel_rfl, by kernel_rfl, by decide +kernel⟩
theorem ok15 : FnOK Tryz.prog cx 15 fi15 Tryz.f15 := ⟨by kernel_rfl, by decide +kernel, by kernel_rfl, by kernel_rfl, by kernel_rfl, by decide +kernel⟩
theorem ok16 : FnOK Tryz.prog cx 16 fi16 Tryz.f16 := ⟨by kernel_rfl, by decide +kernel, by kernel_rfl, by kernel_rfl, by kernel_rfl, by decide +kernel⟩
theorem ok17 : FnOK Tryz.prog cx 17 fi17 Tryz.f17 := ⟨by kernel_rfl, by decide +kernel, by kernel_rfl, by kernel_rfl, by kernel_rfl, by decide +kernel⟩
theorem ok18 : FnOK Tryz.prog cx 18 fi18 Tryz.f18 := ⟨by kernel_rfl, by decide +kernel, by kernel_rfl, by kernel_rfl, by kernel_rfl, by decide +kernel⟩
theorem ok19 : FnOK Tryz.prog cx 19 fi19 Tryz.f19 := ⟨by kernel_rfl, by decide +kernel, by kernel_rfl, by kernel_rfl, by kernel_rfl, by decide +kernel⟩
theorem ok20 : FnOK Tryz.prog cx 20 fi20 Tryz.f20 := ⟨by kernel_rfl, by decide +kernel, by kernel_rfl, by kernel_rfl, by kernel_rfl, by decide +kernel⟩
theorem ok21 : FnOK Tryz.prog cx 21 fi21 Tryz.f21 := ⟨by kernel_rfl, by decide +kernel, by kernel_rfl, by kernel_rfl, by kernel_rfl, by decide +kernel⟩
theorem ok22 : FnOK Tryz.prog cx 22 fi22 Tryz.f22 := ⟨by kernel_rfl, by decide +kernel, by kernel_rfl, by kernel_rfl, by kernel_rfl, by decide +kernel⟩
theorem ok23 : FnOK Tryz.prog cx 23 fi23 Tryz.f23 := ⟨by kernel_rfl, by decide +kernel, by kernel_rfl, by kernel_rfl, by kernel_rfl, by decide +kernel⟩
theorem ok24 : FnOK Tryz.prog cx 24 fi24 Tryz.f24 := ⟨by kernel_rfl, by decide +kernel, by kernel_rfl, by kernel_rfl, by kernel_rfl, by decide +kernel⟩
theorem ok25 : FnOK Tryz.prog cx 25 fi25 Tryz.f25 := ⟨by kernel_rfl, by decide +kernel, by kernel_rfl, by kernel_rfl, by kernel_rfl, by decide +kernel⟩
theorem ok26 : FnOK Tryz.prog cx 26 fi26 Tryz.f26 := ⟨by kernel_rfl, by decide +kernel, by kernel_rfl, by kernel_rfl, by kernel_rfl, by decide +kernel⟩
theorem ok27 : FnOK Tryz.prog cx 27 fi27 Tryz.f27 := ⟨by kernel_rfl, by decide +kernel, by kernel_rfl, by kernel_rfl, by kernel_rfl, by decide +kernel⟩
theorem ok28 : FnOK Tryz.prog cx 28 fi28 Tryz.f28 := ⟨by kernel_rfl, by decide +kernel, by kernel_rfl, by kernel_rfl, by kernel_rfl, by decide +kernel⟩
theorem ok29 : FnOK Tryz.prog cx 29 fi29 Tryz.f29 := ⟨by kernel_rfl, by decide +kernel, by kernel_rfl, by kernel_rfl, by kernel_rfl, by decide +kernel⟩
theorem ok30 : FnOK Tryz.prog cx 30 fi30 Tryz.f30 := ⟨by kernel_rfl, by decide +kernel, by kernel_rfl, by kernel_rfl, by kernel_rfl, by decide +kernel⟩
theorem ok31 : FnOK Tryz.prog cx 31 fi31 Tryz.f31 := ⟨by kernel_rfl, by decide +kernel, by kernel_rfl, by kernel_rfl, by kernel_rfl, by decide +kernel⟩
theorem ok32 : FnOK Tryz.prog cx 32 fi32 Tryz.f32 := ⟨by kernel_rfl, by decide +kernel, by kernel_rfl, by kernel_rfl, by kernel_rfl, by decide +kernel⟩
theorem ok33 : FnOK Tryz.prog cx 33 fi33 Tryz.f33 := ⟨by kernel_rfl, by decide +kernel, by kernel_rfl, by kernel_rfl, by kernel_rfl, by decide +kernel⟩
theorem ok34 : FnOK Tryz.prog cx 34 fi34 Tryz.f34 := ⟨by kernel_rfl, by decide +kernel, by kernel_rfl, by kernel_rfl, by kernel_rfl, by decide +kernel⟩
theorem ok35 : FnOK Tryz.prog cx 35 fi35 Tryz.f35 := ⟨by kernel_rfl, by decide +kernel, by kernel_rfl, by kernel_rfl, by kernel_rfl, by decide +kernel⟩
theorem ok36 : FnOK Tryz.prog cx 36 fi36 Tryz.f36 := ⟨by kernel_rfl, by decide +kernel, by kernel_rfl, by kernel_rfl, by kernel_rfl, by decide +kernel⟩
theorem ok37 : FnOK Tryz.prog cx 37 fi37 Tryz.f37 := ⟨by kernel_rfl, by decide +kernel, by kernel_rfl, by kernel_rfl, by kernel_rfl, by decide +kernel⟩
theorem ok38 : FnOK Tryz.prog cx 38 fi38 Tryz.f38 := ⟨by kernel_rfl, by decide +kernel, by kernel_rfl, by kernel_rfl, by kernel_rfl, by decide +kernel⟩
theorem ok39 : FnOK Tryz.prog cx 39 fi39 Tryz.f39 := ⟨by kernel_rfl, by decide +kernel, by kernel_rfl, by kernel_rfl, by kernel_rfl, by decide +kernel⟩
theorem ok40 : FnOK Tryz.prog cx 40 fi40 Tryz.f40 := ⟨by kernel_rfl, by decide +kernel, by kernel_rfl, by kernel_rfl, by kernel_rfl, by decide +kernel⟩
theorem ok41 : FnOK Tryz.prog cx 41 fi41 Tryz.f41 := ⟨by kernel_rfl, by decide +kernel, by kernel_rfl, by kernel_rfl, by kernel_rfl, by decide +kernel⟩
theorem ok42 : FnOK Tryz.prog cx 42 fi42 Tryz.f42 := ⟨by kernel_rfl, by decide +kernel, by kernel_rfl, by kernel_rfl, by kernel_rfl, by decide +kernel⟩
theorem ok43 : FnOK Tryz.prog cx 43 fi43 Tryz.f43 := ⟨by kernel_rfl, by decide +kernel, by kernel_rfl, by kernel_rfl, by kernel_rfl, by decide +kernel⟩
theorem ok44 : FnOK Tryz.prog cx 44 fi44 Tryz.f44 := ⟨by kernel_rfl, by decide +kernel, by kernel_rfl, by kernel_rfl, by kernel_rfl, by decide +kernel⟩
theorem ok45 : FnOK Tryz.prog cx 45 fi45 Tryz.f45 := ⟨by kernel_rfl, by decide +kernel, by kernel_rfl, by kernel_rfl, by kernel_rfl, by decide +kernel⟩
theorem ok46 : FnOK Tryz.prog cx 46 fi46 Tryz.f46 := ⟨by kernel_rfl, by decide +kernel, by kernel_rfl, by kernel_rfl, by kernel_rfl, by decide +kernel⟩
theorem ok47 : FnOK Tryz.prog cx 47 fi47 Tryz.f47 := ⟨by kernel_rfl, by decide +kernel, by kernel_rfl, by kernel_rfl, by kernel_rfl, by decide +kernel⟩
theorem ok48 : FnOK Tryz.prog cx 48 fi48 Tryz.f48 := ⟨by kernel_rfl, by decide +kernel, by kernel_rfl, by kernel_rfl, by kernel_rfl, by decide +kernel⟩
theorem ok49 : FnOK Tryz.prog cx 49 fi49 Tryz.f49 := ⟨by kernel_rfl, by decide +kernel, by kernel_rfl, by kernel_rfl, by kernel_rfl, by decide +kernel⟩
theorem ok50 : FnOK Tryz.prog cx 50 fi50 Tryz.f50 := ⟨by kernel_rfl, by decide +kernel, by kernel_rfl, by kernel_rfl, by kernel_rfl, by decide +kernel⟩
theorem ok51 : FnOK Tryz.prog cx 51 fi51 Tryz.f51 := ⟨by kernel_rfl, by decide +kernel, by kernel_rfl, by kernel_rfl, by kernel_rfl, by decide +kernel⟩
theorem ok52 : FnOK Tryz.prog cx 52 fi52 Tryz.f52 := ⟨by kernel_rfl, by decide +kernel, by kernel_rfl, by kernel_rfl, by kernel_rfl, by decide +kernel⟩
theorem ok53 : FnOK Tryz.prog cx 53 fi53 Tryz.f53 := ⟨by kernel_rfl, by decide +kernel, by kernel_rfl, by kernel_rfl, by kernel_rfl, by decide +kernel⟩
theorem ok54 : FnOK Tryz.prog cx 54 fi54 Tryz.f54 := ⟨by kernel_rfl, by decide +kernel, by kernel_rfl, by kernel_rfl, by kernel_rfl, by decide +kernel⟩
theorem ok55 : FnOK Tryz.prog cx 55 fi55 Tryz.f55 := ⟨by kernel_rfl, by decide +kernel, by kernel_rfl, by kernel_rfl, by kernel_rfl, by decide +kernel⟩
theorem ok56 : FnOK Tryz.prog cx 56 fi56 Tryz.f56 := ⟨by kernel_rfl, by decide +kernel, by kernel_rfl, by kernel_rfl, by kernel_rfl, by decide +kernel⟩
theorem ok57 : FnOK Tryz.prog cx 57 fi57 Tryz.f57 := ⟨by kernel_rfl, by decide +kernel, by kernel_rfl, by kernel_rfl, by kernel_rfl, by decide +kernel⟩
theorem ok58 : FnOK Tryz.prog cx 58 fi58 Tryz.f58 := ⟨by kernel_rfl, by decide +kernel, by kernel_rfl, by kernel_rfl, by kernel_rfl, by decide +kernel⟩
theorem ok59 : FnOK Tryz.prog cx 59 fi59 Tryz.f59 := ⟨by kernel_rfl, by decide +kernel, by kernel_rfl, by kernel_rfl, by kernel_rfl, by decide +kernel⟩
theorem ok60 : FnOK Tryz.prog cx 60 fi60 Tryz.f60 := ⟨by kernel_rfl, by decide +kernel, by kernel_rfl, by kernel_rfl, by kernel_rfl, by decide +kernel⟩
theorem ok61 : FnOK Tryz.prog cx 61 fi61 Tryz.f61 := ⟨by kernel_rfl, by decide +kernel, by kernel_rfl, by kernel_rfl, by kernel_rfl, by decide +kernel⟩
theorem ok62 : FnOK Tryz.prog cx 62 fi62 Tryz.f62 := ⟨by kernel_rfl, by decide +kernel, by kernel_rfl, by kernel_rfl, by kernel_rfl, by decide +kernel⟩
theorem ok63 : FnOK Tryz.prog cx 63 fi63 Tryz.f63 := ⟨by kernel_rfl, by decide +kernel, by kernel_rfl, by kernel_rfl, by kernel_rfl, by decide +kernel⟩
theorem ok64 : FnOK Tryz.prog cx 64 fi64 Tryz.f64 := ⟨by kernel_rfl, by decide +kernel, by kernel_rfl, by kernel_rfl, by kernel_rfl, by decide +kernel⟩
theorem ok65 : FnOK Tryz.prog cx 65 fi65 Tryz.f65 := ⟨by kernel_rfl, by decide +kernel, by kernel_rfl, by kernel_rfl, by kernel_rfl, by decide +kernel⟩
theorem ok66 : FnOK Tryz.prog cx 66 fi66 Tryz.f66 := ⟨by kernel_rfl, by decide +kernel, by kernel_rfl, by kernel_rfl, by kernel_rfl, by decide +kernel⟩
theorem ok67 : FnOK Tryz.prog cx 67 fi67 Tryz.f67 := ⟨by kernel_rfl, by decide +kernel, by kernel_rfl, by kernel_rfl, by kernel_rfl, by decide +kernel⟩
theorem ok68 : FnOK Tryz.prog cx 68 fi68 Tryz.f68 := ⟨by kernel_rfl, by decide +kernel, by kernel_rfl, by kernel_rfl, by kernel_rfl, by decide +kernel⟩
theorem ok69 : FnOK Tryz.prog cx 69 fi69 Tryz.f69 := ⟨by kernel_rfl, by decide +kernel, by kernel_rfl, by kernel_rfl, by kernel_rfl, by decide +kernel⟩
theorem ok70 : FnOK Tryz.prog cx 70 fi70 Tryz.f70 := ⟨by kernel_rfl, by decide +kernel, by kernel_rfl, by kernel_rfl, by kernel_rfl, by decide +kernel⟩
theorem ok71 : FnOK Tryz.prog cx 71 fi71 Tryz.f71 := ⟨by kernel_rfl, by decide +kernel, by kernel_rfl, by kernel_rfl, by kernel_rfl, by decide +kernel⟩
theorem ok72 : FnOK Tryz.prog cx 72 fi72 Tryz.f72 := ⟨by kernel_rfl, by decide +kernel, by kernel_rfl, by kernel_rfl, by kernel_rfl, by decide +kernel⟩
theorem ok73 : FnOK Tryz.prog cx 73 fi73 Tryz.f73 := ⟨by kernel_rfl, by decide +kernel, by kernel_rfl, by kernel_rfl, by kernel_rfl, by decide +kernel⟩
theorem ok74 : FnOK Tryz.prog cx 74 fi74 Tryz.f74 := ⟨by kernel_rfl, by decide +kernel, by kernel_rfl, by kernel_rfl, by kernel_rfl, by decide +kernel⟩
theorem ok75 : FnOK Tryz.prog cx 75 fi75 Tryz.f75 := ⟨by kernel_rfl, by decide +kernel, by kernel_rfl, by kernel_rfl, by kernel_rfl, by decide +kernel⟩
theorem ok76 : FnOK Tryz.prog cx 76 fi76 Tryz.f76 := ⟨by kernel_rfl, by decide +kernel, by kernel_rfl, by kernel_rfl, by kernel_rfl, by decide +kernel⟩
theorem ok77 : FnOK Tryz.prog cx 77 fi77 Tryz.f77 := ⟨by kernel_rfl, by decide +kernel, by kernel_rfl, by kernel_rfl, by kernel_rfl, by decide +kernel⟩
theorem ok78 : FnOK Tryz.prog cx 78 fi78 Tryz.f78 := ⟨by kernel_rfl, by decide +kernel, by kernel_rfl, by kernel_rfl, by kernel_rfl, by decide +kernel⟩
theorem ok79 : FnOK Tryz.prog cx 79 fi79 Tryz.f79 := ⟨by kernel_rfl, by decide +kernel, by kernel_rfl, by kernel_rfl, by kernel_rfl, by decide +kernel⟩
theorem ok80 : FnOK Tryz.prog cx 80 fi80 Tryz.f80 := ⟨by kernel_rfl, by decide +kernel, by kernel_rfl, by kernel_rfl, by kernel_rfl, by decide +kernel⟩
theorem ok81 : FnOK Tryz.prog cx 81 fi81 Tryz.f81 := ⟨by kernel_rfl, by decide +kernel, by kernel_rfl, by kernel_rfl, by kernel_rfl, by decide +kernel⟩
theorem ok82 : FnOK Tryz.prog cx 82 fi82 Tryz.f82 := ⟨by kernel_rfl, by decide +kernel, by kernel_rfl, by kernel_rfl, by kernel_rfl, by decide +kernel⟩
theorem ok83 : FnOK Tryz.prog cx 83 fi83 Tryz.f83 := ⟨by kernel_rfl, by decide +kernel, by kernel_rfl, by kernel_rfl, by kernel_rfl, by decide +kernel⟩
theorem ok84 : FnOK Tryz.prog cx 84 fi84 Tryz.f84 := ⟨by kernel_rfl, by decide +kernel, by kernel_rfl, by kernel_rfl, by kernel_rfl, by decide +kernel⟩
theorem ok85 : FnOK Tryz.prog cx 85 fi85 Tryz.f85 := ⟨by kernel_rfl, by decide +kernel, by kernel_rfl, by kernel_rfl, by kernel_rfl, by decide +kernel⟩
theorem ok86 : FnOK Tryz.prog cx 86 fi86 Tryz.f86 := ⟨by kernel_rfl, by decide +kernel, by kernel_rfl, by kernel_rfl, by kernel_rfl, by decide +kernel⟩
theorem ok87 : FnOK Tryz.prog cx 87 fi87 Tryz.f87 := ⟨by kernel_rfl, by decide +kernel, by kernel_rfl, by kernel_rfl, by kernel_rfl, by decide +kernel⟩
theorem ok88 : FnOK Tryz.prog cx 88 fi88 Tryz.f88 := ⟨by kernel_rfl, by decide +kernel, by kernel_rfl, by kernel_rfl, by kernel_rfl, by decide +kernel⟩
theorem ok89 : FnOK Tryz.prog cx 89 fi89 Tryz.f89 := ⟨by kernel_rfl, by decide +kernel, by kernel_rfl, by kernel_rfl, by kernel_rfl, by decide +kernel⟩
theorem ok90 : FnOK Tryz.prog cx 90 fi90 Tryz.f90 := ⟨by kernel_rfl, by decide +kernel, by kernel_rfl, by kernel_rfl, by kernel_rfl, by decide +kernel⟩
theorem ok91 : FnOK Tryz.prog cx 91 fi91 Tryz.f91 := ⟨by kernel_rfl, by decide +kernel, by kernel_rfl, by kernel_rfl, by kernel_rfl, by decide +kernel⟩
theorem ok92 : FnOK Tryz.prog cx 92 fi92 Tryz.f92 := ⟨by kernel_rfl, by decide +kernel, by kernel_rfl, by kernel_rfl, by kernel_rfl, by decide +kernel⟩
theorem ok93 : FnOK Tryz.prog cx 93 fi93 Tryz.f93 := ⟨by kernel_rfl, by decide +kernel, by kernel_rfl, by kernel_rfl, by kernel_rfl, by decide +kernel⟩
theorem ok94 : FnOK Tryz.prog cx 94 fi94 Tryz.f94 := ⟨by kernel_rfl, by decide +kernel, by kernel_rfl, by kernel_rfl, by kernel_rfl, by decide +kernel⟩
theorem ok95 : FnOK Tryz.prog cx 95 fi95 Tryz.f95 := ⟨by kernel_rfl, by decide +kernel, by kernel_rfl, by kernel_rfl, by kernel_rfl, by decide +kernel⟩
theorem ok96 : FnOK Tryz.prog cx 96 fi96 Tryz.f96 := ⟨by kernel_rfl, by decide +kernel, by kernel_rfl, by kernel_rfl, by kernel_rfl, by decide +kernel⟩
theorem ok97 : FnOK Tryz.prog cx 97 fi97 Tryz.f97 := ⟨by kernel_rfl, by decide +kernel, by kernel_rfl, by kernel_rfl, by kernel_rfl, by decide +kernel⟩
theorem ok98 : FnOK Tryz.prog cx 98 fi98 Tryz.f98 := ⟨by kernel_rfl, by decide +kernel, by kernel_rfl, by kernel_rfl, by kernel_rfl, by decide +kernel⟩
theorem ok99 : FnOK Tryz.prog cx 99 fi99 Tryz.f99 := ⟨by kernel_rfl, by decide +kernel, by kernel_rfl, by kernel_rfl, by kernel_rfl, by decide +kernel⟩
theorem ok100 : FnOK Tryz.prog cx 100 fi100 Tryz.f100 := ⟨by kernel_rfl, by decide +kernel, by kernel_rfl, by kernel_rfl, by kernel_rfl, by decide +kernel⟩
theorem ok101 : FnOK Tryz.prog cx 101 fi101 Tryz.f101 := ⟨by kernel_rfl, by decide +kernel, by kernel_rfl, by kernel_rfl, by kernel_rfl, by decide +kernel⟩
theorem ok102 : FnOK Tryz.prog cx 102 fi102 Tryz.f102 := ⟨by kernel_rfl, by decide +kernel, by kernel_rfl, by kernel_rfl, by kernel_rfl, by decide +kernel⟩
theorem ok103 : FnOK Tryz.prog cx 103 fi103 Tryz.f103 := ⟨by kernel_rfl, by decide +kernel, by kernel_rfl, by kernel_rfl, by kernel_rfl, by decide +kernel⟩
theorem ok104 : FnOK Tryz.prog cx 104 fi104 Tryz.f104 := ⟨by kernel_rfl, by decide +kernel, by kernel_rfl, by kernel_rfl, by kernel_rfl, by decide +kernel⟩
theorem ok105 : FnOK Tryz.prog cx 105 fi105 Tryz.f105 := ⟨by kernel_rfl, by decide +kernel, by kernel_rfl, by kernel_rfl, by kernel_rfl, by decide +kernel⟩
theorem ok106 : FnOK Tryz.prog cx 106 fi106 Tryz.f106 := ⟨by kernel_rfl, by decide +kernel, by kernel_rfl, by kernel_rfl, by kernel_rfl, by decide +kernel⟩
theorem ok107 : FnOK Tryz.prog cx 107 fi107 Tryz.f107 := ⟨by kernel_rfl, by decide +kernel, by kernel_rfl, by kernel_rfl, by kernel_rfl, by decide +kernel⟩
theorem ok108 : FnOK Tryz.prog cx 108 fi108 Tryz.f108 := ⟨by kernel_rfl, by decide +kernel, by kernel_rfl, by kernel_rfl, by kernel_rfl, by decide +kernel⟩
theorem ok109 : FnOK Tryz.prog cx 109 fi109 Tryz.f109 := ⟨by kernel_rfl, by decide +kernel, by kernel_rfl, by kernel_rfl, by kernel_rfl, by decide +kernel⟩
theorem ok110 : FnOK Tryz.prog cx 110 fi110 Tryz.f110 := ⟨by kernel_rfl, by decide +kernel, by kernel_rfl, by kernel_rfl, by kernel_rfl, by decide +kernel⟩
theorem ok111 : FnOK Tryz.prog cx 111 fi111 Tryz.f111 := ⟨by kernel_rfl, by decide +kernel, by kernel_rfl, by kernel_rfl, by kernel_rfl, by decide +kernel⟩
theorem ok112 : FnOK Tryz.prog cx 112 fi112 Tryz.f112 := ⟨by kernel_rfl, by decide +kernel, by kernel_rfl, by kernel_rfl, by kernel_rfl, by decide +kernel⟩
theorem ok113 : FnOK Tryz.prog cx 113 fi113 Tryz.f113 := ⟨by kernel_rfl, by decide +kernel, by kernel_rfl, by kernel_rfl, by kernel_rfl, by decide +kernel⟩
theorem ok114 : FnOK Tryz.prog cx 114 fi114 Tryz.f114 := ⟨by kernel_rfl, by decide +kernel, by kernel_rfl, by kernel_rfl, by kernel_rfl, by decide +kernel⟩
theorem ok115 : FnOK Tryz.prog cx 115 fi115 Tryz.f115 := ⟨by kernel_rfl, by decide +kernel, by kernel_rfl, by kernel_rfl, by kernel_rfl, by decide +kernel⟩
theorem ok116 : FnOK Tryz.prog cx 116 fi116 Tryz.f116 := ⟨by kernel_rfl, by decide +kernel, by kernel_rfl, by kernel_rfl, by kernel_rfl, by decide +kernel⟩
theorem ok117 : FnOK Tryz.prog cx 117 fi117 Tryz.f117 := ⟨by kernel_rfl, by decide +kernel, by kernel_rfl, by kernel_rfl, by kernel_rfl, by decide +kernel⟩
theorem ok118 : FnOK Tryz.prog cx 118 fi118 Tryz.f118 := ⟨by kernel_rfl, by decide +kernel, by kernel_rfl, by kernel_rfl, by kernel_rfl, by decide +kernel⟩
theorem ok119 : FnOK Tryz.prog cx 119 fi119 Tryz.f119 := ⟨by kernel_rfl, by decide +kernel, by kernel_rfl, by kernel_rfl, by kernel_rfl, by decide +kernel⟩
theorem ok120 : FnOK Tryz.prog cx 120 fi120 Tryz.f120 := ⟨by kernel_rfl, by decide +kernel, by kernel_rfl, by kernel_rfl, by kernel_rfl, by decide +kernel⟩
theorem ok121 : FnOK Tryz.prog cx 121 fi121 Tryz.f121 := ⟨by kernel_rfl, by decide +kernel, by kernel_rfl, by kernel_rfl, by kernel_rfl, by decide +kernel⟩
theorem ok122 : FnOK Tryz.prog cx 122 fi122 Tryz.f122 := ⟨by kernel_rfl, by decide +kernel, by kernel_rfl, by kernel_rfl, by kernel_rfl, by decide +kernel⟩
theorem ok123 : FnOK Tryz.prog cx 123 fi123 Tryz.f123 := ⟨by kernel_rfl, by decide +kernel, by kernel_rfl, by kernel_rfl, by kernel_rfl, by decide +kernel⟩
theorem ok124 : FnOK Tryz.prog cx 124 fi124 Tryz.f124 := ⟨by kernel_rfl, by decide +kernel, by kernel_rfl, by kernel_rfl, by kernel_rfl, by decide +kernel⟩
theorem ok125 : FnOK Tryz.prog cx 125 fi125 Tryz.f125 := ⟨by kernel_rfl, by decide +kernel, by kernel_rfl, by kernel_rfl, by kernel_rfl, by decide +kernel⟩
theorem ok126 : FnOK Tryz.prog cx 126 fi126 Tryz.f126 := ⟨by kernel_rfl, by decide +kernel, by kernel_rfl, by kernel_rfl, by kernel_rfl, by decide +kernel⟩
theorem ok127 : FnOK Tryz.prog cx 127 fi127 Tryz.f127 := ⟨by kernel_rfl, by decide +kernel, by kernel_rfl, by kernel_rfl, by kernel_rfl, by decide +kernel⟩
theorem ok128 : FnOK Tryz.prog cx 128 fi128 Tryz.f128 := ⟨by kernel_rfl, by decide +kernel, by kernel_rfl, by kernel_rfl, by kernel_rfl, by decide +kernel⟩
theorem ok129 : FnOK Tryz.prog cx 129 fi129 Tryz.f129 := ⟨by kernel_rfl, by decide +kernel, by kernel_rfl, by kernel_rfl, by kernel_rfl, by decide +kernel⟩
theorem ok130 : FnOK Tryz.prog cx 130 fi130 Tryz.f130 := ⟨by kernel_rfl, by decide +kernel, by kernel_rfl, by kernel_rfl, by kernel_rfl, by decide +kernel⟩
theorem ok131 : FnOK Tryz.prog cx 131 fi131 Tryz.f131 := ⟨by kernel_rfl, by decide +kernel, by kernel_rfl, by kernel_rfl, by kernel_rfl, by decide +kernel⟩
theorem ok132 : FnOK Tryz.prog cx 132 fi132 Tryz.f132 := ⟨by kernel_rfl, by decide +kernel, by kernel_rfl, by kernel_rfl, by kernel_rfl, by decide +kernel⟩
theorem ok133 : FnOK Tryz.prog cx 133 fi133 Tryz.f133 := ⟨by kernel_rfl, by decide +kernel, by kernel_rfl, by kernel_rfl, by kernel_rfl, by decide +kernel⟩
theorem ok134 : FnOK Tryz.prog cx 134 fi134 Tryz.f134 := ⟨by kernel_rfl, by decide +kernel, by kernel_rfl, by kernel_rfl, by kernel_rfl, by decide +kernel⟩
theorem ok135 : FnOK Tryz.prog cx 135 fi135 Tryz.f135 := ⟨by kernel_rfl, by decide +kernel, by kernel_rfl, by kernel_rfl, by kernel_rfl, by decide +kernel⟩
theorem ok136 : FnOK Tryz.prog cx 136 fi136 Tryz.f136 := ⟨by kernel_rfl, by decide +kernel, by kernel_rfl, by kernel_rfl, by kernel_rfl, by decide +kernel⟩
theorem ok137 : FnOK Tryz.prog cx 137 fi137 Tryz.f137 := ⟨by kernel_rfl, by decide +kernel, by kernel_rfl, by kernel_rfl, by kernel_rfl, by decide +kernel⟩
theorem ok138 : FnOK Tryz.prog cx 138 fi138 Tryz.f138 := ⟨by kernel_rfl, by decide +kernel, by kernel_rfl, by kernel_rfl, by kernel_rfl, by decide +kernel⟩
theorem ok139 : FnOK Tryz.prog cx 139 fi139 Tryz.f139 := ⟨by kernel_rfl, by decide +kernel, by kernel_rfl, by kernel_rfl, by kernel_rfl, by decide +kernel⟩
theorem ok140 : FnOK Tryz.prog cx 140 fi140 Tryz.f140 := ⟨by kernel_rfl, by decide +kernel, by kernel_rfl, by kernel_rfl, by kernel_rfl, by decide +kernel⟩
theorem ok141 : FnOK Tryz.prog cx 141 fi141 Tryz.f141 := ⟨by kernel_rfl, by decide +kernel, by kernel_rfl, by kernel_rfl, by kernel_rfl, by decide +kernel⟩
theorem ok142 : FnOK Tryz.prog cx 142 fi142 Tryz.f142 := ⟨by kernel_rfl, by decide +kernel, by kernel_rfl, by kernel_rfl, by kernel_rfl, by decide +kernel⟩
theorem ok143 : FnOK Tryz.prog cx 143 fi143 Tryz.f143 := ⟨by kernel_rfl, by decide +kernel, by kernel_rfl, by kernel_rfl, by kernel_rfl, by decide +kernel⟩
theorem ok144 : FnOK Tryz.prog cx 144 fi144 Tryz.f144 := ⟨by kernel_rfl, by decide +kernel, by kernel_rfl, by kernel_rfl, by kernel_rfl, by decide +kernel⟩
theorem ok145 : FnOK Tryz.prog cx 145 fi145 Tryz.f145 := ⟨by kernel_rfl, by decide +kernel, by kernel_rfl, by kernel_rfl, by kernel_rfl, by decide +kernel⟩
theorem ok146 : FnOK Tryz.prog cx 146 fi146 Tryz.f146 := ⟨by kernel_rfl, by decide +kernel, by kernel_rfl, by kernel_rfl, by kernel_rfl, by decide +kernel⟩
theorem ok147 : FnOK Tryz.prog cx 147 fi147 Tryz.f147 := ⟨by kernel_rfl, by decide +kernel, by kernel_rfl, by kernel_rfl, by kernel_rfl, by decide +kernel⟩
theorem ok148 : FnOK Tryz.prog cx 148 fi148 Tryz.f148 := ⟨by kernel_rfl, by decide +kernel, by kernel_rfl, by kernel_rfl, by kernel_rfl, by decide +kernel⟩
theorem ok149 : FnOK Tryz.prog cx 149 fi149 Tryz.f149 := ⟨by kernel_rfl, by decide +kernel, by kernel_rfl, by kernel_rfl, by kernel_rfl, by decide +kernel⟩
theorem ok150 : FnOK Tryz.prog cx 150 fi150 Tryz.f150 := ⟨by kernel_rfl, by decide +kernel, by kernel_rfl, by kernel_rfl, by kernel_rfl, by decide +kernel⟩
theorem ok151 : FnOK Tryz.prog cx 151 fi151 Tryz.f151 := ⟨by kernel_rfl, by decide +kernel, by kernel_rfl, by kernel_rfl, by kernel_rfl, by decide +kernel⟩
theorem ok152 : FnOK Tryz.prog cx 152 fi152 Tryz.f152 := ⟨by kernel_rfl, by decide +kernel, by kernel_rfl, by kernel_rfl, by kernel_rfl, by decide +kernel⟩
theorem ok153 : FnOK Tryz.prog cx 153 fi153 Tryz.f153 := ⟨by kernel_rfl, by decide +kernel, by kernel_rfl, by kernel_rfl, by kernel_rfl, by decide +kernel⟩
theorem ok154 : FnOK Tryz.prog cx 154 fi154 Tryz.f154 := ⟨by kernel_rfl, by decide +kernel, by kernel_rfl, by kernel_rfl, by kernel_rfl, by decide +kernel⟩
theorem ok155 : FnOK Tryz.prog cx 155 fi155 Tryz.f155 := ⟨by kernel_rfl, by decide +kernel, by kernel_rfl, by kernel_rfl, by kernel_rfl, by decide +kernel⟩
theorem ok156 : FnOK Tryz.prog cx 156 fi156 Tryz.f156 := ⟨by kernel_rfl, by decide +kernel, by kernel_rfl, by kernel_rfl, by kernel_rfl, by decide +kernel⟩
theorem ok157 : FnOK Tryz.prog cx 157 fi157 Tryz.f157 := ⟨by kernel_rfl, by decide +kernel, by kernel_rfl, by kernel_rfl, by kernel_rfl, by decide +kernel⟩
theorem ok158 : FnOK Tryz.prog cx 158 fi158 Tryz.f158 := ⟨by kernel_rfl, by decide +kernel, by kernel_rfl, by kernel_rfl, by kernel_rfl, by decide +kernel⟩
theorem ok159 : FnOK Tryz.prog cx 159 fi159 Tryz.f159 := ⟨by kernel_rfl, by decide +kernel, by kernel_rfl, by kernel_rfl, by kernel_rfl, by decide +kernel⟩
theorem ok160 : FnOK Tryz.prog cx 160 fi160 Tryz.f160 := ⟨by kernel_rfl, by decide +kernel, by kernel_rfl, by kernel_rfl, by kernel_rfl, by decide +kernel⟩
theorem ok161 : FnOK Tryz.prog cx 161 fi161 Tryz.f161 := ⟨by kernel_rfl, by decide +kernel, by kernel_rfl, by kernel_rfl, by kernel_rfl, by decide +kernel⟩
theorem ok162 : FnOK Tryz.prog cx 162 fi162 Tryz.f162 := ⟨by kernel_rfl, by decide +kernel, by kernel_rfl, by kernel_rfl, by kernel_rfl, by decide +kernel⟩
theorem ok163 : FnOK Tryz.prog cx 163 fi163 Tryz.f163 := ⟨by kernel_rfl, by decide +kernel, by kernel_rfl, by kernel_rfl, by kernel_rfl, by decide +kernel⟩
theorem ok164 : FnOK Tryz.prog cx 164 fi164 Tryz.f164 := ⟨by kernel_rfl, by decide +kernel, by kernel_rfl, by kernel_rfl, by kernel_rfl, by decide +kernel⟩
theorem ok165 : FnOK Tryz.prog cx 165 fi165 Tryz.f165 := ⟨by kernel_rfl, by decide +kernel, by kernel_rfl, by kernel_rfl, by kernel_rfl, by decide +kernel⟩
theorem ok166 : FnOK Tryz.prog cx 166 fi166 Tryz.f166 := ⟨by kernel_rfl, by decide +kernel, by kernel_rfl, by kernel_rfl, by kernel_rfl, by decide +kernel⟩
theorem ok167 : FnOK Tryz.prog cx 167 fi167 Tryz.f167 := ⟨by kernel_rfl, by decide +kernel, by kernel_rfl, by kernel_rfl, by kernel_rfl, by decide +kernel⟩
theorem ok168 : FnOK Tryz.prog cx 168 fi168 Tryz.f168 := ⟨by kernel_rfl, by decide +kernel, by kernel_rfl, by kernel_rfl, by kernel_rfl, by decide +kernel⟩
theorem ok169 : FnOK Tryz.prog cx 169 fi169 Tryz.f169 := ⟨by kernel_rfl, by decide +kernel, by kernel_rfl, by kernel_rfl, by kernel_rfl, by decide +kernel⟩
theorem ok170 : FnOK Tryz.prog cx 170 fi170 Tryz.f170 := ⟨by kernel_rfl, by decide +kernel, by kernel_rfl, by kernel_rfl, by kernel_rfl, by decide +kernel⟩
theorem ok171 : FnOK Tryz.prog cx 171 fi171 Tryz.f171 := ⟨by kernel_rfl, by decide +kernel, by kernel_rfl, by kernel_rfl, by kernel_rfl, by decide +kernel⟩
theorem ok172 : FnOK Tryz.prog cx 172 fi172 Tryz.f172 := ⟨by kernel_rfl, by decide +kernel, by kernel_rfl, by kernel_rfl, by kernel_rfl, by decide +kernel⟩
theorem ok173 : FnOK Tryz.prog cx 173 fi173 Tryz.f173 := ⟨by kernel_rfl, by decide +kernel, by kernel_rfl, by kernel_rfl, by kernel_rfl, by decide +kernel⟩
theorem ok174 : FnOK Tryz.prog cx 174 fi174 Tryz.f174 := ⟨by kernel_rfl, by decide +kernel, by kernel_rfl, by kernel_rfl, by kernel_rfl, by decide +kernel⟩
theorem ok175 : FnOK Tryz.prog cx 175 fi175 Tryz.f175 := ⟨by kernel_rfl, by decide +kernel, by kernel_rfl, by kernel_rfl, by kernel_rfl, by decide +kernel⟩
theorem ok176 : FnOK Tryz.prog cx 176 fi176 Tryz.f176 := ⟨by kernel_rfl, by decide +kernel, by kernel_rfl, by kernel_rfl, by kernel_rfl, by decide +kernel⟩
theorem ok177 : FnOK Tryz.prog cx 177 fi177 Tryz.f177 := ⟨by kernel_rfl, by decide +kernel, by kernel_rfl, by kernel_rfl, by kernel_rfl, by decide +kernel⟩
theorem ok178 : FnOK Tryz.prog cx 178 fi178 Tryz.f178 := ⟨by kernel_rfl, by decide +kernel, by kernel_rfl, by kernel_rfl, by kernel_rfl, by decide +kernel⟩
theorem ok180 : FnOK Tryz.prog cx 180 fi180 Tryz.f180 := ⟨by kernel_rfl, by decide +kernel, by kernel_rfl, by kernel_rfl, by kernel_rfl, by decide +kernel⟩
theorem ok181 : FnOK Tryz.prog cx 181 fi181 Tryz.f181 := ⟨by kernel_rfl, by decide +kernel, by kernel_rfl, by kernel_rfl, by kernel_rfl, by decide +kernel⟩
theorem ok182 : FnOK Tryz.prog cx 182 fi182 Tryz.f182 := ⟨by kernel_rfl, by decide +kernel, by kernel_rfl, by kernel_rfl, by kernel_rfl, by decide +kernel⟩
theorem ok183 : FnOK Tryz.prog cx 183 fi183 Tryz.f183 := ⟨by kernel_rfl, by decide +kernel, by kernel_rfl, by kernel_rfl, by kernel_rfl, by decide +kernel⟩
theorem ok184 : FnOK Tryz.prog cx 184 fi184 Tryz.f184 := ⟨by kernel_rfl, by decide +kernel, by kernel_rfl, by kernel_rfl, by kernel_rfl, by decide +kernel⟩
theorem ok185 : FnOK Tryz.prog cx 185 fi185 Tryz.f185 := ⟨by kernel_rfl, by decide +kernel, by kernel_rfl, by kernel_rfl, by kernel_rfl, by decide +kernel⟩
theorem ok186 : FnOK Tryz.prog cx 186 fi186 Tryz.f186 := ⟨by kernel_rfl, by decide +kernel, by kernel_rfl, by kernel_rfl, by kernel_rfl, by decide +kernel⟩
theorem ok187 : FnOK Tryz.prog cx 187 fi187 Tryz.f187 := ⟨by kernel_rfl, by decide +kernel, by kernel_rfl, by kernel_rfl, by kernel_rfl, by decide +kernel⟩
theorem ok188 : FnOK Tryz.prog cx 188 fi188 Tryz.f188 := ⟨by kernel_rfl, by decide +kernel, by kernel_rfl, by kernel_rfl, by kernel_rfl, by decide +kernel⟩
theorem ok189 : FnOK Tryz.prog cx 189 fi189 Tryz.f189 := ⟨by kernel_rfl, by decide +kernel, by kernel_rfl, by kernel_rfl, by kernel_rfl, by decide +kernel⟩
theorem ok190 : FnOK Tryz.prog cx 190 fi190 Tryz.f190 := ⟨by kernel_rfl, by decide +kernel, by kernel_rfl, by kernel_rfl, by kernel_rfl, by decide +kernel⟩
theorem ok191 : FnOK Tryz.prog cx 191 fi191 Tryz.f191 := ⟨by kernel_rfl, by decide +kernel, by kernel_rfl, by kernel_rfl, by kernel_rfl, by decide +kernel⟩
theorem ok192 : FnOK Tryz.prog cx 192 fi192 Tryz.f192 := ⟨by kernel_rfl, by decide +kernel, by kernel_rfl, by kernel_rfl, by kernel_rfl, by decide +kernel⟩
theorem ok193 : FnOK Tryz.prog cx 193 fi193 Tryz.f193 := ⟨by kernel_rfl, by decide +kernel, by kernel_rfl, by kernel_rfl, by kernel_rfl, by decide +kernel⟩
theorem ok194 : FnOK Tryz.prog cx 194 fi194 Tryz.f194 := ⟨by kernel_rfl, by decide +kernel, by kernel_rfl, by kernel_rfl, by kernel_rfl, by decide +kernel⟩
theorem ok195 : FnOK Tryz.prog cx 195 fi195 Tryz.f195 := ⟨by kernel_rfl, by decide +kernel, by kernel_rfl, by kernel_rfl, by kernel_rfl, by decide +kernel⟩
theorem ok196 : FnOK Tryz.prog cx 196 fi196 Tryz.f196 := ⟨by kernel_rfl, by decide +kernel, by kernel_rfl, by kernel_rfl, by kernel_rfl, by decide +kernel⟩
theorem ok197 : FnOK Tryz.prog cx 197 fi197 Tryz.f197 := ⟨by kernel_rfl, by decide +kernel, by kernel_rfl, by kernel_rfl, by kernel_rfl, by decide +kernel⟩
theorem fnsOK : FnsOK Tryz.prog cx := fnsOK_of (⟨none_ok _, ⟨none_ok _, ⟨some_ok ok3, ⟨some_ok ok7, ⟨some_ok ok15, ⟨some_ok ok31, ⟨some_ok ok63, ⟨some_ok ok127, trivial, trivial⟩, ⟨some_ok ok191, trivial, trivial⟩⟩, ⟨some_ok ok95, ⟨some_ok ok159, trivial, trivial⟩, trivial⟩⟩, ⟨some_ok ok47, ⟨some_ok ok79, ⟨some_ok ok143, trivial, trivial⟩, ⟨none_ok _, trivial, trivial⟩⟩, ⟨some_ok ok111, ⟨some_ok ok175, trivial, trivial⟩, trivial⟩⟩⟩, ⟨some_ok ok23, ⟨some_ok ok39, ⟨some_ok ok71, ⟨some_ok ok135, trivial, trivial⟩, ⟨none_ok _, trivial, trivial⟩⟩, ⟨some_ok ok103, ⟨some_ok ok167, trivial, trivial⟩, trivial⟩⟩, ⟨some_ok ok55, ⟨some_ok ok87, ⟨some_ok ok151, trivial, trivial⟩, trivial⟩, ⟨some_ok ok119, ⟨some_ok ok183, trivial, trivial⟩, trivial⟩⟩⟩⟩, ⟨some_ok ok11, ⟨some_ok ok19, ⟨some_ok ok35, ⟨some_ok ok67, ⟨some_ok ok131, trivial, trivial⟩, ⟨some_ok ok195, trivial, trivial⟩⟩, ⟨some_ok ok99, ⟨some_ok ok163, trivial, trivial⟩, trivial⟩⟩, ⟨some_ok ok51, ⟨some_ok ok83, ⟨some_ok ok147, trivial, trivial⟩, ⟨none_ok _, trivial, trivial⟩⟩, ⟨some_ok ok115, ⟨none_ok _, trivial, trivial⟩, trivial⟩⟩⟩, ⟨some_ok ok27, ⟨some_ok ok43, ⟨some_ok ok75, ⟨some_ok ok139, trivial, trivial⟩, ⟨none_ok _, trivial, trivial⟩⟩, ⟨some_ok ok107, ⟨some_ok ok171, trivial, trivial⟩, trivial⟩⟩, ⟨some_ok ok59, ⟨some_ok ok91, ⟨some_ok ok155, trivial, trivial⟩, trivial⟩, ⟨some_ok ok123, ⟨some_ok ok187, trivial, trivial⟩, trivial⟩⟩⟩⟩⟩, ⟨some_ok ok5, ⟨some_ok ok9, ⟨some_ok ok17, ⟨some_ok ok33, ⟨some_ok ok65, ⟨some_ok ok129, trivial, trivial⟩, ⟨some_ok ok193, trivial, trivial⟩⟩, ⟨some_ok ok97, ⟨some_ok ok161, trivial, trivial⟩, trivial⟩⟩, ⟨some_ok ok49, ⟨some_ok ok81, ⟨some_ok ok145, trivial, trivial⟩, ⟨none_ok _, trivial, trivial⟩⟩, ⟨some_ok ok113, ⟨some_ok ok177, trivial, trivial⟩, trivial⟩⟩⟩, ⟨some_ok ok25, ⟨some_ok ok41, ⟨some_ok ok73, ⟨some_ok ok137, trivial, trivial⟩, ⟨none_ok _, trivial, trivial⟩⟩, ⟨some_ok ok105, ⟨some_ok ok169, trivial, trivial⟩, trivial⟩⟩, ⟨some_ok ok57, ⟨some_ok ok89, ⟨some_ok ok153, trivial, trivial⟩, trivial⟩, ⟨some_ok ok121, ⟨some_ok ok185, trivial, trivial⟩, trivial⟩⟩⟩⟩, ⟨some_ok ok13, ⟨some_ok ok21, ⟨some_ok ok37, ⟨some_ok ok69, ⟨some_ok ok133, trivial, trivial⟩, ⟨some_ok ok197, trivial, trivial⟩⟩, ⟨some_ok ok101, ⟨some_ok ok165, trivial, trivial⟩, trivial⟩⟩, ⟨some_ok ok53, ⟨some_ok ok85, ⟨some_ok ok149, trivial, trivial⟩, ⟨none_ok _, trivial, trivial⟩⟩, ⟨some_ok ok117, ⟨some_ok ok181, trivial, trivial⟩, trivial⟩⟩⟩, ⟨some_ok ok29, ⟨some_ok ok45, ⟨some_ok ok77, ⟨some_ok ok141, trivial, trivial⟩, ⟨none_ok _, trivial, trivial⟩⟩, ⟨some_ok ok109, ⟨some_ok ok173, trivial, trivial⟩, trivial⟩⟩, ⟨some_ok ok61, ⟨some_ok ok93, ⟨some_ok ok157, trivial, trivial⟩, trivial⟩, ⟨some_ok ok125, ⟨some_ok ok189, trivial, trivial⟩, trivial⟩⟩⟩⟩⟩⟩, ⟨none_ok _, ⟨some_ok ok4, ⟨some_ok ok8, ⟨some_ok ok16, ⟨some_ok ok32, ⟨some_ok ok64, ⟨some_ok ok128, trivial, trivial⟩, ⟨some_ok ok192, trivial, trivial⟩⟩, ⟨some_ok ok96, ⟨some_ok ok160, trivial, trivial⟩, trivial⟩⟩, ⟨some_ok ok48, ⟨some_ok ok80, ⟨some_ok ok144, trivial, trivial⟩, ⟨none_ok _, trivial, trivial⟩⟩, ⟨some_ok ok112, ⟨some_ok ok176, trivial, trivial⟩, trivial⟩⟩⟩, ⟨some_ok ok24, ⟨some_ok ok40, ⟨some_ok ok72, ⟨some_ok ok136, trivial, trivial⟩, ⟨none_ok _, trivial, trivial⟩⟩, ⟨some_ok ok104, ⟨some_ok ok168, trivial, trivial⟩, trivial⟩⟩, ⟨some_ok ok56, ⟨some_ok ok88, ⟨some_ok ok152, trivial, trivial⟩, trivial⟩, ⟨some_ok ok120, ⟨some_ok ok184, trivial, trivial⟩, trivial⟩⟩⟩⟩, ⟨some_ok ok12, ⟨some_ok ok20, ⟨some_ok ok36, ⟨some_ok ok68, ⟨some_ok ok132, trivial, trivial⟩, ⟨some_ok ok196, trivial, trivial⟩⟩, ⟨some_ok ok100, ⟨some_ok ok164, trivial, trivial⟩, trivial⟩⟩, ⟨some_ok ok52, ⟨some_ok ok84, ⟨some_ok ok148, trivial, trivial⟩, ⟨none_ok _, trivial, trivial⟩⟩, ⟨some_ok ok116, ⟨some_ok ok180, trivial, trivial⟩, trivial⟩⟩⟩, ⟨some_ok ok28, ⟨some_ok ok44, ⟨some_ok ok76, ⟨some_ok ok140, trivial, trivial⟩, ⟨none_ok _, trivial, trivial⟩⟩, ⟨some_ok ok108, ⟨some_ok ok172, trivial, trivial⟩, trivial⟩⟩, ⟨some_ok ok60, ⟨some_ok ok92, ⟨some_ok ok156, trivial, trivial⟩, trivial⟩, ⟨some_ok ok124, ⟨some_ok ok188, trivial, trivial⟩, trivial⟩⟩⟩⟩⟩, ⟨some_ok ok6, ⟨some_ok ok10, ⟨some_ok ok18, ⟨some_ok ok34, ⟨some_ok ok66, ⟨some_ok ok130, trivial, trivial⟩, ⟨some_ok ok194, trivial, trivial⟩⟩, ⟨some_ok ok98, ⟨some_ok ok162, trivial, trivial⟩, trivial⟩⟩, ⟨some_ok ok50, ⟨some_ok ok82, ⟨some_ok ok146, trivial, trivial⟩, ⟨none_ok _, trivial, trivial⟩⟩, ⟨some_ok ok114, ⟨some_ok ok178, trivial, trivial⟩, trivial⟩⟩⟩, ⟨some_ok ok26, ⟨some_ok ok42, ⟨some_ok ok74, ⟨some_ok ok138, trivial, trivial⟩, ⟨none_ok _, trivial, trivial⟩⟩, ⟨some_ok ok106, ⟨some_ok ok170, trivial, trivial⟩, trivial⟩⟩, ⟨some_ok ok58, ⟨some_ok ok90, ⟨some_ok ok154, trivial, trivial⟩, trivial⟩, ⟨some_ok ok122, ⟨some_ok ok186, trivial, trivial⟩, trivial⟩⟩⟩⟩, ⟨some_ok ok14, ⟨some_ok ok22, ⟨some_ok ok38, ⟨some_ok ok70, ⟨some_ok ok134, trivial, trivial⟩, ⟨none_ok _, trivial, trivial⟩⟩, ⟨some_ok ok102, ⟨some_ok ok166, trivial, trivial⟩, trivial⟩⟩, ⟨some_ok ok54, ⟨some_ok ok86, ⟨some_ok ok150, trivial, trivial⟩, trivial⟩, ⟨some_ok ok118, ⟨some_ok ok182, trivial, trivial⟩, trivial⟩⟩⟩, ⟨some_ok ok30, ⟨some_ok ok46, ⟨some_ok ok78, ⟨some_ok ok142, trivial, trivial⟩, ⟨none_ok _, trivial, trivial⟩⟩, ⟨some_ok ok110, ⟨some_ok ok174, trivial, trivial⟩, trivial⟩⟩, ⟨some_ok ok62, ⟨some_ok ok94, ⟨some_ok ok158, trivial, trivial⟩, trivial⟩, ⟨some_ok ok126, ⟨some_ok ok190, trivial, trivial⟩, trivial⟩⟩⟩⟩⟩⟩⟩)
end Go.Eva.S3

/- Eva, part 47: what arguments of the program's plain types are. -/
namespace Go.Eva

section
variable {cx : Cx} {t m : Nat} {ts : List T} {i : TI}

theorem conf_int (hti : cx.ti.get t = some i) (hk : i.ty = .int .i64) (h : Conf cx m t ts) : ∃ n, ts = [ti n] ∧ i64 n := by
  cases m with
  | zero => exact h.elim
  | succ m =>
    simp only [Conf, hti, hk] at h
    obtain ⟨n, rfl, hw⟩ := h
    refine ⟨n, rfl, ?_⟩
    simp [Lit.wf, IntKind.min, IntKind.max, IntKind.signed, IntKind.bits] at hw
    exact ⟨by omega, by omega⟩
theorem conf_u64 (hti : cx.ti.get t = some i) (hk : i.ty = .int .u64) (h : Conf cx m t ts) : ∃ n, ts = [.int .u64 n] ∧ 0 ≤ n ∧ n ≤ 18446744073709551615 := by
  cases m with
  | zero => exact h.elim
  | succ m =>
    simp only [Conf, hti, hk] at h
    obtain ⟨n, rfl, hw⟩ := h
    refine ⟨n, rfl, ?_⟩
    simp [Lit.wf, IntKind.min, IntKind.max, IntKind.signed, IntKind.bits] at hw
    exact ⟨by omega, by omega⟩
theorem conf_bool (hti : cx.ti.get t = some i) (hk : i.ty = .bool) (h : Conf cx m t ts) : ∃ b, ts = [.bool b] := by
  cases m with
  | zero => exact h.elim
  | succ m => simpa only [Conf, hti, hk] using h
theorem conf_struct {fs : List (Nat × Nat)} (hti : cx.ti.get t = some i) (hk : i.ty = .struct fs) (h : Conf cx (m + 1) t ts) : ts.length = i.size ∧ ∀ p ∈ fs, Conf cx m p.2 ((ts.drop p.1).take (sizeOf cx p.2)) := by
  simpa only [Conf, hti, hk] using h
theorem conf_slice {e : Nat} (hti : cx.ti.get t = some i) (hk : i.ty = .slice e) (h : Conf cx (m + 1) t ts) :
    ∃ xs, ts = [.sl (sizeOf cx e) xs] ∧ xs.length ≤ maxLen ∧ xs.length * bytesOf cx e ≤ reachBytes ∧ ∀ x ∈ xs, x ≠ .any ∧ (isStruct cx e = true → ∃ l, x = .agg l) ∧ (isStruct cx e = false → x.cells = [x]) ∧ Conf cx m e x.cells := by
  simpa only [Conf, hti, hk] using h

/-- A field that is a whole number. -/
theorem conf_at {j k : Nat} {fs : List (Nat × Nat)} (hi : cx.ti.get k = some i) (hk : i.ty = .int .i64) (hs : sizeOf cx k = 1) (h : ∀ p ∈ fs, Conf cx m p.2 ((ts.drop p.1).take (sizeOf cx p.2))) (hp : (j, k) ∈ fs) : ∃ n, ts[j]? = some (ti n) ∧ i64 n := by
  have := h _ hp
  simp only [hs] at this
  obtain ⟨n, h1, h2⟩ := conf_int hi hk this
  refine ⟨n, ?_, h2⟩
  have h3 := congrArg (fun l => l[0]?) h1
  simpa [List.getElem?_take, List.getElem?_drop] using h3

theorem list_of {α : Type} {f : α → T} {P : α → Prop} : ∀ {xs : List T}, (∀ x ∈ xs, ∃ e, x = f e ∧ P e) → ∃ l : List α, xs = l.map f ∧ ∀ e ∈ l, P e
  | [], _ => ⟨[], rfl, by simp⟩
  | x :: xs, h => by
    obtain ⟨e, rfl, he⟩ := h x (List.mem_cons_self ..)
    obtain ⟨l, rfl, hl⟩ := list_of fun y hy => h y (List.mem_cons_of_mem _ hy)
    exact ⟨e :: l, rfl, fun y hy => by
      rcases List.mem_cons.1 hy with rfl | hy
      · exact he
      · exact hl y hy⟩

def Entity.ok (e : Entity) : Prop := i64 e.id ∧ i64 e.kind ∧ i64 e.x ∧ i64 e.y ∧ i64 e.vx ∧ i64 e.vy ∧ i64 e.health ∧ i64 e.age ∧ i64 e.owner
def Input.ok (e : Input) : Prop := i64 e.dx ∧ i64 e.dy
def Cross.ok (c : Cross) : Prop := i64 c.kind ∧ i64 c.frm ∧ i64 c.to ∧ i64 c.frame ∧ c.ent.ok ∧ i64 c.x ∧ i64 c.y

theorem nine {ts : List T} (h : ts.length = 9) {a0 a1 a2 a3 a4 a5 a6 a7 a8 : T} (h0 : ts[0]? = some a0) (h1 : ts[1]? = some a1) (h2 : ts[2]? = some a2) (h3 : ts[3]? = some a3) (h4 : ts[4]? = some a4)
    (h5 : ts[5]? = some a5) (h6 : ts[6]? = some a6) (h7 : ts[7]? = some a7) (h8 : ts[8]? = some a8) : ts = [a0, a1, a2, a3, a4, a5, a6, a7, a8] := by
  match ts, h with
  | [_, _, _, _, _, _, _, _, _], _ => simp_all

/-- An entity's cells. -/
theorem conf_entity {k : Nat} {j : TI} (hk : cx.ti.get k = some j) (hkt : j.ty = .int .i64) (hs : sizeOf cx k = 1) (hti : cx.ti.get t = some i) (hty : i.ty = .struct [(0, k), (1, k), (2, k), (3, k), (4, k), (5, k), (6, k), (7, k), (8, k)]) (hsz : i.size = 9)
    (h : Conf cx (m + 1) t ts) : ∃ e : Entity, ts = e.enc.cells ∧ e.ok := by
  obtain ⟨h1, h2⟩ := conf_struct hti hty h
  rw [hsz] at h1
  obtain ⟨n0, a0, b0⟩ := conf_at (j := 0) hk hkt hs h2 (by simp)
  obtain ⟨n1, a1, b1⟩ := conf_at (j := 1) hk hkt hs h2 (by simp)
  obtain ⟨n2, a2, b2⟩ := conf_at (j := 2) hk hkt hs h2 (by simp)
  obtain ⟨n3, a3, b3⟩ := conf_at (j := 3) hk hkt hs h2 (by simp)
  obtain ⟨n4, a4, b4⟩ := conf_at (j := 4) hk hkt hs h2 (by simp)
  obtain ⟨n5, a5, b5⟩ := conf_at (j := 5) hk hkt hs h2 (by simp)
  obtain ⟨n6, a6, b6⟩ := conf_at (j := 6) hk hkt hs h2 (by simp)
  obtain ⟨n7, a7, b7⟩ := conf_at (j := 7) hk hkt hs h2 (by simp)
  obtain ⟨n8, a8, b8⟩ := conf_at (j := 8) hk hkt hs h2 (by simp)
  exact ⟨⟨n0, n1, n2, n3, n4, n5, n6, n7, n8⟩, nine h1 a0 a1 a2 a3 a4 a5 a6 a7 a8, b0, b1, b2, b3, b4, b5, b6, b7, b8⟩

theorem conf_config {k u : Nat} {j v : TI} (hk : cx.ti.get k = some j) (hkt : j.ty = .int .i64) (hs : sizeOf cx k = 1) (hu : cx.ti.get u = some v) (hut : v.ty = .int .u64) (hus : sizeOf cx u = 1) (hti : cx.ti.get t = some i)
    (hty : i.ty = .struct [(0, k), (1, k), (2, k), (3, k), (4, u)]) (hsz : i.size = 5) (h : Conf cx (m + 1) t ts) : ∃ c : Config, ts = c.enc.cells ∧ c.ok := by
  obtain ⟨h1, h2⟩ := conf_struct hti hty h
  rw [hsz] at h1
  obtain ⟨n0, a0, b0⟩ := conf_at (j := 0) hk hkt hs h2 (by simp)
  obtain ⟨n1, a1, b1⟩ := conf_at (j := 1) hk hkt hs h2 (by simp)
  obtain ⟨n2, a2, b2⟩ := conf_at (j := 2) hk hkt hs h2 (by simp)
  obtain ⟨n3, a3, b3⟩ := conf_at (j := 3) hk hkt hs h2 (by simp)
  have h4 := h2 (4, u) (by simp)
  simp only [hus] at h4
  obtain ⟨n4, a4, b4⟩ := conf_u64 hu hut h4
  refine ⟨⟨n0, n1, n2, n3, n4⟩, ?_, b0, b1, b2, b3, b4⟩
  match ts, h1 with
  | [_, _, _, _, _], _ => simp_all [Config.enc, T.cells]

theorem conf_input {k u : Nat} {j v : TI} (hk : cx.ti.get k = some j) (hkt : j.ty = .int .i64) (hs : sizeOf cx k = 1) (hu : cx.ti.get u = some v) (hut : v.ty = .bool) (hus : sizeOf cx u = 1) (hti : cx.ti.get t = some i)
    (hty : i.ty = .struct [(0, k), (1, k), (2, u)]) (hsz : i.size = 3) (h : Conf cx (m + 1) t ts) : ∃ c : Input, ts = c.enc.cells ∧ c.ok := by
  obtain ⟨h1, h2⟩ := conf_struct hti hty h
  rw [hsz] at h1
  obtain ⟨n0, a0, b0⟩ := conf_at (j := 0) hk hkt hs h2 (by simp)
  obtain ⟨n1, a1, b1⟩ := conf_at (j := 1) hk hkt hs h2 (by simp)
  have h4 := h2 (2, u) (by simp)
  simp only [hus] at h4
  obtain ⟨n2, a2⟩ := conf_bool hu hut h4
  refine ⟨⟨n0, n1, n2⟩, ?_, b0, b1⟩
  match ts, h1 with
  | [_, _, _], _ => simp_all [Input.enc, T.cells]
theorem conf_cross {k u : Nat} {j v : TI} (hk : cx.ti.get k = some j) (hkt : j.ty = .int .i64) (hs : sizeOf cx k = 1) (hu : cx.ti.get u = some v) (hut : v.ty = .struct [(0, k), (1, k), (2, k), (3, k), (4, k), (5, k), (6, k), (7, k), (8, k)]) (hus : sizeOf cx u = 9) (hti : cx.ti.get t = some i)
    (hty : i.ty = .struct [(0, k), (1, k), (2, k), (3, k), (4, u), (13, k), (14, k)]) (hsz : i.size = 15) (h : Conf cx (m + 2) t ts) : ∃ c : Cross, ts = c.enc.cells ∧ c.ok := by
  obtain ⟨h1, h2⟩ := conf_struct hti hty h
  rw [hsz] at h1
  obtain ⟨n0, a0, b0⟩ := conf_at (j := 0) hk hkt hs h2 (by simp)
  obtain ⟨n1, a1, b1⟩ := conf_at (j := 1) hk hkt hs h2 (by simp)
  obtain ⟨n2, a2, b2⟩ := conf_at (j := 2) hk hkt hs h2 (by simp)
  obtain ⟨n3, a3, b3⟩ := conf_at (j := 3) hk hkt hs h2 (by simp)
  obtain ⟨n5, a5, b5⟩ := conf_at (j := 13) hk hkt hs h2 (by simp)
  obtain ⟨n6, a6, b6⟩ := conf_at (j := 14) hk hkt hs h2 (by simp)
  have h4 := h2 (4, u) (by simp)
  simp only [hus] at h4
  have hvs : v.size = 9 := by
    have := hus
    unfold sizeOf at this
    rw [hu] at this
    exact this
  obtain ⟨e, a4, b4⟩ := conf_entity hk hkt hs hu hut hvs h4
  refine ⟨⟨n0, n1, n2, n3, e, n5, n6⟩, ?_, b0, b1, b2, b3, b4, b5, b6⟩
  match ts, h1 with
  | [_, _, _, _, _, _, _, _, _, _, _, _, _, _, _], _ =>
    simp only [Entity.enc, T.cells, List.drop_succ_cons, List.drop_zero, List.take_succ_cons, List.take_zero, List.cons.injEq, and_true] at a4
    simp_all [Cross.enc, T.cells]

theorem not_struct (hti : cx.ti.get t = some i) (h : ∀ fs, i.ty ≠ .struct fs) : isStruct cx t = false := by
  unfold isStruct
  rw [hti]
  cases i with
  | mk ty s b q => cases ty <;> simp_all
theorem is_struct {fs : List (Nat × Nat)} (hti : cx.ti.get t = some i) (h : i.ty = .struct fs) : isStruct cx t = true := by
  unfold isStruct
  rw [hti]
  cases i with
  | mk ty s b q => simp only at h; subst h; rfl

/-- Arguments. -/
theorem arg_int (hti : cx.ti.get t = some i) (hk : i.ty = .int .i64) {x : T} (h : Arg cx m t x) : ∃ n, x = ti n ∧ i64 n := by
  obtain ⟨h1, h2, h3, h4⟩ := h
  obtain ⟨n, h5, h6⟩ := conf_int hti hk h4
  rw [h3 (not_struct hti (by rw [hk]; simp))] at h5
  exact ⟨n, by simpa using h5, h6⟩
/-- A struct, by its cells. -/
theorem arg_of {α : Type} {f : α → T} {P : α → Prop} {fs : List (Nat × Nat)} (hti : cx.ti.get t = some i) (hk : i.ty = .struct fs) (hf : ∀ e, ∃ l, f e = .agg l) (hc : ∀ {ts}, Conf cx m t ts → ∃ e, ts = (f e).cells ∧ P e) {x : T} (h : Arg cx m t x) : ∃ e, x = f e ∧ P e := by
  obtain ⟨h1, h2, h3, h4⟩ := h
  obtain ⟨l, rfl⟩ := h2 (is_struct hti hk)
  obtain ⟨e, h5, h6⟩ := hc h4
  obtain ⟨l', hl⟩ := hf e
  rw [hl] at h5
  simp only [T.cells] at h5
  exact ⟨e, by rw [hl, h5], h6⟩
/-- A slice, by its members. -/
theorem arg_slice {α : Type} {f : α → T} {P : α → Prop} {e s : Nat} (hti : cx.ti.get t = some i) (hk : i.ty = .slice e) (hs : sizeOf cx e = s) (hc : ∀ {x}, Arg cx m e x → ∃ a, x = f a ∧ P a) {x : T} (h : Arg cx (m + 1) t x) :
    ∃ l : List α, x = .sl s (l.map f) ∧ (∀ a ∈ l, P a) ∧ l.length ≤ maxLen ∧ l.length * bytesOf cx e ≤ reachBytes := by
  obtain ⟨h1, h2, h3, h4⟩ := h
  obtain ⟨xs, h5, h6, h7, h8⟩ := conf_slice hti hk h4
  rw [h3 (not_struct hti (by rw [hk]; simp))] at h5
  obtain ⟨l, rfl, hl⟩ := list_of (f := f) (P := P) fun x hx => hc (h8 x hx)
  refine ⟨l, ?_, hl, by simpa using h6, by simpa using h7⟩
  rw [← hs]
  simpa using h5
end
end Go.Eva
