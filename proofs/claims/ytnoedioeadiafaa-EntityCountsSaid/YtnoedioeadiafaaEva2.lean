/- A reading of the program, proved sound against the model, and what its functions answer by it: part 2. -/
import Derived.Test.YtnoedioeadiafaaEva1
set_option linter.unusedSimpArgs false
set_option linter.unusedVariables false
/- Functions of the lowest layers (fixed, grid): what each answers. -/
namespace Go.Eva.S1
theorem f_grid_within (v lo hi : Int) : Fn cx 81 [ti v, ti lo, ti hi] (.bool (within v lo hi)) := by
  refine Wp.ev ?_
  refine brp (p := v ≥ lo) (by kernel_rfl) (fun h1 => ?_) (fun h1 => ?_)
  · refine gs (l := [.tt, .tt, .tt]) (by kernel_rfl) trivial ?_
    refine rt (a := Res.mk Ex.ret [vb (decide (v ≤ hi))] []) (by kernel_rfl) ?_
    (simp_all [within]; (try (rw [Bool.eq_iff_iff]; simp only [decide_eq_true_eq, Bool.and_eq_true]; omega)); (try (intros; omega)))
  · refine gs (l := [.ff, .ff, .ff]) (by kernel_rfl) trivial ?_
    refine rt (a := Res.mk Ex.ret [vb false] []) (by kernel_rfl) ?_
    (simp_all [within]; (try (rw [Bool.eq_iff_iff]; simp only [decide_eq_true_eq, Bool.and_eq_true]; omega)); (try (intros; omega)))
theorem f_entity_within (v lo hi : Int) : Fn cx 60 [ti v, ti lo, ti hi] (.bool (within v lo hi)) := by
  refine Wp.ev ?_
  refine brp (p := v ≥ lo) (by kernel_rfl) (fun h1 => ?_) (fun h1 => ?_)
  · refine gs (l := [.tt, .tt, .tt]) (by kernel_rfl) trivial ?_
    refine rt (a := Res.mk Ex.ret [vb (decide (v ≤ hi))] []) (by kernel_rfl) ?_
    (simp_all [within]; (try (rw [Bool.eq_iff_iff]; simp only [decide_eq_true_eq, Bool.and_eq_true]; omega)); (try (intros; omega)))
  · refine gs (l := [.ff, .ff, .ff]) (by kernel_rfl) trivial ?_
    refine rt (a := Res.mk Ex.ret [vb false] []) (by kernel_rfl) ?_
    (simp_all [within]; (try (rw [Bool.eq_iff_iff]; simp only [decide_eq_true_eq, Bool.and_eq_true]; omega)); (try (intros; omega)))
theorem f_joustref05_within (v lo hi : Int) : Fn cx 63 [ti v, ti lo, ti hi] (.bool (within v lo hi)) := by
  refine Wp.ev ?_
  refine brp (p := v ≥ lo) (by kernel_rfl) (fun h1 => ?_) (fun h1 => ?_)
  · refine gs (l := [.tt, .tt, .tt]) (by kernel_rfl) trivial ?_
    refine rt (a := Res.mk Ex.ret [vb (decide (v ≤ hi))] []) (by kernel_rfl) ?_
    (simp_all [within]; (try (rw [Bool.eq_iff_iff]; simp only [decide_eq_true_eq, Bool.and_eq_true]; omega)); (try (intros; omega)))
  · refine gs (l := [.ff, .ff, .ff]) (by kernel_rfl) trivial ?_
    refine rt (a := Res.mk Ex.ret [vb false] []) (by kernel_rfl) ?_
    (simp_all [within]; (try (rw [Bool.eq_iff_iff]; simp only [decide_eq_true_eq, Bool.and_eq_true]; omega)); (try (intros; omega)))
theorem f_grid_right (c : Config) : Fn cx 58 [c.enc] (.bool c.right) := by
  refine Wp.ev ?_
  refine gs (l := [.a (Task.call 81 [vi c.cols, vi 1, vi 4] []) (Res.mk Ex.ret [vb (within c.cols 1 4)] [])]) (by kernel_rfl) ⟨o_a (f_grid_within _ _ _), trivial⟩ ?_
  refine br (b := within c.cols 1 4) (by kernel_rfl) (fun h1 => ?_) (fun h1 => ?_)
  · refine gs (l := [.tt, .tt, .a (Task.call 81 [vi c.rows, vi 1, vi 4] []) (Res.mk Ex.ret [vb (within c.rows 1 4)] []), .tt]) (by kernel_rfl) ⟨o_a (f_grid_within _ _ _), trivial⟩ ?_
    refine br (b := within c.rows 1 4) (by kernel_rfl) (fun h2 => ?_) (fun h2 => ?_)
    · refine gs (l := [.tt, .tt, .a (Task.call 81 [vi c.players, vi 1, vi 6] []) (Res.mk Ex.ret [vb (within c.players 1 6)] []), .tt]) (by kernel_rfl) ⟨o_a (f_grid_within _ _ _), trivial⟩ ?_
      refine br (b := within c.players 1 6) (by kernel_rfl) (fun h3 => ?_) (fun h3 => ?_)
      · refine gs (l := [.tt, .tt, .a (Task.call 81 [vi c.window, vi 1, vi 16] []) (Res.mk Ex.ret [vb (within c.window 1 16)] []), .tt]) (by kernel_rfl) ⟨o_a (f_grid_within _ _ _), trivial⟩ ?_
        refine rt (a := Res.mk Ex.ret [vb (within c.window 1 16)] []) (by kernel_rfl) ?_
        simp_all [Config.right]
      · refine gs (l := [.ff, .ff, .ff]) (by kernel_rfl) trivial ?_
        refine rt (a := Res.mk Ex.ret [vb false] []) (by kernel_rfl) ?_
        simp_all [Config.right]
    · refine gs (l := [.ff, .ff, .ff, .ff, .ff, .ff, .ff]) (by kernel_rfl) trivial ?_
      refine rt (a := Res.mk Ex.ret [vb false] []) (by kernel_rfl) ?_
      simp_all [Config.right]
  · refine gs (l := [.ff, .ff, .ff, .ff, .ff, .ff, .ff, .ff, .ff, .ff, .ff]) (by kernel_rfl) trivial ?_
    refine rt (a := Res.mk Ex.ret [vb false] []) (by kernel_rfl) ?_
    simp_all [Config.right]
theorem f_grid_New (c : Config) : Is cx (.call 21 [.t c.enc] []) ⟨.ret, [.t c.grid.enc, vi c.err], []⟩ := by
  refine Wp.ev ?_
  refine gs (l := [.a (Task.call 58 [V.t (Config.enc c)] []) (Res.mk Ex.ret [vb (Config.right c)] [])]) (by kernel_rfl) ⟨o_a (f_grid_right _), trivial⟩ ?_
  refine brnot (b := Config.right c) (by kernel_rfl) (fun h1 => ?_) (fun h1 => ?_)
  · refine rt (a := Res.mk Ex.ret [V.t (T.agg [ti 0, ti 0, ti 0, ti 0, T.int IntKind.u64 0]), vi 10] []) (by kernel_rfl) ?_
    simp_all [Config.grid, Config.err, Config.zero, Config.enc]
  · refine rt (a := Res.mk Ex.ret [V.t (Config.enc c), vi 0] []) (by kernel_rfl) ?_
    simp_all [Config.grid, Config.err, Config.zero, Config.enc]
theorem f_grid_size_t (c : Config) (h : c.right = true) : Is cx (.call 90 [.t c.enc] []) ⟨.ret, [vi c.cols, vi c.rows], []⟩ := by
  refine Wp.ev ?_
  refine gs (l := [.a (Task.call 58 [V.t (Config.enc c)] []) (Res.mk Ex.ret [vb (Config.right c)] []), .b (!Config.right c) false]) (by kernel_rfl) ⟨o_a (f_grid_right _), f_brnot (by assumption), trivial⟩ ?_
  refine rt (a := Res.mk Ex.ret [vi c.cols, vi c.rows] []) (by kernel_rfl) ?_
  rfl
theorem f_grid_size_f (c : Config) (h : c.right = false) : Is cx (.call 90 [.t c.enc] []) ⟨.ret, [vi 0, vi 0], []⟩ := by
  refine Wp.ev ?_
  refine gs (l := [.a (Task.call 58 [V.t (Config.enc c)] []) (Res.mk Ex.ret [vb (Config.right c)] []), .b (!Config.right c) true]) (by kernel_rfl) ⟨o_a (f_grid_right _), t_brnot (by assumption), trivial⟩ ?_
  refine rt (a := Res.mk Ex.ret [vi 0, vi 0] []) (by kernel_rfl) ?_
  rfl
theorem f_fixed_Clamp (v lo hi : Int) : Fn cx 91 [ti v, ti lo, ti hi] (ti (clamp v lo hi)) := by
  refine Wp.ev ?_
  refine brp (p := v < lo) (by kernel_rfl) (fun h1 => ?_) (fun h1 => ?_)
  · refine rt (a := Res.mk Ex.ret [vi lo] []) (by kernel_rfl) ?_
    (simp_all [clamp]; (try (rw [Bool.eq_iff_iff]; simp only [decide_eq_true_eq, Bool.and_eq_true]; omega)); (try (intros; omega)))
  · refine brp (p := v > hi) (by kernel_rfl) (fun h2 => ?_) (fun h2 => ?_)
    · refine rt (a := Res.mk Ex.ret [vi hi] []) (by kernel_rfl) ?_
      (simp_all [clamp]; (try (rw [Bool.eq_iff_iff]; simp only [decide_eq_true_eq, Bool.and_eq_true]; omega)); (try (intros; omega)))
    · refine rt (a := Res.mk Ex.ret [vi v] []) (by kernel_rfl) ?_
      (simp_all [clamp]; (try (rw [Bool.eq_iff_iff]; simp only [decide_eq_true_eq, Bool.and_eq_true]; omega)); (try (intros; omega)))
theorem f_joustref01_Clamp (v lo hi : Int) : Fn cx 77 [ti v, ti lo, ti hi] (ti (clamp v lo hi)) := by
  refine Wp.ev ?_
  refine brp (p := v < lo) (by kernel_rfl) (fun h1 => ?_) (fun h1 => ?_)
  · refine rt (a := Res.mk Ex.ret [vi lo] []) (by kernel_rfl) ?_
    (simp_all [clamp]; (try (rw [Bool.eq_iff_iff]; simp only [decide_eq_true_eq, Bool.and_eq_true]; omega)); (try (intros; omega)))
  · refine brp (p := v > hi) (by kernel_rfl) (fun h2 => ?_) (fun h2 => ?_)
    · refine rt (a := Res.mk Ex.ret [vi hi] []) (by kernel_rfl) ?_
      (simp_all [clamp]; (try (rw [Bool.eq_iff_iff]; simp only [decide_eq_true_eq, Bool.and_eq_true]; omega)); (try (intros; omega)))
    · refine rt (a := Res.mk Ex.ret [vi v] []) (by kernel_rfl) ?_
      (simp_all [clamp]; (try (rw [Bool.eq_iff_iff]; simp only [decide_eq_true_eq, Bool.and_eq_true]; omega)); (try (intros; omega)))
theorem f_joustref03_Right (c : Config) : Fn cx 57 [c.enc] (.bool c.right) := by
  refine Wp.ev ?_
  refine brp (p := c.cols ≥ 1) (by kernel_rfl) (fun h1 => ?_) (fun h1 => ?_)
  · refine gs (l := [.tt, .tt, .tt]) (by kernel_rfl) trivial ?_
    refine brp (p := c.cols ≤ 4) (by kernel_rfl) (fun h2 => ?_) (fun h2 => ?_)
    · refine gs (l := [.tt, .tt, .tt]) (by kernel_rfl) trivial ?_
      refine brp (p := c.rows ≥ 1) (by kernel_rfl) (fun h3 => ?_) (fun h3 => ?_)
      · refine gs (l := [.tt, .tt, .tt]) (by kernel_rfl) trivial ?_
        refine brp (p := c.rows ≤ 4) (by kernel_rfl) (fun h4 => ?_) (fun h4 => ?_)
        · refine gs (l := [.tt, .tt, .tt]) (by kernel_rfl) trivial ?_
          refine brp (p := c.players ≥ 1) (by kernel_rfl) (fun h5 => ?_) (fun h5 => ?_)
          · refine gs (l := [.tt, .tt, .tt]) (by kernel_rfl) trivial ?_
            refine brp (p := c.players ≤ 6) (by kernel_rfl) (fun h6 => ?_) (fun h6 => ?_)
            · refine gs (l := [.tt, .tt, .tt]) (by kernel_rfl) trivial ?_
              refine brp (p := c.window ≥ 1) (by kernel_rfl) (fun h7 => ?_) (fun h7 => ?_)
              · refine gs (l := [.tt, .tt, .tt]) (by kernel_rfl) trivial ?_
                refine rt (a := Res.mk Ex.ret [vb (decide (c.window ≤ 16))] []) (by kernel_rfl) ?_
                (simp_all [Config.right, within]; (try (rw [Bool.eq_iff_iff]; simp only [decide_eq_true_eq, Bool.and_eq_true]; omega)); (try (intros; omega)))
              · refine gs (l := [.ff, .ff, .ff]) (by kernel_rfl) trivial ?_
                refine rt (a := Res.mk Ex.ret [vb false] []) (by kernel_rfl) ?_
                (simp_all [Config.right, within]; (try (rw [Bool.eq_iff_iff]; simp only [decide_eq_true_eq, Bool.and_eq_true]; omega)); (try (intros; omega)))
            · refine gs (l := [.ff, .ff, .ff, .ff, .ff, .ff, .ff]) (by kernel_rfl) trivial ?_
              refine rt (a := Res.mk Ex.ret [vb false] []) (by kernel_rfl) ?_
              (simp_all [Config.right, within]; (try (rw [Bool.eq_iff_iff]; simp only [decide_eq_true_eq, Bool.and_eq_true]; omega)); (try (intros; omega)))
          · refine gs (l := [.ff, .ff, .ff, .ff, .ff, .ff, .ff, .ff, .ff, .ff, .ff]) (by kernel_rfl) trivial ?_
            refine rt (a := Res.mk Ex.ret [vb false] []) (by kernel_rfl) ?_
            (simp_all [Config.right, within]; (try (rw [Bool.eq_iff_iff]; simp only [decide_eq_true_eq, Bool.and_eq_true]; omega)); (try (intros; omega)))
        · refine gs (l := [.ff, .ff, .ff, .ff, .ff, .ff, .ff, .ff, .ff, .ff, .ff, .ff, .ff, .ff, .ff]) (by kernel_rfl) trivial ?_
          refine rt (a := Res.mk Ex.ret [vb false] []) (by kernel_rfl) ?_
          (simp_all [Config.right, within]; (try (rw [Bool.eq_iff_iff]; simp only [decide_eq_true_eq, Bool.and_eq_true]; omega)); (try (intros; omega)))
      · refine gs (l := [.ff, .ff, .ff, .ff, .ff, .ff, .ff, .ff, .ff, .ff, .ff, .ff, .ff, .ff, .ff, .ff]) (by kernel_rfl) trivial ?_
        refine gs (l := [.ff, .ff, .ff]) (by kernel_rfl) trivial ?_
        refine rt (a := Res.mk Ex.ret [vb false] []) (by kernel_rfl) ?_
        (simp_all [Config.right, within]; (try (rw [Bool.eq_iff_iff]; simp only [decide_eq_true_eq, Bool.and_eq_true]; omega)); (try (intros; omega)))
    · refine gs (l := [.ff, .ff, .ff, .ff, .ff, .ff, .ff, .ff, .ff, .ff, .ff, .ff, .ff, .ff, .ff, .ff]) (by kernel_rfl) trivial ?_
      refine gs (l := [.ff, .ff, .ff, .ff, .ff, .ff, .ff]) (by kernel_rfl) trivial ?_
      refine rt (a := Res.mk Ex.ret [vb false] []) (by kernel_rfl) ?_
      (simp_all [Config.right, within]; (try (rw [Bool.eq_iff_iff]; simp only [decide_eq_true_eq, Bool.and_eq_true]; omega)); (try (intros; omega)))
  · refine gs (l := [.ff, .ff, .ff, .ff, .ff, .ff, .ff, .ff, .ff, .ff, .ff, .ff, .ff, .ff, .ff, .ff]) (by kernel_rfl) trivial ?_
    refine gs (l := [.ff, .ff, .ff, .ff, .ff, .ff, .ff, .ff, .ff, .ff, .ff]) (by kernel_rfl) trivial ?_
    refine rt (a := Res.mk Ex.ret [vb false] []) (by kernel_rfl) ?_
    (simp_all [Config.right, within]; (try (rw [Bool.eq_iff_iff]; simp only [decide_eq_true_eq, Bool.and_eq_true]; omega)); (try (intros; omega)))
theorem f_grid_Regions (c : Config) : Fn cx 96 [c.enc] (ti c.regions) := by
  cases h : c.right with
  | true =>
    have h2 := Config.mul_le h
    refine Wp.ev ?_
    refine gs (l := [.a (Task.call 90 [V.t (Config.enc c)] []) (Res.mk Ex.ret [vi c.cols, vi c.rows] []), .i IntKind.i64 (c.cols * c.rows) (c.cols * c.rows)]) (by kernel_rfl) ⟨o_a (f_grid_size_t _ (by assumption)), o_i (w64 (by omega)), trivial⟩ ?_
    refine rt (a := Res.mk Ex.ret [vi (c.cols * c.rows)] []) (by kernel_rfl) ?_
    simp [Config.regions, h]
  | false => refine Wp.ev ?_
             refine gs (l := [.a (Task.call 90 [V.t (Config.enc c)] []) (Res.mk Ex.ret [vi 0, vi 0] []), .i IntKind.i64 0 0]) (by kernel_rfl) ⟨o_a (f_grid_size_f _ (by assumption)), o_i (by kernel_rfl), trivial⟩ ?_
             refine rt (a := Res.mk Ex.ret [vi 0] []) (by kernel_rfl) ?_
             simp [Config.regions, h]
theorem f_joustref03_Regions (c : Config) : Fn cx 76 [c.enc] (ti c.regions) := by
  cases h : c.right with
  | true =>
    have h2 := Config.mul_le h
    refine Wp.ev ?_
    refine gs (l := [.a (Task.call 57 [V.t (Config.enc c)] []) (Res.mk Ex.ret [vb (Config.right c)] []), .b (!Config.right c) false, .i IntKind.i64 (c.cols * c.rows) (c.cols * c.rows)]) (by kernel_rfl) ⟨o_a (f_joustref03_Right _), f_brnot (by assumption), o_i (w64 (by omega)), trivial⟩ ?_
    refine rt (a := Res.mk Ex.ret [vi (c.cols * c.rows)] []) (by kernel_rfl) ?_
    simp [Config.regions, h]
  | false => refine Wp.ev ?_
             refine gs (l := [.a (Task.call 57 [V.t (Config.enc c)] []) (Res.mk Ex.ret [vb (Config.right c)] []), .b (!Config.right c) true]) (by kernel_rfl) ⟨o_a (f_joustref03_Right _), t_brnot (by assumption), trivial⟩ ?_
             refine rt (a := Res.mk Ex.ret [vi 0] []) (by kernel_rfl) ?_
             simp [Config.regions, h]
theorem f_grid_Width (c : Config) : Fn cx 82 [c.enc] (ti c.width) := by
  cases h : c.right with
  | true =>
    have h2 := Config.right_iff.1 h
    refine Wp.ev ?_
    refine gs (l := [.a (Task.call 90 [V.t (Config.enc c)] []) (Res.mk Ex.ret [vi c.cols, vi c.rows] []), .i IntKind.i64 (c.cols * 1024) (c.cols * 1024)]) (by kernel_rfl) ⟨o_a (f_grid_size_t _ (by assumption)), o_i (w64 (by omega)), trivial⟩ ?_
    refine rt (a := Res.mk Ex.ret [vi (c.cols * 1024)] []) (by kernel_rfl) ?_
    simp [Config.width, h]
  | false => refine Wp.ev ?_
             refine gs (l := [.a (Task.call 90 [V.t (Config.enc c)] []) (Res.mk Ex.ret [vi 0, vi 0] []), .i IntKind.i64 0 0]) (by kernel_rfl) ⟨o_a (f_grid_size_f _ (by assumption)), o_i (by kernel_rfl), trivial⟩ ?_
             refine rt (a := Res.mk Ex.ret [vi 0] []) (by kernel_rfl) ?_
             simp [Config.width, h]
theorem f_grid_Height (c : Config) : Fn cx 83 [c.enc] (ti c.height) := by
  cases h : c.right with
  | true =>
    have h2 := Config.right_iff.1 h
    refine Wp.ev ?_
    refine gs (l := [.a (Task.call 90 [V.t (Config.enc c)] []) (Res.mk Ex.ret [vi c.cols, vi c.rows] []), .i IntKind.i64 (c.rows * 1024) (c.rows * 1024)]) (by kernel_rfl) ⟨o_a (f_grid_size_t _ (by assumption)), o_i (w64 (by omega)), trivial⟩ ?_
    refine rt (a := Res.mk Ex.ret [vi (c.rows * 1024)] []) (by kernel_rfl) ?_
    simp [Config.height, h]
  | false => refine Wp.ev ?_
             refine gs (l := [.a (Task.call 90 [V.t (Config.enc c)] []) (Res.mk Ex.ret [vi 0, vi 0] []), .i IntKind.i64 0 0]) (by kernel_rfl) ⟨o_a (f_grid_size_f _ (by assumption)), o_i (by kernel_rfl), trivial⟩ ?_
             refine rt (a := Res.mk Ex.ret [vi 0] []) (by kernel_rfl) ?_
             simp [Config.height, h]
theorem f_grid_Inside (c : Config) (x y : Int) : Fn cx 59 [c.enc, ti x, ti y] (.bool (c.inside x y)) := by
  have h1 := @Config.width_le c
  have h2 := @Config.height_le c
  refine Wp.ev ?_
  refine gs (l := [.a (Task.call 82 [V.t (Config.enc c)] []) (Res.mk Ex.ret [vi (Config.width c)] []), .i IntKind.i64 (Config.width c - 1) (Config.width c - 1), .a (Task.call 81 [vi x, vi 0, vi (Config.width c - 1)] []) (Res.mk Ex.ret [vb (within x 0 (Config.width c - 1))] [])]) (by kernel_rfl) ⟨o_a (f_grid_Width _), o_i (w64 (by omega)), o_a (f_grid_within _ _ _), trivial⟩ ?_
  refine br (b := within x 0 (Config.width c - 1)) (by kernel_rfl) (fun h1 => ?_) (fun h1 => ?_)
  · refine gs (l := [.tt, .tt, .a (Task.call 83 [V.t (Config.enc c)] []) (Res.mk Ex.ret [vi (Config.height c)] []), .tt, .i IntKind.i64 (Config.height c - 1) (Config.height c - 1), .tt, .a (Task.call 81 [vi y, vi 0, vi (Config.height c - 1)] []) (Res.mk Ex.ret [vb (within y 0 (Config.height c - 1))] []), .tt]) (by kernel_rfl) ⟨o_a (f_grid_Height _), o_i (w64 (by omega)), o_a (f_grid_within _ _ _), trivial⟩ ?_
    refine rt (a := Res.mk Ex.ret [vb (within y 0 (Config.height c - 1))] []) (by kernel_rfl) ?_
    simp_all [Config.inside]
  · refine gs (l := [.ff, .ff, .ff, .ff, .ff]) (by kernel_rfl) trivial ?_
    refine rt (a := Res.mk Ex.ret [vb false] []) (by kernel_rfl) ?_
    simp_all [Config.inside]
theorem f_joustref03_Inside (c : Config) (x y : Int) : Fn cx 62 [c.enc, ti x, ti y] (.bool (c.inside x y)) := by
  cases h : c.right with
  | true =>
    have h2 := Config.right_iff.1 h
    refine Wp.ev ?_
    refine gs (l := [.a (Task.call 57 [V.t (Config.enc c)] []) (Res.mk Ex.ret [vb (Config.right c)] []), .b (Config.right c) true, .tt, .tt]) (by kernel_rfl) ⟨o_a (f_joustref03_Right _), t_br (by assumption), trivial⟩ ?_
    refine brp (p := x ≥ 0) (by kernel_rfl) (fun h1 => ?_) (fun h1 => ?_)
    · refine gs (l := [.tt, .tt, .tt, .i IntKind.i64 (c.cols * 1024) (c.cols * 1024), .tt, .tt]) (by kernel_rfl) ⟨o_i (w64 (by omega)), trivial⟩ ?_
      refine brp (p := x < c.cols * 1024) (by kernel_rfl) (fun h2 => ?_) (fun h2 => ?_)
      · refine gs (l := [.tt, .tt]) (by kernel_rfl) trivial ?_
        refine brp (p := y ≥ 0) (by kernel_rfl) (fun h3 => ?_) (fun h3 => ?_)
        · refine gs (l := [.tt, .tt, .tt, .i IntKind.i64 (c.rows * 1024) (c.rows * 1024), .tt, .tt]) (by kernel_rfl) ⟨o_i (w64 (by omega)), trivial⟩ ?_
          refine rt (a := Res.mk Ex.ret [vb (decide (y < c.rows * 1024))] []) (by kernel_rfl) ?_
          (simp_all [Config.inside, Config.width, Config.height, within]; (try (rw [Bool.eq_iff_iff]; simp only [decide_eq_true_eq, Bool.and_eq_true]; omega)); (try (intros; omega)))
        · refine gs (l := [.ff, .ff, .ff, .ff, .ff]) (by kernel_rfl) trivial ?_
          refine rt (a := Res.mk Ex.ret [vb false] []) (by kernel_rfl) ?_
          (simp_all [Config.inside, Config.width, Config.height, within]; (try (rw [Bool.eq_iff_iff]; simp only [decide_eq_true_eq, Bool.and_eq_true]; omega)); (try (intros; omega)))
      · refine gs (l := [.ff, .ff, .ff, .ff, .ff, .ff, .ff, .ff]) (by kernel_rfl) trivial ?_
        refine rt (a := Res.mk Ex.ret [vb false] []) (by kernel_rfl) ?_
        (simp_all [Config.inside, Config.width, Config.height, within]; (try (rw [Bool.eq_iff_iff]; simp only [decide_eq_true_eq, Bool.and_eq_true]; omega)); (try (intros; omega)))
    · refine gs (l := [.ff, .ff, .ff, .ff, .ff, .ff, .ff, .ff, .ff, .ff, .ff, .ff, .ff, .ff]) (by kernel_rfl) trivial ?_
      refine rt (a := Res.mk Ex.ret [vb false] []) (by kernel_rfl) ?_
      (simp_all [Config.inside, Config.width, Config.height, within]; (try (rw [Bool.eq_iff_iff]; simp only [decide_eq_true_eq, Bool.and_eq_true]; omega)); (try (intros; omega)))
  | false => refine Wp.ev ?_
             refine gs (l := [.a (Task.call 57 [V.t (Config.enc c)] []) (Res.mk Ex.ret [vb (Config.right c)] []), .b (Config.right c) false, .ff, .ff, .ff, .ff, .ff, .ff, .ff, .ff, .ff, .ff, .ff, .ff, .ff, .ff]) (by kernel_rfl) ⟨o_a (f_joustref03_Right _), f_br (by assumption), trivial⟩ ?_
             refine gs (l := [.ff, .ff, .ff]) (by kernel_rfl) trivial ?_
             refine rt (a := Res.mk Ex.ret [vb false] []) (by kernel_rfl) ?_
             (simp_all [Config.inside, Config.width, Config.height, within]; (try (rw [Bool.eq_iff_iff]; simp only [decide_eq_true_eq, Bool.and_eq_true]; omega)); (try (intros; omega)))
theorem f_grid_is (c : Config) (r : Int) : Fn cx 89 [c.enc, ti r] (.bool (c.is r)) := by
  have h1 := @Config.regions_le c
  refine Wp.ev ?_
  refine gs (l := [.a (Task.call 96 [V.t (Config.enc c)] []) (Res.mk Ex.ret [vi (Config.regions c)] []), .i IntKind.i64 (Config.regions c - 1) (Config.regions c - 1), .a (Task.call 81 [vi r, vi 0, vi (Config.regions c - 1)] []) (Res.mk Ex.ret [vb (within r 0 (Config.regions c - 1))] [])]) (by kernel_rfl) ⟨o_a (f_grid_Regions _), o_i (w64 (by omega)), o_a (f_grid_within _ _ _), trivial⟩ ?_
  refine rt (a := Res.mk Ex.ret [vb (within r 0 (Config.regions c - 1))] []) (by kernel_rfl) ?_
  simp_all [Config.is]
theorem f_joustref03_Is (c : Config) (r : Int) : Fn cx 75 [c.enc, ti r] (.bool (c.is r)) := by
  have h1 := @Config.regions_le c
  refine Wp.ev ?_
  refine brp (p := r ≥ 0) (by kernel_rfl) (fun h1 => ?_) (fun h1 => ?_)
  · refine gs (l := [.tt, .tt, .a (Task.call 76 [V.t (Config.enc c)] []) (Res.mk Ex.ret [vi (Config.regions c)] []), .tt, .tt]) (by kernel_rfl) ⟨o_a (f_joustref03_Regions _), trivial⟩ ?_
    refine rt (a := Res.mk Ex.ret [vb (decide (r < Config.regions c))] []) (by kernel_rfl) ?_
    (simp_all [Config.is, within]; (try (rw [Bool.eq_iff_iff]; simp only [decide_eq_true_eq, Bool.and_eq_true]; omega)); (try (intros; omega)))
  · refine gs (l := [.ff, .ff, .ff, .ff]) (by kernel_rfl) trivial ?_
    refine rt (a := Res.mk Ex.ret [vb false] []) (by kernel_rfl) ?_
    (simp_all [Config.is, within]; (try (rw [Bool.eq_iff_iff]; simp only [decide_eq_true_eq, Bool.and_eq_true]; omega)); (try (intros; omega)))
theorem f_grid_Of (c : Config) (x y : Int) : Fn cx 74 [c.enc, ti x, ti y] (ti (c.of x y)) := by
  cases h : c.right with
  | true =>
    have h2 := Config.right_iff.1 h
    have h3 := @Config.width_le c
    have h4 := @Config.height_le c
    have hw : c.width = c.cols * 1024 := by simp [Config.width, h]
    have hh : c.height = c.rows * 1024 := by simp [Config.height, h]
    have h5 := @clamp_le x 0 (c.width - 1) (by omega)
    have h6 := @clamp_le y 0 (c.height - 1) (by omega)
    have h7 := tdiv_le (v := clamp x 0 (c.width - 1)) (k := 1024) (m := 4) (by omega) (by omega) (by omega)
    have h8 := tdiv_le (v := clamp y 0 (c.height - 1)) (k := 1024) (m := 4) (by omega) (by omega) (by omega)
    have h9 := mul4 (a := (clamp y 0 (c.height - 1)).tdiv 1024) (b := c.cols) (by omega) (by omega)
    refine Wp.ev ?_
    refine gs (l := [.a (Task.call 90 [V.t (Config.enc c)] []) (Res.mk Ex.ret [vi c.cols, vi c.rows] []), .b (c.cols == 0) false, .a (Task.call 82 [V.t (Config.enc c)] []) (Res.mk Ex.ret [vi (Config.width c)] []), .i IntKind.i64 (Config.width c - 1) (Config.width c - 1), .a (Task.call 91 [vi x, vi 0, vi (Config.width c - 1)] []) (Res.mk Ex.ret [vi (clamp x 0 (Config.width c - 1))] []), .a (Task.call 83 [V.t (Config.enc c)] []) (Res.mk Ex.ret [vi (Config.height c)] []), .i IntKind.i64 (Config.height c - 1) (Config.height c - 1), .a (Task.call 91 [vi y, vi 0, vi (Config.height c - 1)] []) (Res.mk Ex.ret [vi (clamp y 0 (Config.height c - 1))] []), .w ((1024 : Int) ≠ (0 : Int)), .i IntKind.i64 (Int.tdiv (clamp y 0 (Config.height c - 1)) 1024) (Int.tdiv (clamp y 0 (Config.height c - 1)) 1024), .i IntKind.i64 (Int.tdiv (clamp y 0 (Config.height c - 1)) 1024 * c.cols) (Int.tdiv (clamp y 0 (Config.height c - 1)) 1024 * c.cols), .w ((1024 : Int) ≠ (0 : Int)), .i IntKind.i64 (Int.tdiv (clamp x 0 (Config.width c - 1)) 1024) (Int.tdiv (clamp x 0 (Config.width c - 1)) 1024), .i IntKind.i64 (Int.tdiv (clamp y 0 (Config.height c - 1)) 1024 * c.cols + Int.tdiv (clamp x 0 (Config.width c - 1)) 1024) (Int.tdiv (clamp y 0 (Config.height c - 1)) 1024 * c.cols + Int.tdiv (clamp x 0 (Config.width c - 1)) 1024)]) (by kernel_rfl) ⟨o_a (f_grid_size_t _ (by assumption)), f_bre (by omega), o_a (f_grid_Width _), o_i (w64 (by omega)), o_a (f_fixed_Clamp _ _ _), o_a (f_grid_Height _), o_i (w64 (by omega)), o_a (f_fixed_Clamp _ _ _), o_w (by intro h; cases h), o_i (w64 (by omega)), o_i (w64 (by omega)), o_w (by intro h; cases h), o_i (w64 (by omega)), o_i (w64 (by omega)), trivial⟩ ?_
    refine rt (a := Res.mk Ex.ret [vi (Int.tdiv (clamp y 0 (Config.height c - 1)) 1024 * c.cols + Int.tdiv (clamp x 0 (Config.width c - 1)) 1024)] []) (by kernel_rfl) ?_
    simp [Config.of, h]
  | false => refine Wp.ev ?_
             refine gs (l := [.a (Task.call 90 [V.t (Config.enc c)] []) (Res.mk Ex.ret [vi 0, vi 0] []), .b (0 == 0) true]) (by kernel_rfl) ⟨o_a (f_grid_size_f _ (by assumption)), o_b (by kernel_rfl), trivial⟩ ?_
             refine rt (a := Res.mk Ex.ret [vi 0] []) (by kernel_rfl) ?_
             simp [Config.of, h]
theorem f_joustref03_Of (c : Config) (x y : Int) : Fn cx 46 [c.enc, ti x, ti y] (ti (c.of x y)) := by
  cases h : c.right with
  | true =>
    have h2 := Config.right_iff.1 h
    have h3 := @Config.width_le c
    have h4 := @Config.height_le c
    have hw : c.width = c.cols * 1024 := by simp [Config.width, h]
    have hh : c.height = c.rows * 1024 := by simp [Config.height, h]
    have h5 := @clamp_le x 0 (c.cols * 1024 - 1) (by omega)
    have h6 := @clamp_le y 0 (c.rows * 1024 - 1) (by omega)
    have h7 := tdiv_le (v := clamp x 0 (c.cols * 1024 - 1)) (k := 1024) (m := 4) (by omega) (by omega) (by omega)
    have h8 := tdiv_le (v := clamp y 0 (c.rows * 1024 - 1)) (k := 1024) (m := 4) (by omega) (by omega) (by omega)
    have h9 := mul4 (a := (clamp y 0 (c.rows * 1024 - 1)).tdiv 1024) (b := c.cols) (by omega) (by omega)
    refine Wp.ev ?_
    refine gs (l := [.a (Task.call 57 [V.t (Config.enc c)] []) (Res.mk Ex.ret [vb (Config.right c)] []), .b (!Config.right c) false, .i IntKind.i64 (c.cols * 1024) (c.cols * 1024), .i IntKind.i64 (c.cols * 1024 - 1) (c.cols * 1024 - 1), .i IntKind.i64 (c.rows * 1024) (c.rows * 1024), .i IntKind.i64 (c.rows * 1024 - 1) (c.rows * 1024 - 1), .a (Task.call 77 [vi x, vi 0, vi (c.cols * 1024 - 1)] []) (Res.mk Ex.ret [vi (clamp x 0 (c.cols * 1024 - 1))] []), .a (Task.call 77 [vi y, vi 0, vi (c.rows * 1024 - 1)] []) (Res.mk Ex.ret [vi (clamp y 0 (c.rows * 1024 - 1))] []), .w ((1024 : Int) ≠ (0 : Int)), .i IntKind.i64 (Int.tdiv (clamp y 0 (c.rows * 1024 - 1)) 1024) (Int.tdiv (clamp y 0 (c.rows * 1024 - 1)) 1024), .i IntKind.i64 (Int.tdiv (clamp y 0 (c.rows * 1024 - 1)) 1024 * c.cols) (Int.tdiv (clamp y 0 (c.rows * 1024 - 1)) 1024 * c.cols), .w ((1024 : Int) ≠ (0 : Int)), .i IntKind.i64 (Int.tdiv (clamp x 0 (c.cols * 1024 - 1)) 1024) (Int.tdiv (clamp x 0 (c.cols * 1024 - 1)) 1024), .i IntKind.i64 (Int.tdiv (clamp y 0 (c.rows * 1024 - 1)) 1024 * c.cols + Int.tdiv (clamp x 0 (c.cols * 1024 - 1)) 1024) (Int.tdiv (clamp y 0 (c.rows * 1024 - 1)) 1024 * c.cols + Int.tdiv (clamp x 0 (c.cols * 1024 - 1)) 1024)]) (by kernel_rfl) ⟨o_a (f_joustref03_Right _), f_brnot (by assumption), o_i (w64 (by omega)), o_i (w64 (by omega)), o_i (w64 (by omega)), o_i (w64 (by omega)), o_a (f_joustref01_Clamp _ _ _), o_a (f_joustref01_Clamp _ _ _), o_w (by intro h; cases h), o_i (w64 (by omega)), o_i (w64 (by omega)), o_w (by intro h; cases h), o_i (w64 (by omega)), o_i (w64 (by omega)), trivial⟩ ?_
    refine rt (a := Res.mk Ex.ret [vi (Int.tdiv (clamp y 0 (c.rows * 1024 - 1)) 1024 * c.cols + Int.tdiv (clamp x 0 (c.cols * 1024 - 1)) 1024)] []) (by kernel_rfl) ?_
    simp [Config.of, h, hw, hh]
  | false => refine Wp.ev ?_
             refine gs (l := [.a (Task.call 57 [V.t (Config.enc c)] []) (Res.mk Ex.ret [vb (Config.right c)] []), .b (!Config.right c) true]) (by kernel_rfl) ⟨o_a (f_joustref03_Right _), t_brnot (by assumption), trivial⟩ ?_
             refine rt (a := Res.mk Ex.ret [vi 0] []) (by kernel_rfl) ?_
             simp [Config.of, h]
end Go.Eva.S1

/- Eva, part 43: entities, in plain words. -/
namespace Go.Eva

/-- The place of the first one of which it holds; -1. -/
def pos {α : Type} (p : α → Bool) (l : List α) : Int := match l.findIdx? p with
  | some j => j
  | none => -1

/-- A list that is not beyond all measure. -/
def small {α : Type} (l : List α) : Prop := l.length ≤ 1000000

theorem drop_gt {α : Type} [Inhabited α] {l : List α} {i : Nat} (h : i < l.length) : l.drop i = gt l i :: l.drop (i + 1) := by
  rw [List.drop_eq_getElem_cons h]; simp [gt, h]
theorem take_gt {α : Type} [Inhabited α] {l : List α} {i : Nat} (h : i < l.length) : l.take (i + 1) = l.take i ++ [gt l i] := by
  rw [List.take_add_one]; simp [gt, h]
theorem gt_mem {α : Type} [Inhabited α] {l : List α} {i : Nat} (h : i < l.length) : gt l i ∈ l := by simp [gt, h]
theorem drop_end {α : Type} {l : List α} {i : Nat} (h : l.length ≤ i) : l.drop i = [] := List.drop_eq_nil_of_le h
theorem insert_any {α : Type} (m r : List α) (x : α) (i n : Nat) (hn : n = m.length) (h : i < n) :
    List.take (n + 1) (List.take i (List.take (i + 1) (m ++ r) ++ List.take (n - i) (List.take (n + 1 - i) (List.drop i (m ++ r))) ++ List.drop (i + (n - i) + 1) (m ++ r)) ++ List.take 1 [x] ++
      List.drop (i + 1) (List.take (i + 1) (m ++ r) ++ List.take (n - i) (List.take (n + 1 - i) (List.drop i (m ++ r))) ++ List.drop (i + (n - i) + 1) (m ++ r))) = List.take i m ++ x :: List.drop i m := by
  subst hn
  have e1 : List.take (i + 1) (m ++ r) = List.take (i+1) m := by rw [List.take_append_of_le_length (by omega)]
  have e2 : List.take (m.length - i) (List.take (m.length + 1 - i) (List.drop i (m ++ r))) = List.drop i m := by
    rw [List.take_take, Nat.min_eq_left (by omega), List.drop_append_of_le_length (by omega), List.take_append_of_le_length (by simp), List.take_of_length_le (by simp)]
  rw [e1, e2]
  generalize List.drop (i + (m.length - i) + 1) (m ++ r) = z
  have hl : (List.take (i+1) m).length = i + 1 := by simp; omega
  have e3 : List.take i (List.take (i + 1) m ++ List.drop i m ++ z) = List.take i m := by
    rw [List.append_assoc, List.take_append_of_le_length (by omega), List.take_take, Nat.min_eq_left (by omega)]
  have e4 : List.drop (i + 1) (List.take (i + 1) m ++ List.drop i m ++ z) = List.drop i m ++ z := by
    rw [List.append_assoc, List.drop_append, List.drop_of_length_le (by omega)]
    simp [hl]
  rw [e3, e4]
  have e5 : List.take i m ++ List.take 1 [x] ++ (List.drop i m ++ z) = (List.take i m ++ x :: List.drop i m) ++ z := by simp
  rw [e5, List.take_append_of_le_length (by simp; omega), List.take_of_length_le (by simp; omega)]

theorem insert_any' {α : Type} (m r : List α) (x : α) (i n : Nat) (hn : n = m.length) (h : i < n) :
    List.take (n + 1) (List.take i (List.take (i + 1) (m ++ r) ++ List.take (n + 1 - (i + 1)) (List.take (n + 1 - i) (List.drop i (m ++ r))) ++ List.drop (i + 1 + (n + 1 - (i + 1))) (m ++ r)) ++ List.take 1 [x] ++
      List.drop (i + 1) (List.take (i + 1) (m ++ r) ++ List.take (n + 1 - (i + 1)) (List.take (n + 1 - i) (List.drop i (m ++ r))) ++ List.drop (i + 1 + (n + 1 - (i + 1))) (m ++ r))) = List.take i m ++ x :: List.drop i m := by
  have e1 : n + 1 - (i + 1) = n - i := by omega
  have e2 : i + 1 + (n - i) = i + (n - i) + 1 := by omega
  rw [e1, e2]
  exact insert_any m r x i n hn h

theorem res_arr {v : List V} {s : Nat} {xs ys : List T} {x : Ex} {o : Ob} (h : xs = ys) : Res.mk x v [o, .arr s xs none false] = Res.mk x v [o, .arr s ys none false] := by rw [h]
/-- What does not hold of a test moves ahead. -/
def dfl {α : Type} (p : α → Bool) (A : List α) (i : Nat) : List α → Nat × List α
  | [] => (i, A)
  | v :: r => match p v with
    | true => dfl p A i r
    | false => dfl p (A.set i v) (i + 1) r

theorem dfl_len {α : Type} {p : α → Bool} : ∀ {r A : List α} {i : Nat}, (dfl p A i r).2.length = A.length ∧ i ≤ (dfl p A i r).1 ∧ (dfl p A i r).1 ≤ i + r.length
  | [], A, i => by simp [dfl]
  | v :: r, A, i => by
    simp only [dfl]
    cases p v with
    | true => have := @dfl_len α p r A i; simp only [List.length_cons]; omega
    | false => have := @dfl_len α p r (A.set i v) (i + 1); simp only [List.length_cons, List.length_set] at *; omega

theorem dfl_take {α : Type} {p : α → Bool} : ∀ {r A : List α} {i : Nat}, i + r.length ≤ A.length → (dfl p A i r).2.take (dfl p A i r).1 = A.take i ++ r.filter fun e => !p e
  | [], A, i, _ => by simp [dfl]
  | v :: r, A, i, h => by
    simp only [List.length_cons] at h
    simp only [dfl]
    cases hp : p v with
    | true =>
      simp only [hp, List.filter_cons, Bool.not_true, Bool.false_eq_true, if_false]
      exact dfl_take (by omega)
    | false =>
      simp only [hp, List.filter_cons, Bool.not_false, if_true]
      rw [dfl_take (by simp; omega), List.take_add_one]
      simp [List.take_set_of_le, show i < A.length by omega]

theorem find_none {α : Type} {p : α → Bool} {l : List α} (h : l.findIdx? p = none) : (l.filter fun e => !p e) = l := by
  rw [List.filter_eq_self]
  intro a ha
  have := List.findIdx?_eq_none_iff.1 h a ha
  simp [this]

theorem find_some {α : Type} [Inhabited α] {p : α → Bool} {l : List α} {k : Nat} (h : l.findIdx? p = some k) : k < l.length ∧ (l.filter fun e => !p e) = l.take k ++ (l.drop (k + 1)).filter fun e => !p e := by
  obtain ⟨hk, h1, h2⟩ := List.findIdx?_eq_some_iff_getElem.1 h
  refine ⟨hk, ?_⟩
  have e : l = l.take k ++ l[k] :: l.drop (k + 1) := by rw [← List.drop_eq_getElem_cons hk, List.take_append_drop]
  conv => lhs; rw [e]
  rw [List.filter_append, List.filter_cons, h1]
  have : (l.take k).filter (fun e => !p e) = l.take k := by
    rw [List.filter_eq_self]
    intro a ha
    obtain ⟨j, hj, rfl⟩ := List.getElem_of_mem ha
    simp only [List.length_take] at hj
    have := h2 j (by omega)
    simp only [List.getElem_take]
    simpa using this
  simp [this]

theorem gt_eq {α : Type} [Inhabited α] {l : List α} {i : Nat} (h : i < l.length) : gt l i = l[i] := by simp [gt, h]
end Go.Eva

/- Generic functions of slices. -/
namespace Go.Eva.S1
theorem f_slices_Clone_Entity (l : List Entity) (hl : small l) : Is cx (.call 47 [.t (.sl 9 (l.map Entity.enc))] []) ⟨.ret, [.all 0 none], [.arr 9 (l.map Entity.enc) none false]⟩ := by
  unfold small at hl
  refine Wp.ev ?_
  refine cp (lo := 0) (by kernel_rfl) (fun c1 hc1 => ?_)
  refine brp (p := c1 = 0 ∧ List.length (List.map Entity.enc l) = 0) (by kernel_rfl) (fun h2 => ?_) (fun h2 => ?_)
  · refine rt (a := Res.mk Ex.ret [V.all 0 none] [Ob.arr 9 [] none false]) (by kernel_rfl) ?_
    (first | rfl | (have : l = [] := List.length_eq_zero_iff.1 (by simp_all; done); subst this; rfl))
  · refine gs (l := [.w ((0 : Nat) < (72 : Nat)), .s (T.sl 0 (List.map Entity.enc l)), .s (T.sl 0 (List.map Entity.enc l)), .w (room (List.length (List.map Entity.enc l)) (72 : Nat))]) (by kernel_rfl) ⟨o_w (by omega), o_w (by (simp [room, appendMax]; omega)), trivial⟩ ?_
    refine rt (a := Res.mk Ex.ret [V.all 0 none] [Ob.arr 9 (List.map Entity.enc l) none false]) (by kernel_rfl) ?_
    (first | rfl | (have : l = [] := List.length_eq_zero_iff.1 (by simp_all; done); subst this; rfl))
theorem f_slices_IndexFunc_loop_Entity (l : List Entity) (g : Nat) (cs : List T) (p : Entity → Bool) (hb : isFnB cx g = true) (hn : small l)
    (hg : ∀ e ∈ l, Fn cx g (e.enc :: cs) (.bool (p e))) : ∀ (d i : Nat), i + d = l.length →
    Is cx (.loop 48 [0, 1, 0, 1] 0 [.t (.sl 9 (l.map Entity.enc)), .t (.clo g cs), vi 0, vi l.length, vi i] [])
      (match (l.drop i).findIdx? p with
        | some j => ⟨.ret, [.t (.sl 9 (l.map Entity.enc)), .t (.clo g cs), vi (i + j : Nat), vi l.length, vi (i + j : Nat)], []⟩
        | none => ⟨.exit 0, [.t (.sl 9 (l.map Entity.enc)), .t (.clo g cs), vi 0, vi l.length, vi l.length], []⟩) := by
  unfold small at hn
  intro d
  induction d with
  | zero =>
    intro i hi
    refine Wp.ev ?_
    refine gs (l := [.b (decide ((↑i : Int) < (↑(List.length l) : Int))) false]) (by kernel_rfl) ⟨f_brp (by omega), trivial⟩ ?_
    refine rt (a := Res.mk (Ex.exit 0) [V.t (T.sl 9 (List.map Entity.enc l)), V.t (T.clo g cs), vi 0, vi (↑(List.length l) : Int), vi (↑i : Int)] []) (by kernel_rfl) ?_
    ((have : i = l.length := by omega); subst this; rw [drop_end (Nat.le_refl _)]; rfl)
  | succ d ih =>
    intro i hi
    have hlt : i < l.length := by omega
    have hy := hg _ (gt_mem hlt)
    have ih1 := ih (i + 1) (by omega)
    clear ih hg
    rw [drop_gt hlt, List.findIdx?_cons]
    cases hp : p (gt l i) with
    | true =>
      rw [hp] at hy
      refine Wp.ev ?_
      refine gs (l := [.b (decide ((↑i : Int) < (↑(List.length l) : Int))) true, .w ((0 : Int) ≤ (↑i : Int)), .n (Int.toNat (↑i : Int)) i, .g (List.map Entity.enc l) i (Entity.enc (gt l i)), .w (isFnB cx g = true), .a (Task.call g (V.t (Entity.enc (gt l i)) :: List.map V.t cs) []) (Res.mk Ex.ret [vb true] []), .tt]) (by kernel_rfl) ⟨t_brp (by omega), o_w (by omega), o_n (by kernel_rfl), o_gt rfl (by assumption) (by intro h; cases h), o_w (by assumption), o_a hy, trivial⟩ ?_
      refine rt (a := Res.mk Ex.ret [V.t (T.sl 9 (List.map Entity.enc l)), V.t (T.clo g cs), vi (↑i : Int), vi (↑(List.length l) : Int), vi (↑i : Int)] []) (by kernel_rfl) ?_
      rfl
    | false =>
      rw [hp] at hy
      simp only [Bool.false_eq_true, if_false]
      cases hq : (l.drop (i+1)).findIdx? p with
      | none =>
        rw [hq] at ih1
        refine Wp.ev ?_
        refine gs (l := [.b (decide ((↑i : Int) < (↑(List.length l) : Int))) true, .w ((0 : Int) ≤ (↑i : Int)), .n (Int.toNat (↑i : Int)) i, .g (List.map Entity.enc l) i (Entity.enc (gt l i)), .w (isFnB cx g = true), .a (Task.call g (V.t (Entity.enc (gt l i)) :: List.map V.t cs) []) (Res.mk Ex.ret [vb false] []), .ff, .i IntKind.i64 ((↑i : Int) + 1) ((↑(i + 1) : Int)), .a (Task.loop 48 [0, 1, 0, 1] 0 [V.t (T.sl 9 (List.map Entity.enc l)), V.t (T.clo g cs), vi 0, vi (↑(List.length l) : Int), vi (↑(i + 1) : Int)] []) (Res.mk (Ex.exit 0) [V.t (T.sl 9 (List.map Entity.enc l)), V.t (T.clo g cs), vi 0, vi (↑(List.length l) : Int), vi (↑(List.length l) : Int)] [])]) (by kernel_rfl) ⟨t_brp (by omega), o_w (by omega), o_n (by kernel_rfl), o_gt rfl (by assumption) (by intro h; cases h), o_w (by assumption), o_a hy, o_i (w64 (by omega)), o_a ih1, trivial⟩ ?_
        refine rt (a := Res.mk (Ex.exit 0) [V.t (T.sl 9 (List.map Entity.enc l)), V.t (T.clo g cs), vi 0, vi (↑(List.length l) : Int), vi (↑(List.length l) : Int)] []) (by kernel_rfl) ?_
        rfl
      | some j =>
        rw [hq] at ih1
        refine Wp.ev ?_
        refine gs (l := [.b (decide ((↑i : Int) < (↑(List.length l) : Int))) true, .w ((0 : Int) ≤ (↑i : Int)), .n (Int.toNat (↑i : Int)) i, .g (List.map Entity.enc l) i (Entity.enc (gt l i)), .w (isFnB cx g = true), .a (Task.call g (V.t (Entity.enc (gt l i)) :: List.map V.t cs) []) (Res.mk Ex.ret [vb false] []), .ff, .i IntKind.i64 ((↑i : Int) + 1) ((↑(i + 1) : Int)), .a (Task.loop 48 [0, 1, 0, 1] 0 [V.t (T.sl 9 (List.map Entity.enc l)), V.t (T.clo g cs), vi 0, vi (↑(List.length l) : Int), vi (↑(i + 1) : Int)] []) (Res.mk Ex.ret [V.t (T.sl 9 (List.map Entity.enc l)), V.t (T.clo g cs), vi (↑(i + 1 + j) : Int), vi (↑(List.length l) : Int), vi (↑(i + 1 + j) : Int)] [])]) (by kernel_rfl) ⟨t_brp (by omega), o_w (by omega), o_n (by kernel_rfl), o_gt rfl (by assumption) (by intro h; cases h), o_w (by assumption), o_a hy, o_i (w64 (by omega)), o_a ih1, trivial⟩ ?_
        refine rt (a := Res.mk Ex.ret [V.t (T.sl 9 (List.map Entity.enc l)), V.t (T.clo g cs), vi (↑(i + 1 + j) : Int), vi (↑(List.length l) : Int), vi (↑(i + 1 + j) : Int)] []) (by kernel_rfl) ?_
        simp [Nat.add_assoc, Nat.add_comm 1 j]
theorem f_slices_IndexFunc_Entity (l : List Entity) (g : Nat) (cs : List T) (p : Entity → Bool) (hb : isFnB cx g = true) (hn : small l)
    (hg : ∀ e ∈ l, Fn cx g (e.enc :: cs) (.bool (p e))) : Fn cx 48 [.sl 9 (l.map Entity.enc), .clo g cs] (ti (pos p l)) := by
  have h := f_slices_IndexFunc_loop_Entity l g cs p hb hn hg l.length 0 (by omega)
  clear hg
  rw [List.drop_zero] at h
  unfold pos
  cases hq : l.findIdx? p with
  | none =>
    rw [hq] at h
    refine Wp.ev ?_
    refine gs (l := [.n (List.length (List.map Entity.enc l)) (List.length l), .a (Task.loop 48 [0, 1, 0, 1] 0 [V.t (T.sl 9 (List.map Entity.enc l)), V.t (T.clo g cs), vi 0, vi (↑(List.length l) : Int), vi 0] []) (Res.mk (Ex.exit 0) [V.t (T.sl 9 (List.map Entity.enc l)), V.t (T.clo g cs), vi 0, vi (↑(List.length l) : Int), vi (↑(List.length l) : Int)] [])]) (by kernel_rfl) ⟨o_n (by simp), o_a h, trivial⟩ ?_
    refine rt (a := Res.mk Ex.ret [vi (-1)] []) (by kernel_rfl) ?_
    rfl
  | some j =>
    rw [hq] at h
    refine Wp.ev ?_
    refine gs (l := [.n (List.length (List.map Entity.enc l)) (List.length l), .a (Task.loop 48 [0, 1, 0, 1] 0 [V.t (T.sl 9 (List.map Entity.enc l)), V.t (T.clo g cs), vi 0, vi (↑(List.length l) : Int), vi 0] []) (Res.mk Ex.ret [V.t (T.sl 9 (List.map Entity.enc l)), V.t (T.clo g cs), vi (↑(0 + j) : Int), vi (↑(List.length l) : Int), vi (↑(0 + j) : Int)] [])]) (by kernel_rfl) ⟨o_n (by simp), o_a h, trivial⟩ ?_
    refine rt (a := Res.mk Ex.ret [vi (↑(0 + j) : Int)] []) (by kernel_rfl) ?_
    simp
theorem f_slices_Insert_Entity (l : List Entity) (e : Entity) (i : Nat) (hl : small l) (hi : i ≤ l.length) : Is cx (.call 50 [.all 0 none, vi i, .fit 9 ([e].map Entity.enc)] [.arr 9 (l.map Entity.enc) none false]) ⟨.ret, [.all 1 none], [.dead, .arr 9 ((l.take i ++ e :: l.drop i).map Entity.enc) none false]⟩ := by
  unfold small at hl
  refine Wp.ev ?_
  refine gs (l := [.w ((0 : Int) ≤ (↑i : Int)), .n (Int.toNat (↑i : Int)) i, .w (i ≤ List.length (List.map Entity.enc l) ∧ List.length (List.map Entity.enc l) ≤ List.length (List.map Entity.enc l)), .n (0 + i) i, .n (List.length (List.map Entity.enc l) - i) (List.length l - i), .n (List.length (List.map Entity.enc [e])) 1, .b (1 == 0) false, .n (List.length (List.map Entity.enc l)) (List.length l)]) (by kernel_rfl) ⟨o_w (by omega), o_n (by kernel_rfl), o_w ⟨(by (simp [room, appendMax]; omega)), (by omega)⟩, o_n (by omega), o_n (by simp), o_n (by kernel_rfl), o_b (by kernel_rfl), o_n (by simp), trivial⟩ ?_
  refine bre (x := (↑i : Int)) (y := (↑(List.length l) : Int)) (by kernel_rfl) (fun h1 => ?_) (fun h1 => ?_)
  · refine gs (l := [.w ((0 : Nat) < (72 : Nat)), .t (T.sl 0 [Entity.enc e]) (T.sl 0 (List.map Entity.enc [e])), .t (T.sl 0 (List.map Entity.enc l ++ List.map Entity.enc [e])) (T.sl 0 (List.map Entity.enc (l ++ [e]))), .w (room (List.length (List.map Entity.enc (l ++ [e]))) (72 : Nat))]) (by kernel_rfl) ⟨o_w (by omega), o_l (nm_cons rfl nm_nil), o_l (nm_app rfl rfl), o_w (by (simp [room, appendMax]; omega)), trivial⟩ ?_
    refine rt (a := Res.mk Ex.ret [V.all 1 none] [Ob.dead, Ob.arr 9 (List.map Entity.enc (l ++ [e])) none false]) (by kernel_rfl) ?_
    (refine res_arr ?_; first | (simp only [List.map_cons, List.map_nil]; rw [insert_any' _ _ _ _ _ (by simp) (by omega)]; simp; done) | (have hq : i = l.length := by omega; subst hq; simp; done) | (apply List.ext_getElem?; grind))
  · refine gs (l := [.i IntKind.i64 ((↑(List.length l) : Int) + 1) ((↑(List.length l + 1) : Int))]) (by kernel_rfl) ⟨o_i (w64 (by (simp [room, appendMax]; omega))), trivial⟩ ?_
    refine cp (lo := List.length (List.map Entity.enc l)) (by kernel_rfl) (fun c2 hc2 => ?_)
    refine gs (l := [.n (c2 - 0) c2]) (by kernel_rfl) ⟨o_n (by kernel_rfl), trivial⟩ ?_
    refine brp (p := (↑(List.length l + 1) : Int) > (↑c2 : Int)) (by kernel_rfl) (fun h3 => ?_) (fun h3 => ?_)
    · refine gs (l := [.w ((0 : Int) ≤ (↑i : Int)), .n (Int.toNat (↑i : Int)) i, .b (decide (c2 - List.length (List.map Entity.enc l) = 0)) true, .w ((0 : Nat) ≤ i ∧ (0 : Nat) + i ≤ List.length (List.map Entity.enc l)), .l 0, .n (i - 0) i, .i IntKind.i64 ((↑(List.length l) : Int) + 1) ((↑(List.length l + 1) : Int)), .i IntKind.i64 ((↑(List.length l + 1) : Int) - (↑i : Int)) ((↑(List.length l + 1) : Int) - (↑i : Int)), .w ((0 : Int) ≤ (↑(List.length l + (1 : Nat)) : Int) - (↑i : Int) ∧ room (Int.toNat ((↑(List.length l + (1 : Nat)) : Int) - (↑i : Int))) (72 : Nat)), .n (Int.toNat ((↑(List.length l + 1) : Int) - (↑i : Int))) (List.length l + 1 - i), .b (decide (c2 - List.length (List.map Entity.enc l) = 0)) true, .b (decide (0 + i + List.length (List.replicate (List.length l + 1 - i) (T.agg [ti 0, ti 0, ti 0, ti 0, ti 0, ti 0, ti 0, ti 0, ti 0])) ≤ List.length (List.map Entity.enc l))) false, .t (T.sl 0 (List.take i (List.drop 0 (List.map Entity.enc l)) ++ List.replicate (List.length l + 1 - i) (T.agg [ti 0, ti 0, ti 0, ti 0, ti 0, ti 0, ti 0, ti 0, ti 0]))) (T.sl 0 (List.map Entity.enc (List.take i l ++ List.replicate (List.length l + 1 - i) (Entity.mk 0 0 0 0 0 0 0 0 0)))), .w (room (List.length (List.map Entity.enc (List.take i l ++ List.replicate (List.length l + (1 : Nat) - i) (Entity.mk (0 : Int) (0 : Int) (0 : Int) (0 : Int) (0 : Int) (0 : Int) (0 : Int) (0 : Int) (0 : Int))))) (72 : Nat)), .w ((0 : Int) ≤ (↑i : Int)), .n (Int.toNat (↑i : Int)) i]) (by kernel_rfl) ⟨o_w (by omega), o_n (by kernel_rfl), t_brp (by (simp; omega)), o_w ⟨(by omega), (by (simp [room, appendMax]; omega))⟩, o_n (by kernel_rfl), o_i (w64 (by (simp [room, appendMax]; omega))), o_i (w64 (by (simp [room, appendMax]; omega))), o_w ⟨(by (simp [room, appendMax]; omega)), (by (simp [room, appendMax]; omega))⟩, o_n (by omega), t_brp (by (simp; omega)), f_brp (by (simp; omega)), o_l (nm_eq (nm_app (nm_take (nm_drop rfl)) (nm_rep (e := Entity.mk 0 0 0 0 0 0 0 0 0) rfl)) (by kernel_rfl)), o_w (by (simp [room, appendMax]; omega)), o_w (by omega), o_n (by kernel_rfl), trivial⟩ ?_
      refine gs (l := [.w (i ≤ List.length (List.map Entity.enc (List.take i l ++ List.replicate (List.length l + (1 : Nat) - i) (Entity.mk (0 : Int) (0 : Int) (0 : Int) (0 : Int) (0 : Int) (0 : Int) (0 : Int) (0 : Int) (0 : Int)))) ∧ List.length (List.map Entity.enc (List.take i l ++ List.replicate (List.length l + (1 : Nat) - i) (Entity.mk (0 : Int) (0 : Int) (0 : Int) (0 : Int) (0 : Int) (0 : Int) (0 : Int) (0 : Int) (0 : Int)))) ≤ List.length (List.map Entity.enc (List.take i l ++ List.replicate (List.length l + (1 : Nat) - i) (Entity.mk (0 : Int) (0 : Int) (0 : Int) (0 : Int) (0 : Int) (0 : Int) (0 : Int) (0 : Int) (0 : Int))))), .n (0 + i) i, .n (List.length (List.map Entity.enc (List.take i l ++ List.replicate (List.length l + 1 - i) (Entity.mk 0 0 0 0 0 0 0 0 0))) - i) (List.length l + 1 - i), .n (min (List.length (List.map Entity.enc [e])) (List.length l + 1 - i)) 1, .t (T.sl 0 (List.take i (List.map Entity.enc (List.take i l ++ List.replicate (List.length l + 1 - i) (Entity.mk 0 0 0 0 0 0 0 0 0))) ++ List.take 1 (List.map Entity.enc [e]) ++ List.drop (i + 1) (List.map Entity.enc (List.take i l ++ List.replicate (List.length l + 1 - i) (Entity.mk 0 0 0 0 0 0 0 0 0))))) (T.sl 0 (List.map Entity.enc (List.take i (List.take i l ++ List.replicate (List.length l + 1 - i) (Entity.mk 0 0 0 0 0 0 0 0 0)) ++ [e] ++ List.drop (i + 1) (List.take i l ++ List.replicate (List.length l + 1 - i) (Entity.mk 0 0 0 0 0 0 0 0 0))))), .i IntKind.i64 ((↑i : Int) + 1) ((↑(i + 1) : Int)), .w ((0 : Int) ≤ (↑(i + (1 : Nat)) : Int)), .n (Int.toNat (↑(i + 1) : Int)) (i + 1), .w (i + (1 : Nat) ≤ List.length (List.map Entity.enc (List.take i (List.take i l ++ List.replicate (List.length l + (1 : Nat) - i) (Entity.mk (0 : Int) (0 : Int) (0 : Int) (0 : Int) (0 : Int) (0 : Int) (0 : Int) (0 : Int) (0 : Int))) ++ [e] ++ List.drop (i + (1 : Nat)) (List.take i l ++ List.replicate (List.length l + (1 : Nat) - i) (Entity.mk (0 : Int) (0 : Int) (0 : Int) (0 : Int) (0 : Int) (0 : Int) (0 : Int) (0 : Int) (0 : Int))))) ∧ List.length (List.map Entity.enc (List.take i (List.take i l ++ List.replicate (List.length l + (1 : Nat) - i) (Entity.mk (0 : Int) (0 : Int) (0 : Int) (0 : Int) (0 : Int) (0 : Int) (0 : Int) (0 : Int) (0 : Int))) ++ [e] ++ List.drop (i + (1 : Nat)) (List.take i l ++ List.replicate (List.length l + (1 : Nat) - i) (Entity.mk (0 : Int) (0 : Int) (0 : Int) (0 : Int) (0 : Int) (0 : Int) (0 : Int) (0 : Int) (0 : Int))))) ≤ List.length (List.map Entity.enc (List.take i (List.take i l ++ List.replicate (List.length l + (1 : Nat) - i) (Entity.mk (0 : Int) (0 : Int) (0 : Int) (0 : Int) (0 : Int) (0 : Int) (0 : Int) (0 : Int) (0 : Int))) ++ [e] ++ List.drop (i + (1 : Nat)) (List.take i l ++ List.replicate (List.length l + (1 : Nat) - i) (Entity.mk (0 : Int) (0 : Int) (0 : Int) (0 : Int) (0 : Int) (0 : Int) (0 : Int) (0 : Int) (0 : Int)))))), .n (0 + (i + 1)) (i + 1), .n (List.length (List.map Entity.enc (List.take i (List.take i l ++ List.replicate (List.length l + 1 - i) (Entity.mk 0 0 0 0 0 0 0 0 0)) ++ [e] ++ List.drop (i + 1) (List.take i l ++ List.replicate (List.length l + 1 - i) (Entity.mk 0 0 0 0 0 0 0 0 0)))) - (i + 1)) (i + (List.length l + 1 - i) - (i + 1))]) (by kernel_rfl) ⟨o_w ⟨(by (simp [room, appendMax]; omega)), (by omega)⟩, o_n (by omega), o_n (by (simp; omega)), o_n (by (simp; omega)), o_l (nm_eq (nm_app (nm_app (nm_take rfl) (nm_take rfl)) (nm_drop rfl)) (by kernel_rfl)), o_i (w64 (by (simp [room, appendMax]; omega))), o_w (by (simp [room, appendMax]; omega)), o_n (by kernel_rfl), o_w ⟨(by (simp [room, appendMax]; omega)), (by omega)⟩, o_n (by omega), o_n (by (simp; omega)), trivial⟩ ?_
      refine gs (l := [.w ((0 : Int) ≤ (↑i : Int)), .n (Int.toNat (↑i : Int)) i, .b (decide (c2 - List.length (List.map Entity.enc l) = 0)) true, .w (i ≤ List.length (List.map Entity.enc l) ∧ (0 : Nat) + List.length (List.map Entity.enc l) ≤ List.length (List.map Entity.enc l)), .n (0 + i) i, .n (List.length (List.map Entity.enc l) - i) (List.length l - i), .n (min (List.length (List.take (List.length l - i) (List.drop i (List.map Entity.enc l)))) (i + (List.length l + 1 - i) - (i + 1))) (List.length l - i), .t (T.sl 0 (List.take (i + 1) (List.map Entity.enc (List.take i (List.take i l ++ List.replicate (List.length l + 1 - i) (Entity.mk 0 0 0 0 0 0 0 0 0)) ++ [e] ++ List.drop (i + 1) (List.take i l ++ List.replicate (List.length l + 1 - i) (Entity.mk 0 0 0 0 0 0 0 0 0)))) ++ List.take (List.length l - i) (List.take (List.length l - i) (List.drop i (List.map Entity.enc l))) ++ List.drop (i + 1 + (List.length l - i)) (List.map Entity.enc (List.take i (List.take i l ++ List.replicate (List.length l + 1 - i) (Entity.mk 0 0 0 0 0 0 0 0 0)) ++ [e] ++ List.drop (i + 1) (List.take i l ++ List.replicate (List.length l + 1 - i) (Entity.mk 0 0 0 0 0 0 0 0 0)))))) (T.sl 0 (List.map Entity.enc (List.take (i + 1) (List.take i (List.take i l ++ List.replicate (List.length l + 1 - i) (Entity.mk 0 0 0 0 0 0 0 0 0)) ++ [e] ++ List.drop (i + 1) (List.take i l ++ List.replicate (List.length l + 1 - i) (Entity.mk 0 0 0 0 0 0 0 0 0))) ++ List.take (List.length l - i) (List.take (List.length l - i) (List.drop i l)) ++ List.drop (i + 1 + (List.length l - i)) (List.take i (List.take i l ++ List.replicate (List.length l + 1 - i) (Entity.mk 0 0 0 0 0 0 0 0 0)) ++ [e] ++ List.drop (i + 1) (List.take i l ++ List.replicate (List.length l + 1 - i) (Entity.mk 0 0 0 0 0 0 0 0 0))))))]) (by kernel_rfl) ⟨o_w (by omega), o_n (by kernel_rfl), t_brp (by (simp; omega)), o_w ⟨(by (simp [room, appendMax]; omega)), (by omega)⟩, o_n (by omega), o_n (by simp), o_n (by (simp; omega)), o_l (nm_app (nm_app (nm_take rfl) (nm_take (nm_take (nm_drop rfl)))) (nm_drop rfl)), trivial⟩ ?_
      refine rt (a := Res.mk Ex.ret [V.all 1 none] [Ob.dead, Ob.arr 9 (List.map Entity.enc (List.take (i + 1) (List.take i (List.take i l ++ List.replicate (List.length l + 1 - i) (Entity.mk 0 0 0 0 0 0 0 0 0)) ++ [e] ++ List.drop (i + 1) (List.take i l ++ List.replicate (List.length l + 1 - i) (Entity.mk 0 0 0 0 0 0 0 0 0))) ++ List.take (List.length l - i) (List.take (List.length l - i) (List.drop i l)) ++ List.drop (i + 1 + (List.length l - i)) (List.take i (List.take i l ++ List.replicate (List.length l + 1 - i) (Entity.mk 0 0 0 0 0 0 0 0 0)) ++ [e] ++ List.drop (i + 1) (List.take i l ++ List.replicate (List.length l + 1 - i) (Entity.mk 0 0 0 0 0 0 0 0 0))))) none false]) (by kernel_rfl) ?_
      (refine res_arr ?_; first | (simp only [List.map_cons, List.map_nil]; rw [insert_any' _ _ _ _ _ (by simp) (by omega)]; simp; done) | (have hq : i = l.length := by omega; subst hq; simp; done) | (apply List.ext_getElem?; grind))
    · refine gs (l := [.i IntKind.i64 ((↑(List.length l) : Int) + 1) ((↑(List.length l + 1) : Int)), .w ((0 : Int) ≤ (↑(List.length l + (1 : Nat)) : Int)), .n (Int.toNat (↑(List.length l + 1) : Int)) (List.length l + 1), .b (decide (c2 - List.length (List.map Entity.enc l) = 0)) false, .w ((0 : Nat) ≤ List.length l + (1 : Nat) ∧ (0 : Nat) + (List.length l + (1 : Nat)) ≤ List.length (List.map Entity.enc l) + (c2 - List.length (List.map Entity.enc l))), .b (decide (0 + (List.length l + 1) ≤ List.length (List.map Entity.enc l))) false, .l 0, .n (List.length l + 1 - 0) (List.length l + 1), .i IntKind.i64 ((↑i : Int) + 1) ((↑(i + 1) : Int)), .w ((0 : Int) ≤ (↑(i + (1 : Nat)) : Int)), .n (Int.toNat (↑(i + 1) : Int)) (i + 1), .b (decide (0 = 0)) true, .w (i + (1 : Nat) ≤ List.length l + (1 : Nat) ∧ (0 : Nat) + (List.length l + (1 : Nat)) ≤ List.length (List.map Entity.enc l ++ List.replicate (c2 - List.length (List.map Entity.enc l)) T.any)), .n (0 + (i + 1)) (i + 1), .l (List.length l + 1 - (i + 1)), .b (!false) true]) (by kernel_rfl) ⟨o_i (w64 (by (simp [room, appendMax]; omega))), o_w (by (simp [room, appendMax]; omega)), o_n (by kernel_rfl), f_brp (by (simp; omega)), o_w ⟨(by omega), (by (simp [room, appendMax]; omega))⟩, f_brp (by simp), o_n (by kernel_rfl), o_i (w64 (by (simp [room, appendMax]; omega))), o_w (by (simp [room, appendMax]; omega)), o_n (by kernel_rfl), o_b (by kernel_rfl), o_w ⟨(by (simp [room, appendMax]; omega)), (by (simp [room, appendMax]; omega))⟩, o_n (by omega), o_b (by kernel_rfl), trivial⟩ ?_
      refine gs (l := [.i IntKind.i64 ((↑i : Int) + 1) ((↑(i + 1) : Int)), .w ((0 : Int) ≤ (↑(i + (1 : Nat)) : Int)), .n (Int.toNat (↑(i + 1) : Int)) (i + 1), .b (decide (0 = 0)) true, .w (i + (1 : Nat) ≤ List.length l + (1 : Nat) ∧ (0 : Nat) + (List.length l + (1 : Nat)) ≤ List.length (List.map Entity.enc l ++ List.replicate (c2 - List.length (List.map Entity.enc l)) T.any)), .n (0 + (i + 1)) (i + 1), .l (List.length l + 1 - (i + 1)), .w ((0 : Int) ≤ (↑i : Int)), .n (Int.toNat (↑i : Int)) i, .b (decide (0 = 0)) true, .w (i ≤ List.length l + (1 : Nat) ∧ (0 : Nat) + (List.length l + (1 : Nat)) ≤ List.length (List.map Entity.enc l ++ List.replicate (c2 - List.length (List.map Entity.enc l)) T.any)), .n (0 + i) i, .l (List.length l + 1 - i), .n (min (List.length (List.take (List.length l + 1 - i) (List.drop i (List.map Entity.enc l ++ List.replicate (c2 - List.length (List.map Entity.enc l)) T.any)))) (List.length l + 1 - (i + 1))) (List.length l + 1 - (i + 1)), .s (T.sl 0 (List.take (i + 1) (List.map Entity.enc l ++ List.replicate (c2 - List.length (List.map Entity.enc l)) T.any) ++ List.take (List.length l + 1 - (i + 1)) (List.take (List.length l + 1 - i) (List.drop i (List.map Entity.enc l ++ List.replicate (c2 - List.length (List.map Entity.enc l)) T.any))) ++ List.drop (i + 1 + (List.length l + 1 - (i + 1))) (List.map Entity.enc l ++ List.replicate (c2 - List.length (List.map Entity.enc l)) T.any))), .w ((0 : Int) ≤ (↑i : Int))]) (by kernel_rfl) ⟨o_i (w64 (by (simp [room, appendMax]; omega))), o_w (by (simp [room, appendMax]; omega)), o_n (by kernel_rfl), o_b (by kernel_rfl), o_w ⟨(by (simp [room, appendMax]; omega)), (by (simp [room, appendMax]; omega))⟩, o_n (by omega), o_w (by omega), o_n (by kernel_rfl), o_b (by kernel_rfl), o_w ⟨(by omega), (by (simp [room, appendMax]; omega))⟩, o_n (by omega), o_n (by (simp; omega)), o_w (by omega), trivial⟩ ?_
      refine gs (l := [.n (Int.toNat (↑i : Int)) i, .b (decide (0 = 0)) true, .w (i ≤ List.length l + (1 : Nat) ∧ (0 : Nat) + (List.length l + (1 : Nat)) ≤ List.length (List.take (i + (1 : Nat)) (List.map Entity.enc l ++ List.replicate (c2 - List.length (List.map Entity.enc l)) T.any) ++ List.take (List.length l + (1 : Nat) - (i + (1 : Nat))) (List.take (List.length l + (1 : Nat) - i) (List.drop i (List.map Entity.enc l ++ List.replicate (c2 - List.length (List.map Entity.enc l)) T.any))) ++ List.drop (i + (1 : Nat) + (List.length l + (1 : Nat) - (i + (1 : Nat)))) (List.map Entity.enc l ++ List.replicate (c2 - List.length (List.map Entity.enc l)) T.any))), .n (0 + i) i, .l (List.length l + 1 - i), .n (min (List.length (List.map Entity.enc [e])) (List.length l + 1 - i)) 1, .s (T.sl 0 (List.take i (List.take (i + 1) (List.map Entity.enc l ++ List.replicate (c2 - List.length (List.map Entity.enc l)) T.any) ++ List.take (List.length l + 1 - (i + 1)) (List.take (List.length l + 1 - i) (List.drop i (List.map Entity.enc l ++ List.replicate (c2 - List.length (List.map Entity.enc l)) T.any))) ++ List.drop (i + 1 + (List.length l + 1 - (i + 1))) (List.map Entity.enc l ++ List.replicate (c2 - List.length (List.map Entity.enc l)) T.any)) ++ List.take 1 (List.map Entity.enc [e]) ++ List.drop (i + 1) (List.take (i + 1) (List.map Entity.enc l ++ List.replicate (c2 - List.length (List.map Entity.enc l)) T.any) ++ List.take (List.length l + 1 - (i + 1)) (List.take (List.length l + 1 - i) (List.drop i (List.map Entity.enc l ++ List.replicate (c2 - List.length (List.map Entity.enc l)) T.any))) ++ List.drop (i + 1 + (List.length l + 1 - (i + 1))) (List.map Entity.enc l ++ List.replicate (c2 - List.length (List.map Entity.enc l)) T.any)))), .s (T.sl 0 (List.take (List.length l + 1) (List.take i (List.take (i + 1) (List.map Entity.enc l ++ List.replicate (c2 - List.length (List.map Entity.enc l)) T.any) ++ List.take (List.length l + 1 - (i + 1)) (List.take (List.length l + 1 - i) (List.drop i (List.map Entity.enc l ++ List.replicate (c2 - List.length (List.map Entity.enc l)) T.any))) ++ List.drop (i + 1 + (List.length l + 1 - (i + 1))) (List.map Entity.enc l ++ List.replicate (c2 - List.length (List.map Entity.enc l)) T.any)) ++ List.take 1 (List.map Entity.enc [e]) ++ List.drop (i + 1) (List.take (i + 1) (List.map Entity.enc l ++ List.replicate (c2 - List.length (List.map Entity.enc l)) T.any) ++ List.take (List.length l + 1 - (i + 1)) (List.take (List.length l + 1 - i) (List.drop i (List.map Entity.enc l ++ List.replicate (c2 - List.length (List.map Entity.enc l)) T.any))) ++ List.drop (i + 1 + (List.length l + 1 - (i + 1))) (List.map Entity.enc l ++ List.replicate (c2 - List.length (List.map Entity.enc l)) T.any)))))]) (by kernel_rfl) ⟨o_n (by kernel_rfl), o_b (by kernel_rfl), o_w ⟨(by omega), (by (simp [room, appendMax]; omega))⟩, o_n (by omega), o_n (by (simp; omega)), trivial⟩ ?_
      refine rt (a := Res.mk Ex.ret [V.all 1 none] [Ob.dead, Ob.arr 9 (List.take (List.length l + 1) (List.take i (List.take (i + 1) (List.map Entity.enc l ++ List.replicate (c2 - List.length (List.map Entity.enc l)) T.any) ++ List.take (List.length l + 1 - (i + 1)) (List.take (List.length l + 1 - i) (List.drop i (List.map Entity.enc l ++ List.replicate (c2 - List.length (List.map Entity.enc l)) T.any))) ++ List.drop (i + 1 + (List.length l + 1 - (i + 1))) (List.map Entity.enc l ++ List.replicate (c2 - List.length (List.map Entity.enc l)) T.any)) ++ List.take 1 (List.map Entity.enc [e]) ++ List.drop (i + 1) (List.take (i + 1) (List.map Entity.enc l ++ List.replicate (c2 - List.length (List.map Entity.enc l)) T.any) ++ List.take (List.length l + 1 - (i + 1)) (List.take (List.length l + 1 - i) (List.drop i (List.map Entity.enc l ++ List.replicate (c2 - List.length (List.map Entity.enc l)) T.any))) ++ List.drop (i + 1 + (List.length l + 1 - (i + 1))) (List.map Entity.enc l ++ List.replicate (c2 - List.length (List.map Entity.enc l)) T.any)))) none false]) (by kernel_rfl) ?_
      (refine res_arr ?_; first | (simp only [List.map_cons, List.map_nil]; rw [insert_any' _ _ _ _ _ (by simp) (by omega)]; simp; done) | (have hq : i = l.length := by omega; subst hq; simp; done) | (apply List.ext_getElem?; grind))
theorem f_slices_Clone_Cross (l : List Cross) (hl : small l) : Is cx (.call 71 [.t (.sl 15 (l.map Cross.enc))] []) ⟨.ret, [.all 0 none], [.arr 15 (l.map Cross.enc) none false]⟩ := by
  unfold small at hl
  refine Wp.ev ?_
  refine cp (lo := 0) (by kernel_rfl) (fun c1 hc1 => ?_)
  refine brp (p := c1 = 0 ∧ List.length (List.map Cross.enc l) = 0) (by kernel_rfl) (fun h2 => ?_) (fun h2 => ?_)
  · refine rt (a := Res.mk Ex.ret [V.all 0 none] [Ob.arr 15 [] none false]) (by kernel_rfl) ?_
    (first | rfl | (have : l = [] := List.length_eq_zero_iff.1 (by simp_all; done); subst this; rfl))
  · refine gs (l := [.w ((0 : Nat) < (120 : Nat)), .s (T.sl 0 (List.map Cross.enc l)), .s (T.sl 0 (List.map Cross.enc l)), .w (room (List.length (List.map Cross.enc l)) (120 : Nat))]) (by kernel_rfl) ⟨o_w (by omega), o_w (by (simp [room, appendMax]; omega)), trivial⟩ ?_
    refine rt (a := Res.mk Ex.ret [V.all 0 none] [Ob.arr 15 (List.map Cross.enc l) none false]) (by kernel_rfl) ?_
    (first | rfl | (have : l = [] := List.length_eq_zero_iff.1 (by simp_all; done); subst this; rfl))
theorem f_slices_IndexFunc_loop_Cross (l : List Cross) (g : Nat) (cs : List T) (p : Cross → Bool) (hb : isFnB cx g = true) (hn : small l)
    (hg : ∀ e ∈ l, Fn cx g (e.enc :: cs) (.bool (p e))) : ∀ (d i : Nat), i + d = l.length →
    Is cx (.loop 88 [0, 1, 0, 1] 0 [.t (.sl 15 (l.map Cross.enc)), .t (.clo g cs), vi 0, vi l.length, vi i] [])
      (match (l.drop i).findIdx? p with
        | some j => ⟨.ret, [.t (.sl 15 (l.map Cross.enc)), .t (.clo g cs), vi (i + j : Nat), vi l.length, vi (i + j : Nat)], []⟩
        | none => ⟨.exit 0, [.t (.sl 15 (l.map Cross.enc)), .t (.clo g cs), vi 0, vi l.length, vi l.length], []⟩) := by
  unfold small at hn
  intro d
  induction d with
  | zero =>
    intro i hi
    refine Wp.ev ?_
    refine gs (l := [.b (decide ((↑i : Int) < (↑(List.length l) : Int))) false]) (by kernel_rfl) ⟨f_brp (by omega), trivial⟩ ?_
    refine rt (a := Res.mk (Ex.exit 0) [V.t (T.sl 15 (List.map Cross.enc l)), V.t (T.clo g cs), vi 0, vi (↑(List.length l) : Int), vi (↑i : Int)] []) (by kernel_rfl) ?_
    ((have : i = l.length := by omega); subst this; rw [drop_end (Nat.le_refl _)]; rfl)
  | succ d ih =>
    intro i hi
    have hlt : i < l.length := by omega
    have hy := hg _ (gt_mem hlt)
    have ih1 := ih (i + 1) (by omega)
    clear ih hg
    rw [drop_gt hlt, List.findIdx?_cons]
    cases hp : p (gt l i) with
    | true =>
      rw [hp] at hy
      refine Wp.ev ?_
      refine gs (l := [.b (decide ((↑i : Int) < (↑(List.length l) : Int))) true, .w ((0 : Int) ≤ (↑i : Int)), .n (Int.toNat (↑i : Int)) i, .g (List.map Cross.enc l) i (Cross.enc (gt l i)), .w (isFnB cx g = true), .a (Task.call g (V.t (Cross.enc (gt l i)) :: List.map V.t cs) []) (Res.mk Ex.ret [vb true] []), .tt]) (by kernel_rfl) ⟨t_brp (by omega), o_w (by omega), o_n (by kernel_rfl), o_gt rfl (by assumption) (by intro h; cases h), o_w (by assumption), o_a hy, trivial⟩ ?_
      refine rt (a := Res.mk Ex.ret [V.t (T.sl 15 (List.map Cross.enc l)), V.t (T.clo g cs), vi (↑i : Int), vi (↑(List.length l) : Int), vi (↑i : Int)] []) (by kernel_rfl) ?_
      rfl
    | false =>
      rw [hp] at hy
      simp only [Bool.false_eq_true, if_false]
      cases hq : (l.drop (i+1)).findIdx? p with
      | none =>
        rw [hq] at ih1
        refine Wp.ev ?_
        refine gs (l := [.b (decide ((↑i : Int) < (↑(List.length l) : Int))) true, .w ((0 : Int) ≤ (↑i : Int)), .n (Int.toNat (↑i : Int)) i, .g (List.map Cross.enc l) i (Cross.enc (gt l i)), .w (isFnB cx g = true), .a (Task.call g (V.t (Cross.enc (gt l i)) :: List.map V.t cs) []) (Res.mk Ex.ret [vb false] []), .ff, .i IntKind.i64 ((↑i : Int) + 1) ((↑(i + 1) : Int)), .a (Task.loop 88 [0, 1, 0, 1] 0 [V.t (T.sl 15 (List.map Cross.enc l)), V.t (T.clo g cs), vi 0, vi (↑(List.length l) : Int), vi (↑(i + 1) : Int)] []) (Res.mk (Ex.exit 0) [V.t (T.sl 15 (List.map Cross.enc l)), V.t (T.clo g cs), vi 0, vi (↑(List.length l) : Int), vi (↑(List.length l) : Int)] [])]) (by kernel_rfl) ⟨t_brp (by omega), o_w (by omega), o_n (by kernel_rfl), o_gt rfl (by assumption) (by intro h; cases h), o_w (by assumption), o_a hy, o_i (w64 (by omega)), o_a ih1, trivial⟩ ?_
        refine rt (a := Res.mk (Ex.exit 0) [V.t (T.sl 15 (List.map Cross.enc l)), V.t (T.clo g cs), vi 0, vi (↑(List.length l) : Int), vi (↑(List.length l) : Int)] []) (by kernel_rfl) ?_
        rfl
      | some j =>
        rw [hq] at ih1
        refine Wp.ev ?_
        refine gs (l := [.b (decide ((↑i : Int) < (↑(List.length l) : Int))) true, .w ((0 : Int) ≤ (↑i : Int)), .n (Int.toNat (↑i : Int)) i, .g (List.map Cross.enc l) i (Cross.enc (gt l i)), .w (isFnB cx g = true), .a (Task.call g (V.t (Cross.enc (gt l i)) :: List.map V.t cs) []) (Res.mk Ex.ret [vb false] []), .ff, .i IntKind.i64 ((↑i : Int) + 1) ((↑(i + 1) : Int)), .a (Task.loop 88 [0, 1, 0, 1] 0 [V.t (T.sl 15 (List.map Cross.enc l)), V.t (T.clo g cs), vi 0, vi (↑(List.length l) : Int), vi (↑(i + 1) : Int)] []) (Res.mk Ex.ret [V.t (T.sl 15 (List.map Cross.enc l)), V.t (T.clo g cs), vi (↑(i + 1 + j) : Int), vi (↑(List.length l) : Int), vi (↑(i + 1 + j) : Int)] [])]) (by kernel_rfl) ⟨t_brp (by omega), o_w (by omega), o_n (by kernel_rfl), o_gt rfl (by assumption) (by intro h; cases h), o_w (by assumption), o_a hy, o_i (w64 (by omega)), o_a ih1, trivial⟩ ?_
        refine rt (a := Res.mk Ex.ret [V.t (T.sl 15 (List.map Cross.enc l)), V.t (T.clo g cs), vi (↑(i + 1 + j) : Int), vi (↑(List.length l) : Int), vi (↑(i + 1 + j) : Int)] []) (by kernel_rfl) ?_
        simp [Nat.add_assoc, Nat.add_comm 1 j]
theorem f_slices_IndexFunc_Cross (l : List Cross) (g : Nat) (cs : List T) (p : Cross → Bool) (hb : isFnB cx g = true) (hn : small l)
    (hg : ∀ e ∈ l, Fn cx g (e.enc :: cs) (.bool (p e))) : Fn cx 88 [.sl 15 (l.map Cross.enc), .clo g cs] (ti (pos p l)) := by
  have h := f_slices_IndexFunc_loop_Cross l g cs p hb hn hg l.length 0 (by omega)
  clear hg
  rw [List.drop_zero] at h
  unfold pos
  cases hq : l.findIdx? p with
  | none =>
    rw [hq] at h
    refine Wp.ev ?_
    refine gs (l := [.n (List.length (List.map Cross.enc l)) (List.length l), .a (Task.loop 88 [0, 1, 0, 1] 0 [V.t (T.sl 15 (List.map Cross.enc l)), V.t (T.clo g cs), vi 0, vi (↑(List.length l) : Int), vi 0] []) (Res.mk (Ex.exit 0) [V.t (T.sl 15 (List.map Cross.enc l)), V.t (T.clo g cs), vi 0, vi (↑(List.length l) : Int), vi (↑(List.length l) : Int)] [])]) (by kernel_rfl) ⟨o_n (by simp), o_a h, trivial⟩ ?_
    refine rt (a := Res.mk Ex.ret [vi (-1)] []) (by kernel_rfl) ?_
    rfl
  | some j =>
    rw [hq] at h
    refine Wp.ev ?_
    refine gs (l := [.n (List.length (List.map Cross.enc l)) (List.length l), .a (Task.loop 88 [0, 1, 0, 1] 0 [V.t (T.sl 15 (List.map Cross.enc l)), V.t (T.clo g cs), vi 0, vi (↑(List.length l) : Int), vi 0] []) (Res.mk Ex.ret [V.t (T.sl 15 (List.map Cross.enc l)), V.t (T.clo g cs), vi (↑(0 + j) : Int), vi (↑(List.length l) : Int), vi (↑(0 + j) : Int)] [])]) (by kernel_rfl) ⟨o_n (by simp), o_a h, trivial⟩ ?_
    refine rt (a := Res.mk Ex.ret [vi (↑(0 + j) : Int)] []) (by kernel_rfl) ?_
    simp
end Go.Eva.S1

/- Generic functions of slices, more. -/
namespace Go.Eva.S1
theorem f_slices_DeleteFunc_loop_Entity (l : List Entity) (g : Nat) (cs : List T) (p : Entity → Bool) (hb : isFnB cx g = true) (hn : small l)
    (hg : ∀ e ∈ l, Fn cx g (e.enc :: cs) (.bool (p e))) : ∀ (d i j : Nat) (A : List Entity), j + d = l.length → A.length = l.length → A.drop j = l.drop j → i < j →
    Is cx (.loop 52 [0, 1, 0, 1, 1, 1] 1 [.all 0 none, .t (.clo g cs), vi i, vi j] [.arr 9 (A.map Entity.enc) none false])
      ⟨.exit 0, [.all 0 none, .t (.clo g cs), vi (dfl p A i (l.drop j)).1, vi l.length], [.arr 9 ((dfl p A i (l.drop j)).2.map Entity.enc) none false]⟩ := by
  unfold small at hn
  intro d
  induction d with
  | zero =>
    intro i j A hj hA hd hi
    have hl := drop_end (l := l) (i := j) (by omega)
    rw [hl]
    refine Wp.ev ?_
    refine gs (l := [.n (List.length (List.map Entity.enc A)) (List.length A), .b (decide ((↑j : Int) < (↑(List.length A) : Int))) false]) (by kernel_rfl) ⟨o_n (by simp), f_brp (by omega), trivial⟩ ?_
    refine rt (a := Res.mk (Ex.exit 0) [V.all 0 none, V.t (T.clo g cs), vi (↑i : Int), vi (↑j : Int)] [Ob.arr 9 (List.map Entity.enc A) none false]) (by kernel_rfl) ?_
    ((have hq : j = l.length := by omega); subst hq; simp [dfl])
  | succ d ih =>
    intro i j A hj hA hd hi
    have hlt : j < l.length := by omega
    have hy := hg _ (gt_mem hlt)
    have hx : A[j]? = some (gt l j) := by rw [← List.head?_drop, hd, drop_gt hlt]; rfl
    have ih1 := ih i (j + 1) A (by omega) hA (by rw [← List.drop_drop, hd, List.drop_drop]) (by omega)
    have ih2 := ih (i + 1) (j + 1) (A.set i (gt l j)) (by omega) (by simpa using hA) (by rw [List.drop_set_of_lt (by omega), ← List.drop_drop, hd, List.drop_drop]) (by omega)
    clear ih hg
    rw [drop_gt hlt]
    cases hp : p (gt l j) with
    | true =>
      rw [hp] at hy
      refine Wp.ev ?_
      refine gs (l := [.n (List.length (List.map Entity.enc A)) (List.length A), .b (decide ((↑j : Int) < (↑(List.length A) : Int))) true, .w ((0 : Int) ≤ (↑j : Int)), .n (Int.toNat (↑j : Int)) j, .w (j < List.length (List.map Entity.enc A)), .g (List.map Entity.enc A) j (Entity.enc (gt l j)), .w (isFnB cx g = true), .a (Task.call g (V.t (Entity.enc (gt l j)) :: List.map V.t cs) []) (Res.mk Ex.ret [vb true] []), .b (!true) false, .i IntKind.i64 ((↑j : Int) + 1) ((↑(j + 1) : Int)), .a (Task.loop 52 [0, 1, 0, 1, 1, 1] 1 [V.all 0 none, V.t (T.clo g cs), vi (↑i : Int), vi (↑(j + 1) : Int)] [Ob.arr 9 (List.map Entity.enc A) none false]) (Res.mk (Ex.exit 0) [V.all 0 none, V.t (T.clo g cs), vi (↑(dfl p A i (List.drop (j + 1) l)).fst : Int), vi (↑(List.length l) : Int)] [Ob.arr 9 (List.map Entity.enc (dfl p A i (List.drop (j + 1) l)).snd) none false])]) (by kernel_rfl) ⟨o_n (by simp), t_brp (by omega), o_w (by omega), o_n (by kernel_rfl), o_w (by (simp; omega)), o_gm rfl hx (by intro h; cases h), o_w (by assumption), o_a hy, o_b (by kernel_rfl), o_i (w64 (by omega)), o_a ih1, trivial⟩ ?_
      refine rt (a := Res.mk (Ex.exit 0) [V.all 0 none, V.t (T.clo g cs), vi (↑(dfl p A i (List.drop (j + 1) l)).fst : Int), vi (↑(List.length l) : Int)] [Ob.arr 9 (List.map Entity.enc (dfl p A i (List.drop (j + 1) l)).snd) none false]) (by kernel_rfl) ?_
      simp [dfl, hp]
    | false =>
      rw [hp] at hy
      refine Wp.ev ?_
      refine gs (l := [.n (List.length (List.map Entity.enc A)) (List.length A), .b (decide ((↑j : Int) < (↑(List.length A) : Int))) true, .w ((0 : Int) ≤ (↑j : Int)), .n (Int.toNat (↑j : Int)) j, .w (j < List.length (List.map Entity.enc A)), .g (List.map Entity.enc A) j (Entity.enc (gt l j)), .w (isFnB cx g = true), .a (Task.call g (V.t (Entity.enc (gt l j)) :: List.map V.t cs) []) (Res.mk Ex.ret [vb false] []), .b (!false) true, .w ((0 : Int) ≤ (↑i : Int)), .n (Int.toNat (↑i : Int)) i, .w (i < List.length (List.map Entity.enc A)), .w (i < List.length (List.map Entity.enc A)), .t (T.sl 0 (List.set (List.map Entity.enc A) i (Entity.enc (gt l j)))) (T.sl 0 (List.map Entity.enc (List.set A i (gt l j)))), .i IntKind.i64 ((↑i : Int) + 1) ((↑(i + 1) : Int)), .i IntKind.i64 ((↑j : Int) + 1) ((↑(j + 1) : Int))]) (by kernel_rfl) ⟨o_n (by simp), t_brp (by omega), o_w (by omega), o_n (by kernel_rfl), o_w (by (simp; omega)), o_gm rfl hx (by intro h; cases h), o_w (by assumption), o_a hy, o_b (by kernel_rfl), o_w (by omega), o_n (by kernel_rfl), o_w (by (simp; omega)), o_w (by (simp; omega)), o_l (nm_set rfl rfl), o_i (w64 (by omega)), o_i (w64 (by omega)), trivial⟩ ?_
      refine gs (l := [.a (Task.loop 52 [0, 1, 0, 1, 1, 1] 1 [V.all 0 none, V.t (T.clo g cs), vi (↑(i + 1) : Int), vi (↑(j + 1) : Int)] [Ob.arr 9 (List.map Entity.enc (List.set A i (gt l j))) none false]) (Res.mk (Ex.exit 0) [V.all 0 none, V.t (T.clo g cs), vi (↑(dfl p (List.set A i (gt l j)) (i + 1) (List.drop (j + 1) l)).fst : Int), vi (↑(List.length l) : Int)] [Ob.arr 9 (List.map Entity.enc (dfl p (List.set A i (gt l j)) (i + 1) (List.drop (j + 1) l)).snd) none false])]) (by kernel_rfl) ⟨o_a ih2, trivial⟩ ?_
      refine rt (a := Res.mk (Ex.exit 0) [V.all 0 none, V.t (T.clo g cs), vi (↑(dfl p (List.set A i (gt l j)) (i + 1) (List.drop (j + 1) l)).fst : Int), vi (↑(List.length l) : Int)] [Ob.arr 9 (List.map Entity.enc (dfl p (List.set A i (gt l j)) (i + 1) (List.drop (j + 1) l)).snd) none false]) (by kernel_rfl) ?_
      simp [dfl, hp]
theorem f_slices_DeleteFunc_Entity (l : List Entity) (g : Nat) (cs : List T) (p : Entity → Bool) (hb : isFnB cx g = true) (hn : small l)
    (hg : ∀ e ∈ l, Fn cx g (e.enc :: cs) (.bool (p e))) : Is cx (.call 52 [.all 0 none, .t (.clo g cs)] [.arr 9 (l.map Entity.enc) none false])
      ⟨.ret, [.all 1 none], [.dead, .arr 9 ((l.filter fun e => !p e).map Entity.enc) none false]⟩ := by
  have h0 := f_slices_IndexFunc_Entity l g cs p hb hn hg
  have h1 := f_slices_DeleteFunc_loop_Entity l g cs p hb hn hg
  clear hg
  unfold pos at h0
  have hn' : l.length ≤ 1000000 := hn
  cases hq : l.findIdx? p with
  | none =>
    rw [hq] at h0; simp only at h0
    have hf := find_none hq
    refine Wp.ev ?_
    refine gs (l := [.a (Task.call 48 [V.t (T.sl 9 (List.map Entity.enc l)), V.t (T.clo g cs)] []) (Res.mk Ex.ret [vi (-1)] []), .b (flats [ti (-1)]) true, .b (-1 == -1) true]) (by kernel_rfl) ⟨o_a h0, o_b (by kernel_rfl), o_b (by kernel_rfl), trivial⟩ ?_
    refine rt (a := Res.mk Ex.ret [V.all 1 none] [Ob.dead, Ob.arr 9 (List.map Entity.enc l) none false]) (by kernel_rfl) ?_
    (refine res_arr ?_; rw [hf])
  | some k =>
    rw [hq] at h0; simp only at h0
    obtain ⟨hk, hf⟩ := find_some hq
    have h1' := h1 (l.length - (k + 1)) k (k + 1) l (by omega) rfl rfl (by omega)
    clear h1
    have hl := @dfl_len _ p (l.drop (k + 1)) l k
    have ht := @dfl_take _ p (l.drop (k + 1)) l k (by simp; omega)
    simp only [List.length_drop] at hl
    generalize hr : dfl p l k (l.drop (k + 1)) = r at *
    obtain ⟨i, A⟩ := r
    simp only at hl ht h1'
    refine Wp.ev ?_
    refine gs (l := [.a (Task.call 48 [V.t (T.sl 9 (List.map Entity.enc l)), V.t (T.clo g cs)] []) (Res.mk Ex.ret [vi (↑k : Int)] []), .b (flats [ti (↑k : Int)]) true, .b ((↑k : Int) == -1) false, .i IntKind.i64 ((↑k : Int) + 1) ((↑(k + 1) : Int)), .a (Task.loop 52 [0, 1, 0, 1, 1, 1] 1 [V.all 0 none, V.t (T.clo g cs), vi (↑k : Int), vi (↑(k + 1) : Int)] [Ob.arr 9 (List.map Entity.enc l) none false]) (Res.mk (Ex.exit 0) [V.all 0 none, V.t (T.clo g cs), vi (↑i : Int), vi (↑(List.length l) : Int)] [Ob.arr 9 (List.map Entity.enc A) none false]), .w ((0 : Int) ≤ (↑i : Int)), .n (Int.toNat (↑i : Int)) i, .w (i ≤ List.length (List.map Entity.enc A) ∧ List.length (List.map Entity.enc A) ≤ List.length (List.map Entity.enc A)), .n (0 + i) i, .n (List.length (List.map Entity.enc A) - i) (List.length A - i), .n (min (List.length (List.replicate (List.length A - i) (T.agg [ti 0, ti 0, ti 0, ti 0, ti 0, ti 0, ti 0, ti 0, ti 0]))) (List.length A - i)) (List.length A - i), .t (T.sl 0 (List.take i (List.map Entity.enc A) ++ List.take (List.length A - i) (List.replicate (List.length A - i) (T.agg [ti 0, ti 0, ti 0, ti 0, ti 0, ti 0, ti 0, ti 0, ti 0])) ++ List.drop (i + (List.length A - i)) (List.map Entity.enc A))) (T.sl 0 (List.map Entity.enc (List.take i A ++ List.replicate (List.length A - i) (Entity.mk 0 0 0 0 0 0 0 0 0) ++ List.drop (i + (List.length A - i)) A))), .w ((0 : Int) ≤ (↑i : Int)), .n (Int.toNat (↑i : Int)) i, .w ((0 : Nat) ≤ i ∧ i ≤ List.length (List.map Entity.enc (List.take i A ++ List.replicate (List.length A - i) (Entity.mk (0 : Int) (0 : Int) (0 : Int) (0 : Int) (0 : Int) (0 : Int) (0 : Int) (0 : Int) (0 : Int)) ++ List.drop (i + (List.length A - i)) A))), .l 0]) (by kernel_rfl) ⟨o_a h0, o_b (by kernel_rfl), o_b (by kernel_rfl), o_i (w64 (by omega)), o_a h1', o_w (by omega), o_n (by kernel_rfl), o_w ⟨(by (simp; omega)), (by omega)⟩, o_n (by omega), o_n (by simp), o_n (by simp), o_l (nm_eq (nm_app (nm_app (nm_take rfl) (nm_take (nm_rep (e := Entity.mk 0 0 0 0 0 0 0 0 0) rfl))) (nm_drop rfl)) (by simp)), o_w (by omega), o_n (by kernel_rfl), o_w ⟨(by omega), (by (simp; omega))⟩, trivial⟩ ?_
    refine gs (l := [.n (i - 0) i, .t (T.sl 0 (List.take i (List.map Entity.enc (List.take i A ++ List.replicate (List.length A - i) (Entity.mk 0 0 0 0 0 0 0 0 0) ++ List.drop (i + (List.length A - i)) A)))) (T.sl 0 (List.map Entity.enc (List.take i (List.take i A ++ List.replicate (List.length A - i) (Entity.mk 0 0 0 0 0 0 0 0 0) ++ List.drop (i + (List.length A - i)) A))))]) (by kernel_rfl) ⟨o_n (by kernel_rfl), o_l (nm_take rfl), trivial⟩ ?_
    refine rt (a := Res.mk Ex.ret [V.all 1 none] [Ob.dead, Ob.arr 9 (List.map Entity.enc (List.take i (List.take i A ++ List.replicate (List.length A - i) (Entity.mk 0 0 0 0 0 0 0 0 0) ++ List.drop (i + (List.length A - i)) A))) none false]) (by kernel_rfl) ?_
    (refine res_arr ?_; rw [hf, ← ht, List.append_assoc, List.take_append_of_le_length (by simp; omega), List.take_take, Nat.min_self])
theorem f_slices_DeleteFunc_loop_Cross (l : List Cross) (g : Nat) (cs : List T) (p : Cross → Bool) (hb : isFnB cx g = true) (hn : small l)
    (hg : ∀ e ∈ l, Fn cx g (e.enc :: cs) (.bool (p e))) : ∀ (d i j : Nat) (A : List Cross), j + d = l.length → A.length = l.length → A.drop j = l.drop j → i < j →
    Is cx (.loop 70 [0, 1, 0, 1, 1, 1] 1 [.all 0 none, .t (.clo g cs), vi i, vi j] [.arr 15 (A.map Cross.enc) none false])
      ⟨.exit 0, [.all 0 none, .t (.clo g cs), vi (dfl p A i (l.drop j)).1, vi l.length], [.arr 15 ((dfl p A i (l.drop j)).2.map Cross.enc) none false]⟩ := by
  unfold small at hn
  intro d
  induction d with
  | zero =>
    intro i j A hj hA hd hi
    have hl := drop_end (l := l) (i := j) (by omega)
    rw [hl]
    refine Wp.ev ?_
    refine gs (l := [.n (List.length (List.map Cross.enc A)) (List.length A), .b (decide ((↑j : Int) < (↑(List.length A) : Int))) false]) (by kernel_rfl) ⟨o_n (by simp), f_brp (by omega), trivial⟩ ?_
    refine rt (a := Res.mk (Ex.exit 0) [V.all 0 none, V.t (T.clo g cs), vi (↑i : Int), vi (↑j : Int)] [Ob.arr 15 (List.map Cross.enc A) none false]) (by kernel_rfl) ?_
    ((have hq : j = l.length := by omega); subst hq; simp [dfl])
  | succ d ih =>
    intro i j A hj hA hd hi
    have hlt : j < l.length := by omega
    have hy := hg _ (gt_mem hlt)
    have hx : A[j]? = some (gt l j) := by rw [← List.head?_drop, hd, drop_gt hlt]; rfl
    have ih1 := ih i (j + 1) A (by omega) hA (by rw [← List.drop_drop, hd, List.drop_drop]) (by omega)
    have ih2 := ih (i + 1) (j + 1) (A.set i (gt l j)) (by omega) (by simpa using hA) (by rw [List.drop_set_of_lt (by omega), ← List.drop_drop, hd, List.drop_drop]) (by omega)
    clear ih hg
    rw [drop_gt hlt]
    cases hp : p (gt l j) with
    | true =>
      rw [hp] at hy
      refine Wp.ev ?_
      refine gs (l := [.n (List.length (List.map Cross.enc A)) (List.length A), .b (decide ((↑j : Int) < (↑(List.length A) : Int))) true, .w ((0 : Int) ≤ (↑j : Int)), .n (Int.toNat (↑j : Int)) j, .w (j < List.length (List.map Cross.enc A)), .g (List.map Cross.enc A) j (Cross.enc (gt l j)), .w (isFnB cx g = true), .a (Task.call g (V.t (Cross.enc (gt l j)) :: List.map V.t cs) []) (Res.mk Ex.ret [vb true] []), .b (!true) false, .i IntKind.i64 ((↑j : Int) + 1) ((↑(j + 1) : Int)), .a (Task.loop 70 [0, 1, 0, 1, 1, 1] 1 [V.all 0 none, V.t (T.clo g cs), vi (↑i : Int), vi (↑(j + 1) : Int)] [Ob.arr 15 (List.map Cross.enc A) none false]) (Res.mk (Ex.exit 0) [V.all 0 none, V.t (T.clo g cs), vi (↑(dfl p A i (List.drop (j + 1) l)).fst : Int), vi (↑(List.length l) : Int)] [Ob.arr 15 (List.map Cross.enc (dfl p A i (List.drop (j + 1) l)).snd) none false])]) (by kernel_rfl) ⟨o_n (by simp), t_brp (by omega), o_w (by omega), o_n (by kernel_rfl), o_w (by (simp; omega)), o_gm rfl hx (by intro h; cases h), o_w (by assumption), o_a hy, o_b (by kernel_rfl), o_i (w64 (by omega)), o_a ih1, trivial⟩ ?_
      refine rt (a := Res.mk (Ex.exit 0) [V.all 0 none, V.t (T.clo g cs), vi (↑(dfl p A i (List.drop (j + 1) l)).fst : Int), vi (↑(List.length l) : Int)] [Ob.arr 15 (List.map Cross.enc (dfl p A i (List.drop (j + 1) l)).snd) none false]) (by kernel_rfl) ?_
      simp [dfl, hp]
    | false =>
      rw [hp] at hy
      refine Wp.ev ?_
      refine gs (l := [.n (List.length (List.map Cross.enc A)) (List.length A), .b (decide ((↑j : Int) < (↑(List.length A) : Int))) true, .w ((0 : Int) ≤ (↑j : Int)), .n (Int.toNat (↑j : Int)) j, .w (j < List.length (List.map Cross.enc A)), .g (List.map Cross.enc A) j (Cross.enc (gt l j)), .w (isFnB cx g = true), .a (Task.call g (V.t (Cross.enc (gt l j)) :: List.map V.t cs) []) (Res.mk Ex.ret [vb false] []), .b (!false) true, .w ((0 : Int) ≤ (↑i : Int)), .n (Int.toNat (↑i : Int)) i, .w (i < List.length (List.map Cross.enc A)), .w (i < List.length (List.map Cross.enc A)), .t (T.sl 0 (List.set (List.map Cross.enc A) i (Cross.enc (gt l j)))) (T.sl 0 (List.map Cross.enc (List.set A i (gt l j)))), .i IntKind.i64 ((↑i : Int) + 1) ((↑(i + 1) : Int)), .i IntKind.i64 ((↑j : Int) + 1) ((↑(j + 1) : Int))]) (by kernel_rfl) ⟨o_n (by simp), t_brp (by omega), o_w (by omega), o_n (by kernel_rfl), o_w (by (simp; omega)), o_gm rfl hx (by intro h; cases h), o_w (by assumption), o_a hy, o_b (by kernel_rfl), o_w (by omega), o_n (by kernel_rfl), o_w (by (simp; omega)), o_w (by (simp; omega)), o_l (nm_set rfl rfl), o_i (w64 (by omega)), o_i (w64 (by omega)), trivial⟩ ?_
      refine gs (l := [.a (Task.loop 70 [0, 1, 0, 1, 1, 1] 1 [V.all 0 none, V.t (T.clo g cs), vi (↑(i + 1) : Int), vi (↑(j + 1) : Int)] [Ob.arr 15 (List.map Cross.enc (List.set A i (gt l j))) none false]) (Res.mk (Ex.exit 0) [V.all 0 none, V.t (T.clo g cs), vi (↑(dfl p (List.set A i (gt l j)) (i + 1) (List.drop (j + 1) l)).fst : Int), vi (↑(List.length l) : Int)] [Ob.arr 15 (List.map Cross.enc (dfl p (List.set A i (gt l j)) (i + 1) (List.drop (j + 1) l)).snd) none false])]) (by kernel_rfl) ⟨o_a ih2, trivial⟩ ?_
      refine rt (a := Res.mk (Ex.exit 0) [V.all 0 none, V.t (T.clo g cs), vi (↑(dfl p (List.set A i (gt l j)) (i + 1) (List.drop (j + 1) l)).fst : Int), vi (↑(List.length l) : Int)] [Ob.arr 15 (List.map Cross.enc (dfl p (List.set A i (gt l j)) (i + 1) (List.drop (j + 1) l)).snd) none false]) (by kernel_rfl) ?_
      simp [dfl, hp]
theorem f_slices_DeleteFunc_Cross (l : List Cross) (g : Nat) (cs : List T) (p : Cross → Bool) (hb : isFnB cx g = true) (hn : small l)
    (hg : ∀ e ∈ l, Fn cx g (e.enc :: cs) (.bool (p e))) : Is cx (.call 70 [.all 0 none, .t (.clo g cs)] [.arr 15 (l.map Cross.enc) none false])
      ⟨.ret, [.all 1 none], [.dead, .arr 15 ((l.filter fun e => !p e).map Cross.enc) none false]⟩ := by
  have h0 := f_slices_IndexFunc_Cross l g cs p hb hn hg
  have h1 := f_slices_DeleteFunc_loop_Cross l g cs p hb hn hg
  clear hg
  unfold pos at h0
  have hn' : l.length ≤ 1000000 := hn
  cases hq : l.findIdx? p with
  | none =>
    rw [hq] at h0; simp only at h0
    have hf := find_none hq
    refine Wp.ev ?_
    refine gs (l := [.a (Task.call 88 [V.t (T.sl 15 (List.map Cross.enc l)), V.t (T.clo g cs)] []) (Res.mk Ex.ret [vi (-1)] []), .b (flats [ti (-1)]) true, .b (-1 == -1) true]) (by kernel_rfl) ⟨o_a h0, o_b (by kernel_rfl), o_b (by kernel_rfl), trivial⟩ ?_
    refine rt (a := Res.mk Ex.ret [V.all 1 none] [Ob.dead, Ob.arr 15 (List.map Cross.enc l) none false]) (by kernel_rfl) ?_
    (refine res_arr ?_; rw [hf])
  | some k =>
    rw [hq] at h0; simp only at h0
    obtain ⟨hk, hf⟩ := find_some hq
    have h1' := h1 (l.length - (k + 1)) k (k + 1) l (by omega) rfl rfl (by omega)
    clear h1
    have hl := @dfl_len _ p (l.drop (k + 1)) l k
    have ht := @dfl_take _ p (l.drop (k + 1)) l k (by simp; omega)
    simp only [List.length_drop] at hl
    generalize hr : dfl p l k (l.drop (k + 1)) = r at *
    obtain ⟨i, A⟩ := r
    simp only at hl ht h1'
    refine Wp.ev ?_
    refine gs (l := [.a (Task.call 88 [V.t (T.sl 15 (List.map Cross.enc l)), V.t (T.clo g cs)] []) (Res.mk Ex.ret [vi (↑k : Int)] []), .b (flats [ti (↑k : Int)]) true, .b ((↑k : Int) == -1) false, .i IntKind.i64 ((↑k : Int) + 1) ((↑(k + 1) : Int)), .a (Task.loop 70 [0, 1, 0, 1, 1, 1] 1 [V.all 0 none, V.t (T.clo g cs), vi (↑k : Int), vi (↑(k + 1) : Int)] [Ob.arr 15 (List.map Cross.enc l) none false]) (Res.mk (Ex.exit 0) [V.all 0 none, V.t (T.clo g cs), vi (↑i : Int), vi (↑(List.length l) : Int)] [Ob.arr 15 (List.map Cross.enc A) none false]), .w ((0 : Int) ≤ (↑i : Int)), .n (Int.toNat (↑i : Int)) i, .w (i ≤ List.length (List.map Cross.enc A) ∧ List.length (List.map Cross.enc A) ≤ List.length (List.map Cross.enc A)), .n (0 + i) i, .n (List.length (List.map Cross.enc A) - i) (List.length A - i), .n (min (List.length (List.replicate (List.length A - i) (T.agg [ti 0, ti 0, ti 0, ti 0, ti 0, ti 0, ti 0, ti 0, ti 0, ti 0, ti 0, ti 0, ti 0, ti 0, ti 0]))) (List.length A - i)) (List.length A - i), .t (T.sl 0 (List.take i (List.map Cross.enc A) ++ List.take (List.length A - i) (List.replicate (List.length A - i) (T.agg [ti 0, ti 0, ti 0, ti 0, ti 0, ti 0, ti 0, ti 0, ti 0, ti 0, ti 0, ti 0, ti 0, ti 0, ti 0])) ++ List.drop (i + (List.length A - i)) (List.map Cross.enc A))) (T.sl 0 (List.map Cross.enc (List.take i A ++ List.replicate (List.length A - i) (Cross.mk 0 0 0 0 (Entity.mk 0 0 0 0 0 0 0 0 0) 0 0) ++ List.drop (i + (List.length A - i)) A))), .w ((0 : Int) ≤ (↑i : Int)), .n (Int.toNat (↑i : Int)) i, .w ((0 : Nat) ≤ i ∧ i ≤ List.length (List.map Cross.enc (List.take i A ++ List.replicate (List.length A - i) (Cross.mk (0 : Int) (0 : Int) (0 : Int) (0 : Int) (Entity.mk (0 : Int) (0 : Int) (0 : Int) (0 : Int) (0 : Int) (0 : Int) (0 : Int) (0 : Int) (0 : Int)) (0 : Int) (0 : Int)) ++ List.drop (i + (List.length A - i)) A))), .l 0]) (by kernel_rfl) ⟨o_a h0, o_b (by kernel_rfl), o_b (by kernel_rfl), o_i (w64 (by omega)), o_a h1', o_w (by omega), o_n (by kernel_rfl), o_w ⟨(by (simp; omega)), (by omega)⟩, o_n (by omega), o_n (by simp), o_n (by simp), o_l (nm_eq (nm_app (nm_app (nm_take rfl) (nm_take (nm_rep (e := Cross.mk 0 0 0 0 (Entity.mk 0 0 0 0 0 0 0 0 0) 0 0) rfl))) (nm_drop rfl)) (by simp)), o_w (by omega), o_n (by kernel_rfl), o_w ⟨(by omega), (by (simp; omega))⟩, trivial⟩ ?_
    refine gs (l := [.n (i - 0) i, .t (T.sl 0 (List.take i (List.map Cross.enc (List.take i A ++ List.replicate (List.length A - i) (Cross.mk 0 0 0 0 (Entity.mk 0 0 0 0 0 0 0 0 0) 0 0) ++ List.drop (i + (List.length A - i)) A)))) (T.sl 0 (List.map Cross.enc (List.take i (List.take i A ++ List.replicate (List.length A - i) (Cross.mk 0 0 0 0 (Entity.mk 0 0 0 0 0 0 0 0 0) 0 0) ++ List.drop (i + (List.length A - i)) A))))]) (by kernel_rfl) ⟨o_n (by kernel_rfl), o_l (nm_take rfl), trivial⟩ ?_
    refine rt (a := Res.mk Ex.ret [V.all 1 none] [Ob.dead, Ob.arr 15 (List.map Cross.enc (List.take i (List.take i A ++ List.replicate (List.length A - i) (Cross.mk 0 0 0 0 (Entity.mk 0 0 0 0 0 0 0 0 0) 0 0) ++ List.drop (i + (List.length A - i)) A))) none false]) (by kernel_rfl) ?_
    (refine res_arr ?_; rw [hf, ← ht, List.append_assoc, List.take_append_of_le_length (by simp; omega), List.take_take, Nat.min_self])
end Go.Eva.S1

/- Eva, part 44: lists of entities, in plain words. -/
namespace Go.Eva

def find (l : List Entity) (id : Int) : Int := pos (fun e => e.id == id) l
/-- One is put where it belongs. -/
def ins (l : List Entity) (e : Entity) : List Entity := match l.findIdx? fun x => decide (x.id ≥ e.id) with
  | some k => l.take k ++ e :: l.drop k
  | none => l ++ [e]
def put1 (l : List Entity) (e : Entity) : List Entity := match l.findIdx? fun x => x.id == e.id with
  | some _ => l
  | none => ins l e
def puts (l m : List Entity) : List Entity := m.foldl put1 l
def has (ids : List Int) (id : Int) : Bool := ids.any fun x => x == id
def drops (l : List Entity) (ids : List Int) : List Entity := l.filter fun e => !has ids e.id
def things (l : List Entity) : Int := (l.countP fun e => e.kind != 1 : Nat)
def sortedL : List Entity → Bool
  | a :: b :: r => decide (a.id < b.id) && sortedL (b :: r)
  | _ => true
def sameL {α : Type} (p : α → α → Bool) : List α → List α → Bool
  | a :: r, b :: s => p a b && sameL p r s
  | _, _ => true

theorem pos_none {α : Type} {p : α → Bool} {l : List α} (h : l.findIdx? p = none) : pos p l = -1 := by simp [pos, h]
theorem pos_some {α : Type} {p : α → Bool} {l : List α} {k : Nat} (h : l.findIdx? p = some k) : pos p l = (k : Int) := by simp [pos, h]
theorem ins_len {l : List Entity} {e : Entity} : (ins l e).length = l.length + 1 := by
  unfold ins
  split
  · rename_i k h
    have := (List.findIdx?_eq_some_iff_getElem.1 h).1
    simp; omega
  · simp
theorem put1_len {l : List Entity} {e : Entity} : l.length ≤ (put1 l e).length ∧ (put1 l e).length ≤ l.length + 1 := by
  unfold put1
  split
  · omega
  · rw [ins_len]; omega
theorem puts_len {m l : List Entity} : l.length ≤ (puts l m).length ∧ (puts l m).length ≤ l.length + m.length := by
  induction m generalizing l with
  | nil => simp [puts]
  | cons e m ih =>
    have h1 := @put1_len l e
    have h2 := @ih (put1 l e)
    have h3 : puts l (e :: m) = puts (put1 l e) m := rfl
    rw [h3]
    simp only [List.length_cons]
    omega
theorem sorted_gt {l : List Entity} {i : Nat} (h : i + 1 < l.length) : sortedL (l.drop i) = (decide ((gt l i).id < (gt l (i + 1)).id) && sortedL (l.drop (i + 1))) := by
  rw [drop_gt (by omega), drop_gt h, sortedL]
theorem sorted_end {l : List Entity} {i : Nat} (h : l.length ≤ i + 1) : sortedL (l.drop i) = true := by
  rcases Nat.lt_or_ge i l.length with h1 | h1
  · rw [drop_gt h1, drop_end (by omega)]; rfl
  · rw [drop_end h1]; rfl
theorem countP_gt {l : List Entity} {i : Nat} (p : Entity → Bool) (h : i < l.length) : (l.drop i).countP p = (if p (gt l i) = true then 1 else 0) + (l.drop (i + 1)).countP p := by
  rw [drop_gt h, List.countP_cons]; omega
theorem filter_gt {α : Type} [Inhabited α] {l : List α} {i : Nat} (p : α → Bool) (h : i < l.length) : (l.drop i).filter p = (if p (gt l i) = true then [gt l i] else []) ++ (l.drop (i + 1)).filter p := by
  rw [drop_gt h, List.filter_cons]; split <;> simp
theorem has_pos {l : List Int} {x : Int} : (decide (pos (fun y => x == y) l ≥ 0)) = has l x := by
  unfold has
  cases h : l.findIdx? fun y => x == y with
  | none =>
    rw [pos_none h]
    have := List.findIdx?_eq_none_iff.1 h
    symm
    rw [show (l.any fun y => y == x) = false from ?_]
    · rfl
    · rw [List.any_eq_false]
      intro y hy
      have := this y hy
      simp at this ⊢
      exact fun e => this e.symm
  | some k =>
    rw [pos_some h]
    obtain ⟨hk, h1, _⟩ := List.findIdx?_eq_some_iff_getElem.1 h
    symm
    simp only [ge_iff_le, Int.natCast_nonneg, decide_true]
    rw [List.any_eq_true]
    exact ⟨l[k], List.getElem_mem _, by simp at h1 ⊢; exact h1.symm⟩
theorem any_gt {α : Type} [Inhabited α] {l : List α} {i : Nat} (p : α → Bool) (h : i < l.length) : (l.drop i).any p = (p (gt l i) || (l.drop (i + 1)).any p) := by
  rw [drop_gt h, List.any_cons]
theorem same_gt {α : Type} [Inhabited α] {p : α → α → Bool} {a b : List α} {i : Nat} (h : i < a.length) (h' : i < b.length) : sameL p (a.drop i) (b.drop i) = (p (gt a i) (gt b i) && sameL p (a.drop (i + 1)) (b.drop (i + 1))) := by
  rw [drop_gt h, drop_gt h', sameL]
theorem same_eq {α : Type} [DecidableEq α] : ∀ {a b : List α}, a.length = b.length → sameL (fun x y => decide (x = y)) a b = decide (a = b)
  | [], [], _ => rfl
  | [], _ :: _, h => by simp at h
  | _ :: _, [], h => by simp at h
  | x :: a, y :: b, h => by
    rw [sameL, same_eq (by simpa using h)]
    by_cases h1 : x = y <;> simp [h1]
/-- Are two lists alike? -/
def plain {α : Type} [DecidableEq α] (a b : List α) : Bool := decide (a = b)
end Go.Eva

/- Entities. -/
namespace Go.Eva.S1
theorem f_entity_Find_1 (e : Entity) (id : Int) : Fn cx 51 [e.enc, .ip 1 (ti id) 0] (.bool (e.id == id)) := by
  refine Wp.ev ?_
  refine rt (a := Res.mk Ex.ret [vb (e.id == id)] []) (by kernel_rfl) ?_
  rfl
theorem f_entity_Put_1 (e x : Entity) : Fn cx 49 [x.enc, .ip 9 e.enc 0] (.bool (decide (x.id ≥ e.id))) := by
  refine Wp.ev ?_
  refine rt (a := Res.mk Ex.ret [vb (decide (x.id ≥ e.id))] []) (by kernel_rfl) ?_
  rfl
theorem f_entity_Find (l : List Entity) (id : Int) (hl : small l) : Fn cx 16 [.sl 9 (l.map Entity.enc), ti id] (ti (find l id)) := by
  have h := f_slices_IndexFunc_Entity l 51 [.ip 1 (ti id) 0] (fun e => e.id == id) (by kernel_rfl) hl (fun e _ => f_entity_Find_1 e id)
  refine Wp.ev ?_
  refine gs (l := [.a (Task.call 48 [V.t (T.sl 9 (List.map Entity.enc l)), V.t (T.clo 51 [T.ip 1 (ti id) 0])] []) (Res.mk Ex.ret [vi (pos (fun (e : Entity) ↦ e.id == id) l)] []), .b (flats [ti (pos (fun (e : Entity) ↦ e.id == id) l)]) true]) (by kernel_rfl) ⟨o_a h, o_b (by kernel_rfl), trivial⟩ ?_
  refine rt (a := Res.mk Ex.ret [vi (pos (fun (e : Entity) ↦ e.id == id) l)] []) (by kernel_rfl) ?_
  rfl
theorem f_entity_Put_loop (m : List Entity) (hm : m.length ≤ 400000) : ∀ (d i : Nat) (A : List Entity), i + d = m.length → A.length ≤ 400000 + i →
    Is cx (.loop 14 [0, 1, 0, 1, 1] 0 [.all 0 none, .t (.sl 9 (m.map Entity.enc)), vi m.length, vi i] [.arr 9 (A.map Entity.enc) none false])
      ⟨.exit 0, [.all 0 none, .t (.sl 9 (m.map Entity.enc)), vi m.length, vi m.length], [.arr 9 ((puts A (m.drop i)).map Entity.enc) none false]⟩ := by
  intro d
  induction d with
  | zero =>
    intro i A hi hA
    rw [drop_end (by omega)]
    refine Wp.ev ?_
    refine gs (l := [.b (decide ((↑i : Int) < (↑(List.length m) : Int))) false]) (by kernel_rfl) ⟨f_brp (by omega), trivial⟩ ?_
    refine rt (a := Res.mk (Ex.exit 0) [V.all 0 none, V.t (T.sl 9 (List.map Entity.enc m)), vi (↑(List.length m) : Int), vi (↑i : Int)] [Ob.arr 9 (List.map Entity.enc A) none false]) (by kernel_rfl) ?_
    ((have hq : i = m.length := by omega); subst hq; rfl)
  | succ d ih =>
    intro i A hi hA
    have hlt : i < m.length := by omega
    rw [drop_gt hlt]
    show Is cx _ ⟨_, _, [.arr 9 ((puts (put1 A (gt m i)) (m.drop (i + 1))).map Entity.enc) none false]⟩
    have hl := @put1_len A (gt m i)
    have ih1 := ih (i + 1) (put1 A (gt m i)) (by omega) (by omega)
    clear ih
    have hs : small A := by unfold small; omega
    have hF := f_entity_Find A (gt m i).id hs
    have hG := f_slices_IndexFunc_Entity A 49 [.ip 9 (gt m i).enc 0] (fun x => decide (x.id ≥ (gt m i).id)) (by kernel_rfl) hs (fun x _ => f_entity_Put_1 (gt m i) x)
    clear hl
    unfold find at hF
    unfold put1 at *
    cases hq : A.findIdx? fun x => x.id == (gt m i).id with
    | some k =>
      rw [hq] at ih1
      rw [pos_some hq] at hF
      simp only at ih1 ⊢
      refine Wp.ev ?_
      refine gs (l := [.b (decide ((↑i : Int) < (↑(List.length m) : Int))) true, .w ((0 : Int) ≤ (↑i : Int)), .n (Int.toNat (↑i : Int)) i, .g (List.map Entity.enc m) i (Entity.enc (gt m i)), .a (Task.call 16 [V.t (T.sl 9 (List.map Entity.enc A)), vi (gt m i).id] []) (Res.mk Ex.ret [vi (↑k : Int)] []), .b (flats [ti (↑k : Int)]) true, .b (decide ((↑k : Int) ≥ 0)) true, .i IntKind.i64 ((↑i : Int) + 1) ((↑(i + 1) : Int)), .a (Task.loop 14 [0, 1, 0, 1, 1] 0 [V.all 0 none, V.t (T.sl 9 (List.map Entity.enc m)), vi (↑(List.length m) : Int), vi (↑(i + 1) : Int)] [Ob.arr 9 (List.map Entity.enc A) none false]) (Res.mk (Ex.exit 0) [V.all 0 none, V.t (T.sl 9 (List.map Entity.enc m)), vi (↑(List.length m) : Int), vi (↑(List.length m) : Int)] [Ob.arr 9 (List.map Entity.enc (puts A (List.drop (i + 1) m))) none false])]) (by kernel_rfl) ⟨t_brp (by omega), o_w (by omega), o_n (by kernel_rfl), o_gt rfl (by assumption) (by intro h; cases h), o_a hF, o_b (by kernel_rfl), o_b (by kernel_rfl), o_i (w64 (by omega)), o_a ih1, trivial⟩ ?_
      refine rt (a := Res.mk (Ex.exit 0) [V.all 0 none, V.t (T.sl 9 (List.map Entity.enc m)), vi (↑(List.length m) : Int), vi (↑(List.length m) : Int)] [Ob.arr 9 (List.map Entity.enc (puts A (List.drop (i + 1) m))) none false]) (by kernel_rfl) ?_
      rfl
    | none =>
      rw [hq] at ih1
      rw [pos_none hq] at hF
      simp only at ih1 ⊢
      unfold ins at *
      cases hp : A.findIdx? fun x => decide (x.id ≥ (gt m i).id) with
      | some k =>
        rw [hp] at ih1
        rw [pos_some hp] at hG
        simp only at ih1 ⊢
        have hk := (List.findIdx?_eq_some_iff_getElem.1 hp).1
        refine Wp.ev ?_
        refine gs (l := [.b (decide ((↑i : Int) < (↑(List.length m) : Int))) true, .w ((0 : Int) ≤ (↑i : Int)), .n (Int.toNat (↑i : Int)) i, .g (List.map Entity.enc m) i (Entity.enc (gt m i)), .a (Task.call 16 [V.t (T.sl 9 (List.map Entity.enc A)), vi (gt m i).id] []) (Res.mk Ex.ret [vi (-1)] []), .b (flats [ti (-1)]) true, .b (decide (-1 ≥ 0)) false, .a (Task.call 48 [V.t (T.sl 9 (List.map Entity.enc A)), V.t (T.clo 49 [T.ip 9 (Entity.enc (gt m i)) 0])] []) (Res.mk Ex.ret [vi (↑k : Int)] []), .b (flats [ti (↑k : Int)]) true, .b (decide ((↑k : Int) < 0)) false, .a (Task.call 50 [V.all 0 none, vi (↑k : Int), V.fit 9 [Entity.enc (gt m i)]] [Ob.arr 9 (List.map Entity.enc A) none false]) (Res.mk Ex.ret [V.all 1 none] [Ob.dead, Ob.arr 9 (List.map Entity.enc (List.take k A ++ gt m i :: List.drop k A)) none false]), .i IntKind.i64 ((↑i : Int) + 1) ((↑(i + 1) : Int)), .a (Task.loop 14 [0, 1, 0, 1, 1] 0 [V.all 0 none, V.t (T.sl 9 (List.map Entity.enc m)), vi (↑(List.length m) : Int), vi (↑(i + 1) : Int)] [Ob.arr 9 (List.map Entity.enc (List.take k A ++ gt m i :: List.drop k A)) none false]) (Res.mk (Ex.exit 0) [V.all 0 none, V.t (T.sl 9 (List.map Entity.enc m)), vi (↑(List.length m) : Int), vi (↑(List.length m) : Int)] [Ob.arr 9 (List.map Entity.enc (puts (List.take k A ++ gt m i :: List.drop k A) (List.drop (i + 1) m))) none false])]) (by kernel_rfl) ⟨t_brp (by omega), o_w (by omega), o_n (by kernel_rfl), o_gt rfl (by assumption) (by intro h; cases h), o_a hF, o_b (by kernel_rfl), o_b (by kernel_rfl), o_a hG, o_b (by kernel_rfl), o_b (by kernel_rfl), o_a (f_slices_Insert_Entity _ _ _ (by assumption) (by omega)), o_i (w64 (by omega)), o_a ih1, trivial⟩ ?_
        refine rt (a := Res.mk (Ex.exit 0) [V.all 0 none, V.t (T.sl 9 (List.map Entity.enc m)), vi (↑(List.length m) : Int), vi (↑(List.length m) : Int)] [Ob.arr 9 (List.map Entity.enc (puts (List.take k A ++ gt m i :: List.drop k A) (List.drop (i + 1) m))) none false]) (by kernel_rfl) ?_
        rfl
      | none =>
        rw [hp] at ih1
        rw [pos_none hp] at hG
        simp only at ih1 ⊢
        have hI := f_slices_Insert_Entity A (gt m i) A.length hs (Nat.le_refl _)
        rw [List.take_length, List.drop_length] at hI
        refine Wp.ev ?_
        refine gs (l := [.b (decide ((↑i : Int) < (↑(List.length m) : Int))) true, .w ((0 : Int) ≤ (↑i : Int)), .n (Int.toNat (↑i : Int)) i, .g (List.map Entity.enc m) i (Entity.enc (gt m i)), .a (Task.call 16 [V.t (T.sl 9 (List.map Entity.enc A)), vi (gt m i).id] []) (Res.mk Ex.ret [vi (-1)] []), .b (flats [ti (-1)]) true, .b (decide (-1 ≥ 0)) false, .a (Task.call 48 [V.t (T.sl 9 (List.map Entity.enc A)), V.t (T.clo 49 [T.ip 9 (Entity.enc (gt m i)) 0])] []) (Res.mk Ex.ret [vi (-1)] []), .b (flats [ti (-1)]) true, .b (decide (-1 < 0)) true, .n (List.length (List.map Entity.enc A)) (List.length A), .a (Task.call 50 [V.all 0 none, vi (↑(List.length A) : Int), V.fit 9 [Entity.enc (gt m i)]] [Ob.arr 9 (List.map Entity.enc A) none false]) (Res.mk Ex.ret [V.all 1 none] [Ob.dead, Ob.arr 9 (List.map Entity.enc (A ++ [gt m i])) none false]), .i IntKind.i64 ((↑i : Int) + 1) ((↑(i + 1) : Int)), .a (Task.loop 14 [0, 1, 0, 1, 1] 0 [V.all 0 none, V.t (T.sl 9 (List.map Entity.enc m)), vi (↑(List.length m) : Int), vi (↑(i + 1) : Int)] [Ob.arr 9 (List.map Entity.enc (A ++ [gt m i])) none false]) (Res.mk (Ex.exit 0) [V.all 0 none, V.t (T.sl 9 (List.map Entity.enc m)), vi (↑(List.length m) : Int), vi (↑(List.length m) : Int)] [Ob.arr 9 (List.map Entity.enc (puts (A ++ [gt m i]) (List.drop (i + 1) m))) none false])]) (by kernel_rfl) ⟨t_brp (by omega), o_w (by omega), o_n (by kernel_rfl), o_gt rfl (by assumption) (by intro h; cases h), o_a hF, o_b (by kernel_rfl), o_b (by kernel_rfl), o_a hG, o_b (by kernel_rfl), o_b (by kernel_rfl), o_n (by simp), o_a hI, o_i (w64 (by omega)), o_a ih1, trivial⟩ ?_
        refine rt (a := Res.mk (Ex.exit 0) [V.all 0 none, V.t (T.sl 9 (List.map Entity.enc m)), vi (↑(List.length m) : Int), vi (↑(List.length m) : Int)] [Ob.arr 9 (List.map Entity.enc (puts (A ++ [gt m i]) (List.drop (i + 1) m))) none false]) (by kernel_rfl) ?_
        rfl
theorem f_entity_Put (l m : List Entity) (hl : l.length ≤ 400000) (hm : m.length ≤ 400000) : Is cx (.call 14 [.t (.sl 9 (l.map Entity.enc)), .t (.sl 9 (m.map Entity.enc))] []) ⟨.ret, [.all 0 none], [.arr 9 ((puts l m).map Entity.enc) none false]⟩ := by
  have hs : small l := by unfold small; omega
  have h := f_entity_Put_loop m hm m.length 0 l (by omega) (by omega)
  rw [List.drop_zero] at h
  refine Wp.ev ?_
  refine gs (l := [.a (Task.call 47 [V.t (T.sl 9 (List.map Entity.enc l))] []) (Res.mk Ex.ret [V.all 0 none] [Ob.arr 9 (List.map Entity.enc l) none false]), .n (List.length (List.map Entity.enc m)) (List.length m), .a (Task.loop 14 [0, 1, 0, 1, 1] 0 [V.all 0 none, V.t (T.sl 9 (List.map Entity.enc m)), vi (↑(List.length m) : Int), vi 0] [Ob.arr 9 (List.map Entity.enc l) none false]) (Res.mk (Ex.exit 0) [V.all 0 none, V.t (T.sl 9 (List.map Entity.enc m)), vi (↑(List.length m) : Int), vi (↑(List.length m) : Int)] [Ob.arr 9 (List.map Entity.enc (puts l m)) none false])]) (by kernel_rfl) ⟨o_a (f_slices_Clone_Entity _ (by assumption)), o_n (by simp), o_a h, trivial⟩ ?_
  refine rt (a := Res.mk Ex.ret [V.all 0 none] [Ob.arr 9 (List.map Entity.enc (puts l m)) none false]) (by kernel_rfl) ?_
  rfl
theorem f_entity_Sorted_loop (l : List Entity) (hn : small l) : ∀ (d i : Nat), i + d = l.length → 1 ≤ i →
    ∃ k : Nat, Is cx (.loop 15 [0, 1, 0, 1] 0 [.t (.sl 9 (l.map Entity.enc)), vb false, vi l.length, vi i] []) (match sortedL (l.drop (i - 1)) with
       | true => ⟨.exit 0, [.t (.sl 9 (l.map Entity.enc)), vb false, vi l.length, vi l.length], []⟩
       | false => ⟨.ret, [.t (.sl 9 (l.map Entity.enc)), vb false, vi l.length, vi k], []⟩) := by
  unfold small at hn
  intro d
  induction d with
  | zero =>
    intro i hi h1
    refine ⟨0, ?_⟩
    rw [sorted_end (by omega)]
    refine Wp.ev ?_
    refine gs (l := [.b (decide ((↑i : Int) < (↑(List.length l) : Int))) false]) (by kernel_rfl) ⟨f_brp (by omega), trivial⟩ ?_
    refine rt (a := Res.mk (Ex.exit 0) [V.t (T.sl 9 (List.map Entity.enc l)), vb false, vi (↑(List.length l) : Int), vi (↑i : Int)] []) (by kernel_rfl) ?_
    ((have hq : i = l.length := by omega); subst hq; rfl)
  | succ d ih =>
    intro i hi h1
    have hlt : i < l.length := by omega
    obtain ⟨k, ih1⟩ := ih (i + 1) (by omega) (by omega)
    clear ih
    obtain ⟨j, rfl⟩ : ∃ j, i = j + 1 := ⟨i - 1, by omega⟩
    simp only [Nat.add_sub_cancel] at *
    rw [sorted_gt hlt]
    by_cases hp : (gt l j).id < (gt l (j + 1)).id
    · simp only [hp, decide_true, Bool.true_and]
      refine ⟨k, ?_⟩
      cases hq : sortedL (l.drop (j + 1)) with
      | true => rw [hq] at ih1
                refine Wp.ev ?_
                refine gs (l := [.b (decide ((↑(j + 1) : Int) < (↑(List.length l) : Int))) true, .b (decide ((↑(j + 1) : Int) > 0)) true, .tt, .tt, .w ((0 : Int) ≤ (↑(j + (1 : Nat)) : Int)), .n (Int.toNat (↑(j + 1) : Int)) (j + 1), .g (List.map Entity.enc l) (j + 1) (Entity.enc (gt l (j + 1))), .tt, .tt, .tt, .tt, .i IntKind.i64 ((↑(j + 1) : Int) - 1) ((↑(j + 1) : Int) - 1), .tt, .w ((0 : Int) ≤ (↑(j + (1 : Nat)) : Int) - (1 : Int)), .n (Int.toNat ((↑(j + 1) : Int) - 1)) j, .g (List.map Entity.enc l) j (Entity.enc (gt l j))]) (by kernel_rfl) ⟨t_brp (by omega), t_brp (by omega), o_w (by omega), o_n (by kernel_rfl), o_gt rfl (by assumption) (by intro h; cases h), o_i (w64 (by omega)), o_w (by omega), o_n (by omega), o_gt rfl (by omega) (by intro h; cases h), trivial⟩ ?_
                refine gs (l := [.tt, .tt, .tt, .tt, .tt, .b (decide ((gt l (j + 1)).id ≤ (gt l j).id)) false, .i IntKind.i64 ((↑(j + 1) : Int) + 1) ((↑(j + 1 + 1) : Int)), .a (Task.loop 15 [0, 1, 0, 1] 0 [V.t (T.sl 9 (List.map Entity.enc l)), vb false, vi (↑(List.length l) : Int), vi (↑(j + 1 + 1) : Int)] []) (Res.mk (Ex.exit 0) [V.t (T.sl 9 (List.map Entity.enc l)), vb false, vi (↑(List.length l) : Int), vi (↑(List.length l) : Int)] [])]) (by kernel_rfl) ⟨f_brp (by omega), o_i (w64 (by omega)), o_a ih1, trivial⟩ ?_
                refine rt (a := Res.mk (Ex.exit 0) [V.t (T.sl 9 (List.map Entity.enc l)), vb false, vi (↑(List.length l) : Int), vi (↑(List.length l) : Int)] []) (by kernel_rfl) ?_
                rfl
      | false => rw [hq] at ih1
                 refine Wp.ev ?_
                 refine gs (l := [.b (decide ((↑(j + 1) : Int) < (↑(List.length l) : Int))) true, .b (decide ((↑(j + 1) : Int) > 0)) true, .tt, .tt, .w ((0 : Int) ≤ (↑(j + (1 : Nat)) : Int)), .n (Int.toNat (↑(j + 1) : Int)) (j + 1), .g (List.map Entity.enc l) (j + 1) (Entity.enc (gt l (j + 1))), .tt, .tt, .tt, .tt, .i IntKind.i64 ((↑(j + 1) : Int) - 1) ((↑(j + 1) : Int) - 1), .tt, .w ((0 : Int) ≤ (↑(j + (1 : Nat)) : Int) - (1 : Int)), .n (Int.toNat ((↑(j + 1) : Int) - 1)) j, .g (List.map Entity.enc l) j (Entity.enc (gt l j))]) (by kernel_rfl) ⟨t_brp (by omega), t_brp (by omega), o_w (by omega), o_n (by kernel_rfl), o_gt rfl (by assumption) (by intro h; cases h), o_i (w64 (by omega)), o_w (by omega), o_n (by omega), o_gt rfl (by omega) (by intro h; cases h), trivial⟩ ?_
                 refine gs (l := [.tt, .tt, .tt, .tt, .tt, .b (decide ((gt l (j + 1)).id ≤ (gt l j).id)) false, .i IntKind.i64 ((↑(j + 1) : Int) + 1) ((↑(j + 1 + 1) : Int)), .a (Task.loop 15 [0, 1, 0, 1] 0 [V.t (T.sl 9 (List.map Entity.enc l)), vb false, vi (↑(List.length l) : Int), vi (↑(j + 1 + 1) : Int)] []) (Res.mk Ex.ret [V.t (T.sl 9 (List.map Entity.enc l)), vb false, vi (↑(List.length l) : Int), vi (↑k : Int)] [])]) (by kernel_rfl) ⟨f_brp (by omega), o_i (w64 (by omega)), o_a ih1, trivial⟩ ?_
                 refine rt (a := Res.mk Ex.ret [V.t (T.sl 9 (List.map Entity.enc l)), vb false, vi (↑(List.length l) : Int), vi (↑k : Int)] []) (by kernel_rfl) ?_
                 rfl
    · simp only [hp, decide_false, Bool.false_and]
      refine ⟨j + 1, ?_⟩
      refine Wp.ev ?_
      refine gs (l := [.b (decide ((↑(j + 1) : Int) < (↑(List.length l) : Int))) true, .b (decide ((↑(j + 1) : Int) > 0)) true, .tt, .tt, .w ((0 : Int) ≤ (↑(j + (1 : Nat)) : Int)), .n (Int.toNat (↑(j + 1) : Int)) (j + 1), .g (List.map Entity.enc l) (j + 1) (Entity.enc (gt l (j + 1))), .tt, .tt, .tt, .tt, .i IntKind.i64 ((↑(j + 1) : Int) - 1) ((↑(j + 1) : Int) - 1), .tt, .w ((0 : Int) ≤ (↑(j + (1 : Nat)) : Int) - (1 : Int)), .n (Int.toNat ((↑(j + 1) : Int) - 1)) j, .g (List.map Entity.enc l) j (Entity.enc (gt l j))]) (by kernel_rfl) ⟨t_brp (by omega), t_brp (by omega), o_w (by omega), o_n (by kernel_rfl), o_gt rfl (by assumption) (by intro h; cases h), o_i (w64 (by omega)), o_w (by omega), o_n (by omega), o_gt rfl (by omega) (by intro h; cases h), trivial⟩ ?_
      refine gs (l := [.tt, .tt, .tt, .tt, .tt, .b (decide ((gt l (j + 1)).id ≤ (gt l j).id)) true]) (by kernel_rfl) ⟨t_brp (by omega), trivial⟩ ?_
      refine rt (a := Res.mk Ex.ret [V.t (T.sl 9 (List.map Entity.enc l)), vb false, vi (↑(List.length l) : Int), vi (↑(j + 1) : Int)] []) (by kernel_rfl) ?_
      rfl
theorem f_entity_Sorted (l : List Entity) (hn : small l) : Fn cx 15 [.sl 9 (l.map Entity.enc)] (.bool (sortedL l)) := by
  have hn' : l.length ≤ 1000000 := hn
  have hz : l.length = 0 → Is cx (.loop 15 [0, 1, 0, 1] 0 [.t (.sl 9 (l.map Entity.enc)), vb false, vi l.length, vi 0] []) ⟨.exit 0, [.t (.sl 9 (l.map Entity.enc)), vb false, vi l.length, vi l.length], []⟩ := by
    intro h0
    rw [h0]
    refine Wp.ev ?_
    refine gs (l := [.b (decide (0 < 0)) false]) (by kernel_rfl) ⟨o_b (by kernel_rfl), trivial⟩ ?_
    refine rt (a := Res.mk (Ex.exit 0) [V.t (T.sl 9 (List.map Entity.enc l)), vb false, vi 0, vi 0] []) (by kernel_rfl) ?_
    rfl
  by_cases h0 : l.length = 0
  · have h := hz h0
    have : l = [] := List.length_eq_zero_iff.1 h0
    subst this
    refine Wp.ev ?_
    refine gs (l := [.l 0, .a (Task.loop 15 [0, 1, 0, 1] 0 [V.t (T.sl 9 []), vb false, vi 0, vi 0] []) (Res.mk (Ex.exit 0) [V.t (T.sl 9 []), vb false, vi 0, vi 0] [])]) (by kernel_rfl) ⟨o_a (hz (by kernel_rfl)), trivial⟩ ?_
    refine rt (a := Res.mk Ex.ret [vb true] []) (by kernel_rfl) ?_
    rfl
  · clear hz
    obtain ⟨k, h⟩ := f_entity_Sorted_loop l hn (l.length - 1) 1 (by omega) (by omega)
    simp only [Nat.sub_self, List.drop_zero] at h
    have hz : Is cx (.loop 15 [0, 1, 0, 1] 0 [.t (.sl 9 (l.map Entity.enc)), vb false, vi l.length, vi 0] []) (match sortedL l with
       | true => ⟨.exit 0, [.t (.sl 9 (l.map Entity.enc)), vb false, vi l.length, vi l.length], []⟩
       | false => ⟨.ret, [.t (.sl 9 (l.map Entity.enc)), vb false, vi l.length, vi k], []⟩) := by
      cases hq : sortedL l with
      | true => rw [hq] at h
                refine Wp.ev ?_
                refine gs (l := [.b (decide (0 < (↑(List.length l) : Int))) true, .b (decide (0 > 0)) false, .ff, .ff, .ff, .ff, .ff, .ff, .ff, .ff, .ff, .ff, .ff, .ff, .ff, .i IntKind.i64 1 1]) (by kernel_rfl) ⟨t_brp (by omega), o_b (by kernel_rfl), o_i (by kernel_rfl), trivial⟩ ?_
                refine gs (l := [.a (Task.loop 15 [0, 1, 0, 1] 0 [V.t (T.sl 9 (List.map Entity.enc l)), vb false, vi (↑(List.length l) : Int), vi 1] []) (Res.mk (Ex.exit 0) [V.t (T.sl 9 (List.map Entity.enc l)), vb false, vi (↑(List.length l) : Int), vi (↑(List.length l) : Int)] [])]) (by kernel_rfl) ⟨o_a h, trivial⟩ ?_
                refine rt (a := Res.mk (Ex.exit 0) [V.t (T.sl 9 (List.map Entity.enc l)), vb false, vi (↑(List.length l) : Int), vi (↑(List.length l) : Int)] []) (by kernel_rfl) ?_
                rfl
      | false => rw [hq] at h
                 refine Wp.ev ?_
                 refine gs (l := [.b (decide (0 < (↑(List.length l) : Int))) true, .b (decide (0 > 0)) false, .ff, .ff, .ff, .ff, .ff, .ff, .ff, .ff, .ff, .ff, .ff, .ff, .ff, .i IntKind.i64 1 1]) (by kernel_rfl) ⟨t_brp (by omega), o_b (by kernel_rfl), o_i (by kernel_rfl), trivial⟩ ?_
                 refine gs (l := [.a (Task.loop 15 [0, 1, 0, 1] 0 [V.t (T.sl 9 (List.map Entity.enc l)), vb false, vi (↑(List.length l) : Int), vi 1] []) (Res.mk Ex.ret [V.t (T.sl 9 (List.map Entity.enc l)), vb false, vi (↑(List.length l) : Int), vi (↑k : Int)] [])]) (by kernel_rfl) ⟨o_a h, trivial⟩ ?_
                 refine rt (a := Res.mk Ex.ret [V.t (T.sl 9 (List.map Entity.enc l)), vb false, vi (↑(List.length l) : Int), vi (↑k : Int)] []) (by kernel_rfl) ?_
                 rfl
    clear h
    cases hq : sortedL l with
    | true => rw [hq] at hz
              refine Wp.ev ?_
              refine gs (l := [.n (List.length (List.map Entity.enc l)) (List.length l), .a (Task.loop 15 [0, 1, 0, 1] 0 [V.t (T.sl 9 (List.map Entity.enc l)), vb false, vi (↑(List.length l) : Int), vi 0] []) (Res.mk (Ex.exit 0) [V.t (T.sl 9 (List.map Entity.enc l)), vb false, vi (↑(List.length l) : Int), vi (↑(List.length l) : Int)] [])]) (by kernel_rfl) ⟨o_n (by simp), o_a hz, trivial⟩ ?_
              refine rt (a := Res.mk Ex.ret [vb true] []) (by kernel_rfl) ?_
              rfl
    | false => rw [hq] at hz
               refine Wp.ev ?_
               refine gs (l := [.n (List.length (List.map Entity.enc l)) (List.length l), .a (Task.loop 15 [0, 1, 0, 1] 0 [V.t (T.sl 9 (List.map Entity.enc l)), vb false, vi (↑(List.length l) : Int), vi 0] []) (Res.mk Ex.ret [V.t (T.sl 9 (List.map Entity.enc l)), vb false, vi (↑(List.length l) : Int), vi (↑k : Int)] [])]) (by kernel_rfl) ⟨o_n (by simp), o_a hz, trivial⟩ ?_
               refine rt (a := Res.mk Ex.ret [vb false] []) (by kernel_rfl) ?_
               rfl
theorem f_joustref05_Sorted_loop (l : List Entity) (hn : small l) : ∀ (d i : Nat), i + d = l.length → 1 ≤ i →
    ∃ k : Nat, Is cx (.loop 29 [0, 1, 0, 1] 0 [.t (.sl 9 (l.map Entity.enc)), vb false, vi i] []) (match sortedL (l.drop (i - 1)) with
       | true => ⟨.exit 0, [.t (.sl 9 (l.map Entity.enc)), vb false, vi l.length], []⟩
       | false => ⟨.ret, [.t (.sl 9 (l.map Entity.enc)), vb false, vi k], []⟩) := by
  unfold small at hn
  intro d
  induction d with
  | zero =>
    intro i hi h1
    refine ⟨0, ?_⟩
    rw [sorted_end (by omega)]
    refine Wp.ev ?_
    refine gs (l := [.n (List.length (List.map Entity.enc l)) (List.length l), .b (decide ((↑i : Int) < (↑(List.length l) : Int))) false]) (by kernel_rfl) ⟨o_n (by simp), f_brp (by omega), trivial⟩ ?_
    refine rt (a := Res.mk (Ex.exit 0) [V.t (T.sl 9 (List.map Entity.enc l)), vb false, vi (↑i : Int)] []) (by kernel_rfl) ?_
    ((have hq : i = l.length := by omega); subst hq; rfl)
  | succ d ih =>
    intro i hi h1
    have hlt : i < l.length := by omega
    obtain ⟨k, ih1⟩ := ih (i + 1) (by omega) (by omega)
    clear ih
    obtain ⟨j, rfl⟩ : ∃ j, i = j + 1 := ⟨i - 1, by omega⟩
    simp only [Nat.add_sub_cancel] at *
    rw [sorted_gt hlt]
    by_cases hp : (gt l j).id < (gt l (j + 1)).id
    · simp only [hp, decide_true, Bool.true_and]
      refine ⟨k, ?_⟩
      cases hq : sortedL (l.drop (j + 1)) with
      | true => rw [hq] at ih1
                refine Wp.ev ?_
                refine gs (l := [.n (List.length (List.map Entity.enc l)) (List.length l), .b (decide ((↑(j + 1) : Int) < (↑(List.length l) : Int))) true, .w ((0 : Int) ≤ (↑(j + (1 : Nat)) : Int)), .n (Int.toNat (↑(j + 1) : Int)) (j + 1), .g (List.map Entity.enc l) (j + 1) (Entity.enc (gt l (j + 1))), .i IntKind.i64 ((↑(j + 1) : Int) - 1) ((↑(j + 1) : Int) - 1), .w ((0 : Int) ≤ (↑(j + (1 : Nat)) : Int) - (1 : Int)), .n (Int.toNat ((↑(j + 1) : Int) - 1)) j, .g (List.map Entity.enc l) j (Entity.enc (gt l j)), .b (decide ((gt l (j + 1)).id ≤ (gt l j).id)) false, .i IntKind.i64 ((↑(j + 1) : Int) + 1) ((↑(j + 1 + 1) : Int)), .a (Task.loop 29 [0, 1, 0, 1] 0 [V.t (T.sl 9 (List.map Entity.enc l)), vb false, vi (↑(j + 1 + 1) : Int)] []) (Res.mk (Ex.exit 0) [V.t (T.sl 9 (List.map Entity.enc l)), vb false, vi (↑(List.length l) : Int)] [])]) (by kernel_rfl) ⟨o_n (by simp), t_brp (by omega), o_w (by omega), o_n (by kernel_rfl), o_gt rfl (by assumption) (by intro h; cases h), o_i (w64 (by omega)), o_w (by omega), o_n (by omega), o_gt rfl (by omega) (by intro h; cases h), f_brp (by omega), o_i (w64 (by omega)), o_a ih1, trivial⟩ ?_
                refine rt (a := Res.mk (Ex.exit 0) [V.t (T.sl 9 (List.map Entity.enc l)), vb false, vi (↑(List.length l) : Int)] []) (by kernel_rfl) ?_
                rfl
      | false => rw [hq] at ih1
                 refine Wp.ev ?_
                 refine gs (l := [.n (List.length (List.map Entity.enc l)) (List.length l), .b (decide ((↑(j + 1) : Int) < (↑(List.length l) : Int))) true, .w ((0 : Int) ≤ (↑(j + (1 : Nat)) : Int)), .n (Int.toNat (↑(j + 1) : Int)) (j + 1), .g (List.map Entity.enc l) (j + 1) (Entity.enc (gt l (j + 1))), .i IntKind.i64 ((↑(j + 1) : Int) - 1) ((↑(j + 1) : Int) - 1), .w ((0 : Int) ≤ (↑(j + (1 : Nat)) : Int) - (1 : Int)), .n (Int.toNat ((↑(j + 1) : Int) - 1)) j, .g (List.map Entity.enc l) j (Entity.enc (gt l j)), .b (decide ((gt l (j + 1)).id ≤ (gt l j).id)) false, .i IntKind.i64 ((↑(j + 1) : Int) + 1) ((↑(j + 1 + 1) : Int)), .a (Task.loop 29 [0, 1, 0, 1] 0 [V.t (T.sl 9 (List.map Entity.enc l)), vb false, vi (↑(j + 1 + 1) : Int)] []) (Res.mk Ex.ret [V.t (T.sl 9 (List.map Entity.enc l)), vb false, vi (↑k : Int)] [])]) (by kernel_rfl) ⟨o_n (by simp), t_brp (by omega), o_w (by omega), o_n (by kernel_rfl), o_gt rfl (by assumption) (by intro h; cases h), o_i (w64 (by omega)), o_w (by omega), o_n (by omega), o_gt rfl (by omega) (by intro h; cases h), f_brp (by omega), o_i (w64 (by omega)), o_a ih1, trivial⟩ ?_
                 refine rt (a := Res.mk Ex.ret [V.t (T.sl 9 (List.map Entity.enc l)), vb false, vi (↑k : Int)] []) (by kernel_rfl) ?_
                 rfl
    · simp only [hp, decide_false, Bool.false_and]
      refine ⟨j + 1, ?_⟩
      refine Wp.ev ?_
      refine gs (l := [.n (List.length (List.map Entity.enc l)) (List.length l), .b (decide ((↑(j + 1) : Int) < (↑(List.length l) : Int))) true, .w ((0 : Int) ≤ (↑(j + (1 : Nat)) : Int)), .n (Int.toNat (↑(j + 1) : Int)) (j + 1), .g (List.map Entity.enc l) (j + 1) (Entity.enc (gt l (j + 1))), .i IntKind.i64 ((↑(j + 1) : Int) - 1) ((↑(j + 1) : Int) - 1), .w ((0 : Int) ≤ (↑(j + (1 : Nat)) : Int) - (1 : Int)), .n (Int.toNat ((↑(j + 1) : Int) - 1)) j, .g (List.map Entity.enc l) j (Entity.enc (gt l j)), .b (decide ((gt l (j + 1)).id ≤ (gt l j).id)) true]) (by kernel_rfl) ⟨o_n (by simp), t_brp (by omega), o_w (by omega), o_n (by kernel_rfl), o_gt rfl (by assumption) (by intro h; cases h), o_i (w64 (by omega)), o_w (by omega), o_n (by omega), o_gt rfl (by omega) (by intro h; cases h), t_brp (by omega), trivial⟩ ?_
      refine rt (a := Res.mk Ex.ret [V.t (T.sl 9 (List.map Entity.enc l)), vb false, vi (↑(j + 1) : Int)] []) (by kernel_rfl) ?_
      rfl
theorem f_joustref05_Sorted (l : List Entity) (hn : small l) : Fn cx 29 [.sl 9 (l.map Entity.enc)] (.bool (sortedL l)) := by
  have hn' : l.length ≤ 1000000 := hn
  by_cases h0 : l.length = 0
  · have : l = [] := List.length_eq_zero_iff.1 h0
    subst this
    have h : Is cx (.loop 29 [0, 1, 0, 1] 0 [.t (.sl 9 []), vb false, vi 1] []) ⟨.exit 0, [.t (.sl 9 []), vb false, vi 1], []⟩ := by
      refine Wp.ev ?_
      refine gs (l := [.l 0, .b (decide (1 < 0)) false]) (by kernel_rfl) ⟨o_b (by kernel_rfl), trivial⟩ ?_
      refine rt (a := Res.mk (Ex.exit 0) [V.t (T.sl 9 []), vb false, vi 1] []) (by kernel_rfl) ?_
      rfl
    refine Wp.ev ?_
    refine gs (l := [.a (Task.loop 29 [0, 1, 0, 1] 0 [V.t (T.sl 9 []), vb false, vi 1] []) (Res.mk (Ex.exit 0) [V.t (T.sl 9 []), vb false, vi 1] [])]) (by kernel_rfl) ⟨o_a h, trivial⟩ ?_
    refine rt (a := Res.mk Ex.ret [vb true] []) (by kernel_rfl) ?_
    rfl
  · obtain ⟨k, h⟩ := f_joustref05_Sorted_loop l hn (l.length - 1) 1 (by omega) (by omega)
    simp only [Nat.sub_self, List.drop_zero] at h
    cases hq : sortedL l with
    | true => rw [hq] at h
              refine Wp.ev ?_
              refine gs (l := [.a (Task.loop 29 [0, 1, 0, 1] 0 [V.t (T.sl 9 (List.map Entity.enc l)), vb false, vi 1] []) (Res.mk (Ex.exit 0) [V.t (T.sl 9 (List.map Entity.enc l)), vb false, vi (↑(List.length l) : Int)] [])]) (by kernel_rfl) ⟨o_a h, trivial⟩ ?_
              refine rt (a := Res.mk Ex.ret [vb true] []) (by kernel_rfl) ?_
              rfl
    | false => rw [hq] at h
               refine Wp.ev ?_
               refine gs (l := [.a (Task.loop 29 [0, 1, 0, 1] 0 [V.t (T.sl 9 (List.map Entity.enc l)), vb false, vi 1] []) (Res.mk Ex.ret [V.t (T.sl 9 (List.map Entity.enc l)), vb false, vi (↑k : Int)] [])]) (by kernel_rfl) ⟨o_a h, trivial⟩ ?_
               refine rt (a := Res.mk Ex.ret [vb false] []) (by kernel_rfl) ?_
               rfl
theorem f_slices_Index_loop_int (l : List Int) (x : Int) (hn : small l) : ∀ (d i : Nat), i + d = l.length →
    Is cx (.loop 80 [0, 1, 0, 1] 0 [.t (.sl 1 (l.map ti)), vi x, vi 0, vi l.length, vi i] [])
      (match (l.drop i).findIdx? fun y => x == y with
        | some j => ⟨.ret, [.t (.sl 1 (l.map ti)), vi x, vi (i + j : Nat), vi l.length, vi (i + j : Nat)], []⟩
        | none => ⟨.exit 0, [.t (.sl 1 (l.map ti)), vi x, vi 0, vi l.length, vi l.length], []⟩) := by
  unfold small at hn
  intro d
  induction d with
  | zero =>
    intro i hi
    refine Wp.ev ?_
    refine gs (l := [.b (decide ((↑i : Int) < (↑(List.length l) : Int))) false]) (by kernel_rfl) ⟨f_brp (by omega), trivial⟩ ?_
    refine rt (a := Res.mk (Ex.exit 0) [V.t (T.sl 1 (List.map ti l)), vi x, vi 0, vi (↑(List.length l) : Int), vi (↑i : Int)] []) (by kernel_rfl) ?_
    ((have : i = l.length := by omega); subst this; rw [drop_end (Nat.le_refl _)]; rfl)
  | succ d ih =>
    intro i hi
    have hlt : i < l.length := by omega
    have ih1 := ih (i + 1) (by omega)
    clear ih
    rw [drop_gt hlt, List.findIdx?_cons]
    by_cases hp : x = gt l i
    · simp only [show (x == gt l i) = true by simpa using hp, if_true]
      refine Wp.ev ?_
      refine gs (l := [.b (decide ((↑i : Int) < (↑(List.length l) : Int))) true, .w ((0 : Int) ≤ (↑i : Int)), .n (Int.toNat (↑i : Int)) i, .g (List.map ti l) i (ti (gt l i)), .b (x == gt l i) true]) (by kernel_rfl) ⟨t_brp (by omega), o_w (by omega), o_n (by kernel_rfl), o_gt rfl (by assumption) (by intro h; cases h), t_bre (by assumption), trivial⟩ ?_
      refine rt (a := Res.mk Ex.ret [V.t (T.sl 1 (List.map ti l)), vi x, vi (↑i : Int), vi (↑(List.length l) : Int), vi (↑i : Int)] []) (by kernel_rfl) ?_
      rfl
    · simp only [show (x == gt l i) = false by simpa using hp, Bool.false_eq_true, if_false]
      cases hq : (l.drop (i+1)).findIdx? fun y => x == y with
      | none =>
        rw [hq] at ih1
        refine Wp.ev ?_
        refine gs (l := [.b (decide ((↑i : Int) < (↑(List.length l) : Int))) true, .w ((0 : Int) ≤ (↑i : Int)), .n (Int.toNat (↑i : Int)) i, .g (List.map ti l) i (ti (gt l i)), .b (x == gt l i) false, .i IntKind.i64 ((↑i : Int) + 1) ((↑(i + 1) : Int)), .a (Task.loop 80 [0, 1, 0, 1] 0 [V.t (T.sl 1 (List.map ti l)), vi x, vi 0, vi (↑(List.length l) : Int), vi (↑(i + 1) : Int)] []) (Res.mk (Ex.exit 0) [V.t (T.sl 1 (List.map ti l)), vi x, vi 0, vi (↑(List.length l) : Int), vi (↑(List.length l) : Int)] [])]) (by kernel_rfl) ⟨t_brp (by omega), o_w (by omega), o_n (by kernel_rfl), o_gt rfl (by assumption) (by intro h; cases h), f_bre (by assumption), o_i (w64 (by omega)), o_a ih1, trivial⟩ ?_
        refine rt (a := Res.mk (Ex.exit 0) [V.t (T.sl 1 (List.map ti l)), vi x, vi 0, vi (↑(List.length l) : Int), vi (↑(List.length l) : Int)] []) (by kernel_rfl) ?_
        rfl
      | some j =>
        rw [hq] at ih1
        refine Wp.ev ?_
        refine gs (l := [.b (decide ((↑i : Int) < (↑(List.length l) : Int))) true, .w ((0 : Int) ≤ (↑i : Int)), .n (Int.toNat (↑i : Int)) i, .g (List.map ti l) i (ti (gt l i)), .b (x == gt l i) false, .i IntKind.i64 ((↑i : Int) + 1) ((↑(i + 1) : Int)), .a (Task.loop 80 [0, 1, 0, 1] 0 [V.t (T.sl 1 (List.map ti l)), vi x, vi 0, vi (↑(List.length l) : Int), vi (↑(i + 1) : Int)] []) (Res.mk Ex.ret [V.t (T.sl 1 (List.map ti l)), vi x, vi (↑(i + 1 + j) : Int), vi (↑(List.length l) : Int), vi (↑(i + 1 + j) : Int)] [])]) (by kernel_rfl) ⟨t_brp (by omega), o_w (by omega), o_n (by kernel_rfl), o_gt rfl (by assumption) (by intro h; cases h), f_bre (by assumption), o_i (w64 (by omega)), o_a ih1, trivial⟩ ?_
        refine rt (a := Res.mk Ex.ret [V.t (T.sl 1 (List.map ti l)), vi x, vi (↑(i + 1 + j) : Int), vi (↑(List.length l) : Int), vi (↑(i + 1 + j) : Int)] []) (by kernel_rfl) ?_
        simp [Nat.add_assoc, Nat.add_comm 1 j]
theorem f_slices_Index_int (l : List Int) (x : Int) (hn : small l) : Fn cx 80 [.sl 1 (l.map ti), ti x] (ti (pos (fun y => x == y) l)) := by
  have h := f_slices_Index_loop_int l x hn l.length 0 (by omega)
  rw [List.drop_zero] at h
  unfold pos
  cases hq : l.findIdx? fun y => x == y with
  | none =>
    rw [hq] at h
    refine Wp.ev ?_
    refine gs (l := [.n (List.length (List.map ti l)) (List.length l), .a (Task.loop 80 [0, 1, 0, 1] 0 [V.t (T.sl 1 (List.map ti l)), vi x, vi 0, vi (↑(List.length l) : Int), vi 0] []) (Res.mk (Ex.exit 0) [V.t (T.sl 1 (List.map ti l)), vi x, vi 0, vi (↑(List.length l) : Int), vi (↑(List.length l) : Int)] [])]) (by kernel_rfl) ⟨o_n (by simp), o_a h, trivial⟩ ?_
    refine rt (a := Res.mk Ex.ret [vi (-1)] []) (by kernel_rfl) ?_
    rfl
  | some j =>
    rw [hq] at h
    refine Wp.ev ?_
    refine gs (l := [.n (List.length (List.map ti l)) (List.length l), .a (Task.loop 80 [0, 1, 0, 1] 0 [V.t (T.sl 1 (List.map ti l)), vi x, vi 0, vi (↑(List.length l) : Int), vi 0] []) (Res.mk Ex.ret [V.t (T.sl 1 (List.map ti l)), vi x, vi (↑(0 + j) : Int), vi (↑(List.length l) : Int), vi (↑(0 + j) : Int)] [])]) (by kernel_rfl) ⟨o_n (by simp), o_a h, trivial⟩ ?_
    refine rt (a := Res.mk Ex.ret [vi (↑(0 + j) : Int)] []) (by kernel_rfl) ?_
    simp
theorem f_slices_Contains_int (l : List Int) (x : Int) (hn : small l) : Fn cx 54 [.sl 1 (l.map ti), ti x] (.bool (has l x)) := by
  have h := f_slices_Index_int l x hn
  rw [← has_pos]
  generalize pos (fun y => x == y) l = k at *
  refine Wp.ev ?_
  refine gs (l := [.a (Task.call 80 [V.t (T.sl 1 (List.map ti l)), vi x] []) (Res.mk Ex.ret [vi k] [])]) (by kernel_rfl) ⟨o_a h, trivial⟩ ?_
  refine rt (a := Res.mk Ex.ret [vb (decide (k ≥ 0))] []) (by kernel_rfl) ?_
  rfl
theorem f_entity_Drop_1 (e : Entity) (l : List Int) (hn : small l) : Fn cx 53 [e.enc, .ip 1 (.sl 1 (l.map ti)) 0] (.bool (has l e.id)) := by
  refine Wp.ev ?_
  refine gs (l := [.a (Task.call 54 [V.t (T.sl 1 (List.map ti l)), vi e.id] []) (Res.mk Ex.ret [vb (has l e.id)] [])]) (by kernel_rfl) ⟨o_a (f_slices_Contains_int _ _ (by assumption)), trivial⟩ ?_
  refine rt (a := Res.mk Ex.ret [vb (has l e.id)] []) (by kernel_rfl) ?_
  rfl
theorem f_entity_Drop (l : List Entity) (ids : List Int) (hl : small l) (hi : small ids) : Is cx (.call 17 [.t (.sl 9 (l.map Entity.enc)), .t (.sl 1 (ids.map ti))] []) ⟨.ret, [.all 0 none], [.arr 9 ((drops l ids).map Entity.enc) none false]⟩ := by
  have h := f_slices_DeleteFunc_Entity l 53 [.ip 1 (.sl 1 (ids.map ti)) 0] (fun e => has ids e.id) (by kernel_rfl) hl (fun e _ => f_entity_Drop_1 e ids hi)
  refine Wp.ev ?_
  refine gs (l := [.a (Task.call 47 [V.t (T.sl 9 (List.map Entity.enc l))] []) (Res.mk Ex.ret [V.all 0 none] [Ob.arr 9 (List.map Entity.enc l) none false]), .s (T.clo 53 [T.ip 1 (T.sl 1 (List.map ti ids)) 0]), .a (Task.call 52 [V.all 0 none, V.t (T.clo 53 [T.ip 1 (T.sl 1 (List.map ti ids)) 0])] [Ob.arr 9 (List.map Entity.enc l) none false]) (Res.mk Ex.ret [V.all 1 none] [Ob.dead, Ob.arr 9 (List.map Entity.enc (List.filter (fun (e : Entity) ↦ !has ids e.id) l)) none false])]) (by kernel_rfl) ⟨o_a (f_slices_Clone_Entity _ (by assumption)), o_a h, trivial⟩ ?_
  refine rt (a := Res.mk Ex.ret [V.all 0 none] [Ob.arr 9 (List.map Entity.enc (List.filter (fun (e : Entity) ↦ !has ids e.id) l)) none false]) (by kernel_rfl) ?_
  rfl
theorem f_entity_Things_loop (l : List Entity) (hn : small l) : ∀ (d i n : Nat), i + d = l.length → n ≤ i →
    Is cx (.loop 19 [0, 1, 0, 1, 1] 0 [vi n, .t (.sl 9 (l.map Entity.enc)), vi l.length, vi i] []) ⟨.exit 0, [vi (n + (l.drop i).countP fun e => e.kind != 1 : Nat), .t (.sl 9 (l.map Entity.enc)), vi l.length, vi l.length], []⟩ := by
  unfold small at hn
  intro d
  induction d with
  | zero =>
    intro i n hi hm
    rw [drop_end (by omega)]
    refine Wp.ev ?_
    refine gs (l := [.b (decide ((↑i : Int) < (↑(List.length l) : Int))) false]) (by kernel_rfl) ⟨f_brp (by omega), trivial⟩ ?_
    refine rt (a := Res.mk (Ex.exit 0) [vi (↑n : Int), V.t (T.sl 9 (List.map Entity.enc l)), vi (↑(List.length l) : Int), vi (↑i : Int)] []) (by kernel_rfl) ?_
    ((have hq : i = l.length := by omega); subst hq; rfl)
  | succ d ih =>
    intro i n hi hm
    have hlt : i < l.length := by omega
    have ih1 := ih (i + 1) n (by omega) (by omega)
    have ih2 := ih (i + 1) (n + 1) (by omega) (by omega)
    clear ih
    rw [countP_gt _ hlt]
    refine Wp.ev ?_
    refine gs (l := [.b (decide ((↑i : Int) < (↑(List.length l) : Int))) true, .w ((0 : Int) ≤ (↑i : Int)), .n (Int.toNat (↑i : Int)) i, .g (List.map Entity.enc l) i (Entity.enc (gt l i))]) (by kernel_rfl) ⟨t_brp (by omega), o_w (by omega), o_n (by kernel_rfl), o_gt rfl (by assumption) (by intro h; cases h), trivial⟩ ?_
    refine brn (x := (gt l i).kind) (y := 1) (by kernel_rfl) (fun h1 => ?_) (fun h1 => ?_)
    · refine gs (l := [.i IntKind.i64 ((↑n : Int) + 1) ((↑(n + 1) : Int)), .i IntKind.i64 ((↑i : Int) + 1) ((↑(i + 1) : Int)), .a (Task.loop 19 [0, 1, 0, 1, 1] 0 [vi (↑(n + 1) : Int), V.t (T.sl 9 (List.map Entity.enc l)), vi (↑(List.length l) : Int), vi (↑(i + 1) : Int)] []) (Res.mk (Ex.exit 0) [vi (↑(n + 1 + List.countP (fun (e : Entity) ↦ e.kind != 1) (List.drop (i + 1) l)) : Int), V.t (T.sl 9 (List.map Entity.enc l)), vi (↑(List.length l) : Int), vi (↑(List.length l) : Int)] [])]) (by kernel_rfl) ⟨o_i (w64 (by omega)), o_i (w64 (by omega)), o_a ih2, trivial⟩ ?_
      refine rt (a := Res.mk (Ex.exit 0) [vi (↑(n + 1 + List.countP (fun (e : Entity) ↦ e.kind != 1) (List.drop (i + 1) l)) : Int), V.t (T.sl 9 (List.map Entity.enc l)), vi (↑(List.length l) : Int), vi (↑(List.length l) : Int)] []) (by kernel_rfl) ?_
      (simp_all; try omega)
    · refine gs (l := [.i IntKind.i64 ((↑i : Int) + 1) ((↑(i + 1) : Int)), .a (Task.loop 19 [0, 1, 0, 1, 1] 0 [vi (↑n : Int), V.t (T.sl 9 (List.map Entity.enc l)), vi (↑(List.length l) : Int), vi (↑(i + 1) : Int)] []) (Res.mk (Ex.exit 0) [vi (↑(n + List.countP (fun (e : Entity) ↦ e.kind != 1) (List.drop (i + 1) l)) : Int), V.t (T.sl 9 (List.map Entity.enc l)), vi (↑(List.length l) : Int), vi (↑(List.length l) : Int)] [])]) (by kernel_rfl) ⟨o_i (w64 (by omega)), o_a ih1, trivial⟩ ?_
      refine rt (a := Res.mk (Ex.exit 0) [vi (↑(n + List.countP (fun (e : Entity) ↦ e.kind != 1) (List.drop (i + 1) l)) : Int), V.t (T.sl 9 (List.map Entity.enc l)), vi (↑(List.length l) : Int), vi (↑(List.length l) : Int)] []) (by kernel_rfl) ?_
      (simp_all; try omega)
theorem f_entity_Things (l : List Entity) (hn : small l) : Fn cx 19 [.sl 9 (l.map Entity.enc)] (ti (things l)) := by
  have h := f_entity_Things_loop l hn l.length 0 0 (by omega) (by omega)
  rw [List.drop_zero, Nat.zero_add] at h
  refine Wp.ev ?_
  refine gs (l := [.n (List.length (List.map Entity.enc l)) (List.length l), .a (Task.loop 19 [0, 1, 0, 1, 1] 0 [vi 0, V.t (T.sl 9 (List.map Entity.enc l)), vi (↑(List.length l) : Int), vi 0] []) (Res.mk (Ex.exit 0) [vi (↑(List.countP (fun (e : Entity) ↦ e.kind != 1) l) : Int), V.t (T.sl 9 (List.map Entity.enc l)), vi (↑(List.length l) : Int), vi (↑(List.length l) : Int)] [])]) (by kernel_rfl) ⟨o_n (by simp), o_a h, trivial⟩ ?_
  refine rt (a := Res.mk Ex.ret [vi (↑(List.countP (fun (e : Entity) ↦ e.kind != 1) l) : Int)] []) (by kernel_rfl) ?_
  rfl
theorem f_joustref05_Things_loop (l : List Entity) (hn : small l) : ∀ (d i n : Nat), i + d = l.length → n ≤ i →
    Is cx (.loop 28 [0, 1, 0, 1, 1] 0 [.t (.sl 9 (l.map Entity.enc)), vi n, vi i] []) ⟨.exit 0, [.t (.sl 9 (l.map Entity.enc)), vi (n + (l.drop i).countP fun e => e.kind != 1 : Nat), vi l.length], []⟩ := by
  unfold small at hn
  intro d
  induction d with
  | zero =>
    intro i n hi hm
    rw [drop_end (by omega)]
    refine Wp.ev ?_
    refine gs (l := [.n (List.length (List.map Entity.enc l)) (List.length l), .b (decide ((↑i : Int) < (↑(List.length l) : Int))) false]) (by kernel_rfl) ⟨o_n (by simp), f_brp (by omega), trivial⟩ ?_
    refine rt (a := Res.mk (Ex.exit 0) [V.t (T.sl 9 (List.map Entity.enc l)), vi (↑n : Int), vi (↑i : Int)] []) (by kernel_rfl) ?_
    ((have hq : i = l.length := by omega); subst hq; rfl)
  | succ d ih =>
    intro i n hi hm
    have hlt : i < l.length := by omega
    have ih1 := ih (i + 1) n (by omega) (by omega)
    have ih2 := ih (i + 1) (n + 1) (by omega) (by omega)
    clear ih
    rw [countP_gt _ hlt]
    refine Wp.ev ?_
    refine gs (l := [.n (List.length (List.map Entity.enc l)) (List.length l), .b (decide ((↑i : Int) < (↑(List.length l) : Int))) true, .w ((0 : Int) ≤ (↑i : Int)), .n (Int.toNat (↑i : Int)) i, .g (List.map Entity.enc l) i (Entity.enc (gt l i))]) (by kernel_rfl) ⟨o_n (by simp), t_brp (by omega), o_w (by omega), o_n (by kernel_rfl), o_gt rfl (by assumption) (by intro h; cases h), trivial⟩ ?_
    refine brn (x := (gt l i).kind) (y := 1) (by kernel_rfl) (fun h1 => ?_) (fun h1 => ?_)
    · refine gs (l := [.i IntKind.i64 ((↑n : Int) + 1) ((↑(n + 1) : Int)), .i IntKind.i64 ((↑i : Int) + 1) ((↑(i + 1) : Int)), .a (Task.loop 28 [0, 1, 0, 1, 1] 0 [V.t (T.sl 9 (List.map Entity.enc l)), vi (↑(n + 1) : Int), vi (↑(i + 1) : Int)] []) (Res.mk (Ex.exit 0) [V.t (T.sl 9 (List.map Entity.enc l)), vi (↑(n + 1 + List.countP (fun (e : Entity) ↦ e.kind != 1) (List.drop (i + 1) l)) : Int), vi (↑(List.length l) : Int)] [])]) (by kernel_rfl) ⟨o_i (w64 (by omega)), o_i (w64 (by omega)), o_a ih2, trivial⟩ ?_
      refine rt (a := Res.mk (Ex.exit 0) [V.t (T.sl 9 (List.map Entity.enc l)), vi (↑(n + 1 + List.countP (fun (e : Entity) ↦ e.kind != 1) (List.drop (i + 1) l)) : Int), vi (↑(List.length l) : Int)] []) (by kernel_rfl) ?_
      (simp_all; try omega)
    · refine gs (l := [.i IntKind.i64 ((↑i : Int) + 1) ((↑(i + 1) : Int)), .a (Task.loop 28 [0, 1, 0, 1, 1] 0 [V.t (T.sl 9 (List.map Entity.enc l)), vi (↑n : Int), vi (↑(i + 1) : Int)] []) (Res.mk (Ex.exit 0) [V.t (T.sl 9 (List.map Entity.enc l)), vi (↑(n + List.countP (fun (e : Entity) ↦ e.kind != 1) (List.drop (i + 1) l)) : Int), vi (↑(List.length l) : Int)] [])]) (by kernel_rfl) ⟨o_i (w64 (by omega)), o_a ih1, trivial⟩ ?_
      refine rt (a := Res.mk (Ex.exit 0) [V.t (T.sl 9 (List.map Entity.enc l)), vi (↑(n + List.countP (fun (e : Entity) ↦ e.kind != 1) (List.drop (i + 1) l)) : Int), vi (↑(List.length l) : Int)] []) (by kernel_rfl) ?_
      (simp_all; try omega)
theorem f_joustref05_Things (l : List Entity) (hn : small l) : Fn cx 28 [.sl 9 (l.map Entity.enc)] (ti (things l)) := by
  have h := f_joustref05_Things_loop l hn l.length 0 0 (by omega) (by omega)
  rw [List.drop_zero, Nat.zero_add] at h
  refine Wp.ev ?_
  refine gs (l := [.a (Task.loop 28 [0, 1, 0, 1, 1] 0 [V.t (T.sl 9 (List.map Entity.enc l)), vi 0, vi 0] []) (Res.mk (Ex.exit 0) [V.t (T.sl 9 (List.map Entity.enc l)), vi (↑(List.countP (fun (e : Entity) ↦ e.kind != 1) l) : Int), vi (↑(List.length l) : Int)] [])]) (by kernel_rfl) ⟨o_a h, trivial⟩ ?_
  refine rt (a := Res.mk Ex.ret [vi (↑(List.countP (fun (e : Entity) ↦ e.kind != 1) l) : Int)] []) (by kernel_rfl) ?_
  rfl
theorem f_joustref05_Find_loop (l : List Entity) (id : Int) (hn : small l) : ∀ (d i : Nat), i + d = l.length →
    Is cx (.loop 26 [0, 1, 0, 1] 0 [.t (.sl 9 (l.map Entity.enc)), vi id, vi 0, vi i] [])
      (match (l.drop i).findIdx? fun e => e.id == id with
        | some j => ⟨.ret, [.t (.sl 9 (l.map Entity.enc)), vi id, vi (i + j : Nat), vi (i + j : Nat)], []⟩
        | none => ⟨.exit 0, [.t (.sl 9 (l.map Entity.enc)), vi id, vi 0, vi l.length], []⟩) := by
  unfold small at hn
  intro d
  induction d with
  | zero =>
    intro i hi
    refine Wp.ev ?_
    refine gs (l := [.n (List.length (List.map Entity.enc l)) (List.length l), .b (decide ((↑i : Int) < (↑(List.length l) : Int))) false]) (by kernel_rfl) ⟨o_n (by simp), f_brp (by omega), trivial⟩ ?_
    refine rt (a := Res.mk (Ex.exit 0) [V.t (T.sl 9 (List.map Entity.enc l)), vi id, vi 0, vi (↑i : Int)] []) (by kernel_rfl) ?_
    ((have : i = l.length := by omega); subst this; rw [drop_end (Nat.le_refl _)]; rfl)
  | succ d ih =>
    intro i hi
    have hlt : i < l.length := by omega
    have ih1 := ih (i + 1) (by omega)
    clear ih
    rw [drop_gt hlt, List.findIdx?_cons]
    by_cases hp : (gt l i).id = id
    · simp only [show ((gt l i).id == id) = true by simpa using hp, if_true]
      refine Wp.ev ?_
      refine gs (l := [.n (List.length (List.map Entity.enc l)) (List.length l), .b (decide ((↑i : Int) < (↑(List.length l) : Int))) true, .w ((0 : Int) ≤ (↑i : Int)), .n (Int.toNat (↑i : Int)) i, .g (List.map Entity.enc l) i (Entity.enc (gt l i)), .b ((gt l i).id == id) true]) (by kernel_rfl) ⟨o_n (by simp), t_brp (by omega), o_w (by omega), o_n (by kernel_rfl), o_gt rfl (by assumption) (by intro h; cases h), t_bre (by assumption), trivial⟩ ?_
      refine rt (a := Res.mk Ex.ret [V.t (T.sl 9 (List.map Entity.enc l)), vi id, vi (↑i : Int), vi (↑i : Int)] []) (by kernel_rfl) ?_
      rfl
    · simp only [show ((gt l i).id == id) = false by simpa using hp, Bool.false_eq_true, if_false]
      cases hq : (l.drop (i+1)).findIdx? fun e => e.id == id with
      | none =>
        rw [hq] at ih1
        refine Wp.ev ?_
        refine gs (l := [.n (List.length (List.map Entity.enc l)) (List.length l), .b (decide ((↑i : Int) < (↑(List.length l) : Int))) true, .w ((0 : Int) ≤ (↑i : Int)), .n (Int.toNat (↑i : Int)) i, .g (List.map Entity.enc l) i (Entity.enc (gt l i)), .b ((gt l i).id == id) false, .i IntKind.i64 ((↑i : Int) + 1) ((↑(i + 1) : Int)), .a (Task.loop 26 [0, 1, 0, 1] 0 [V.t (T.sl 9 (List.map Entity.enc l)), vi id, vi 0, vi (↑(i + 1) : Int)] []) (Res.mk (Ex.exit 0) [V.t (T.sl 9 (List.map Entity.enc l)), vi id, vi 0, vi (↑(List.length l) : Int)] [])]) (by kernel_rfl) ⟨o_n (by simp), t_brp (by omega), o_w (by omega), o_n (by kernel_rfl), o_gt rfl (by assumption) (by intro h; cases h), f_bre (by assumption), o_i (w64 (by omega)), o_a ih1, trivial⟩ ?_
        refine rt (a := Res.mk (Ex.exit 0) [V.t (T.sl 9 (List.map Entity.enc l)), vi id, vi 0, vi (↑(List.length l) : Int)] []) (by kernel_rfl) ?_
        rfl
      | some j =>
        rw [hq] at ih1
        refine Wp.ev ?_
        refine gs (l := [.n (List.length (List.map Entity.enc l)) (List.length l), .b (decide ((↑i : Int) < (↑(List.length l) : Int))) true, .w ((0 : Int) ≤ (↑i : Int)), .n (Int.toNat (↑i : Int)) i, .g (List.map Entity.enc l) i (Entity.enc (gt l i)), .b ((gt l i).id == id) false, .i IntKind.i64 ((↑i : Int) + 1) ((↑(i + 1) : Int)), .a (Task.loop 26 [0, 1, 0, 1] 0 [V.t (T.sl 9 (List.map Entity.enc l)), vi id, vi 0, vi (↑(i + 1) : Int)] []) (Res.mk Ex.ret [V.t (T.sl 9 (List.map Entity.enc l)), vi id, vi (↑(i + 1 + j) : Int), vi (↑(i + 1 + j) : Int)] [])]) (by kernel_rfl) ⟨o_n (by simp), t_brp (by omega), o_w (by omega), o_n (by kernel_rfl), o_gt rfl (by assumption) (by intro h; cases h), f_bre (by assumption), o_i (w64 (by omega)), o_a ih1, trivial⟩ ?_
        refine rt (a := Res.mk Ex.ret [V.t (T.sl 9 (List.map Entity.enc l)), vi id, vi (↑(i + 1 + j) : Int), vi (↑(i + 1 + j) : Int)] []) (by kernel_rfl) ?_
        simp [Nat.add_assoc, Nat.add_comm 1 j]
theorem f_joustref05_Find (l : List Entity) (id : Int) (hn : small l) : Fn cx 26 [.sl 9 (l.map Entity.enc), ti id] (ti (find l id)) := by
  have h := f_joustref05_Find_loop l id hn l.length 0 (by omega)
  rw [List.drop_zero] at h
  unfold find pos
  cases hq : l.findIdx? fun e => e.id == id with
  | none =>
    rw [hq] at h
    refine Wp.ev ?_
    refine gs (l := [.a (Task.loop 26 [0, 1, 0, 1] 0 [V.t (T.sl 9 (List.map Entity.enc l)), vi id, vi 0, vi 0] []) (Res.mk (Ex.exit 0) [V.t (T.sl 9 (List.map Entity.enc l)), vi id, vi 0, vi (↑(List.length l) : Int)] [])]) (by kernel_rfl) ⟨o_a h, trivial⟩ ?_
    refine rt (a := Res.mk Ex.ret [vi (-1)] []) (by kernel_rfl) ?_
    rfl
  | some j =>
    rw [hq] at h
    refine Wp.ev ?_
    refine gs (l := [.a (Task.loop 26 [0, 1, 0, 1] 0 [V.t (T.sl 9 (List.map Entity.enc l)), vi id, vi 0, vi 0] []) (Res.mk Ex.ret [V.t (T.sl 9 (List.map Entity.enc l)), vi id, vi (↑(0 + j) : Int), vi (↑(0 + j) : Int)] [])]) (by kernel_rfl) ⟨o_a h, trivial⟩ ?_
    refine rt (a := Res.mk Ex.ret [vi (↑(0 + j) : Int)] []) (by kernel_rfl) ?_
    simp
theorem f_jousthelp_In_loop_int (l : List Int) (x : Int) (hn : small l) : ∀ (d i : Nat), i + d = l.length →
    ∃ k : Nat, Is cx (.loop 44 [0, 1, 0, 1] 0 [.t (.sl 1 (l.map ti)), vi x, vb false, vi i] [])
      (match has (l.drop i) x with
        | true => ⟨.ret, [.t (.sl 1 (l.map ti)), vi x, vb true, vi k], []⟩
        | false => ⟨.exit 0, [.t (.sl 1 (l.map ti)), vi x, vb false, vi l.length], []⟩) := by
  unfold small at hn
  intro d
  induction d with
  | zero =>
    intro i hi
    refine ⟨0, ?_⟩
    rw [drop_end (by omega)]
    refine Wp.ev ?_
    refine gs (l := [.n (List.length (List.map ti l)) (List.length l), .b (decide ((↑i : Int) < (↑(List.length l) : Int))) false]) (by kernel_rfl) ⟨o_n (by simp), f_brp (by omega), trivial⟩ ?_
    refine rt (a := Res.mk (Ex.exit 0) [V.t (T.sl 1 (List.map ti l)), vi x, vb false, vi (↑i : Int)] []) (by kernel_rfl) ?_
    ((have : i = l.length := by omega); subst this; rfl)
  | succ d ih =>
    intro i hi
    have hlt : i < l.length := by omega
    obtain ⟨k, ih1⟩ := ih (i + 1) (by omega)
    clear ih
    unfold has at *
    rw [any_gt _ hlt]
    by_cases hp : gt l i = x
    · simp only [show (gt l i == x) = true by simpa using hp, Bool.true_or]
      refine ⟨i, ?_⟩
      refine Wp.ev ?_
      refine gs (l := [.n (List.length (List.map ti l)) (List.length l), .b (decide ((↑i : Int) < (↑(List.length l) : Int))) true, .w ((0 : Int) ≤ (↑i : Int)), .n (Int.toNat (↑i : Int)) i, .g (List.map ti l) i (ti (gt l i)), .b (gt l i == x) true]) (by kernel_rfl) ⟨o_n (by simp), t_brp (by omega), o_w (by omega), o_n (by kernel_rfl), o_gt rfl (by assumption) (by intro h; cases h), t_bre (by assumption), trivial⟩ ?_
      refine rt (a := Res.mk Ex.ret [V.t (T.sl 1 (List.map ti l)), vi x, vb true, vi (↑i : Int)] []) (by kernel_rfl) ?_
      rfl
    · simp only [show (gt l i == x) = false by simpa using hp, Bool.false_or]
      refine ⟨k, ?_⟩
      cases hq : (l.drop (i+1)).any fun y => y == x with
      | true =>
        rw [hq] at ih1
        refine Wp.ev ?_
        refine gs (l := [.n (List.length (List.map ti l)) (List.length l), .b (decide ((↑i : Int) < (↑(List.length l) : Int))) true, .w ((0 : Int) ≤ (↑i : Int)), .n (Int.toNat (↑i : Int)) i, .g (List.map ti l) i (ti (gt l i)), .b (gt l i == x) false, .i IntKind.i64 ((↑i : Int) + 1) ((↑(i + 1) : Int)), .a (Task.loop 44 [0, 1, 0, 1] 0 [V.t (T.sl 1 (List.map ti l)), vi x, vb false, vi (↑(i + 1) : Int)] []) (Res.mk Ex.ret [V.t (T.sl 1 (List.map ti l)), vi x, vb true, vi (↑k : Int)] [])]) (by kernel_rfl) ⟨o_n (by simp), t_brp (by omega), o_w (by omega), o_n (by kernel_rfl), o_gt rfl (by assumption) (by intro h; cases h), f_bre (by assumption), o_i (w64 (by omega)), o_a ih1, trivial⟩ ?_
        refine rt (a := Res.mk Ex.ret [V.t (T.sl 1 (List.map ti l)), vi x, vb true, vi (↑k : Int)] []) (by kernel_rfl) ?_
        rfl
      | false =>
        rw [hq] at ih1
        refine Wp.ev ?_
        refine gs (l := [.n (List.length (List.map ti l)) (List.length l), .b (decide ((↑i : Int) < (↑(List.length l) : Int))) true, .w ((0 : Int) ≤ (↑i : Int)), .n (Int.toNat (↑i : Int)) i, .g (List.map ti l) i (ti (gt l i)), .b (gt l i == x) false, .i IntKind.i64 ((↑i : Int) + 1) ((↑(i + 1) : Int)), .a (Task.loop 44 [0, 1, 0, 1] 0 [V.t (T.sl 1 (List.map ti l)), vi x, vb false, vi (↑(i + 1) : Int)] []) (Res.mk (Ex.exit 0) [V.t (T.sl 1 (List.map ti l)), vi x, vb false, vi (↑(List.length l) : Int)] [])]) (by kernel_rfl) ⟨o_n (by simp), t_brp (by omega), o_w (by omega), o_n (by kernel_rfl), o_gt rfl (by assumption) (by intro h; cases h), f_bre (by assumption), o_i (w64 (by omega)), o_a ih1, trivial⟩ ?_
        refine rt (a := Res.mk (Ex.exit 0) [V.t (T.sl 1 (List.map ti l)), vi x, vb false, vi (↑(List.length l) : Int)] []) (by kernel_rfl) ?_
        rfl
theorem f_jousthelp_In_int (l : List Int) (x : Int) (hn : small l) : Fn cx 44 [.sl 1 (l.map ti), ti x] (.bool (has l x)) := by
  obtain ⟨k, h⟩ := f_jousthelp_In_loop_int l x hn l.length 0 (by omega)
  rw [List.drop_zero] at h
  cases hq : has l x with
  | true =>
    rw [hq] at h
    refine Wp.ev ?_
    refine gs (l := [.a (Task.loop 44 [0, 1, 0, 1] 0 [V.t (T.sl 1 (List.map ti l)), vi x, vb false, vi 0] []) (Res.mk Ex.ret [V.t (T.sl 1 (List.map ti l)), vi x, vb true, vi (↑k : Int)] [])]) (by kernel_rfl) ⟨o_a h, trivial⟩ ?_
    refine rt (a := Res.mk Ex.ret [vb true] []) (by kernel_rfl) ?_
    rfl
  | false =>
    rw [hq] at h
    refine Wp.ev ?_
    refine gs (l := [.a (Task.loop 44 [0, 1, 0, 1] 0 [V.t (T.sl 1 (List.map ti l)), vi x, vb false, vi 0] []) (Res.mk (Ex.exit 0) [V.t (T.sl 1 (List.map ti l)), vi x, vb false, vi (↑(List.length l) : Int)] [])]) (by kernel_rfl) ⟨o_a h, trivial⟩ ?_
    refine rt (a := Res.mk Ex.ret [vb false] []) (by kernel_rfl) ?_
    rfl
theorem f_joustref05_Drop_loop (l : List Entity) (ids : List Int) (hn : small l) (hm : small ids) : ∀ (d i : Nat) (A : List Entity), i + d = l.length → A.length ≤ i →
    Is cx (.loop 27 [0, 1, 0, 1, 1] 0 [.t (.sl 9 (l.map Entity.enc)), .t (.sl 1 (ids.map ti)), .all 0 none, vi i] [.arr 9 (A.map Entity.enc) none false])
      ⟨.exit 0, [.t (.sl 9 (l.map Entity.enc)), .t (.sl 1 (ids.map ti)), .all 0 none, vi l.length], [.arr 9 ((A ++ drops (l.drop i) ids).map Entity.enc) none false]⟩ := by
  have hn' := hn
  unfold small at hn
  intro d
  induction d with
  | zero =>
    intro i A hi hA
    rw [drop_end (by omega)]
    refine Wp.ev ?_
    refine gs (l := [.n (List.length (List.map Entity.enc l)) (List.length l), .b (decide ((↑i : Int) < (↑(List.length l) : Int))) false]) (by kernel_rfl) ⟨o_n (by simp), f_brp (by omega), trivial⟩ ?_
    refine rt (a := Res.mk (Ex.exit 0) [V.t (T.sl 9 (List.map Entity.enc l)), V.t (T.sl 1 (List.map ti ids)), V.all 0 none, vi (↑i : Int)] [Ob.arr 9 (List.map Entity.enc A) none false]) (by kernel_rfl) ?_
    ((have hq : i = l.length := by omega); subst hq; simp [drops])
  | succ d ih =>
    intro i A hi hA
    have hlt : i < l.length := by omega
    have ih1 := ih (i + 1) A (by omega) (by omega)
    have ih2 := ih (i + 1) (A ++ [gt l i]) (by omega) (by simp; omega)
    clear ih
    unfold drops at *
    rw [filter_gt _ hlt]
    refine Wp.ev ?_
    refine gs (l := [.n (List.length (List.map Entity.enc l)) (List.length l), .b (decide ((↑i : Int) < (↑(List.length l) : Int))) true, .w ((0 : Int) ≤ (↑i : Int)), .n (Int.toNat (↑i : Int)) i, .g (List.map Entity.enc l) i (Entity.enc (gt l i)), .a (Task.call 44 [V.t (T.sl 1 (List.map ti ids)), vi (gt l i).id] []) (Res.mk Ex.ret [vb (has ids (gt l i).id)] [])]) (by kernel_rfl) ⟨o_n (by simp), t_brp (by omega), o_w (by omega), o_n (by kernel_rfl), o_gt rfl (by assumption) (by intro h; cases h), o_a (f_jousthelp_In_int _ _ (by assumption)), trivial⟩ ?_
    refine brnot (b := has ids (gt l i).id) (by kernel_rfl) (fun h1 => ?_) (fun h1 => ?_)
    · refine gs (l := [.w ((0 : Int) ≤ (↑i : Int)), .n (Int.toNat (↑i : Int)) i, .g (List.map Entity.enc l) i (Entity.enc (gt l i)), .w ((0 : Nat) < (72 : Nat)), .t (T.sl 0 [Entity.enc (gt l i)]) (T.sl 0 (List.map Entity.enc [gt l i])), .t (T.sl 0 (List.map Entity.enc A ++ List.map Entity.enc [gt l i])) (T.sl 0 (List.map Entity.enc (A ++ [gt l i]))), .w (room (List.length (List.map Entity.enc (A ++ [gt l i]))) (72 : Nat)), .i IntKind.i64 ((↑i : Int) + 1) ((↑(i + 1) : Int)), .a (Task.loop 27 [0, 1, 0, 1, 1] 0 [V.t (T.sl 9 (List.map Entity.enc l)), V.t (T.sl 1 (List.map ti ids)), V.all 0 none, vi (↑(i + 1) : Int)] [Ob.arr 9 (List.map Entity.enc (A ++ [gt l i])) none false]) (Res.mk (Ex.exit 0) [V.t (T.sl 9 (List.map Entity.enc l)), V.t (T.sl 1 (List.map ti ids)), V.all 0 none, vi (↑(List.length l) : Int)] [Ob.arr 9 (List.map Entity.enc (A ++ [gt l i] ++ List.filter (fun (e : Entity) ↦ !has ids e.id) (List.drop (i + 1) l))) none false])]) (by kernel_rfl) ⟨o_w (by omega), o_n (by kernel_rfl), o_gt rfl (by assumption) (by intro h; cases h), o_w (by omega), o_l (nm_cons rfl nm_nil), o_l (nm_app rfl rfl), o_w (by (simp [room, appendMax]; omega)), o_i (w64 (by (simp [room, appendMax]; omega))), o_a ih2, trivial⟩ ?_
      refine rt (a := Res.mk (Ex.exit 0) [V.t (T.sl 9 (List.map Entity.enc l)), V.t (T.sl 1 (List.map ti ids)), V.all 0 none, vi (↑(List.length l) : Int)] [Ob.arr 9 (List.map Entity.enc (A ++ [gt l i] ++ List.filter (fun (e : Entity) ↦ !has ids e.id) (List.drop (i + 1) l))) none false]) (by kernel_rfl) ?_
      simp_all
    · refine gs (l := [.i IntKind.i64 ((↑i : Int) + 1) ((↑(i + 1) : Int)), .a (Task.loop 27 [0, 1, 0, 1, 1] 0 [V.t (T.sl 9 (List.map Entity.enc l)), V.t (T.sl 1 (List.map ti ids)), V.all 0 none, vi (↑(i + 1) : Int)] [Ob.arr 9 (List.map Entity.enc A) none false]) (Res.mk (Ex.exit 0) [V.t (T.sl 9 (List.map Entity.enc l)), V.t (T.sl 1 (List.map ti ids)), V.all 0 none, vi (↑(List.length l) : Int)] [Ob.arr 9 (List.map Entity.enc (A ++ List.filter (fun (e : Entity) ↦ !has ids e.id) (List.drop (i + 1) l))) none false])]) (by kernel_rfl) ⟨o_i (w64 (by (simp [room, appendMax]; omega))), o_a ih1, trivial⟩ ?_
      refine rt (a := Res.mk (Ex.exit 0) [V.t (T.sl 9 (List.map Entity.enc l)), V.t (T.sl 1 (List.map ti ids)), V.all 0 none, vi (↑(List.length l) : Int)] [Ob.arr 9 (List.map Entity.enc (A ++ List.filter (fun (e : Entity) ↦ !has ids e.id) (List.drop (i + 1) l))) none false]) (by kernel_rfl) ?_
      simp_all
theorem f_joustref05_Drop (l : List Entity) (ids : List Int) (hn : small l) (hm : small ids) : Fn cx 27 [.sl 9 (l.map Entity.enc), .sl 1 (ids.map ti)] (.sl 9 ((drops l ids).map Entity.enc)) := by
  have h := f_joustref05_Drop_loop l ids hn hm l.length 0 [] (by omega) (by simp)
  rw [List.drop_zero, List.nil_append] at h
  refine Wp.ev ?_
  refine gs (l := [.a (Task.loop 27 [0, 1, 0, 1, 1] 0 [V.t (T.sl 9 (List.map Entity.enc l)), V.t (T.sl 1 (List.map ti ids)), V.all 0 none, vi 0] [Ob.arr 9 [] none false]) (Res.mk (Ex.exit 0) [V.t (T.sl 9 (List.map Entity.enc l)), V.t (T.sl 1 (List.map ti ids)), V.all 0 none, vi (↑(List.length l) : Int)] [Ob.arr 9 (List.map Entity.enc (drops l ids)) none false])]) (by kernel_rfl) ⟨o_a h, trivial⟩ ?_
  refine rt (a := Res.mk Ex.ret [V.t (T.sl 9 (List.map Entity.enc (drops l ids)))] []) (by kernel_rfl) ?_
  rfl
end Go.Eva.S1

/- Eva, part 45: which entities are right. -/
namespace Go.Eva

def pace (v : Int) : Bool := decide (v = 0) || decide (v = 160) || decide (v = -160)
def Entity.right (c : Config) (e : Entity) : Bool := c.inside e.x e.y &&
  (if e.kind = 1 then within e.id 1 c.players && within e.vx (-64) 64 && within e.vy (-64) 64 && within e.health 1 100 && within e.age 0 6 && decide (e.owner = 0)
   else if e.kind = 2 then within e.id 1000 2147483647 && decide (e.health = 1) && pace e.vx && pace e.vy && (!decide (e.vx = 0) || !decide (e.vy = 0)) && within e.age 0 12 && within e.owner 1 c.players
   else if e.kind = 3 then within e.id 1000 2147483647 && decide (e.health = 1) && decide (e.vx = 0) && decide (e.vy = 0) && decide (e.age = 0) && decide (e.owner = 0)
   else false)

theorem beqd (a b : Int) : (a == b) = decide (a = b) := by rw [Bool.eq_iff_iff]; simp
theorem bned (a b : Int) : (a != b) = !decide (a = b) := by rw [Bool.eq_iff_iff]; simp
theorem teq_ent {a b : Entity} : teq a.enc b.enc = decide (a = b) := by rw [Bool.eq_iff_iff, teqIff, Entity.enc_inj, decide_eq_true_eq]
theorem teq_cross {a b : Cross} : teq a.enc b.enc = decide (a = b) := by rw [Bool.eq_iff_iff, teqIff, Cross.enc_inj, decide_eq_true_eq]
theorem teq_input {a b : Input} : teq a.enc b.enc = decide (a = b) := by rw [Bool.eq_iff_iff, teqIff, Input.enc_inj, decide_eq_true_eq]

theorem Config.inside_false {c : Config} {x y : Int} (h : c.right = false) : c.inside x y = false := by
  cases hi : c.inside x y with
  | false => rfl
  | true =>
    simp only [Config.inside, Config.width, h, within_iff, Bool.and_eq_true, Bool.false_eq_true, if_false] at hi
    omega
theorem Config.grid_inside {c : Config} {x y : Int} : c.grid.inside x y = c.inside x y := by
  unfold Config.grid
  split
  · rfl
  · rename_i h
    rw [Config.inside_false (c := Config.zero) rfl, Config.inside_false (c := c) (by simpa using h)]
theorem Config.inside_right {c : Config} {x y : Int} (h : c.inside x y = true) : c.right = true := by
  cases hr : c.right with
  | true => rfl
  | false => rw [Config.inside_false hr] at h; contradiction
theorem Entity.right_grid {c : Config} {e : Entity} : Entity.right c.grid e = Entity.right c e := by
  unfold Entity.right
  rw [Config.grid_inside]
  cases h : c.inside e.x e.y with
  | false => simp
  | true =>
    have hr := Config.inside_right h
    simp [Config.grid, hr]
end Go.Eva

/- Lists held against each other; which entities are right. -/
namespace Go.Eva.S1
theorem f_jousthelp_Plain_1_Entity (a b : Entity) : Fn cx 56 [a.enc, b.enc] (.bool (decide (a = b))) := by
  rw [← teq_ent]
  refine Wp.ev ?_
  refine gs (l := [.w (conform cx (40 : Nat) (28 : Nat) (T.agg [ti a.id, ti a.kind, ti a.x, ti a.y, ti a.vx, ti a.vy, ti a.health, ti a.age, ti a.owner]) = true ∧ conform cx (40 : Nat) (28 : Nat) (T.agg [ti b.id, ti b.kind, ti b.x, ti b.y, ti b.vx, ti b.vy, ti b.health, ti b.age, ti b.owner]) = true)]) (by kernel_rfl) ⟨o_w ⟨(by kernel_rfl), (by kernel_rfl)⟩, trivial⟩ ?_
  refine rt (a := Res.mk Ex.ret [vb (teq (T.agg [ti a.id, ti a.kind, ti a.x, ti a.y, ti a.vx, ti a.vy, ti a.health, ti a.age, ti a.owner]) (T.agg [ti b.id, ti b.kind, ti b.x, ti b.y, ti b.vx, ti b.vy, ti b.health, ti b.age, ti b.owner]))] []) (by kernel_rfl) ?_
  rfl
theorem f_jousthelp_Same_loop_Entity (a b : List Entity) (g : Nat) (p : Entity → Entity → Bool) (hb : isFnB cx g = true) (hn : small a) (hl : a.length = b.length)
    (hg : ∀ x y, Fn cx g [x.enc, y.enc] (.bool (p x y))) : ∀ (d i : Nat), i + d = a.length →
    ∃ k : Nat, Is cx (.loop 55 [0, 1, 0, 1, 1] 0 [.t (.sl 9 (a.map Entity.enc)), .t (.sl 9 (b.map Entity.enc)), .t (.clo g []), vb false, vi i] [])
      (match sameL p (a.drop i) (b.drop i) with
        | true => ⟨.exit 0, [.t (.sl 9 (a.map Entity.enc)), .t (.sl 9 (b.map Entity.enc)), .t (.clo g []), vb false, vi a.length], []⟩
        | false => ⟨.ret, [.t (.sl 9 (a.map Entity.enc)), .t (.sl 9 (b.map Entity.enc)), .t (.clo g []), vb false, vi k], []⟩) := by
  unfold small at hn
  intro d
  induction d with
  | zero =>
    intro i hi
    refine ⟨0, ?_⟩
    rw [drop_end (by omega), drop_end (by omega)]
    refine Wp.ev ?_
    refine gs (l := [.n (List.length (List.map Entity.enc a)) (List.length a), .b (decide ((↑i : Int) < (↑(List.length a) : Int))) false]) (by kernel_rfl) ⟨o_n (by simp), f_brp (by omega), trivial⟩ ?_
    refine rt (a := Res.mk (Ex.exit 0) [V.t (T.sl 9 (List.map Entity.enc a)), V.t (T.sl 9 (List.map Entity.enc b)), V.t (T.clo g []), vb false, vi (↑i : Int)] []) (by kernel_rfl) ?_
    ((have hq : i = a.length := by omega); subst hq; rfl)
  | succ d ih =>
    intro i hi
    have hlt : i < a.length := by omega
    have hlt' : i < b.length := by omega
    obtain ⟨k, ih1⟩ := ih (i + 1) (by omega)
    have hy := hg (gt a i) (gt b i)
    clear ih hg
    rw [same_gt hlt hlt']
    cases hp : p (gt a i) (gt b i) with
    | true =>
      rw [hp] at hy
      refine ⟨k, ?_⟩
      rw [Bool.true_and]
      cases hq : sameL p (a.drop (i + 1)) (b.drop (i + 1)) with
      | true =>
        rw [hq] at ih1
        refine Wp.ev ?_
        refine gs (l := [.n (List.length (List.map Entity.enc a)) (List.length a), .b (decide ((↑i : Int) < (↑(List.length a) : Int))) true, .w ((0 : Int) ≤ (↑i : Int)), .n (Int.toNat (↑i : Int)) i, .g (List.map Entity.enc a) i (Entity.enc (gt a i)), .w ((0 : Int) ≤ (↑i : Int)), .n (Int.toNat (↑i : Int)) i, .g (List.map Entity.enc b) i (Entity.enc (gt b i)), .w (isFnB cx g = true), .a (Task.call g [V.t (Entity.enc (gt a i)), V.t (Entity.enc (gt b i))] []) (Res.mk Ex.ret [vb true] []), .b (!true) false, .i IntKind.i64 ((↑i : Int) + 1) ((↑(i + 1) : Int)), .a (Task.loop 55 [0, 1, 0, 1, 1] 0 [V.t (T.sl 9 (List.map Entity.enc a)), V.t (T.sl 9 (List.map Entity.enc b)), V.t (T.clo g []), vb false, vi (↑(i + 1) : Int)] []) (Res.mk (Ex.exit 0) [V.t (T.sl 9 (List.map Entity.enc a)), V.t (T.sl 9 (List.map Entity.enc b)), V.t (T.clo g []), vb false, vi (↑(List.length a) : Int)] [])]) (by kernel_rfl) ⟨o_n (by simp), t_brp (by omega), o_w (by omega), o_n (by kernel_rfl), o_gt rfl (by assumption) (by intro h; cases h), o_w (by omega), o_n (by kernel_rfl), o_gt rfl (by assumption) (by intro h; cases h), o_w (by assumption), o_a hy, o_b (by kernel_rfl), o_i (w64 (by omega)), o_a ih1, trivial⟩ ?_
        refine rt (a := Res.mk (Ex.exit 0) [V.t (T.sl 9 (List.map Entity.enc a)), V.t (T.sl 9 (List.map Entity.enc b)), V.t (T.clo g []), vb false, vi (↑(List.length a) : Int)] []) (by kernel_rfl) ?_
        rfl
      | false =>
        rw [hq] at ih1
        refine Wp.ev ?_
        refine gs (l := [.n (List.length (List.map Entity.enc a)) (List.length a), .b (decide ((↑i : Int) < (↑(List.length a) : Int))) true, .w ((0 : Int) ≤ (↑i : Int)), .n (Int.toNat (↑i : Int)) i, .g (List.map Entity.enc a) i (Entity.enc (gt a i)), .w ((0 : Int) ≤ (↑i : Int)), .n (Int.toNat (↑i : Int)) i, .g (List.map Entity.enc b) i (Entity.enc (gt b i)), .w (isFnB cx g = true), .a (Task.call g [V.t (Entity.enc (gt a i)), V.t (Entity.enc (gt b i))] []) (Res.mk Ex.ret [vb true] []), .b (!true) false, .i IntKind.i64 ((↑i : Int) + 1) ((↑(i + 1) : Int)), .a (Task.loop 55 [0, 1, 0, 1, 1] 0 [V.t (T.sl 9 (List.map Entity.enc a)), V.t (T.sl 9 (List.map Entity.enc b)), V.t (T.clo g []), vb false, vi (↑(i + 1) : Int)] []) (Res.mk Ex.ret [V.t (T.sl 9 (List.map Entity.enc a)), V.t (T.sl 9 (List.map Entity.enc b)), V.t (T.clo g []), vb false, vi (↑k : Int)] [])]) (by kernel_rfl) ⟨o_n (by simp), t_brp (by omega), o_w (by omega), o_n (by kernel_rfl), o_gt rfl (by assumption) (by intro h; cases h), o_w (by omega), o_n (by kernel_rfl), o_gt rfl (by assumption) (by intro h; cases h), o_w (by assumption), o_a hy, o_b (by kernel_rfl), o_i (w64 (by omega)), o_a ih1, trivial⟩ ?_
        refine rt (a := Res.mk Ex.ret [V.t (T.sl 9 (List.map Entity.enc a)), V.t (T.sl 9 (List.map Entity.enc b)), V.t (T.clo g []), vb false, vi (↑k : Int)] []) (by kernel_rfl) ?_
        rfl
    | false =>
      rw [hp] at hy
      refine ⟨i, ?_⟩
      rw [Bool.false_and]
      refine Wp.ev ?_
      refine gs (l := [.n (List.length (List.map Entity.enc a)) (List.length a), .b (decide ((↑i : Int) < (↑(List.length a) : Int))) true, .w ((0 : Int) ≤ (↑i : Int)), .n (Int.toNat (↑i : Int)) i, .g (List.map Entity.enc a) i (Entity.enc (gt a i)), .w ((0 : Int) ≤ (↑i : Int)), .n (Int.toNat (↑i : Int)) i, .g (List.map Entity.enc b) i (Entity.enc (gt b i)), .w (isFnB cx g = true), .a (Task.call g [V.t (Entity.enc (gt a i)), V.t (Entity.enc (gt b i))] []) (Res.mk Ex.ret [vb false] []), .b (!false) true]) (by kernel_rfl) ⟨o_n (by simp), t_brp (by omega), o_w (by omega), o_n (by kernel_rfl), o_gt rfl (by assumption) (by intro h; cases h), o_w (by omega), o_n (by kernel_rfl), o_gt rfl (by assumption) (by intro h; cases h), o_w (by assumption), o_a hy, o_b (by kernel_rfl), trivial⟩ ?_
      refine rt (a := Res.mk Ex.ret [V.t (T.sl 9 (List.map Entity.enc a)), V.t (T.sl 9 (List.map Entity.enc b)), V.t (T.clo g []), vb false, vi (↑i : Int)] []) (by kernel_rfl) ?_
      rfl
theorem f_jousthelp_Same_Entity (a b : List Entity) (g : Nat) (p : Entity → Entity → Bool) (hb : isFnB cx g = true) (hn : small a)
    (hg : ∀ x y, Fn cx g [x.enc, y.enc] (.bool (p x y))) : Fn cx 55 [.sl 9 (a.map Entity.enc), .sl 9 (b.map Entity.enc), .clo g []] (.bool (decide (a.length = b.length) && sameL p a b)) := by
  by_cases hl : a.length = b.length
  · obtain ⟨k, h⟩ := f_jousthelp_Same_loop_Entity a b g p hb hn hl hg a.length 0 (by omega)
    clear hg
    rw [List.drop_zero, List.drop_zero] at h
    rw [show decide (a.length = b.length) = true by simpa using hl, Bool.true_and]
    cases hq : sameL p a b with
    | true =>
      rw [hq] at h
      refine Wp.ev ?_
      refine gs (l := [.n (List.length (List.map Entity.enc a)) (List.length a), .n (List.length (List.map Entity.enc b)) (List.length b), .b ((↑(List.length a) : Int) != (↑(List.length b) : Int)) false, .a (Task.loop 55 [0, 1, 0, 1, 1] 0 [V.t (T.sl 9 (List.map Entity.enc a)), V.t (T.sl 9 (List.map Entity.enc b)), V.t (T.clo g []), vb false, vi 0] []) (Res.mk (Ex.exit 0) [V.t (T.sl 9 (List.map Entity.enc a)), V.t (T.sl 9 (List.map Entity.enc b)), V.t (T.clo g []), vb false, vi (↑(List.length a) : Int)] [])]) (by kernel_rfl) ⟨o_n (by simp), o_n (by simp), f_brn (by omega), o_a h, trivial⟩ ?_
      refine rt (a := Res.mk Ex.ret [vb true] []) (by kernel_rfl) ?_
      rfl
    | false =>
      rw [hq] at h
      refine Wp.ev ?_
      refine gs (l := [.n (List.length (List.map Entity.enc a)) (List.length a), .n (List.length (List.map Entity.enc b)) (List.length b), .b ((↑(List.length a) : Int) != (↑(List.length b) : Int)) false, .a (Task.loop 55 [0, 1, 0, 1, 1] 0 [V.t (T.sl 9 (List.map Entity.enc a)), V.t (T.sl 9 (List.map Entity.enc b)), V.t (T.clo g []), vb false, vi 0] []) (Res.mk Ex.ret [V.t (T.sl 9 (List.map Entity.enc a)), V.t (T.sl 9 (List.map Entity.enc b)), V.t (T.clo g []), vb false, vi (↑k : Int)] [])]) (by kernel_rfl) ⟨o_n (by simp), o_n (by simp), f_brn (by omega), o_a h, trivial⟩ ?_
      refine rt (a := Res.mk Ex.ret [vb false] []) (by kernel_rfl) ?_
      rfl
  · clear hg
    simp only [hl, decide_false, Bool.false_and]
    refine Wp.ev ?_
    refine gs (l := [.n (List.length (List.map Entity.enc a)) (List.length a), .n (List.length (List.map Entity.enc b)) (List.length b), .b ((↑(List.length a) : Int) != (↑(List.length b) : Int)) true]) (by kernel_rfl) ⟨o_n (by simp), o_n (by simp), t_brn (by omega), trivial⟩ ?_
    refine rt (a := Res.mk Ex.ret [vb false] []) (by kernel_rfl) ?_
    rfl
theorem f_jousthelp_Plain_Entity (a b : List Entity) (hn : small a) : Fn cx 18 [.sl 9 (a.map Entity.enc), .sl 9 (b.map Entity.enc)] (.bool (plain a b)) := by
  have h := f_jousthelp_Same_Entity a b 56 (fun x y => decide (x = y)) (by kernel_rfl) hn f_jousthelp_Plain_1_Entity
  have e : (decide (a.length = b.length) && sameL (fun x y => decide (x = y)) a b) = plain a b := by
    by_cases hl : a.length = b.length
    · rw [same_eq hl]; simp [hl, plain]
    · have : a ≠ b := fun h => hl (by rw [h])
      simp [hl, plain, this]
  rw [e] at h
  refine Wp.ev ?_
  refine gs (l := [.a (Task.call 55 [V.t (T.sl 9 (List.map Entity.enc a)), V.t (T.sl 9 (List.map Entity.enc b)), V.t (T.clo 56 [])] []) (Res.mk Ex.ret [vb (plain a b)] [])]) (by kernel_rfl) ⟨o_a h, trivial⟩ ?_
  refine rt (a := Res.mk Ex.ret [vb (plain a b)] []) (by kernel_rfl) ?_
  rfl
theorem f_jousthelp_Own_loop_Entity (f : Entity) (n : Nat) (hn : n ≤ 1000) : ∀ (d i : Nat) (A : List Entity), i + d = n + 3 → A.length = n + 3 →
    Is cx (.loop 23 [0, 1, 0, 1, 1, 1, 1] 0 [.ptr 0 0 0, .sl 1 0 n none, .sl 1 0 (n + 3) none, vi i] [.one 9 (.t f.enc) false, .arr 9 (A.map Entity.enc) (some 0) false])
      ⟨.exit 0, [.ptr 0 0 0, .sl 1 0 n none, .sl 1 0 (n + 3) none, vi (n + 3 : Nat)], [.one 9 (.t f.enc) false, .arr 9 ((A.take i ++ List.replicate d f).map Entity.enc) (some 0) false]⟩ := by
  intro d
  induction d with
  | zero =>
    intro i A hi hA
    have hq : i = n + 3 := by omega
    subst hq
    rw [List.take_of_length_le (by omega)]
    refine Wp.ev ?_
    refine gs (l := [.l (n + 3), .b (decide ((↑(n + 3) : Int) < (↑(n + 3) : Int))) false]) (by kernel_rfl) ⟨f_brp (by omega), trivial⟩ ?_
    refine rt (a := Res.mk (Ex.exit 0) [V.ptr 0 0 0, V.sl 1 0 n none, V.sl 1 0 (n + 3) none, vi (↑(n + 3) : Int)] [Ob.one 9 (V.t (Entity.enc f)) false, Ob.arr 9 (List.map Entity.enc A) (some 0) false]) (by kernel_rfl) ?_
    simp
  | succ d ih =>
    intro i A hi hA
    have ih1 := ih (i + 1) (A.set i f) (by omega) (by simpa using hA)
    clear ih
    have e : (A.set i f).take (i + 1) ++ List.replicate d f = A.take i ++ List.replicate (d + 1) f := by
      rw [List.take_add_one, List.replicate_succ]
      simp [List.getElem?_set, List.take_set_of_le, show i < A.length by omega]
    rw [e] at ih1
    refine Wp.ev ?_
    refine gs (l := [.l (n + 3), .b (decide ((↑i : Int) < (↑(n + 3) : Int))) true, .w ((0 : Int) ≤ (↑i : Int)), .n (Int.toNat (↑i : Int)) i, .w (i < n + (3 : Nat)), .n (0 + i) i, .w (i < List.length (List.map Entity.enc A)), .t (T.sl 0 (List.set (List.map Entity.enc A) i (Entity.enc f))) (T.sl 0 (List.map Entity.enc (List.set A i f))), .i IntKind.i64 ((↑i : Int) + 1) ((↑(i + 1) : Int)), .a (Task.loop 23 [0, 1, 0, 1, 1, 1, 1] 0 [V.ptr 0 0 0, V.sl 1 0 n none, V.sl 1 0 (n + 3) none, vi (↑(i + 1) : Int)] [Ob.one 9 (V.t (Entity.enc f)) false, Ob.arr 9 (List.map Entity.enc (List.set A i f)) (some 0) false]) (Res.mk (Ex.exit 0) [V.ptr 0 0 0, V.sl 1 0 n none, V.sl 1 0 (n + 3) none, vi (↑(n + 3) : Int)] [Ob.one 9 (V.t (Entity.enc f)) false, Ob.arr 9 (List.map Entity.enc (List.take i A ++ List.replicate (d + 1) f)) (some 0) false])]) (by kernel_rfl) ⟨t_brp (by omega), o_w (by omega), o_n (by kernel_rfl), o_w (by omega), o_n (by omega), o_w (by (simp; omega)), o_l (nm_set rfl rfl), o_i (w64 (by omega)), o_a ih1, trivial⟩ ?_
    refine rt (a := Res.mk (Ex.exit 0) [V.ptr 0 0 0, V.sl 1 0 n none, V.sl 1 0 (n + 3) none, vi (↑(n + 3) : Int)] [Ob.one 9 (V.t (Entity.enc f)) false, Ob.arr 9 (List.map Entity.enc (List.take i A ++ List.replicate (d + 1) f)) (some 0) false]) (by kernel_rfl) ?_
    rfl
theorem f_jousthelp_Own_Entity (l : List Entity) (f : Entity) (hn : l.length ≤ 1000) : Is cx (.call 23 [.t (.sl 9 (l.map Entity.enc)), .t f.enc] []) ⟨.ret, [.sl 0 0 l.length none], [.arr 9 ((l ++ [f, f, f]).map Entity.enc) (some 0) false]⟩ := by
  have h := f_jousthelp_Own_loop_Entity f l.length hn 3 l.length
  refine Wp.ev ?_
  refine gs (l := [.n (List.length (List.map Entity.enc l)) (List.length l), .i IntKind.i64 ((↑(List.length l) : Int) + 3) ((↑(List.length l + 3) : Int)), .w ((0 : Int) ≤ (0 : Int) ∧ (0 : Int) ≤ (↑(List.length l + (3 : Nat)) : Int) ∧ room (Int.toNat (↑(List.length l + (3 : Nat)) : Int)) (72 : Nat)), .n (Int.toNat (↑(List.length l + 3) : Int)) (List.length l + 3), .l 0, .w ((0 : Nat) < (72 : Nat)), .s (T.sl 0 (List.map Entity.enc l)), .b (decide (0 = 0)) true, .b (decide (0 + List.length (List.map Entity.enc l) ≤ List.length (List.replicate (List.length l + 3) (T.agg [ti 0, ti 0, ti 0, ti 0, ti 0, ti 0, ti 0, ti 0, ti 0])))) true, .t (T.sl 0 (List.take 0 (List.replicate (List.length l + 3) (T.agg [ti 0, ti 0, ti 0, ti 0, ti 0, ti 0, ti 0, ti 0, ti 0])) ++ List.map Entity.enc l ++ List.drop (0 + List.length (List.map Entity.enc l)) (List.replicate (List.length l + 3) (T.agg [ti 0, ti 0, ti 0, ti 0, ti 0, ti 0, ti 0, ti 0, ti 0])))) (T.sl 0 (List.map Entity.enc (l ++ List.drop (List.length l) (List.replicate (List.length l + 3) (Entity.mk 0 0 0 0 0 0 0 0 0))))), .n (0 + List.length (List.map Entity.enc l)) (List.length l), .n (List.length (List.map Entity.enc l)) (List.length l), .i IntKind.i64 ((↑(List.length l) : Int) + 3) ((↑(List.length l + 3) : Int)), .w ((0 : Int) ≤ (↑(List.length l + (3 : Nat)) : Int)), .n (Int.toNat (↑(List.length l + 3) : Int)) (List.length l + 3), .b (decide (0 = 0)) true]) (by kernel_rfl) ⟨o_n (by simp), o_i (w64 (by (simp [room, appendMax]; omega))), o_w ⟨(by omega), ⟨(by (simp [room, appendMax]; omega)), (by (simp [room, appendMax]; omega))⟩⟩, o_n (by kernel_rfl), o_w (by omega), o_b (by kernel_rfl), t_brp (by simp), o_l (nm_eq (nm_app (nm_app (nm_take (nm_rep (e := Entity.mk 0 0 0 0 0 0 0 0 0) rfl)) rfl) (nm_drop (nm_rep (e := Entity.mk 0 0 0 0 0 0 0 0 0) rfl))) (by simp)), o_n (by simp), o_n (by simp), o_i (w64 (by (simp [room, appendMax]; omega))), o_w (by (simp [room, appendMax]; omega)), o_n (by kernel_rfl), o_b (by kernel_rfl), trivial⟩ ?_
  refine gs (l := [.w ((0 : Nat) ≤ List.length l + (3 : Nat) ∧ (0 : Nat) + (List.length l + (3 : Nat)) ≤ List.length (List.map Entity.enc (l ++ List.drop (List.length l) (List.replicate (List.length l + (3 : Nat)) (Entity.mk (0 : Int) (0 : Int) (0 : Int) (0 : Int) (0 : Int) (0 : Int) (0 : Int) (0 : Int) (0 : Int)))))), .l 0, .n (List.length l + 3 - 0) (List.length l + 3), .n (List.length (List.map Entity.enc l)) (List.length l), .a (Task.loop 23 [0, 1, 0, 1, 1, 1, 1] 0 [V.ptr 0 0 0, V.sl 1 0 (List.length l) none, V.sl 1 0 (List.length l + 3) none, vi (↑(List.length l) : Int)] [Ob.one 9 (V.t (Entity.enc f)) false, Ob.arr 9 (List.map Entity.enc (l ++ List.drop (List.length l) (List.replicate (List.length l + 3) (Entity.mk 0 0 0 0 0 0 0 0 0)))) (some 0) false]) (Res.mk (Ex.exit 0) [V.ptr 0 0 0, V.sl 1 0 (List.length l) none, V.sl 1 0 (List.length l + 3) none, vi (↑(List.length l + 3) : Int)] [Ob.one 9 (V.t (Entity.enc f)) false, Ob.arr 9 (List.map Entity.enc (List.take (List.length l) (l ++ List.drop (List.length l) (List.replicate (List.length l + 3) (Entity.mk 0 0 0 0 0 0 0 0 0))) ++ List.replicate 3 f)) (some 0) false])]) (by kernel_rfl) ⟨o_w ⟨(by omega), (by simp)⟩, o_n (by kernel_rfl), o_n (by simp), o_a (h _ (by kernel_rfl) (by simp)), trivial⟩ ?_
  refine rt (a := Res.mk Ex.ret [V.sl 0 0 (List.length l) none] [Ob.arr 9 (List.map Entity.enc (List.take (List.length l) (l ++ List.drop (List.length l) (List.replicate (List.length l + 3) (Entity.mk 0 0 0 0 0 0 0 0 0))) ++ List.replicate 3 f)) (some 0) false]) (by kernel_rfl) ?_
  simp
theorem f_jousthelp_Plain_1_Cross (a b : Cross) : Fn cx 69 [a.enc, b.enc] (.bool (decide (a = b))) := by
  rw [← teq_cross]
  refine Wp.ev ?_
  refine gs (l := [.w (conform cx (40 : Nat) (55 : Nat) (T.agg [ti a.kind, ti a.frm, ti a.to, ti a.frame, ti a.ent.id, ti a.ent.kind, ti a.ent.x, ti a.ent.y, ti a.ent.vx, ti a.ent.vy, ti a.ent.health, ti a.ent.age, ti a.ent.owner, ti a.x, ti a.y]) = true ∧ conform cx (40 : Nat) (55 : Nat) (T.agg [ti b.kind, ti b.frm, ti b.to, ti b.frame, ti b.ent.id, ti b.ent.kind, ti b.ent.x, ti b.ent.y, ti b.ent.vx, ti b.ent.vy, ti b.ent.health, ti b.ent.age, ti b.ent.owner, ti b.x, ti b.y]) = true)]) (by kernel_rfl) ⟨o_w ⟨(by kernel_rfl), (by kernel_rfl)⟩, trivial⟩ ?_
  refine rt (a := Res.mk Ex.ret [vb (teq (T.agg [ti a.kind, ti a.frm, ti a.to, ti a.frame, ti a.ent.id, ti a.ent.kind, ti a.ent.x, ti a.ent.y, ti a.ent.vx, ti a.ent.vy, ti a.ent.health, ti a.ent.age, ti a.ent.owner, ti a.x, ti a.y]) (T.agg [ti b.kind, ti b.frm, ti b.to, ti b.frame, ti b.ent.id, ti b.ent.kind, ti b.ent.x, ti b.ent.y, ti b.ent.vx, ti b.ent.vy, ti b.ent.health, ti b.ent.age, ti b.ent.owner, ti b.x, ti b.y]))] []) (by kernel_rfl) ?_
  rfl
theorem f_jousthelp_Same_loop_Cross (a b : List Cross) (g : Nat) (p : Cross → Cross → Bool) (hb : isFnB cx g = true) (hn : small a) (hl : a.length = b.length)
    (hg : ∀ x y, Fn cx g [x.enc, y.enc] (.bool (p x y))) : ∀ (d i : Nat), i + d = a.length →
    ∃ k : Nat, Is cx (.loop 68 [0, 1, 0, 1, 1] 0 [.t (.sl 15 (a.map Cross.enc)), .t (.sl 15 (b.map Cross.enc)), .t (.clo g []), vb false, vi i] [])
      (match sameL p (a.drop i) (b.drop i) with
        | true => ⟨.exit 0, [.t (.sl 15 (a.map Cross.enc)), .t (.sl 15 (b.map Cross.enc)), .t (.clo g []), vb false, vi a.length], []⟩
        | false => ⟨.ret, [.t (.sl 15 (a.map Cross.enc)), .t (.sl 15 (b.map Cross.enc)), .t (.clo g []), vb false, vi k], []⟩) := by
  unfold small at hn
  intro d
  induction d with
  | zero =>
    intro i hi
    refine ⟨0, ?_⟩
    rw [drop_end (by omega), drop_end (by omega)]
    refine Wp.ev ?_
    refine gs (l := [.n (List.length (List.map Cross.enc a)) (List.length a), .b (decide ((↑i : Int) < (↑(List.length a) : Int))) false]) (by kernel_rfl) ⟨o_n (by simp), f_brp (by omega), trivial⟩ ?_
    refine rt (a := Res.mk (Ex.exit 0) [V.t (T.sl 15 (List.map Cross.enc a)), V.t (T.sl 15 (List.map Cross.enc b)), V.t (T.clo g []), vb false, vi (↑i : Int)] []) (by kernel_rfl) ?_
    ((have hq : i = a.length := by omega); subst hq; rfl)
  | succ d ih =>
    intro i hi
    have hlt : i < a.length := by omega
    have hlt' : i < b.length := by omega
    obtain ⟨k, ih1⟩ := ih (i + 1) (by omega)
    have hy := hg (gt a i) (gt b i)
    clear ih hg
    rw [same_gt hlt hlt']
    cases hp : p (gt a i) (gt b i) with
    | true =>
      rw [hp] at hy
      refine ⟨k, ?_⟩
      rw [Bool.true_and]
      cases hq : sameL p (a.drop (i + 1)) (b.drop (i + 1)) with
      | true =>
        rw [hq] at ih1
        refine Wp.ev ?_
        refine gs (l := [.n (List.length (List.map Cross.enc a)) (List.length a), .b (decide ((↑i : Int) < (↑(List.length a) : Int))) true, .w ((0 : Int) ≤ (↑i : Int)), .n (Int.toNat (↑i : Int)) i, .g (List.map Cross.enc a) i (Cross.enc (gt a i)), .w ((0 : Int) ≤ (↑i : Int)), .n (Int.toNat (↑i : Int)) i, .g (List.map Cross.enc b) i (Cross.enc (gt b i)), .w (isFnB cx g = true), .a (Task.call g [V.t (Cross.enc (gt a i)), V.t (Cross.enc (gt b i))] []) (Res.mk Ex.ret [vb true] []), .b (!true) false, .i IntKind.i64 ((↑i : Int) + 1) ((↑(i + 1) : Int)), .a (Task.loop 68 [0, 1, 0, 1, 1] 0 [V.t (T.sl 15 (List.map Cross.enc a)), V.t (T.sl 15 (List.map Cross.enc b)), V.t (T.clo g []), vb false, vi (↑(i + 1) : Int)] []) (Res.mk (Ex.exit 0) [V.t (T.sl 15 (List.map Cross.enc a)), V.t (T.sl 15 (List.map Cross.enc b)), V.t (T.clo g []), vb false, vi (↑(List.length a) : Int)] [])]) (by kernel_rfl) ⟨o_n (by simp), t_brp (by omega), o_w (by omega), o_n (by kernel_rfl), o_gt rfl (by assumption) (by intro h; cases h), o_w (by omega), o_n (by kernel_rfl), o_gt rfl (by assumption) (by intro h; cases h), o_w (by assumption), o_a hy, o_b (by kernel_rfl), o_i (w64 (by omega)), o_a ih1, trivial⟩ ?_
        refine rt (a := Res.mk (Ex.exit 0) [V.t (T.sl 15 (List.map Cross.enc a)), V.t (T.sl 15 (List.map Cross.enc b)), V.t (T.clo g []), vb false, vi (↑(List.length a) : Int)] []) (by kernel_rfl) ?_
        rfl
      | false =>
        rw [hq] at ih1
        refine Wp.ev ?_
        refine gs (l := [.n (List.length (List.map Cross.enc a)) (List.length a), .b (decide ((↑i : Int) < (↑(List.length a) : Int))) true, .w ((0 : Int) ≤ (↑i : Int)), .n (Int.toNat (↑i : Int)) i, .g (List.map Cross.enc a) i (Cross.enc (gt a i)), .w ((0 : Int) ≤ (↑i : Int)), .n (Int.toNat (↑i : Int)) i, .g (List.map Cross.enc b) i (Cross.enc (gt b i)), .w (isFnB cx g = true), .a (Task.call g [V.t (Cross.enc (gt a i)), V.t (Cross.enc (gt b i))] []) (Res.mk Ex.ret [vb true] []), .b (!true) false, .i IntKind.i64 ((↑i : Int) + 1) ((↑(i + 1) : Int)), .a (Task.loop 68 [0, 1, 0, 1, 1] 0 [V.t (T.sl 15 (List.map Cross.enc a)), V.t (T.sl 15 (List.map Cross.enc b)), V.t (T.clo g []), vb false, vi (↑(i + 1) : Int)] []) (Res.mk Ex.ret [V.t (T.sl 15 (List.map Cross.enc a)), V.t (T.sl 15 (List.map Cross.enc b)), V.t (T.clo g []), vb false, vi (↑k : Int)] [])]) (by kernel_rfl) ⟨o_n (by simp), t_brp (by omega), o_w (by omega), o_n (by kernel_rfl), o_gt rfl (by assumption) (by intro h; cases h), o_w (by omega), o_n (by kernel_rfl), o_gt rfl (by assumption) (by intro h; cases h), o_w (by assumption), o_a hy, o_b (by kernel_rfl), o_i (w64 (by omega)), o_a ih1, trivial⟩ ?_
        refine rt (a := Res.mk Ex.ret [V.t (T.sl 15 (List.map Cross.enc a)), V.t (T.sl 15 (List.map Cross.enc b)), V.t (T.clo g []), vb false, vi (↑k : Int)] []) (by kernel_rfl) ?_
        rfl
    | false =>
      rw [hp] at hy
      refine ⟨i, ?_⟩
      rw [Bool.false_and]
      refine Wp.ev ?_
      refine gs (l := [.n (List.length (List.map Cross.enc a)) (List.length a), .b (decide ((↑i : Int) < (↑(List.length a) : Int))) true, .w ((0 : Int) ≤ (↑i : Int)), .n (Int.toNat (↑i : Int)) i, .g (List.map Cross.enc a) i (Cross.enc (gt a i)), .w ((0 : Int) ≤ (↑i : Int)), .n (Int.toNat (↑i : Int)) i, .g (List.map Cross.enc b) i (Cross.enc (gt b i)), .w (isFnB cx g = true), .a (Task.call g [V.t (Cross.enc (gt a i)), V.t (Cross.enc (gt b i))] []) (Res.mk Ex.ret [vb false] []), .b (!false) true]) (by kernel_rfl) ⟨o_n (by simp), t_brp (by omega), o_w (by omega), o_n (by kernel_rfl), o_gt rfl (by assumption) (by intro h; cases h), o_w (by omega), o_n (by kernel_rfl), o_gt rfl (by assumption) (by intro h; cases h), o_w (by assumption), o_a hy, o_b (by kernel_rfl), trivial⟩ ?_
      refine rt (a := Res.mk Ex.ret [V.t (T.sl 15 (List.map Cross.enc a)), V.t (T.sl 15 (List.map Cross.enc b)), V.t (T.clo g []), vb false, vi (↑i : Int)] []) (by kernel_rfl) ?_
      rfl
theorem f_jousthelp_Same_Cross (a b : List Cross) (g : Nat) (p : Cross → Cross → Bool) (hb : isFnB cx g = true) (hn : small a)
    (hg : ∀ x y, Fn cx g [x.enc, y.enc] (.bool (p x y))) : Fn cx 68 [.sl 15 (a.map Cross.enc), .sl 15 (b.map Cross.enc), .clo g []] (.bool (decide (a.length = b.length) && sameL p a b)) := by
  by_cases hl : a.length = b.length
  · obtain ⟨k, h⟩ := f_jousthelp_Same_loop_Cross a b g p hb hn hl hg a.length 0 (by omega)
    clear hg
    rw [List.drop_zero, List.drop_zero] at h
    rw [show decide (a.length = b.length) = true by simpa using hl, Bool.true_and]
    cases hq : sameL p a b with
    | true =>
      rw [hq] at h
      refine Wp.ev ?_
      refine gs (l := [.n (List.length (List.map Cross.enc a)) (List.length a), .n (List.length (List.map Cross.enc b)) (List.length b), .b ((↑(List.length a) : Int) != (↑(List.length b) : Int)) false, .a (Task.loop 68 [0, 1, 0, 1, 1] 0 [V.t (T.sl 15 (List.map Cross.enc a)), V.t (T.sl 15 (List.map Cross.enc b)), V.t (T.clo g []), vb false, vi 0] []) (Res.mk (Ex.exit 0) [V.t (T.sl 15 (List.map Cross.enc a)), V.t (T.sl 15 (List.map Cross.enc b)), V.t (T.clo g []), vb false, vi (↑(List.length a) : Int)] [])]) (by kernel_rfl) ⟨o_n (by simp), o_n (by simp), f_brn (by omega), o_a h, trivial⟩ ?_
      refine rt (a := Res.mk Ex.ret [vb true] []) (by kernel_rfl) ?_
      rfl
    | false =>
      rw [hq] at h
      refine Wp.ev ?_
      refine gs (l := [.n (List.length (List.map Cross.enc a)) (List.length a), .n (List.length (List.map Cross.enc b)) (List.length b), .b ((↑(List.length a) : Int) != (↑(List.length b) : Int)) false, .a (Task.loop 68 [0, 1, 0, 1, 1] 0 [V.t (T.sl 15 (List.map Cross.enc a)), V.t (T.sl 15 (List.map Cross.enc b)), V.t (T.clo g []), vb false, vi 0] []) (Res.mk Ex.ret [V.t (T.sl 15 (List.map Cross.enc a)), V.t (T.sl 15 (List.map Cross.enc b)), V.t (T.clo g []), vb false, vi (↑k : Int)] [])]) (by kernel_rfl) ⟨o_n (by simp), o_n (by simp), f_brn (by omega), o_a h, trivial⟩ ?_
      refine rt (a := Res.mk Ex.ret [vb false] []) (by kernel_rfl) ?_
      rfl
  · clear hg
    simp only [hl, decide_false, Bool.false_and]
    refine Wp.ev ?_
    refine gs (l := [.n (List.length (List.map Cross.enc a)) (List.length a), .n (List.length (List.map Cross.enc b)) (List.length b), .b ((↑(List.length a) : Int) != (↑(List.length b) : Int)) true]) (by kernel_rfl) ⟨o_n (by simp), o_n (by simp), t_brn (by omega), trivial⟩ ?_
    refine rt (a := Res.mk Ex.ret [vb false] []) (by kernel_rfl) ?_
    rfl
theorem f_jousthelp_Plain_Cross (a b : List Cross) (hn : small a) : Fn cx 33 [.sl 15 (a.map Cross.enc), .sl 15 (b.map Cross.enc)] (.bool (plain a b)) := by
  have h := f_jousthelp_Same_Cross a b 69 (fun x y => decide (x = y)) (by kernel_rfl) hn f_jousthelp_Plain_1_Cross
  have e : (decide (a.length = b.length) && sameL (fun x y => decide (x = y)) a b) = plain a b := by
    by_cases hl : a.length = b.length
    · rw [same_eq hl]; simp [hl, plain]
    · have : a ≠ b := fun h => hl (by rw [h])
      simp [hl, plain, this]
  rw [e] at h
  refine Wp.ev ?_
  refine gs (l := [.a (Task.call 68 [V.t (T.sl 15 (List.map Cross.enc a)), V.t (T.sl 15 (List.map Cross.enc b)), V.t (T.clo 69 [])] []) (Res.mk Ex.ret [vb (plain a b)] [])]) (by kernel_rfl) ⟨o_a h, trivial⟩ ?_
  refine rt (a := Res.mk Ex.ret [vb (plain a b)] []) (by kernel_rfl) ?_
  rfl
theorem f_jousthelp_In_loop_Cross (l : List Cross) (x : Cross) (hn : small l) : ∀ (d i : Nat), i + d = l.length →
    ∃ k : Nat, Is cx (.loop 35 [0, 1, 0, 1] 0 [.t (.sl 15 (l.map Cross.enc)), .ptr 0 0 0, vb false, vi i] [.one 15 (.t x.enc) false])
      (match (l.drop i).any fun y => decide (y = x) with
        | true => ⟨.ret, [.t (.sl 15 (l.map Cross.enc)), .ptr 0 0 0, vb true, vi k], [.one 15 (.t x.enc) false]⟩
        | false => ⟨.exit 0, [.t (.sl 15 (l.map Cross.enc)), .ptr 0 0 0, vb false, vi l.length], [.one 15 (.t x.enc) false]⟩) := by
  unfold small at hn
  intro d
  induction d with
  | zero =>
    intro i hi
    refine ⟨0, ?_⟩
    rw [drop_end (by omega)]
    refine Wp.ev ?_
    refine gs (l := [.n (List.length (List.map Cross.enc l)) (List.length l), .b (decide ((↑i : Int) < (↑(List.length l) : Int))) false]) (by kernel_rfl) ⟨o_n (by simp), f_brp (by omega), trivial⟩ ?_
    refine rt (a := Res.mk (Ex.exit 0) [V.t (T.sl 15 (List.map Cross.enc l)), V.ptr 0 0 0, vb false, vi (↑i : Int)] [Ob.one 15 (V.t (Cross.enc x)) false]) (by kernel_rfl) ?_
    ((have : i = l.length := by omega); subst this; rfl)
  | succ d ih =>
    intro i hi
    have hlt : i < l.length := by omega
    obtain ⟨k, ih1⟩ := ih (i + 1) (by omega)
    clear ih
    rw [any_gt _ hlt]
    by_cases hp : gt l i = x
    · have ht : teq (gt l i).enc x.enc = true := by rw [teq_cross]; simpa using hp
      rw [show decide (gt l i = x) = true by simpa using hp, Bool.true_or]
      clear ih1
      refine ⟨i, ?_⟩
      refine Wp.ev ?_
      refine gs (l := [.n (List.length (List.map Cross.enc l)) (List.length l), .b (decide ((↑i : Int) < (↑(List.length l) : Int))) true, .w ((0 : Int) ≤ (↑i : Int)), .n (Int.toNat (↑i : Int)) i, .g (List.map Cross.enc l) i (Cross.enc (gt l i)), .w (conform cx (40 : Nat) (55 : Nat) (T.agg [ti (gt l i).kind, ti (gt l i).frm, ti (gt l i).to, ti (gt l i).frame, ti (gt l i).ent.id, ti (gt l i).ent.kind, ti (gt l i).ent.x, ti (gt l i).ent.y, ti (gt l i).ent.vx, ti (gt l i).ent.vy, ti (gt l i).ent.health, ti (gt l i).ent.age, ti (gt l i).ent.owner, ti (gt l i).x, ti (gt l i).y]) = true ∧ conform cx (40 : Nat) (55 : Nat) (T.agg [ti x.kind, ti x.frm, ti x.to, ti x.frame, ti x.ent.id, ti x.ent.kind, ti x.ent.x, ti x.ent.y, ti x.ent.vx, ti x.ent.vy, ti x.ent.health, ti x.ent.age, ti x.ent.owner, ti x.x, ti x.y]) = true), .b (teq (Cross.enc (gt l i)) (Cross.enc x)) true]) (by kernel_rfl) ⟨o_n (by simp), t_brp (by omega), o_w (by omega), o_n (by kernel_rfl), o_gt rfl (by assumption) (by intro h; cases h), o_w ⟨(by kernel_rfl), (by kernel_rfl)⟩, t_br (by assumption), trivial⟩ ?_
      refine rt (a := Res.mk Ex.ret [V.t (T.sl 15 (List.map Cross.enc l)), V.ptr 0 0 0, vb true, vi (↑i : Int)] [Ob.one 15 (V.t (Cross.enc x)) false]) (by kernel_rfl) ?_
      rfl
    · have ht : teq (gt l i).enc x.enc = false := by rw [teq_cross]; simpa using hp
      rw [show decide (gt l i = x) = false by simpa using hp, Bool.false_or]
      refine ⟨k, ?_⟩
      cases hq : (l.drop (i+1)).any fun y => decide (y = x) with
      | true =>
        rw [hq] at ih1
        refine Wp.ev ?_
        refine gs (l := [.n (List.length (List.map Cross.enc l)) (List.length l), .b (decide ((↑i : Int) < (↑(List.length l) : Int))) true, .w ((0 : Int) ≤ (↑i : Int)), .n (Int.toNat (↑i : Int)) i, .g (List.map Cross.enc l) i (Cross.enc (gt l i)), .w (conform cx (40 : Nat) (55 : Nat) (T.agg [ti (gt l i).kind, ti (gt l i).frm, ti (gt l i).to, ti (gt l i).frame, ti (gt l i).ent.id, ti (gt l i).ent.kind, ti (gt l i).ent.x, ti (gt l i).ent.y, ti (gt l i).ent.vx, ti (gt l i).ent.vy, ti (gt l i).ent.health, ti (gt l i).ent.age, ti (gt l i).ent.owner, ti (gt l i).x, ti (gt l i).y]) = true ∧ conform cx (40 : Nat) (55 : Nat) (T.agg [ti x.kind, ti x.frm, ti x.to, ti x.frame, ti x.ent.id, ti x.ent.kind, ti x.ent.x, ti x.ent.y, ti x.ent.vx, ti x.ent.vy, ti x.ent.health, ti x.ent.age, ti x.ent.owner, ti x.x, ti x.y]) = true), .b (teq (Cross.enc (gt l i)) (Cross.enc x)) false, .i IntKind.i64 ((↑i : Int) + 1) ((↑(i + 1) : Int)), .a (Task.loop 35 [0, 1, 0, 1] 0 [V.t (T.sl 15 (List.map Cross.enc l)), V.ptr 0 0 0, vb false, vi (↑(i + 1) : Int)] [Ob.one 15 (V.t (Cross.enc x)) false]) (Res.mk Ex.ret [V.t (T.sl 15 (List.map Cross.enc l)), V.ptr 0 0 0, vb true, vi (↑k : Int)] [Ob.one 15 (V.t (Cross.enc x)) false])]) (by kernel_rfl) ⟨o_n (by simp), t_brp (by omega), o_w (by omega), o_n (by kernel_rfl), o_gt rfl (by assumption) (by intro h; cases h), o_w ⟨(by kernel_rfl), (by kernel_rfl)⟩, f_br (by assumption), o_i (w64 (by omega)), o_a ih1, trivial⟩ ?_
        refine rt (a := Res.mk Ex.ret [V.t (T.sl 15 (List.map Cross.enc l)), V.ptr 0 0 0, vb true, vi (↑k : Int)] [Ob.one 15 (V.t (Cross.enc x)) false]) (by kernel_rfl) ?_
        rfl
      | false =>
        rw [hq] at ih1
        refine Wp.ev ?_
        refine gs (l := [.n (List.length (List.map Cross.enc l)) (List.length l), .b (decide ((↑i : Int) < (↑(List.length l) : Int))) true, .w ((0 : Int) ≤ (↑i : Int)), .n (Int.toNat (↑i : Int)) i, .g (List.map Cross.enc l) i (Cross.enc (gt l i)), .w (conform cx (40 : Nat) (55 : Nat) (T.agg [ti (gt l i).kind, ti (gt l i).frm, ti (gt l i).to, ti (gt l i).frame, ti (gt l i).ent.id, ti (gt l i).ent.kind, ti (gt l i).ent.x, ti (gt l i).ent.y, ti (gt l i).ent.vx, ti (gt l i).ent.vy, ti (gt l i).ent.health, ti (gt l i).ent.age, ti (gt l i).ent.owner, ti (gt l i).x, ti (gt l i).y]) = true ∧ conform cx (40 : Nat) (55 : Nat) (T.agg [ti x.kind, ti x.frm, ti x.to, ti x.frame, ti x.ent.id, ti x.ent.kind, ti x.ent.x, ti x.ent.y, ti x.ent.vx, ti x.ent.vy, ti x.ent.health, ti x.ent.age, ti x.ent.owner, ti x.x, ti x.y]) = true), .b (teq (Cross.enc (gt l i)) (Cross.enc x)) false, .i IntKind.i64 ((↑i : Int) + 1) ((↑(i + 1) : Int)), .a (Task.loop 35 [0, 1, 0, 1] 0 [V.t (T.sl 15 (List.map Cross.enc l)), V.ptr 0 0 0, vb false, vi (↑(i + 1) : Int)] [Ob.one 15 (V.t (Cross.enc x)) false]) (Res.mk (Ex.exit 0) [V.t (T.sl 15 (List.map Cross.enc l)), V.ptr 0 0 0, vb false, vi (↑(List.length l) : Int)] [Ob.one 15 (V.t (Cross.enc x)) false])]) (by kernel_rfl) ⟨o_n (by simp), t_brp (by omega), o_w (by omega), o_n (by kernel_rfl), o_gt rfl (by assumption) (by intro h; cases h), o_w ⟨(by kernel_rfl), (by kernel_rfl)⟩, f_br (by assumption), o_i (w64 (by omega)), o_a ih1, trivial⟩ ?_
        refine rt (a := Res.mk (Ex.exit 0) [V.t (T.sl 15 (List.map Cross.enc l)), V.ptr 0 0 0, vb false, vi (↑(List.length l) : Int)] [Ob.one 15 (V.t (Cross.enc x)) false]) (by kernel_rfl) ?_
        rfl
theorem f_jousthelp_Own_loop_Cross (f : Cross) (n : Nat) (hn : n ≤ 1000) : ∀ (d i : Nat) (A : List Cross), i + d = n + 3 → A.length = n + 3 →
    Is cx (.loop 37 [0, 1, 0, 1, 1, 1, 1] 0 [.ptr 0 0 0, .sl 1 0 n none, .sl 1 0 (n + 3) none, vi i] [.one 15 (.t f.enc) false, .arr 15 (A.map Cross.enc) (some 0) false])
      ⟨.exit 0, [.ptr 0 0 0, .sl 1 0 n none, .sl 1 0 (n + 3) none, vi (n + 3 : Nat)], [.one 15 (.t f.enc) false, .arr 15 ((A.take i ++ List.replicate d f).map Cross.enc) (some 0) false]⟩ := by
  intro d
  induction d with
  | zero =>
    intro i A hi hA
    have hq : i = n + 3 := by omega
    subst hq
    rw [List.take_of_length_le (by omega)]
    refine Wp.ev ?_
    refine gs (l := [.l (n + 3), .b (decide ((↑(n + 3) : Int) < (↑(n + 3) : Int))) false]) (by kernel_rfl) ⟨f_brp (by omega), trivial⟩ ?_
    refine rt (a := Res.mk (Ex.exit 0) [V.ptr 0 0 0, V.sl 1 0 n none, V.sl 1 0 (n + 3) none, vi (↑(n + 3) : Int)] [Ob.one 15 (V.t (Cross.enc f)) false, Ob.arr 15 (List.map Cross.enc A) (some 0) false]) (by kernel_rfl) ?_
    simp
  | succ d ih =>
    intro i A hi hA
    have ih1 := ih (i + 1) (A.set i f) (by omega) (by simpa using hA)
    clear ih
    have e : (A.set i f).take (i + 1) ++ List.replicate d f = A.take i ++ List.replicate (d + 1) f := by
      rw [List.take_add_one, List.replicate_succ]
      simp [List.getElem?_set, List.take_set_of_le, show i < A.length by omega]
    rw [e] at ih1
    refine Wp.ev ?_
    refine gs (l := [.l (n + 3), .b (decide ((↑i : Int) < (↑(n + 3) : Int))) true, .w ((0 : Int) ≤ (↑i : Int)), .n (Int.toNat (↑i : Int)) i, .w (i < n + (3 : Nat)), .n (0 + i) i, .w (i < List.length (List.map Cross.enc A)), .t (T.sl 0 (List.set (List.map Cross.enc A) i (Cross.enc f))) (T.sl 0 (List.map Cross.enc (List.set A i f))), .i IntKind.i64 ((↑i : Int) + 1) ((↑(i + 1) : Int)), .a (Task.loop 37 [0, 1, 0, 1, 1, 1, 1] 0 [V.ptr 0 0 0, V.sl 1 0 n none, V.sl 1 0 (n + 3) none, vi (↑(i + 1) : Int)] [Ob.one 15 (V.t (Cross.enc f)) false, Ob.arr 15 (List.map Cross.enc (List.set A i f)) (some 0) false]) (Res.mk (Ex.exit 0) [V.ptr 0 0 0, V.sl 1 0 n none, V.sl 1 0 (n + 3) none, vi (↑(n + 3) : Int)] [Ob.one 15 (V.t (Cross.enc f)) false, Ob.arr 15 (List.map Cross.enc (List.take i A ++ List.replicate (d + 1) f)) (some 0) false])]) (by kernel_rfl) ⟨t_brp (by omega), o_w (by omega), o_n (by kernel_rfl), o_w (by omega), o_n (by omega), o_w (by (simp; omega)), o_l (nm_set rfl rfl), o_i (w64 (by omega)), o_a ih1, trivial⟩ ?_
    refine rt (a := Res.mk (Ex.exit 0) [V.ptr 0 0 0, V.sl 1 0 n none, V.sl 1 0 (n + 3) none, vi (↑(n + 3) : Int)] [Ob.one 15 (V.t (Cross.enc f)) false, Ob.arr 15 (List.map Cross.enc (List.take i A ++ List.replicate (d + 1) f)) (some 0) false]) (by kernel_rfl) ?_
    rfl
theorem f_jousthelp_Own_Cross (l : List Cross) (f : Cross) (hn : l.length ≤ 1000) : Is cx (.call 37 [.t (.sl 15 (l.map Cross.enc)), .t f.enc] []) ⟨.ret, [.sl 0 0 l.length none], [.arr 15 ((l ++ [f, f, f]).map Cross.enc) (some 0) false]⟩ := by
  have h := f_jousthelp_Own_loop_Cross f l.length hn 3 l.length
  refine Wp.ev ?_
  refine gs (l := [.n (List.length (List.map Cross.enc l)) (List.length l), .i IntKind.i64 ((↑(List.length l) : Int) + 3) ((↑(List.length l + 3) : Int)), .w ((0 : Int) ≤ (0 : Int) ∧ (0 : Int) ≤ (↑(List.length l + (3 : Nat)) : Int) ∧ room (Int.toNat (↑(List.length l + (3 : Nat)) : Int)) (120 : Nat)), .n (Int.toNat (↑(List.length l + 3) : Int)) (List.length l + 3), .l 0, .w ((0 : Nat) < (120 : Nat)), .s (T.sl 0 (List.map Cross.enc l)), .b (decide (0 = 0)) true, .b (decide (0 + List.length (List.map Cross.enc l) ≤ List.length (List.replicate (List.length l + 3) (T.agg [ti 0, ti 0, ti 0, ti 0, ti 0, ti 0, ti 0, ti 0, ti 0, ti 0, ti 0, ti 0, ti 0, ti 0, ti 0])))) true, .t (T.sl 0 (List.take 0 (List.replicate (List.length l + 3) (T.agg [ti 0, ti 0, ti 0, ti 0, ti 0, ti 0, ti 0, ti 0, ti 0, ti 0, ti 0, ti 0, ti 0, ti 0, ti 0])) ++ List.map Cross.enc l ++ List.drop (0 + List.length (List.map Cross.enc l)) (List.replicate (List.length l + 3) (T.agg [ti 0, ti 0, ti 0, ti 0, ti 0, ti 0, ti 0, ti 0, ti 0, ti 0, ti 0, ti 0, ti 0, ti 0, ti 0])))) (T.sl 0 (List.map Cross.enc (l ++ List.drop (List.length l) (List.replicate (List.length l + 3) (Cross.mk 0 0 0 0 (Entity.mk 0 0 0 0 0 0 0 0 0) 0 0))))), .n (0 + List.length (List.map Cross.enc l)) (List.length l), .n (List.length (List.map Cross.enc l)) (List.length l), .i IntKind.i64 ((↑(List.length l) : Int) + 3) ((↑(List.length l + 3) : Int)), .w ((0 : Int) ≤ (↑(List.length l + (3 : Nat)) : Int)), .n (Int.toNat (↑(List.length l + 3) : Int)) (List.length l + 3), .b (decide (0 = 0)) true]) (by kernel_rfl) ⟨o_n (by simp), o_i (w64 (by (simp [room, appendMax]; omega))), o_w ⟨(by omega), ⟨(by (simp [room, appendMax]; omega)), (by (simp [room, appendMax]; omega))⟩⟩, o_n (by kernel_rfl), o_w (by omega), o_b (by kernel_rfl), t_brp (by simp), o_l (nm_eq (nm_app (nm_app (nm_take (nm_rep (e := Cross.mk 0 0 0 0 (Entity.mk 0 0 0 0 0 0 0 0 0) 0 0) rfl)) rfl) (nm_drop (nm_rep (e := Cross.mk 0 0 0 0 (Entity.mk 0 0 0 0 0 0 0 0 0) 0 0) rfl))) (by simp)), o_n (by simp), o_n (by simp), o_i (w64 (by (simp [room, appendMax]; omega))), o_w (by (simp [room, appendMax]; omega)), o_n (by kernel_rfl), o_b (by kernel_rfl), trivial⟩ ?_
  refine gs (l := [.w ((0 : Nat) ≤ List.length l + (3 : Nat) ∧ (0 : Nat) + (List.length l + (3 : Nat)) ≤ List.length (List.map Cross.enc (l ++ List.drop (List.length l) (List.replicate (List.length l + (3 : Nat)) (Cross.mk (0 : Int) (0 : Int) (0 : Int) (0 : Int) (Entity.mk (0 : Int) (0 : Int) (0 : Int) (0 : Int) (0 : Int) (0 : Int) (0 : Int) (0 : Int) (0 : Int)) (0 : Int) (0 : Int)))))), .l 0, .n (List.length l + 3 - 0) (List.length l + 3), .n (List.length (List.map Cross.enc l)) (List.length l), .a (Task.loop 37 [0, 1, 0, 1, 1, 1, 1] 0 [V.ptr 0 0 0, V.sl 1 0 (List.length l) none, V.sl 1 0 (List.length l + 3) none, vi (↑(List.length l) : Int)] [Ob.one 15 (V.t (Cross.enc f)) false, Ob.arr 15 (List.map Cross.enc (l ++ List.drop (List.length l) (List.replicate (List.length l + 3) (Cross.mk 0 0 0 0 (Entity.mk 0 0 0 0 0 0 0 0 0) 0 0)))) (some 0) false]) (Res.mk (Ex.exit 0) [V.ptr 0 0 0, V.sl 1 0 (List.length l) none, V.sl 1 0 (List.length l + 3) none, vi (↑(List.length l + 3) : Int)] [Ob.one 15 (V.t (Cross.enc f)) false, Ob.arr 15 (List.map Cross.enc (List.take (List.length l) (l ++ List.drop (List.length l) (List.replicate (List.length l + 3) (Cross.mk 0 0 0 0 (Entity.mk 0 0 0 0 0 0 0 0 0) 0 0))) ++ List.replicate 3 f)) (some 0) false])]) (by kernel_rfl) ⟨o_w ⟨(by omega), (by simp)⟩, o_n (by kernel_rfl), o_n (by simp), o_a (h _ (by kernel_rfl) (by simp)), trivial⟩ ?_
  refine rt (a := Res.mk Ex.ret [V.sl 0 0 (List.length l) none] [Ob.arr 15 (List.map Cross.enc (List.take (List.length l) (l ++ List.drop (List.length l) (List.replicate (List.length l + 3) (Cross.mk 0 0 0 0 (Entity.mk 0 0 0 0 0 0 0 0 0) 0 0))) ++ List.replicate 3 f)) (some 0) false]) (by kernel_rfl) ?_
  simp
end Go.Eva.S1

/- Which entities are right; the statements of the entities. -/
namespace Go.Eva.S1
theorem f_entity_pace (v : Int) : Fn cx 61 [ti v] (.bool (pace v)) := by
  refine Wp.ev ?_
  refine bre (x := v) (y := 0) (by kernel_rfl) (fun h1 => ?_) (fun h1 => ?_)
  · refine gs (l := [.tt, .tt, .tt, .tt, .tt]) (by kernel_rfl) trivial ?_
    refine rt (a := Res.mk Ex.ret [vb true] []) (by kernel_rfl) ?_
    simp_all [pace, beqd]
  · refine gs (l := [.ff, .ff]) (by kernel_rfl) trivial ?_
    refine bre (x := v) (y := 160) (by kernel_rfl) (fun h2 => ?_) (fun h2 => ?_)
    · refine gs (l := [.tt, .tt]) (by kernel_rfl) trivial ?_
      refine rt (a := Res.mk Ex.ret [vb true] []) (by kernel_rfl) ?_
      simp_all [pace, beqd]
    · refine gs (l := [.ff, .ff]) (by kernel_rfl) trivial ?_
      refine rt (a := Res.mk Ex.ret [vb (v == -160)] []) (by kernel_rfl) ?_
      simp_all [pace, beqd]
theorem f_joustref05_step (v : Int) : Fn cx 64 [ti v] (.bool (pace v)) := by
  refine Wp.ev ?_
  refine bre (x := v) (y := -160) (by kernel_rfl) (fun h1 => ?_) (fun h1 => ?_)
  · refine gs (l := [.tt, .tt, .tt, .tt, .tt]) (by kernel_rfl) trivial ?_
    refine rt (a := Res.mk Ex.ret [vb true] []) (by kernel_rfl) ?_
    (simp_all [pace, beqd])
  · refine gs (l := [.ff, .ff]) (by kernel_rfl) trivial ?_
    refine bre (x := v) (y := 0) (by kernel_rfl) (fun h2 => ?_) (fun h2 => ?_)
    · refine gs (l := [.tt, .tt]) (by kernel_rfl) trivial ?_
      refine rt (a := Res.mk Ex.ret [vb true] []) (by kernel_rfl) ?_
      (simp_all [pace, beqd])
    · refine gs (l := [.ff, .ff]) (by kernel_rfl) trivial ?_
      refine rt (a := Res.mk Ex.ret [vb (v == 160)] []) (by kernel_rfl) ?_
      (simp_all [pace, beqd])
theorem f_entity_Right (c : Config) (e : Entity) : Fn cx 22 [c.enc, e.enc] (.bool (e.right c)) := by
  refine Wp.ev ?_
  refine gs (l := [.a (Task.call 59 [V.t (Config.enc c), vi e.x, vi e.y] []) (Res.mk Ex.ret [vb (Config.inside c e.x e.y)] [])]) (by kernel_rfl) ⟨o_a (f_grid_Inside _ _ _), trivial⟩ ?_
  refine brnot (b := Config.inside c e.x e.y) (by kernel_rfl) (fun h1 => ?_) (fun h1 => ?_)
  · refine rt (a := Res.mk Ex.ret [vb false] []) (by kernel_rfl) ?_
    simp_all [Entity.right, beqd, bned]
  · refine gs (l := [.a (Task.call 60 [vi e.id, vi 1000, vi 2147483647] []) (Res.mk Ex.ret [vb (within e.id 1000 2147483647)] [])]) (by kernel_rfl) ⟨o_a (f_entity_within _ _ _), trivial⟩ ?_
    refine br (b := within e.id 1000 2147483647) (by kernel_rfl) (fun h2 => ?_) (fun h2 => ?_)
    · refine gs (l := [.tt, .tt, .tt]) (by kernel_rfl) trivial ?_
      refine bre (x := e.kind) (y := 1) (by kernel_rfl) (fun h3 => ?_) (fun h3 => ?_)
      · refine gs (l := [.a (Task.call 60 [vi e.id, vi 1, vi c.players] []) (Res.mk Ex.ret [vb (within e.id 1 c.players)] [])]) (by kernel_rfl) ⟨o_a (f_entity_within _ _ _), trivial⟩ ?_
        refine br (b := within e.id 1 c.players) (by kernel_rfl) (fun h4 => ?_) (fun h4 => ?_)
        · refine gs (l := [.tt, .tt, .a (Task.call 60 [vi e.vx, vi (-64), vi 64] []) (Res.mk Ex.ret [vb (within e.vx (-64) 64)] []), .tt]) (by kernel_rfl) ⟨o_a (f_entity_within _ _ _), trivial⟩ ?_
          refine br (b := within e.vx (-64) 64) (by kernel_rfl) (fun h5 => ?_) (fun h5 => ?_)
          · refine gs (l := [.tt, .tt, .a (Task.call 60 [vi e.vy, vi (-64), vi 64] []) (Res.mk Ex.ret [vb (within e.vy (-64) 64)] []), .tt]) (by kernel_rfl) ⟨o_a (f_entity_within _ _ _), trivial⟩ ?_
            refine br (b := within e.vy (-64) 64) (by kernel_rfl) (fun h6 => ?_) (fun h6 => ?_)
            · refine gs (l := [.tt, .tt, .a (Task.call 60 [vi e.health, vi 1, vi 100] []) (Res.mk Ex.ret [vb (within e.health 1 100)] []), .tt]) (by kernel_rfl) ⟨o_a (f_entity_within _ _ _), trivial⟩ ?_
              refine br (b := within e.health 1 100) (by kernel_rfl) (fun h7 => ?_) (fun h7 => ?_)
              · refine gs (l := [.tt, .tt, .a (Task.call 60 [vi e.age, vi 0, vi 6] []) (Res.mk Ex.ret [vb (within e.age 0 6)] []), .tt]) (by kernel_rfl) ⟨o_a (f_entity_within _ _ _), trivial⟩ ?_
                refine br (b := within e.age 0 6) (by kernel_rfl) (fun h8 => ?_) (fun h8 => ?_)
                · refine gs (l := [.tt, .tt, .tt]) (by kernel_rfl) trivial ?_
                  refine rt (a := Res.mk Ex.ret [vb (e.owner == 0)] []) (by kernel_rfl) ?_
                  simp_all [Entity.right, beqd, bned]
                · refine gs (l := [.ff, .ff, .ff]) (by kernel_rfl) trivial ?_
                  refine rt (a := Res.mk Ex.ret [vb false] []) (by kernel_rfl) ?_
                  simp_all [Entity.right, beqd, bned]
              · refine gs (l := [.ff, .ff, .ff, .ff, .ff, .ff, .ff]) (by kernel_rfl) trivial ?_
                refine rt (a := Res.mk Ex.ret [vb false] []) (by kernel_rfl) ?_
                simp_all [Entity.right, beqd, bned]
            · refine gs (l := [.ff, .ff, .ff, .ff, .ff, .ff, .ff, .ff, .ff, .ff, .ff]) (by kernel_rfl) trivial ?_
              refine rt (a := Res.mk Ex.ret [vb false] []) (by kernel_rfl) ?_
              simp_all [Entity.right, beqd, bned]
          · refine gs (l := [.ff, .ff, .ff, .ff, .ff, .ff, .ff, .ff, .ff, .ff, .ff, .ff, .ff, .ff, .ff]) (by kernel_rfl) trivial ?_
            refine rt (a := Res.mk Ex.ret [vb false] []) (by kernel_rfl) ?_
            simp_all [Entity.right, beqd, bned]
        · refine gs (l := [.ff, .ff, .ff, .ff, .ff, .ff, .ff, .ff, .ff, .ff, .ff, .ff, .ff, .ff, .ff, .ff]) (by kernel_rfl) trivial ?_
          refine gs (l := [.ff, .ff, .ff]) (by kernel_rfl) trivial ?_
          refine rt (a := Res.mk Ex.ret [vb false] []) (by kernel_rfl) ?_
          simp_all [Entity.right, beqd, bned]
      · refine bre (x := e.kind) (y := 2) (by kernel_rfl) (fun h4 => ?_) (fun h4 => ?_)
        · refine bre (x := e.health) (y := 1) (by kernel_rfl) (fun h5 => ?_) (fun h5 => ?_)
          · refine gs (l := [.tt, .tt, .a (Task.call 61 [vi e.vx] []) (Res.mk Ex.ret [vb (pace e.vx)] []), .tt]) (by kernel_rfl) ⟨o_a (f_entity_pace _), trivial⟩ ?_
            refine br (b := pace e.vx) (by kernel_rfl) (fun h6 => ?_) (fun h6 => ?_)
            · refine gs (l := [.tt, .tt, .a (Task.call 61 [vi e.vy] []) (Res.mk Ex.ret [vb (pace e.vy)] []), .tt]) (by kernel_rfl) ⟨o_a (f_entity_pace _), trivial⟩ ?_
              refine br (b := pace e.vy) (by kernel_rfl) (fun h7 => ?_) (fun h7 => ?_)
              · refine gs (l := [.tt, .tt, .tt]) (by kernel_rfl) trivial ?_
                refine brn (x := e.vx) (y := 0) (by kernel_rfl) (fun h8 => ?_) (fun h8 => ?_)
                · refine gs (l := [.tt, .tt, .tt, .tt, .tt, .tt, .tt, .tt, .a (Task.call 60 [vi e.age, vi 0, vi 12] []) (Res.mk Ex.ret [vb (within e.age 0 12)] []), .tt]) (by kernel_rfl) ⟨o_a (f_entity_within _ _ _), trivial⟩ ?_
                  refine br (b := within e.age 0 12) (by kernel_rfl) (fun h9 => ?_) (fun h9 => ?_)
                  · refine gs (l := [.tt, .tt, .tt, .tt, .tt, .a (Task.call 60 [vi e.owner, vi 1, vi c.players] []) (Res.mk Ex.ret [vb (within e.owner 1 c.players)] []), .tt]) (by kernel_rfl) ⟨o_a (f_entity_within _ _ _), trivial⟩ ?_
                    refine rt (a := Res.mk Ex.ret [vb (within e.owner 1 c.players)] []) (by kernel_rfl) ?_
                    simp_all [Entity.right, beqd, bned]
                  · refine gs (l := [.ff, .ff, .ff, .ff, .ff, .ff]) (by kernel_rfl) trivial ?_
                    refine rt (a := Res.mk Ex.ret [vb false] []) (by kernel_rfl) ?_
                    simp_all [Entity.right, beqd, bned]
                · refine gs (l := [.ff, .ff, .tt, .ff, .tt]) (by kernel_rfl) trivial ?_
                  refine brn (x := e.vy) (y := 0) (by kernel_rfl) (fun h9 => ?_) (fun h9 => ?_)
                  · refine gs (l := [.tt, .tt, .a (Task.call 60 [vi e.age, vi 0, vi 12] []) (Res.mk Ex.ret [vb (within e.age 0 12)] []), .tt]) (by kernel_rfl) ⟨o_a (f_entity_within _ _ _), trivial⟩ ?_
                    refine br (b := within e.age 0 12) (by kernel_rfl) (fun h10 => ?_) (fun h10 => ?_)
                    · refine gs (l := [.tt, .tt, .tt, .tt, .tt, .a (Task.call 60 [vi e.owner, vi 1, vi c.players] []) (Res.mk Ex.ret [vb (within e.owner 1 c.players)] []), .tt]) (by kernel_rfl) ⟨o_a (f_entity_within _ _ _), trivial⟩ ?_
                      refine rt (a := Res.mk Ex.ret [vb (within e.owner 1 c.players)] []) (by kernel_rfl) ?_
                      simp_all [Entity.right, beqd, bned]
                    · refine gs (l := [.ff, .ff, .ff, .ff, .ff, .ff]) (by kernel_rfl) trivial ?_
                      refine rt (a := Res.mk Ex.ret [vb false] []) (by kernel_rfl) ?_
                      simp_all [Entity.right, beqd, bned]
                  · refine gs (l := [.ff, .ff, .ff, .ff, .ff, .ff, .ff, .ff, .ff, .ff]) (by kernel_rfl) trivial ?_
                    refine rt (a := Res.mk Ex.ret [vb false] []) (by kernel_rfl) ?_
                    simp_all [Entity.right, beqd, bned]
              · refine gs (l := [.ff, .ff, .ff, .ff, .ff, .ff, .ff, .ff, .ff, .ff, .ff, .ff, .ff, .ff, .ff, .ff]) (by kernel_rfl) trivial ?_
                refine rt (a := Res.mk Ex.ret [vb false] []) (by kernel_rfl) ?_
                simp_all [Entity.right, beqd, bned]
            · refine gs (l := [.ff, .ff, .ff, .ff, .ff, .ff, .ff, .ff, .ff, .ff, .ff, .ff, .ff, .ff, .ff, .ff]) (by kernel_rfl) trivial ?_
              refine gs (l := [.ff, .ff, .ff, .ff]) (by kernel_rfl) trivial ?_
              refine rt (a := Res.mk Ex.ret [vb false] []) (by kernel_rfl) ?_
              simp_all [Entity.right, beqd, bned]
          · refine gs (l := [.ff, .ff, .ff, .ff, .ff, .ff, .ff, .ff, .ff, .ff, .ff, .ff, .ff, .ff, .ff, .ff]) (by kernel_rfl) trivial ?_
            refine gs (l := [.ff, .ff, .ff, .ff, .ff, .ff, .ff, .ff]) (by kernel_rfl) trivial ?_
            refine rt (a := Res.mk Ex.ret [vb false] []) (by kernel_rfl) ?_
            simp_all [Entity.right, beqd, bned]
        · refine bre (x := e.kind) (y := 3) (by kernel_rfl) (fun h5 => ?_) (fun h5 => ?_)
          · refine bre (x := e.health) (y := 1) (by kernel_rfl) (fun h6 => ?_) (fun h6 => ?_)
            · refine gs (l := [.tt, .tt, .tt]) (by kernel_rfl) trivial ?_
              refine bre (x := e.vx) (y := 0) (by kernel_rfl) (fun h7 => ?_) (fun h7 => ?_)
              · refine gs (l := [.tt, .tt, .tt]) (by kernel_rfl) trivial ?_
                refine bre (x := e.vy) (y := 0) (by kernel_rfl) (fun h8 => ?_) (fun h8 => ?_)
                · refine gs (l := [.tt, .tt, .tt]) (by kernel_rfl) trivial ?_
                  refine bre (x := e.age) (y := 0) (by kernel_rfl) (fun h9 => ?_) (fun h9 => ?_)
                  · refine gs (l := [.tt, .tt, .tt]) (by kernel_rfl) trivial ?_
                    refine rt (a := Res.mk Ex.ret [vb (e.owner == 0)] []) (by kernel_rfl) ?_
                    simp_all [Entity.right, beqd, bned]
                  · refine gs (l := [.ff, .ff, .ff]) (by kernel_rfl) trivial ?_
                    refine rt (a := Res.mk Ex.ret [vb false] []) (by kernel_rfl) ?_
                    simp_all [Entity.right, beqd, bned]
                · refine gs (l := [.ff, .ff, .ff, .ff, .ff, .ff, .ff]) (by kernel_rfl) trivial ?_
                  refine rt (a := Res.mk Ex.ret [vb false] []) (by kernel_rfl) ?_
                  simp_all [Entity.right, beqd, bned]
              · refine gs (l := [.ff, .ff, .ff, .ff, .ff, .ff, .ff, .ff, .ff, .ff, .ff]) (by kernel_rfl) trivial ?_
                refine rt (a := Res.mk Ex.ret [vb false] []) (by kernel_rfl) ?_
                simp_all [Entity.right, beqd, bned]
            · refine gs (l := [.ff, .ff, .ff, .ff, .ff, .ff, .ff, .ff, .ff, .ff, .ff, .ff, .ff, .ff, .ff]) (by kernel_rfl) trivial ?_
              refine rt (a := Res.mk Ex.ret [vb false] []) (by kernel_rfl) ?_
              simp_all [Entity.right, beqd, bned]
          · refine rt (a := Res.mk Ex.ret [vb false] []) (by kernel_rfl) ?_
            simp_all [Entity.right, beqd, bned]
    · refine gs (l := [.ff, .ff, .ff]) (by kernel_rfl) trivial ?_
      refine bre (x := e.kind) (y := 1) (by kernel_rfl) (fun h3 => ?_) (fun h3 => ?_)
      · refine gs (l := [.a (Task.call 60 [vi e.id, vi 1, vi c.players] []) (Res.mk Ex.ret [vb (within e.id 1 c.players)] [])]) (by kernel_rfl) ⟨o_a (f_entity_within _ _ _), trivial⟩ ?_
        refine br (b := within e.id 1 c.players) (by kernel_rfl) (fun h4 => ?_) (fun h4 => ?_)
        · refine gs (l := [.tt, .tt, .a (Task.call 60 [vi e.vx, vi (-64), vi 64] []) (Res.mk Ex.ret [vb (within e.vx (-64) 64)] []), .tt]) (by kernel_rfl) ⟨o_a (f_entity_within _ _ _), trivial⟩ ?_
          refine br (b := within e.vx (-64) 64) (by kernel_rfl) (fun h5 => ?_) (fun h5 => ?_)
          · refine gs (l := [.tt, .tt, .a (Task.call 60 [vi e.vy, vi (-64), vi 64] []) (Res.mk Ex.ret [vb (within e.vy (-64) 64)] []), .tt]) (by kernel_rfl) ⟨o_a (f_entity_within _ _ _), trivial⟩ ?_
            refine br (b := within e.vy (-64) 64) (by kernel_rfl) (fun h6 => ?_) (fun h6 => ?_)
            · refine gs (l := [.tt, .tt, .a (Task.call 60 [vi e.health, vi 1, vi 100] []) (Res.mk Ex.ret [vb (within e.health 1 100)] []), .tt]) (by kernel_rfl) ⟨o_a (f_entity_within _ _ _), trivial⟩ ?_
              refine br (b := within e.health 1 100) (by kernel_rfl) (fun h7 => ?_) (fun h7 => ?_)
              · refine gs (l := [.tt, .tt, .a (Task.call 60 [vi e.age, vi 0, vi 6] []) (Res.mk Ex.ret [vb (within e.age 0 6)] []), .tt]) (by kernel_rfl) ⟨o_a (f_entity_within _ _ _), trivial⟩ ?_
                refine br (b := within e.age 0 6) (by kernel_rfl) (fun h8 => ?_) (fun h8 => ?_)
                · refine gs (l := [.tt, .tt, .tt]) (by kernel_rfl) trivial ?_
                  refine rt (a := Res.mk Ex.ret [vb (e.owner == 0)] []) (by kernel_rfl) ?_
                  simp_all [Entity.right, beqd, bned]
                · refine gs (l := [.ff, .ff, .ff]) (by kernel_rfl) trivial ?_
                  refine rt (a := Res.mk Ex.ret [vb false] []) (by kernel_rfl) ?_
                  simp_all [Entity.right, beqd, bned]
              · refine gs (l := [.ff, .ff, .ff, .ff, .ff, .ff, .ff]) (by kernel_rfl) trivial ?_
                refine rt (a := Res.mk Ex.ret [vb false] []) (by kernel_rfl) ?_
                simp_all [Entity.right, beqd, bned]
            · refine gs (l := [.ff, .ff, .ff, .ff, .ff, .ff, .ff, .ff, .ff, .ff, .ff]) (by kernel_rfl) trivial ?_
              refine rt (a := Res.mk Ex.ret [vb false] []) (by kernel_rfl) ?_
              simp_all [Entity.right, beqd, bned]
          · refine gs (l := [.ff, .ff, .ff, .ff, .ff, .ff, .ff, .ff, .ff, .ff, .ff, .ff, .ff, .ff, .ff]) (by kernel_rfl) trivial ?_
            refine rt (a := Res.mk Ex.ret [vb false] []) (by kernel_rfl) ?_
            simp_all [Entity.right, beqd, bned]
        · refine gs (l := [.ff, .ff, .ff, .ff, .ff, .ff, .ff, .ff, .ff, .ff, .ff, .ff, .ff, .ff, .ff, .ff]) (by kernel_rfl) trivial ?_
          refine gs (l := [.ff, .ff, .ff]) (by kernel_rfl) trivial ?_
          refine rt (a := Res.mk Ex.ret [vb false] []) (by kernel_rfl) ?_
          simp_all [Entity.right, beqd, bned]
      · refine bre (x := e.kind) (y := 2) (by kernel_rfl) (fun h4 => ?_) (fun h4 => ?_)
        · refine gs (l := [.ff, .ff, .ff, .ff, .ff, .ff, .ff, .ff, .ff, .ff, .ff, .ff, .ff, .ff, .ff, .ff]) (by kernel_rfl) trivial ?_
          refine gs (l := [.ff, .ff, .ff, .ff, .ff, .ff, .ff, .ff, .ff]) (by kernel_rfl) trivial ?_
          refine rt (a := Res.mk Ex.ret [vb false] []) (by kernel_rfl) ?_
          simp_all [Entity.right, beqd, bned]
        · refine bre (x := e.kind) (y := 3) (by kernel_rfl) (fun h5 => ?_) (fun h5 => ?_)
          · refine gs (l := [.ff, .ff, .ff, .ff, .ff, .ff, .ff, .ff, .ff, .ff, .ff, .ff, .ff, .ff, .ff, .ff]) (by kernel_rfl) trivial ?_
            refine rt (a := Res.mk Ex.ret [vb false] []) (by kernel_rfl) ?_
            simp_all [Entity.right, beqd, bned]
          · refine rt (a := Res.mk Ex.ret [vb false] []) (by kernel_rfl) ?_
            simp_all [Entity.right, beqd, bned]
theorem f_joustref05_Right (c : Config) (e : Entity) : Fn cx 25 [c.enc, e.enc] (.bool (e.right c)) := by
  refine Wp.ev ?_
  refine gs (l := [.a (Task.call 62 [V.t (Config.enc c), vi e.x, vi e.y] []) (Res.mk Ex.ret [vb (Config.inside c e.x e.y)] [])]) (by kernel_rfl) ⟨o_a (f_joustref03_Inside _ _ _), trivial⟩ ?_
  refine brnot (b := Config.inside c e.x e.y) (by kernel_rfl) (fun h1 => ?_) (fun h1 => ?_)
  · refine rt (a := Res.mk Ex.ret [vb false] []) (by kernel_rfl) ?_
    simp_all [Entity.right, beqd, bned]
  · refine gs (l := [.a (Task.call 63 [vi e.id, vi 1000, vi 2147483647] []) (Res.mk Ex.ret [vb (within e.id 1000 2147483647)] [])]) (by kernel_rfl) ⟨o_a (f_joustref05_within _ _ _), trivial⟩ ?_
    refine bre (x := e.kind) (y := 1) (by kernel_rfl) (fun h2 => ?_) (fun h2 => ?_)
    · refine gs (l := [.a (Task.call 63 [vi e.id, vi 1, vi c.players] []) (Res.mk Ex.ret [vb (within e.id 1 c.players)] [])]) (by kernel_rfl) ⟨o_a (f_joustref05_within _ _ _), trivial⟩ ?_
      refine br (b := within e.id 1 c.players) (by kernel_rfl) (fun h3 => ?_) (fun h3 => ?_)
      · refine gs (l := [.tt, .tt, .a (Task.call 63 [vi e.vx, vi (-64), vi 64] []) (Res.mk Ex.ret [vb (within e.vx (-64) 64)] []), .tt]) (by kernel_rfl) ⟨o_a (f_joustref05_within _ _ _), trivial⟩ ?_
        refine br (b := within e.vx (-64) 64) (by kernel_rfl) (fun h4 => ?_) (fun h4 => ?_)
        · refine gs (l := [.tt, .tt, .a (Task.call 63 [vi e.vy, vi (-64), vi 64] []) (Res.mk Ex.ret [vb (within e.vy (-64) 64)] []), .tt]) (by kernel_rfl) ⟨o_a (f_joustref05_within _ _ _), trivial⟩ ?_
          refine br (b := within e.vy (-64) 64) (by kernel_rfl) (fun h5 => ?_) (fun h5 => ?_)
          · refine gs (l := [.tt, .tt, .a (Task.call 63 [vi e.health, vi 1, vi 100] []) (Res.mk Ex.ret [vb (within e.health 1 100)] []), .tt]) (by kernel_rfl) ⟨o_a (f_joustref05_within _ _ _), trivial⟩ ?_
            refine br (b := within e.health 1 100) (by kernel_rfl) (fun h6 => ?_) (fun h6 => ?_)
            · refine gs (l := [.tt, .tt, .a (Task.call 63 [vi e.age, vi 0, vi 6] []) (Res.mk Ex.ret [vb (within e.age 0 6)] []), .tt]) (by kernel_rfl) ⟨o_a (f_joustref05_within _ _ _), trivial⟩ ?_
              refine br (b := within e.age 0 6) (by kernel_rfl) (fun h7 => ?_) (fun h7 => ?_)
              · refine gs (l := [.tt, .tt, .tt]) (by kernel_rfl) trivial ?_
                refine rt (a := Res.mk Ex.ret [vb (e.owner == 0)] []) (by kernel_rfl) ?_
                simp_all [Entity.right, beqd, bned]
              · refine gs (l := [.ff, .ff, .ff]) (by kernel_rfl) trivial ?_
                refine rt (a := Res.mk Ex.ret [vb false] []) (by kernel_rfl) ?_
                simp_all [Entity.right, beqd, bned]
            · refine gs (l := [.ff, .ff, .ff, .ff, .ff, .ff, .ff]) (by kernel_rfl) trivial ?_
              refine rt (a := Res.mk Ex.ret [vb false] []) (by kernel_rfl) ?_
              simp_all [Entity.right, beqd, bned]
          · refine gs (l := [.ff, .ff, .ff, .ff, .ff, .ff, .ff, .ff, .ff, .ff, .ff]) (by kernel_rfl) trivial ?_
            refine rt (a := Res.mk Ex.ret [vb false] []) (by kernel_rfl) ?_
            simp_all [Entity.right, beqd, bned]
        · refine gs (l := [.ff, .ff, .ff, .ff, .ff, .ff, .ff, .ff, .ff, .ff, .ff, .ff, .ff, .ff, .ff]) (by kernel_rfl) trivial ?_
          refine rt (a := Res.mk Ex.ret [vb false] []) (by kernel_rfl) ?_
          simp_all [Entity.right, beqd, bned]
      · refine gs (l := [.ff, .ff, .ff, .ff, .ff, .ff, .ff, .ff, .ff, .ff, .ff, .ff, .ff, .ff, .ff, .ff]) (by kernel_rfl) trivial ?_
        refine gs (l := [.ff, .ff, .ff]) (by kernel_rfl) trivial ?_
        refine rt (a := Res.mk Ex.ret [vb false] []) (by kernel_rfl) ?_
        simp_all [Entity.right, beqd, bned]
    · refine bre (x := e.kind) (y := 2) (by kernel_rfl) (fun h3 => ?_) (fun h3 => ?_)
      · refine br (b := within e.id 1000 2147483647) (by kernel_rfl) (fun h4 => ?_) (fun h4 => ?_)
        · refine gs (l := [.tt, .tt, .a (Task.call 64 [vi e.vx] []) (Res.mk Ex.ret [vb (pace e.vx)] []), .tt]) (by kernel_rfl) ⟨o_a (f_joustref05_step _), trivial⟩ ?_
          refine br (b := pace e.vx) (by kernel_rfl) (fun h5 => ?_) (fun h5 => ?_)
          · refine gs (l := [.tt, .tt, .a (Task.call 64 [vi e.vy] []) (Res.mk Ex.ret [vb (pace e.vy)] []), .tt]) (by kernel_rfl) ⟨o_a (f_joustref05_step _), trivial⟩ ?_
            refine br (b := pace e.vy) (by kernel_rfl) (fun h6 => ?_) (fun h6 => ?_)
            · refine gs (l := [.tt, .tt, .tt]) (by kernel_rfl) trivial ?_
              refine brn (x := e.vx) (y := 0) (by kernel_rfl) (fun h7 => ?_) (fun h7 => ?_)
              · refine gs (l := [.tt, .tt, .tt, .tt, .tt, .tt, .tt, .tt, .tt]) (by kernel_rfl) trivial ?_
                refine bre (x := e.health) (y := 1) (by kernel_rfl) (fun h8 => ?_) (fun h8 => ?_)
                · refine gs (l := [.tt, .tt, .a (Task.call 63 [vi e.age, vi 0, vi 12] []) (Res.mk Ex.ret [vb (within e.age 0 12)] []), .tt]) (by kernel_rfl) ⟨o_a (f_joustref05_within _ _ _), trivial⟩ ?_
                  refine br (b := within e.age 0 12) (by kernel_rfl) (fun h9 => ?_) (fun h9 => ?_)
                  · refine gs (l := [.tt, .tt, .tt, .tt, .a (Task.call 63 [vi e.owner, vi 1, vi c.players] []) (Res.mk Ex.ret [vb (within e.owner 1 c.players)] []), .tt]) (by kernel_rfl) ⟨o_a (f_joustref05_within _ _ _), trivial⟩ ?_
                    refine rt (a := Res.mk Ex.ret [vb (within e.owner 1 c.players)] []) (by kernel_rfl) ?_
                    simp_all [Entity.right, beqd, bned]
                  · refine gs (l := [.ff, .ff, .ff, .ff, .ff]) (by kernel_rfl) trivial ?_
                    refine rt (a := Res.mk Ex.ret [vb false] []) (by kernel_rfl) ?_
                    simp_all [Entity.right, beqd, bned]
                · refine gs (l := [.ff, .ff, .ff, .ff, .ff, .ff, .ff, .ff, .ff]) (by kernel_rfl) trivial ?_
                  refine rt (a := Res.mk Ex.ret [vb false] []) (by kernel_rfl) ?_
                  simp_all [Entity.right, beqd, bned]
              · refine gs (l := [.ff, .ff, .tt, .ff, .tt]) (by kernel_rfl) trivial ?_
                refine brn (x := e.vy) (y := 0) (by kernel_rfl) (fun h8 => ?_) (fun h8 => ?_)
                · refine gs (l := [.tt, .tt, .tt]) (by kernel_rfl) trivial ?_
                  refine bre (x := e.health) (y := 1) (by kernel_rfl) (fun h9 => ?_) (fun h9 => ?_)
                  · refine gs (l := [.tt, .tt, .a (Task.call 63 [vi e.age, vi 0, vi 12] []) (Res.mk Ex.ret [vb (within e.age 0 12)] []), .tt]) (by kernel_rfl) ⟨o_a (f_joustref05_within _ _ _), trivial⟩ ?_
                    refine br (b := within e.age 0 12) (by kernel_rfl) (fun h10 => ?_) (fun h10 => ?_)
                    · refine gs (l := [.tt, .tt, .tt, .tt, .a (Task.call 63 [vi e.owner, vi 1, vi c.players] []) (Res.mk Ex.ret [vb (within e.owner 1 c.players)] []), .tt]) (by kernel_rfl) ⟨o_a (f_joustref05_within _ _ _), trivial⟩ ?_
                      refine rt (a := Res.mk Ex.ret [vb (within e.owner 1 c.players)] []) (by kernel_rfl) ?_
                      simp_all [Entity.right, beqd, bned]
                    · refine gs (l := [.ff, .ff, .ff, .ff, .ff]) (by kernel_rfl) trivial ?_
                      refine rt (a := Res.mk Ex.ret [vb false] []) (by kernel_rfl) ?_
                      simp_all [Entity.right, beqd, bned]
                  · refine gs (l := [.ff, .ff, .ff, .ff, .ff, .ff, .ff, .ff, .ff]) (by kernel_rfl) trivial ?_
                    refine rt (a := Res.mk Ex.ret [vb false] []) (by kernel_rfl) ?_
                    simp_all [Entity.right, beqd, bned]
                · refine gs (l := [.ff, .ff, .ff, .ff, .ff, .ff, .ff, .ff, .ff, .ff, .ff, .ff, .ff]) (by kernel_rfl) trivial ?_
                  refine rt (a := Res.mk Ex.ret [vb false] []) (by kernel_rfl) ?_
                  simp_all [Entity.right, beqd, bned]
            · refine gs (l := [.ff, .ff, .ff, .ff, .ff, .ff, .ff, .ff, .ff, .ff, .ff, .ff, .ff, .ff, .ff, .ff]) (by kernel_rfl) trivial ?_
              refine gs (l := [.ff, .ff, .ff]) (by kernel_rfl) trivial ?_
              refine rt (a := Res.mk Ex.ret [vb false] []) (by kernel_rfl) ?_
              simp_all [Entity.right, beqd, bned]
          · refine gs (l := [.ff, .ff, .ff, .ff, .ff, .ff, .ff, .ff, .ff, .ff, .ff, .ff, .ff, .ff, .ff, .ff]) (by kernel_rfl) trivial ?_
            refine gs (l := [.ff, .ff, .ff, .ff, .ff, .ff, .ff]) (by kernel_rfl) trivial ?_
            refine rt (a := Res.mk Ex.ret [vb false] []) (by kernel_rfl) ?_
            simp_all [Entity.right, beqd, bned]
        · refine gs (l := [.ff, .ff, .ff, .ff, .ff, .ff, .ff, .ff, .ff, .ff, .ff, .ff, .ff, .ff, .ff, .ff]) (by kernel_rfl) trivial ?_
          refine gs (l := [.ff, .ff, .ff, .ff, .ff, .ff, .ff, .ff, .ff, .ff, .ff]) (by kernel_rfl) trivial ?_
          refine rt (a := Res.mk Ex.ret [vb false] []) (by kernel_rfl) ?_
          simp_all [Entity.right, beqd, bned]
      · refine bre (x := e.kind) (y := 3) (by kernel_rfl) (fun h4 => ?_) (fun h4 => ?_)
        · refine br (b := within e.id 1000 2147483647) (by kernel_rfl) (fun h5 => ?_) (fun h5 => ?_)
          · refine gs (l := [.tt, .tt, .tt]) (by kernel_rfl) trivial ?_
            refine bre (x := e.vx) (y := 0) (by kernel_rfl) (fun h6 => ?_) (fun h6 => ?_)
            · refine gs (l := [.tt, .tt, .tt]) (by kernel_rfl) trivial ?_
              refine bre (x := e.vy) (y := 0) (by kernel_rfl) (fun h7 => ?_) (fun h7 => ?_)
              · refine gs (l := [.tt, .tt, .tt]) (by kernel_rfl) trivial ?_
                refine bre (x := e.age) (y := 0) (by kernel_rfl) (fun h8 => ?_) (fun h8 => ?_)
                · refine gs (l := [.tt, .tt, .tt]) (by kernel_rfl) trivial ?_
                  refine bre (x := e.owner) (y := 0) (by kernel_rfl) (fun h9 => ?_) (fun h9 => ?_)
                  · refine gs (l := [.tt, .tt, .tt]) (by kernel_rfl) trivial ?_
                    refine rt (a := Res.mk Ex.ret [vb (e.health == 1)] []) (by kernel_rfl) ?_
                    simp_all [Entity.right, beqd, bned]
                  · refine gs (l := [.ff, .ff, .ff]) (by kernel_rfl) trivial ?_
                    refine rt (a := Res.mk Ex.ret [vb false] []) (by kernel_rfl) ?_
                    simp_all [Entity.right, beqd, bned]
                · refine gs (l := [.ff, .ff, .ff, .ff, .ff, .ff, .ff]) (by kernel_rfl) trivial ?_
                  refine rt (a := Res.mk Ex.ret [vb false] []) (by kernel_rfl) ?_
                  simp_all [Entity.right, beqd, bned]
              · refine gs (l := [.ff, .ff, .ff, .ff, .ff, .ff, .ff, .ff, .ff, .ff, .ff]) (by kernel_rfl) trivial ?_
                refine rt (a := Res.mk Ex.ret [vb false] []) (by kernel_rfl) ?_
                simp_all [Entity.right, beqd, bned]
            · refine gs (l := [.ff, .ff, .ff, .ff, .ff, .ff, .ff, .ff, .ff, .ff, .ff, .ff, .ff, .ff, .ff]) (by kernel_rfl) trivial ?_
              refine rt (a := Res.mk Ex.ret [vb false] []) (by kernel_rfl) ?_
              simp_all [Entity.right, beqd, bned]
          · refine gs (l := [.ff, .ff, .ff, .ff, .ff, .ff, .ff, .ff, .ff, .ff, .ff, .ff, .ff, .ff, .ff, .ff]) (by kernel_rfl) trivial ?_
            refine gs (l := [.ff, .ff, .ff]) (by kernel_rfl) trivial ?_
            refine rt (a := Res.mk Ex.ret [vb false] []) (by kernel_rfl) ?_
            simp_all [Entity.right, beqd, bned]
        · refine rt (a := Res.mk Ex.ret [vb false] []) (by kernel_rfl) ?_
          simp_all [Entity.right, beqd, bned]
theorem f_joustref05_Put_loop (l : List Entity) (e : Entity) (hn : small l) : ∀ (d k : Nat), k + d = l.length →
    Is cx (.loop 24 [0, 0, 1, 1, 1] 0 [.t (.sl 9 (l.map Entity.enc)), .ptr 0 0 0, vi k] [.one 9 (.t e.enc) false])
      ⟨.exit 0, [.t (.sl 9 (l.map Entity.enc)), .ptr 0 0 0, vi (match (l.drop k).findIdx? fun x => decide (x.id ≥ e.id) with | some j => k + j | none => l.length : Nat)], [.one 9 (.t e.enc) false]⟩ := by
  unfold small at hn
  intro d
  induction d with
  | zero =>
    intro k hk
    rw [drop_end (by omega)]
    refine Wp.ev ?_
    refine gs (l := [.n (List.length (List.map Entity.enc l)) (List.length l), .b (decide ((↑k : Int) < (↑(List.length l) : Int))) false, .ff, .ff, .ff, .ff, .ff, .ff, .ff, .ff, .ff]) (by kernel_rfl) ⟨o_n (by simp), f_brp (by omega), trivial⟩ ?_
    refine rt (a := Res.mk (Ex.exit 0) [V.t (T.sl 9 (List.map Entity.enc l)), V.ptr 0 0 0, vi (↑k : Int)] [Ob.one 9 (V.t (Entity.enc e)) false]) (by kernel_rfl) ?_
    ((have hq : k = l.length := by omega); subst hq; rfl)
  | succ d ih =>
    intro k hk
    have hlt : k < l.length := by omega
    have ih1 := ih (k + 1) (by omega)
    clear ih
    rw [drop_gt hlt, List.findIdx?_cons]
    by_cases hp : (gt l k).id ≥ e.id
    · rw [show decide ((gt l k).id ≥ e.id) = true by simpa using hp, if_pos rfl]
      clear ih1
      refine Wp.ev ?_
      refine gs (l := [.n (List.length (List.map Entity.enc l)) (List.length l), .b (decide ((↑k : Int) < (↑(List.length l) : Int))) true, .tt, .tt, .w ((0 : Int) ≤ (↑k : Int)), .n (Int.toNat (↑k : Int)) k, .g (List.map Entity.enc l) k (Entity.enc (gt l k)), .tt, .tt, .tt, .tt, .tt, .tt, .b (decide ((gt l k).id < e.id)) false]) (by kernel_rfl) ⟨o_n (by simp), t_brp (by omega), o_w (by omega), o_n (by kernel_rfl), o_gt rfl (by assumption) (by intro h; cases h), f_brp (by omega), trivial⟩ ?_
      refine rt (a := Res.mk (Ex.exit 0) [V.t (T.sl 9 (List.map Entity.enc l)), V.ptr 0 0 0, vi (↑k : Int)] [Ob.one 9 (V.t (Entity.enc e)) false]) (by kernel_rfl) ?_
      rfl
    · rw [show decide ((gt l k).id ≥ e.id) = false by simpa using hp, if_neg (by simp)]
      cases hq : (l.drop (k + 1)).findIdx? fun x => decide (x.id ≥ e.id) with
      | none =>
        rw [hq] at ih1
        refine Wp.ev ?_
        refine gs (l := [.n (List.length (List.map Entity.enc l)) (List.length l), .b (decide ((↑k : Int) < (↑(List.length l) : Int))) true, .tt, .tt, .w ((0 : Int) ≤ (↑k : Int)), .n (Int.toNat (↑k : Int)) k, .g (List.map Entity.enc l) k (Entity.enc (gt l k)), .tt, .tt, .tt, .tt, .tt, .tt, .b (decide ((gt l k).id < e.id)) true, .i IntKind.i64 ((↑k : Int) + 1) ((↑(k + 1) : Int)), .a (Task.loop 24 [0, 0, 1, 1, 1] 0 [V.t (T.sl 9 (List.map Entity.enc l)), V.ptr 0 0 0, vi (↑(k + 1) : Int)] [Ob.one 9 (V.t (Entity.enc e)) false]) (Res.mk (Ex.exit 0)
          [V.t (T.sl 9 (List.map Entity.enc l)), V.ptr 0 0 0,
            vi
              (↑(match none with
                  | some j => k + 1 + j
                  | none => List.length l) :
                Int)]
          [Ob.one 9 (V.t (Entity.enc e)) false])]) (by kernel_rfl) ⟨o_n (by simp), t_brp (by omega), o_w (by omega), o_n (by kernel_rfl), o_gt rfl (by assumption) (by intro h; cases h), t_brp (by omega), o_i (w64 (by omega)), o_a ih1, trivial⟩ ?_
        refine rt (a := Res.mk (Ex.exit 0)
          [V.t (T.sl 9 (List.map Entity.enc l)), V.ptr 0 0 0,
            vi
              (↑(match none with
                  | some j => k + 1 + j
                  | none => List.length l) :
                Int)]
          [Ob.one 9 (V.t (Entity.enc e)) false]) (by kernel_rfl) ?_
        rfl
      | some j =>
        rw [hq] at ih1
        refine Wp.ev ?_
        refine gs (l := [.n (List.length (List.map Entity.enc l)) (List.length l), .b (decide ((↑k : Int) < (↑(List.length l) : Int))) true, .tt, .tt, .w ((0 : Int) ≤ (↑k : Int)), .n (Int.toNat (↑k : Int)) k, .g (List.map Entity.enc l) k (Entity.enc (gt l k)), .tt, .tt, .tt, .tt, .tt, .tt, .b (decide ((gt l k).id < e.id)) true, .i IntKind.i64 ((↑k : Int) + 1) ((↑(k + 1) : Int)), .a (Task.loop 24 [0, 0, 1, 1, 1] 0 [V.t (T.sl 9 (List.map Entity.enc l)), V.ptr 0 0 0, vi (↑(k + 1) : Int)] [Ob.one 9 (V.t (Entity.enc e)) false]) (Res.mk (Ex.exit 0)
          [V.t (T.sl 9 (List.map Entity.enc l)), V.ptr 0 0 0,
            vi
              (↑(match some j with
                  | some j => k + 1 + j
                  | none => List.length l) :
                Int)]
          [Ob.one 9 (V.t (Entity.enc e)) false])]) (by kernel_rfl) ⟨o_n (by simp), t_brp (by omega), o_w (by omega), o_n (by kernel_rfl), o_gt rfl (by assumption) (by intro h; cases h), t_brp (by omega), o_i (w64 (by omega)), o_a ih1, trivial⟩ ?_
        refine rt (a := Res.mk (Ex.exit 0)
          [V.t (T.sl 9 (List.map Entity.enc l)), V.ptr 0 0 0,
            vi
              (↑(match some j with
                  | some j => k + 1 + j
                  | none => List.length l) :
                Int)]
          [Ob.one 9 (V.t (Entity.enc e)) false]) (by kernel_rfl) ?_
        (simp; omega)
theorem f_joustref05_Put (l : List Entity) (e : Entity) (hn : small l) : Fn cx 24 [.sl 9 (l.map Entity.enc), e.enc] (.sl 9 ((put1 l e).map Entity.enc)) := by
  have hF := f_joustref05_Find l e.id hn
  have hn' : l.length ≤ 1000000 := hn
  unfold find at hF
  unfold put1
  cases hq : l.findIdx? fun x => x.id == e.id with
  | some k =>
    rw [pos_some hq] at hF
    refine Wp.ev ?_
    refine gs (l := [.a (Task.call 26 [V.t (T.sl 9 (List.map Entity.enc l)), vi e.id] []) (Res.mk Ex.ret [vi (↑k : Int)] []), .b (decide ((↑k : Int) ≥ 0)) true]) (by kernel_rfl) ⟨o_a hF, o_b (by kernel_rfl), trivial⟩ ?_
    refine rt (a := Res.mk Ex.ret [V.t (T.sl 9 (List.map Entity.enc l))] []) (by kernel_rfl) ?_
    rfl
  | none =>
    rw [pos_none hq] at hF
    have h := f_joustref05_Put_loop l e hn l.length 0 (by omega)
    rw [List.drop_zero] at h
    unfold ins
    cases hp : l.findIdx? fun x => decide (x.id ≥ e.id) with
    | some k =>
      rw [hp] at h
      simp only [Nat.zero_add] at h
      have hk := (List.findIdx?_eq_some_iff_getElem.1 hp).1
      refine Wp.ev ?_
      refine gs (l := [.a (Task.call 26 [V.t (T.sl 9 (List.map Entity.enc l)), vi e.id] []) (Res.mk Ex.ret [vi (-1)] []), .b (decide (-1 ≥ 0)) false, .a (Task.loop 24 [0, 0, 1, 1, 1] 0 [V.t (T.sl 9 (List.map Entity.enc l)), V.ptr 0 0 0, vi 0] [Ob.one 9 (V.t (Entity.enc e)) false]) (Res.mk (Ex.exit 0) [V.t (T.sl 9 (List.map Entity.enc l)), V.ptr 0 0 0, vi (↑k : Int)] [Ob.one 9 (V.t (Entity.enc e)) false]), .w ((0 : Int) ≤ (↑k : Int)), .n (Int.toNat (↑k : Int)) k, .w ((0 : Nat) ≤ k ∧ k ≤ List.length (List.map Entity.enc l)), .t (T.sl 9 (List.take (k - 0) (List.drop 0 (List.map Entity.enc l)))) (T.sl 9 (List.map Entity.enc (List.take k l))), .w ((0 : Int) ≤ (↑k : Int)), .n (Int.toNat (↑k : Int)) k, .w (k ≤ List.length (List.map Entity.enc l) ∧ List.length (List.map Entity.enc l) ≤ List.length (List.map Entity.enc l)), .t (T.sl 9 (List.take (List.length (List.map Entity.enc l) - k) (List.drop k (List.map Entity.enc l)))) (T.sl 9 (List.map Entity.enc (List.take (List.length (List.map Entity.enc l) - k) (List.drop k l))))]) (by kernel_rfl) ⟨o_a hF, o_b (by kernel_rfl), o_a h, o_w (by omega), o_n (by kernel_rfl), o_w ⟨(by omega), (by (simp [room, appendMax]; omega))⟩, o_l (nm_eq (nm_take (nm_drop rfl)) (by kernel_rfl)), o_w (by omega), o_n (by kernel_rfl), o_w ⟨(by (simp [room, appendMax]; omega)), (by omega)⟩, o_l (nm_take (nm_drop rfl)), trivial⟩ ?_
      refine bo (by kernel_rfl) ?_ ?_
      · refine gs (l := [.w ((0 : Nat) < (72 : Nat)), .s (T.sl 0 (List.map Entity.enc (List.take k l))), .s (T.sl 0 (List.map Entity.enc (List.take k l))), .w (room (List.length (List.map Entity.enc (List.take k l))) (72 : Nat)), .w ((0 : Nat) < (72 : Nat)), .t (T.sl 0 [Entity.enc e]) (T.sl 0 (List.map Entity.enc [e])), .t (T.sl 0 (List.map Entity.enc (List.take k l) ++ List.map Entity.enc [e])) (T.sl 0 (List.map Entity.enc (List.take k l ++ [e]))), .w (room (List.length (List.map Entity.enc (List.take k l ++ [e]))) (72 : Nat)), .w ((0 : Nat) < (72 : Nat)), .s (T.sl 0 (List.map Entity.enc (List.take (List.length (List.map Entity.enc l) - k) (List.drop k l)))), .t (T.sl 0 (List.map Entity.enc (List.take k l ++ [e]) ++ List.map Entity.enc (List.take (List.length (List.map Entity.enc l) - k) (List.drop k l)))) (T.sl 0 (List.map Entity.enc (List.take k l ++ [e] ++ List.take (List.length (List.map Entity.enc l) - k) (List.drop k l)))), .w (room (List.length (List.map Entity.enc (List.take k l ++ [e] ++ List.take (List.length (List.map Entity.enc l) - k) (List.drop k l)))) (72 : Nat))]) (by kernel_rfl) ⟨o_w (by omega), o_w (by (simp [room, appendMax]; omega)), o_w (by omega), o_l (nm_cons rfl nm_nil), o_l (nm_app rfl rfl), o_w (by (simp [room, appendMax]; omega)), o_w (by omega), o_l (nm_app rfl rfl), o_w (by (simp [room, appendMax]; omega)), trivial⟩ ?_
        refine rt (a := Res.mk Ex.ret [V.t (T.sl 9 (List.map Entity.enc (List.take k l ++ [e] ++ List.take (List.length (List.map Entity.enc l) - k) (List.drop k l))))] []) (by kernel_rfl) ?_
        (first | (simp; done) | (simp; rw [List.take_of_length_le (by simp)]))
      · refine gs (l := [.w ((0 : Nat) < (72 : Nat)), .s (T.sl 0 (List.map Entity.enc (List.take k l))), .s (T.sl 0 (List.map Entity.enc (List.take k l))), .w (room (List.length (List.map Entity.enc (List.take k l))) (72 : Nat)), .w ((0 : Nat) < (72 : Nat)), .t (T.sl 0 [Entity.enc e]) (T.sl 0 (List.map Entity.enc [e])), .t (T.sl 0 (List.map Entity.enc (List.take k l) ++ List.map Entity.enc [e])) (T.sl 0 (List.map Entity.enc (List.take k l ++ [e]))), .w (room (List.length (List.map Entity.enc (List.take k l ++ [e]))) (72 : Nat)), .w ((0 : Nat) < (72 : Nat)), .s (T.sl 0 (List.map Entity.enc (List.take (List.length (List.map Entity.enc l) - k) (List.drop k l)))), .t (T.sl 0 (List.map Entity.enc (List.take k l ++ [e]) ++ List.map Entity.enc (List.take (List.length (List.map Entity.enc l) - k) (List.drop k l)))) (T.sl 0 (List.map Entity.enc (List.take k l ++ [e] ++ List.take (List.length (List.map Entity.enc l) - k) (List.drop k l)))), .w (room (List.length (List.map Entity.enc (List.take k l ++ [e] ++ List.take (List.length (List.map Entity.enc l) - k) (List.drop k l)))) (72 : Nat))]) (by kernel_rfl) ⟨o_w (by omega), o_w (by (simp [room, appendMax]; omega)), o_w (by omega), o_l (nm_cons rfl nm_nil), o_l (nm_app rfl rfl), o_w (by (simp [room, appendMax]; omega)), o_w (by omega), o_l (nm_app rfl rfl), o_w (by (simp [room, appendMax]; omega)), trivial⟩ ?_
        refine rt (a := Res.mk Ex.ret [V.t (T.sl 9 (List.map Entity.enc (List.take k l ++ [e] ++ List.take (List.length (List.map Entity.enc l) - k) (List.drop k l))))] []) (by kernel_rfl) ?_
        (first | (simp; done) | (simp; rw [List.take_of_length_le (by simp)]))
    | none =>
      rw [hp] at h
      simp only at h
      refine Wp.ev ?_
      refine gs (l := [.a (Task.call 26 [V.t (T.sl 9 (List.map Entity.enc l)), vi e.id] []) (Res.mk Ex.ret [vi (-1)] []), .b (decide (-1 ≥ 0)) false, .a (Task.loop 24 [0, 0, 1, 1, 1] 0 [V.t (T.sl 9 (List.map Entity.enc l)), V.ptr 0 0 0, vi 0] [Ob.one 9 (V.t (Entity.enc e)) false]) (Res.mk (Ex.exit 0) [V.t (T.sl 9 (List.map Entity.enc l)), V.ptr 0 0 0, vi (↑(List.length l) : Int)] [Ob.one 9 (V.t (Entity.enc e)) false]), .w ((0 : Int) ≤ (↑(List.length l) : Int)), .n (Int.toNat (↑(List.length l) : Int)) (List.length l), .w ((0 : Nat) ≤ List.length l ∧ List.length l ≤ List.length (List.map Entity.enc l)), .t (T.sl 9 (List.take (List.length l - 0) (List.drop 0 (List.map Entity.enc l)))) (T.sl 9 (List.map Entity.enc l)), .w ((0 : Int) ≤ (↑(List.length l) : Int)), .n (Int.toNat (↑(List.length l) : Int)) (List.length l), .w (List.length l ≤ List.length (List.map Entity.enc l) ∧ List.length (List.map Entity.enc l) ≤ List.length (List.map Entity.enc l)), .t (T.sl 9 (List.take (List.length (List.map Entity.enc l) - List.length l) (List.drop (List.length l) (List.map Entity.enc l)))) (T.sl 9 (List.map Entity.enc []))]) (by kernel_rfl) ⟨o_a hF, o_b (by kernel_rfl), o_a h, o_w (by omega), o_n (by kernel_rfl), o_w ⟨(by omega), (by simp)⟩, o_l (nm_eq (nm_take (nm_drop rfl)) (by simp)), o_w (by omega), o_n (by kernel_rfl), o_w ⟨(by simp), (by omega)⟩, o_l (nm_eq (nm_take (nm_drop rfl)) (by simp)), trivial⟩ ?_
      refine bo (by kernel_rfl) ?_ ?_
      · refine gs (l := [.w ((0 : Nat) < (72 : Nat)), .s (T.sl 0 (List.map Entity.enc l)), .s (T.sl 0 (List.map Entity.enc l)), .w (room (List.length (List.map Entity.enc l)) (72 : Nat)), .w ((0 : Nat) < (72 : Nat)), .t (T.sl 0 [Entity.enc e]) (T.sl 0 (List.map Entity.enc [e])), .t (T.sl 0 (List.map Entity.enc l ++ List.map Entity.enc [e])) (T.sl 0 (List.map Entity.enc (l ++ [e]))), .w (room (List.length (List.map Entity.enc (l ++ [e]))) (72 : Nat)), .w ((0 : Nat) < (72 : Nat)), .s (T.sl 0 []), .t (T.sl 0 (List.map Entity.enc (l ++ [e]) ++ [])) (T.sl 0 (List.map Entity.enc (l ++ [e]))), .w (room (List.length (List.map Entity.enc (l ++ [e]))) (72 : Nat))]) (by kernel_rfl) ⟨o_w (by omega), o_w (by (simp [room, appendMax]; omega)), o_w (by omega), o_l (nm_cons rfl nm_nil), o_l (nm_app rfl rfl), o_w (by (simp [room, appendMax]; omega)), o_w (by omega), o_l (nm_eq (nm_app rfl nm_nil) (by simp)), o_w (by (simp [room, appendMax]; omega)), trivial⟩ ?_
        refine rt (a := Res.mk Ex.ret [V.t (T.sl 9 (List.map Entity.enc (l ++ [e])))] []) (by kernel_rfl) ?_
        (first | (simp; done) | (simp; rw [List.take_of_length_le (by simp)]))
      · refine gs (l := [.w ((0 : Nat) < (72 : Nat)), .s (T.sl 0 (List.map Entity.enc l)), .s (T.sl 0 (List.map Entity.enc l)), .w (room (List.length (List.map Entity.enc l)) (72 : Nat)), .w ((0 : Nat) < (72 : Nat)), .t (T.sl 0 [Entity.enc e]) (T.sl 0 (List.map Entity.enc [e])), .t (T.sl 0 (List.map Entity.enc l ++ List.map Entity.enc [e])) (T.sl 0 (List.map Entity.enc (l ++ [e]))), .w (room (List.length (List.map Entity.enc (l ++ [e]))) (72 : Nat)), .w ((0 : Nat) < (72 : Nat)), .s (T.sl 0 []), .t (T.sl 0 (List.map Entity.enc (l ++ [e]) ++ [])) (T.sl 0 (List.map Entity.enc (l ++ [e]))), .w (room (List.length (List.map Entity.enc (l ++ [e]))) (72 : Nat))]) (by kernel_rfl) ⟨o_w (by omega), o_w (by (simp [room, appendMax]; omega)), o_w (by omega), o_l (nm_cons rfl nm_nil), o_l (nm_app rfl rfl), o_w (by (simp [room, appendMax]; omega)), o_w (by omega), o_l (nm_eq (nm_app rfl nm_nil) (by simp)), o_w (by (simp [room, appendMax]; omega)), trivial⟩ ?_
        refine rt (a := Res.mk Ex.ret [V.t (T.sl 9 (List.map Entity.enc (l ++ [e])))] []) (by kernel_rfl) ?_
        (first | (simp; done) | (simp; rw [List.take_of_length_le (by simp)]))
theorem f_jousthelp_Kept_loop_Entity (l : List Entity) (f : Entity) (hn : l.length ≤ 1000) (r : Bool) : ∀ (d i : Nat), l.length ≤ i → i + d = l.length + 3 →
    Is cx (.loop 30 [0, 1, 0, 1, 1, 1] 1 [.ptr 1 0 0, vb false, .sl 0 0 (l.length + 3) none, vi i] [.arr 9 ((l ++ [f, f, f]).map Entity.enc) (some 0) r, .one 9 (.t f.enc) false])
      ⟨.exit 0, [.ptr 1 0 0, vb false, .sl 0 0 (l.length + 3) none, vi (l.length + 3 : Nat)], [.arr 9 ((l ++ [f, f, f]).map Entity.enc) (some 0) r, .one 9 (.t f.enc) false]⟩ := by
  intro d
  induction d with
  | zero =>
    intro i hi hd
    refine Wp.ev ?_
    refine gs (l := [.l (List.length l + 3), .b (decide ((↑i : Int) < (↑(List.length l + 3) : Int))) false]) (by kernel_rfl) ⟨f_brp (by omega), trivial⟩ ?_
    refine rt (a := Res.mk (Ex.exit 0) [V.ptr 1 0 0, vb false, V.sl 0 0 (List.length l + 3) none, vi (↑i : Int)] [Ob.arr 9 (List.map Entity.enc (l ++ [f, f, f])) (some 0) r, Ob.one 9 (V.t (Entity.enc f)) false]) (by kernel_rfl) ?_
    ((have hq : i = l.length + 3 := by omega); subst hq; rfl)
  | succ d ih =>
    intro i hi hd
    have ih1 := ih (i + 1) (by omega) (by omega)
    clear ih
    have hx : (l ++ [f, f, f])[i]? = some f := by
      rw [List.getElem?_append_right hi]
      have : i - l.length = 0 ∨ i - l.length = 1 ∨ i - l.length = 2 := by omega
      rcases this with h | h | h <;> rw [h] <;> rfl
    have ht : teq f.enc f.enc = true := by rw [teqIff]
    refine Wp.ev ?_
    refine gs (l := [.l (List.length l + 3), .b (decide ((↑i : Int) < (↑(List.length l + 3) : Int))) true, .w ((0 : Int) ≤ (↑i : Int)), .n (Int.toNat (↑i : Int)) i, .w (i < List.length l + (3 : Nat)), .n (0 + i) i, .g (List.map Entity.enc (l ++ [f, f, f])) i (Entity.enc f), .w (conform cx (40 : Nat) (28 : Nat) (T.agg [ti f.id, ti f.kind, ti f.x, ti f.y, ti f.vx, ti f.vy, ti f.health, ti f.age, ti f.owner]) = true ∧ conform cx (40 : Nat) (28 : Nat) (T.agg [ti f.id, ti f.kind, ti f.x, ti f.y, ti f.vx, ti f.vy, ti f.health, ti f.age, ti f.owner]) = true), .b (!teq (Entity.enc f) (Entity.enc f)) false, .i IntKind.i64 ((↑i : Int) + 1) ((↑(i + 1) : Int)), .a (Task.loop 30 [0, 1, 0, 1, 1, 1] 1 [V.ptr 1 0 0, vb false, V.sl 0 0 (List.length l + 3) none, vi (↑(i + 1) : Int)] [Ob.arr 9 (List.map Entity.enc (l ++ [f, f, f])) (some 0) r, Ob.one 9 (V.t (Entity.enc f)) false]) (Res.mk (Ex.exit 0) [V.ptr 1 0 0, vb false, V.sl 0 0 (List.length l + 3) none, vi (↑(List.length l + 3) : Int)] [Ob.arr 9 (List.map Entity.enc (l ++ [f, f, f])) (some 0) r, Ob.one 9 (V.t (Entity.enc f)) false])]) (by kernel_rfl) ⟨t_brp (by omega), o_w (by omega), o_n (by kernel_rfl), o_w (by omega), o_n (by omega), o_gm rfl hx (by intro h; cases h), o_w ⟨(by kernel_rfl), (by kernel_rfl)⟩, f_brnot (by assumption), o_i (w64 (by omega)), o_a ih1, trivial⟩ ?_
    refine rt (a := Res.mk (Ex.exit 0) [V.ptr 1 0 0, vb false, V.sl 0 0 (List.length l + 3) none, vi (↑(List.length l + 3) : Int)] [Ob.arr 9 (List.map Entity.enc (l ++ [f, f, f])) (some 0) r, Ob.one 9 (V.t (Entity.enc f)) false]) (by kernel_rfl) ?_
    rfl
theorem f_jousthelp_Kept_Entity (l : List Entity) (f : Entity) (hn : l.length ≤ 1000) (r : Bool) : Is cx (.call 30 [.sl 0 0 l.length none, .t (.sl 9 (l.map Entity.enc)), .t f.enc] [.arr 9 ((l ++ [f, f, f]).map Entity.enc) (some 0) r])
      ⟨.ret, [vb true], [.arr 9 ((l ++ [f, f, f]).map Entity.enc) (some 0) r]⟩ := by
  have h := f_jousthelp_Kept_loop_Entity l f hn r 3 l.length (Nat.le_refl _) rfl
  have hs : small l := by unfold small; omega
  have he : (l ++ [f, f, f]).take l.length = l := by simp
  have hp := f_jousthelp_Plain_Entity ((l ++ [f, f, f]).take l.length) l (by rw [he]; exact hs)
  have e : plain ((l ++ [f, f, f]).take l.length) l = true := by rw [he]; simp [plain]
  rw [e] at hp
  refine Wp.ev ?_
  refine gs (l := [.t (T.sl 9 (List.take (List.length l) (List.drop 0 (List.map Entity.enc (l ++ [f, f, f]))))) (T.sl 9 (List.map Entity.enc (List.take (List.length l) (l ++ [f, f, f])))), .a (Task.call 18 [V.t (T.sl 9 (List.map Entity.enc (List.take (List.length l) (l ++ [f, f, f])))), V.t (T.sl 9 (List.map Entity.enc l))] []) (Res.mk Ex.ret [vb true] []), .b (flats [T.bool true]) true, .b (!true) false, .ff, .n (List.length (List.map Entity.enc (l ++ [f, f, f])) + 0 - 0) (List.length l + 3), .ff, .ff, .n (List.length (List.map Entity.enc l)) (List.length l), .ff, .i IntKind.i64 ((↑(List.length l) : Int) + 3) ((↑(List.length l + 3) : Int)), .ff, .ff, .b (decide ((↑(List.length l + 3) : Int) < (↑(List.length l + 3) : Int))) false, .n (List.length (List.map Entity.enc l)) (List.length l), .i IntKind.i64 ((↑(List.length l) : Int) + 3) ((↑(List.length l + 3) : Int))]) (by kernel_rfl) ⟨o_l (nm_eq (nm_take (nm_drop rfl)) (by kernel_rfl)), o_a hp, o_b (by kernel_rfl), o_b (by kernel_rfl), o_n (by simp), o_n (by simp), o_i (w64 (by omega)), f_brp (by omega), o_n (by simp), o_i (w64 (by omega)), trivial⟩ ?_
  refine gs (l := [.w ((0 : Int) ≤ (↑(List.length l + (3 : Nat)) : Int)), .n (Int.toNat (↑(List.length l + 3) : Int)) (List.length l + 3), .b (decide (0 = 0)) true, .w ((0 : Nat) ≤ List.length l + (3 : Nat) ∧ (0 : Nat) + (List.length l + (3 : Nat)) ≤ List.length (List.map Entity.enc (l ++ [f, f, f]))), .l 0, .n (List.length l + 3 - 0) (List.length l + 3), .n (List.length (List.map Entity.enc l)) (List.length l), .a (Task.loop 30 [0, 1, 0, 1, 1, 1] 1 [V.ptr 1 0 0, vb false, V.sl 0 0 (List.length l + 3) none, vi (↑(List.length l) : Int)] [Ob.arr 9 (List.map Entity.enc (l ++ [f, f, f])) (some 0) r, Ob.one 9 (V.t (Entity.enc f)) false]) (Res.mk (Ex.exit 0) [V.ptr 1 0 0, vb false, V.sl 0 0 (List.length l + 3) none, vi (↑(List.length l + 3) : Int)] [Ob.arr 9 (List.map Entity.enc (l ++ [f, f, f])) (some 0) r, Ob.one 9 (V.t (Entity.enc f)) false])]) (by kernel_rfl) ⟨o_w (by omega), o_n (by kernel_rfl), o_b (by kernel_rfl), o_w ⟨(by omega), (by simp)⟩, o_n (by kernel_rfl), o_n (by simp), o_a h, trivial⟩ ?_
  refine rt (a := Res.mk Ex.ret [vb true] [Ob.arr 9 (List.map Entity.enc (l ++ [f, f, f])) (some 0) r]) (by kernel_rfl) ?_
  rfl
theorem f_jousthelp_Kept_loop_Cross (l : List Cross) (f : Cross) (hn : l.length ≤ 1000) (r : Bool) : ∀ (d i : Nat), l.length ≤ i → i + d = l.length + 3 →
    Is cx (.loop 43 [0, 1, 0, 1, 1, 1] 1 [.ptr 1 0 0, vb false, .sl 0 0 (l.length + 3) none, vi i] [.arr 15 ((l ++ [f, f, f]).map Cross.enc) (some 0) r, .one 15 (.t f.enc) false])
      ⟨.exit 0, [.ptr 1 0 0, vb false, .sl 0 0 (l.length + 3) none, vi (l.length + 3 : Nat)], [.arr 15 ((l ++ [f, f, f]).map Cross.enc) (some 0) r, .one 15 (.t f.enc) false]⟩ := by
  intro d
  induction d with
  | zero =>
    intro i hi hd
    refine Wp.ev ?_
    refine gs (l := [.l (List.length l + 3), .b (decide ((↑i : Int) < (↑(List.length l + 3) : Int))) false]) (by kernel_rfl) ⟨f_brp (by omega), trivial⟩ ?_
    refine rt (a := Res.mk (Ex.exit 0) [V.ptr 1 0 0, vb false, V.sl 0 0 (List.length l + 3) none, vi (↑i : Int)] [Ob.arr 15 (List.map Cross.enc (l ++ [f, f, f])) (some 0) r, Ob.one 15 (V.t (Cross.enc f)) false]) (by kernel_rfl) ?_
    ((have hq : i = l.length + 3 := by omega); subst hq; rfl)
  | succ d ih =>
    intro i hi hd
    have ih1 := ih (i + 1) (by omega) (by omega)
    clear ih
    have hx : (l ++ [f, f, f])[i]? = some f := by
      rw [List.getElem?_append_right hi]
      have : i - l.length = 0 ∨ i - l.length = 1 ∨ i - l.length = 2 := by omega
      rcases this with h | h | h <;> rw [h] <;> rfl
    have ht : teq f.enc f.enc = true := by rw [teqIff]
    refine Wp.ev ?_
    refine gs (l := [.l (List.length l + 3), .b (decide ((↑i : Int) < (↑(List.length l + 3) : Int))) true, .w ((0 : Int) ≤ (↑i : Int)), .n (Int.toNat (↑i : Int)) i, .w (i < List.length l + (3 : Nat)), .n (0 + i) i, .g (List.map Cross.enc (l ++ [f, f, f])) i (Cross.enc f), .w (conform cx (40 : Nat) (55 : Nat) (T.agg [ti f.kind, ti f.frm, ti f.to, ti f.frame, ti f.ent.id, ti f.ent.kind, ti f.ent.x, ti f.ent.y, ti f.ent.vx, ti f.ent.vy, ti f.ent.health, ti f.ent.age, ti f.ent.owner, ti f.x, ti f.y]) = true ∧ conform cx (40 : Nat) (55 : Nat) (T.agg [ti f.kind, ti f.frm, ti f.to, ti f.frame, ti f.ent.id, ti f.ent.kind, ti f.ent.x, ti f.ent.y, ti f.ent.vx, ti f.ent.vy, ti f.ent.health, ti f.ent.age, ti f.ent.owner, ti f.x, ti f.y]) = true), .b (!teq (Cross.enc f) (Cross.enc f)) false, .i IntKind.i64 ((↑i : Int) + 1) ((↑(i + 1) : Int)), .a (Task.loop 43 [0, 1, 0, 1, 1, 1] 1 [V.ptr 1 0 0, vb false, V.sl 0 0 (List.length l + 3) none, vi (↑(i + 1) : Int)] [Ob.arr 15 (List.map Cross.enc (l ++ [f, f, f])) (some 0) r, Ob.one 15 (V.t (Cross.enc f)) false]) (Res.mk (Ex.exit 0) [V.ptr 1 0 0, vb false, V.sl 0 0 (List.length l + 3) none, vi (↑(List.length l + 3) : Int)] [Ob.arr 15 (List.map Cross.enc (l ++ [f, f, f])) (some 0) r, Ob.one 15 (V.t (Cross.enc f)) false])]) (by kernel_rfl) ⟨t_brp (by omega), o_w (by omega), o_n (by kernel_rfl), o_w (by omega), o_n (by omega), o_gm rfl hx (by intro h; cases h), o_w ⟨(by kernel_rfl), (by kernel_rfl)⟩, f_brnot (by assumption), o_i (w64 (by omega)), o_a ih1, trivial⟩ ?_
    refine rt (a := Res.mk (Ex.exit 0) [V.ptr 1 0 0, vb false, V.sl 0 0 (List.length l + 3) none, vi (↑(List.length l + 3) : Int)] [Ob.arr 15 (List.map Cross.enc (l ++ [f, f, f])) (some 0) r, Ob.one 15 (V.t (Cross.enc f)) false]) (by kernel_rfl) ?_
    rfl
theorem f_jousthelp_Kept_Cross (l : List Cross) (f : Cross) (hn : l.length ≤ 1000) (r : Bool) : Is cx (.call 43 [.sl 0 0 l.length none, .t (.sl 15 (l.map Cross.enc)), .t f.enc] [.arr 15 ((l ++ [f, f, f]).map Cross.enc) (some 0) r])
      ⟨.ret, [vb true], [.arr 15 ((l ++ [f, f, f]).map Cross.enc) (some 0) r]⟩ := by
  have h := f_jousthelp_Kept_loop_Cross l f hn r 3 l.length (Nat.le_refl _) rfl
  have hs : small l := by unfold small; omega
  have he : (l ++ [f, f, f]).take l.length = l := by simp
  have hp := f_jousthelp_Plain_Cross ((l ++ [f, f, f]).take l.length) l (by rw [he]; exact hs)
  have e : plain ((l ++ [f, f, f]).take l.length) l = true := by rw [he]; simp [plain]
  rw [e] at hp
  refine Wp.ev ?_
  refine gs (l := [.t (T.sl 15 (List.take (List.length l) (List.drop 0 (List.map Cross.enc (l ++ [f, f, f]))))) (T.sl 15 (List.map Cross.enc (List.take (List.length l) (l ++ [f, f, f])))), .a (Task.call 33 [V.t (T.sl 15 (List.map Cross.enc (List.take (List.length l) (l ++ [f, f, f])))), V.t (T.sl 15 (List.map Cross.enc l))] []) (Res.mk Ex.ret [vb true] []), .b (flats [T.bool true]) true, .b (!true) false, .ff, .n (List.length (List.map Cross.enc (l ++ [f, f, f])) + 0 - 0) (List.length l + 3), .ff, .ff, .n (List.length (List.map Cross.enc l)) (List.length l), .ff, .i IntKind.i64 ((↑(List.length l) : Int) + 3) ((↑(List.length l + 3) : Int)), .ff, .ff, .b (decide ((↑(List.length l + 3) : Int) < (↑(List.length l + 3) : Int))) false, .n (List.length (List.map Cross.enc l)) (List.length l), .i IntKind.i64 ((↑(List.length l) : Int) + 3) ((↑(List.length l + 3) : Int))]) (by kernel_rfl) ⟨o_l (nm_eq (nm_take (nm_drop rfl)) (by kernel_rfl)), o_a hp, o_b (by kernel_rfl), o_b (by kernel_rfl), o_n (by simp), o_n (by simp), o_i (w64 (by omega)), f_brp (by omega), o_n (by simp), o_i (w64 (by omega)), trivial⟩ ?_
  refine gs (l := [.w ((0 : Int) ≤ (↑(List.length l + (3 : Nat)) : Int)), .n (Int.toNat (↑(List.length l + 3) : Int)) (List.length l + 3), .b (decide (0 = 0)) true, .w ((0 : Nat) ≤ List.length l + (3 : Nat) ∧ (0 : Nat) + (List.length l + (3 : Nat)) ≤ List.length (List.map Cross.enc (l ++ [f, f, f]))), .l 0, .n (List.length l + 3 - 0) (List.length l + 3), .n (List.length (List.map Cross.enc l)) (List.length l), .a (Task.loop 43 [0, 1, 0, 1, 1, 1] 1 [V.ptr 1 0 0, vb false, V.sl 0 0 (List.length l + 3) none, vi (↑(List.length l) : Int)] [Ob.arr 15 (List.map Cross.enc (l ++ [f, f, f])) (some 0) r, Ob.one 15 (V.t (Cross.enc f)) false]) (Res.mk (Ex.exit 0) [V.ptr 1 0 0, vb false, V.sl 0 0 (List.length l + 3) none, vi (↑(List.length l + 3) : Int)] [Ob.arr 15 (List.map Cross.enc (l ++ [f, f, f])) (some 0) r, Ob.one 15 (V.t (Cross.enc f)) false])]) (by kernel_rfl) ⟨o_w (by omega), o_n (by kernel_rfl), o_b (by kernel_rfl), o_w ⟨(by omega), (by simp)⟩, o_n (by kernel_rfl), o_n (by simp), o_a h, trivial⟩ ?_
  refine rt (a := Res.mk Ex.ret [vb true] [Ob.arr 15 (List.map Cross.enc (l ++ [f, f, f])) (some 0) r]) (by kernel_rfl) ?_
  rfl
end Go.Eva.S1

/- Eva, part 46: what is put into what is sorted is sorted; what is dropped, and put again. -/
namespace Go.Eva

abbrev Srt (l : List Entity) : Prop := l.Pairwise fun a b => a.id < b.id

theorem sorted_iff : ∀ {l : List Entity}, sortedL l = true ↔ Srt l
  | [] => by simp [sortedL]
  | [a] => by simp [sortedL]
  | a :: b :: r => by
    rw [sortedL, Bool.and_eq_true, decide_eq_true_eq, @sorted_iff (b :: r), Srt, Srt, List.pairwise_cons (a := a)]
    constructor
    · rintro ⟨h1, h2⟩
      refine ⟨fun x hx => ?_, h2⟩
      rcases List.mem_cons.1 hx with rfl | hx
      · exact h1
      · have := (List.pairwise_cons.1 h2).1 x hx; omega
    · rintro ⟨h1, h2⟩
      exact ⟨h1 b (List.mem_cons_self ..), h2⟩

theorem ins_nil {e : Entity} : ins [] e = [e] := rfl
theorem ins_ge {y e : Entity} {l : List Entity} (h : e.id ≤ y.id) : ins (y :: l) e = e :: y :: l := by
  unfold ins
  rw [List.findIdx?_cons, show decide (y.id ≥ e.id) = true by simpa using h]
  rfl
theorem ins_lt {y e : Entity} {l : List Entity} (h : y.id < e.id) : ins (y :: l) e = y :: ins l e := by
  unfold ins
  rw [List.findIdx?_cons, show decide (y.id ≥ e.id) = false by simpa using h]
  cases l.findIdx? fun x => decide (x.id ≥ e.id) <;> simp
theorem ins_split {e : Entity} : ∀ {a b : List Entity}, (∀ y ∈ a, y.id < e.id) → (∀ y ∈ b, e.id ≤ y.id) → ins (a ++ b) e = a ++ e :: b
  | [], [], _, _ => rfl
  | [], y :: b, _, h => ins_ge (h y (List.mem_cons_self ..))
  | y :: a, b, h, h' => by
    rw [List.cons_append, ins_lt (h y (List.mem_cons_self ..)), ins_split (fun z hz => h z (List.mem_cons_of_mem _ hz)) h', List.cons_append]
theorem ins_mem {e x : Entity} : ∀ {l : List Entity}, x ∈ ins l e ↔ x = e ∨ x ∈ l
  | [] => by simp [ins_nil]
  | y :: l => by
    rcases Int.lt_or_le y.id e.id with h | h
    · rw [ins_lt h, List.mem_cons, ins_mem, List.mem_cons]
      constructor <;> (intro h; rcases h with h | h | h <;> simp [h])
    · rw [ins_ge h]; simp
theorem ins_sorted {e : Entity} : ∀ {l : List Entity}, Srt l → (∀ x ∈ l, x.id ≠ e.id) → Srt (ins l e)
  | [], _, _ => by simp [ins_nil, Srt]
  | y :: l, h, hne => by
    obtain ⟨h1, h2⟩ := List.pairwise_cons.1 h
    rcases Int.lt_or_le y.id e.id with hy | hy
    · rw [ins_lt hy]
      refine List.pairwise_cons.2 ⟨fun x hx => ?_, ins_sorted h2 fun x hx => hne x (List.mem_cons_of_mem _ hx)⟩
      rcases ins_mem.1 hx with rfl | hx
      · exact hy
      · exact h1 x hx
    · rw [ins_ge hy]
      have hyy := hne y (List.mem_cons_self ..)
      refine List.pairwise_cons.2 ⟨fun x hx => ?_, h⟩
      rcases List.mem_cons.1 hx with rfl | hx
      · omega
      · have := h1 x hx; omega

theorem no_id {l : List Entity} {id : Int} (h : l.findIdx? (fun x => x.id == id) = none) : ∀ x ∈ l, x.id ≠ id := by
  intro x hx
  have := List.findIdx?_eq_none_iff.1 h x hx
  simpa using this
theorem an_id [Inhabited Entity] {l : List Entity} {id : Int} {k : Nat} (h : l.findIdx? (fun x => x.id == id) = some k) : k < l.length ∧ (gt l k).id = id ∧ gt l k ∈ l := by
  obtain ⟨hk, h1, _⟩ := List.findIdx?_eq_some_iff_getElem.1 h
  exact ⟨hk, by rw [gt_eq hk]; simpa using h1, gt_mem hk⟩
theorem put1_sorted {l : List Entity} {e : Entity} (h : Srt l) : Srt (put1 l e) := by
  unfold put1
  split
  · exact h
  · rename_i hq; exact ins_sorted h (no_id hq)
theorem puts_sorted {m : List Entity} : ∀ {l : List Entity}, Srt l → Srt (puts l m) := by
  induction m with
  | nil => intro l h; exact h
  | cons e m ih => intro l h; exact ih (put1_sorted h)
theorem put1_sub {l : List Entity} {e : Entity} : ∀ x ∈ l, x ∈ put1 l e := by
  intro x hx
  unfold put1
  split
  · exact hx
  · exact ins_mem.2 (.inr hx)
theorem put1_mem {l : List Entity} {e : Entity} : ∃ x ∈ put1 l e, x.id = e.id := by
  unfold put1
  split
  · rename_i k h
    obtain ⟨_, h1, h2⟩ := an_id h
    exact ⟨_, h2, h1⟩
  · exact ⟨e, ins_mem.2 (.inl rfl), rfl⟩
theorem puts_sub {m : List Entity} : ∀ {l : List Entity}, ∀ x ∈ l, x ∈ puts l m := by
  induction m with
  | nil => intro l x h; exact h
  | cons e m ih => intro l x h; exact ih x (put1_sub x h)
theorem puts_mem {m : List Entity} : ∀ {l : List Entity}, ∀ e ∈ m, ∃ x ∈ puts l m, x.id = e.id := by
  induction m with
  | nil => intro l e h; simp at h
  | cons a m ih =>
    intro l e h
    rcases List.mem_cons.1 h with rfl | h
    · obtain ⟨x, h1, h2⟩ := @put1_mem l e
      exact ⟨x, puts_sub (l := put1 l e) x h1, h2⟩
    · exact ih e h
theorem has_find {l : List Entity} {id : Int} (h : ∃ x ∈ l, x.id = id) : ∃ k : Nat, l.findIdx? (fun x => x.id == id) = some k := by
  cases hq : l.findIdx? fun x => x.id == id with
  | some k => exact ⟨k, rfl⟩
  | none =>
    obtain ⟨x, hx, he⟩ := h
    exact absurd he (no_id hq x hx)
theorem put1_same {l : List Entity} {e : Entity} (h : ∃ x ∈ l, x.id = e.id) : put1 l e = l := by
  obtain ⟨k, hk⟩ := has_find h
  unfold put1
  rw [hk]
theorem puts_same {m : List Entity} : ∀ {l : List Entity}, (∀ e ∈ m, ∃ x ∈ l, x.id = e.id) → puts l m = l := by
  induction m with
  | nil => intro l _; rfl
  | cons e m ih =>
    intro l h
    show puts (put1 l e) m = l
    rw [put1_same (h e (List.mem_cons_self ..))]
    exact ih fun x hx => h x (List.mem_cons_of_mem _ hx)
theorem find_drop {l : List Entity} {id : Int} : find (drops l [id]) id = -1 := by
  unfold find
  refine pos_none (List.findIdx?_eq_none_iff.2 ?_)
  intro x hx
  have := (List.mem_filter.1 hx).2
  simp [has] at this
  simpa using fun e => this e.symm

theorem things_players {l : List Entity} : (l.countP fun e => e.kind != 1) + (l.countP fun e => e.kind == 1) = l.length := by
  induction l with
  | nil => rfl
  | cons e l ih =>
    simp only [List.countP_cons, List.length_cons]
    by_cases h : e.kind = 1
    · simp [h]; omega
    · simp [h]; omega

theorem drop_split {l : List Entity} {k : Nat} (h : Srt l) (hk : k < l.length) : drops l [(gt l k).id] = l.take k ++ l.drop (k + 1) ∧ (∀ y ∈ l.take k, y.id < (gt l k).id) ∧ ∀ y ∈ l.drop (k + 1), (gt l k).id < y.id := by
  have e : l = l.take k ++ gt l k :: l.drop (k + 1) := by rw [← drop_gt hk, List.take_append_drop]
  have h' := h
  rw [e] at h'
  obtain ⟨_, h2, h3⟩ := List.pairwise_append.1 h'
  have h4 : ∀ y ∈ l.take k, y.id < (gt l k).id := fun y hy => h3 y hy _ (List.mem_cons_self ..)
  have h5 := (List.pairwise_cons.1 h2).1
  refine ⟨?_, h4, h5⟩
  unfold drops
  have e2 : l.filter (fun x => !has [(gt l k).id] x.id) = (l.take k ++ gt l k :: l.drop (k + 1)).filter (fun x => !has [(gt l k).id] x.id) := congrArg _ e
  rw [e2, List.filter_append, List.filter_cons]
  have f1 : (l.take k).filter (fun x => !has [(gt l k).id] x.id) = l.take k := by
    rw [List.filter_eq_self]
    intro a ha
    have := h4 a ha
    simp [has]; omega
  have f2 : (l.drop (k + 1)).filter (fun x => !has [(gt l k).id] x.id) = l.drop (k + 1) := by
    rw [List.filter_eq_self]
    intro a ha
    have := h5 a ha
    simp [has]; omega
  have f3 : (!has [(gt l k).id] (gt l k).id) = false := by simp [has]
  rw [f1, f2, f3]
  simp

theorem drop_put {l : List Entity} {k : Nat} (h : Srt l) (hk : k < l.length) : put1 (drops l [(gt l k).id]) (gt l k) = l := by
  obtain ⟨h1, h2, h3⟩ := drop_split h hk
  have hn : (drops l [(gt l k).id]).findIdx? (fun x => x.id == (gt l k).id) = none := by
    rw [List.findIdx?_eq_none_iff]
    intro x hx
    have := (List.mem_filter.1 hx).2
    simp [has] at this
    simpa using fun e => this e.symm
  unfold put1
  rw [hn]
  simp only
  rw [h1, ins_split h2 fun y hy => Int.le_of_lt (h3 y hy), ← drop_gt hk, List.take_append_drop]
theorem drop_len {l : List Entity} {k : Nat} (h : Srt l) (hk : k < l.length) : (drops l [(gt l k).id]).length + 1 = l.length := by
  rw [(drop_split h hk).1]; simp; omega
theorem drop_drop {l : List Entity} {id : Int} : drops (drops l [id]) [id, id] = drops l [id] := by
  unfold drops
  rw [List.filter_filter]
  congr 1
  funext x
  simp [has]
theorem drop_sorted {l : List Entity} {ids : List Int} (h : Srt l) : Srt (drops l ids) := List.Pairwise.filter _ h
end Go.Eva

/- The statements of the entities. -/
namespace Go.Eva.S1
theorem f_joustlaw05_awake : Fn cx 13 [] (.bool true) := by
  have hs : small [(⟨5, 0, 0, 0, 0, 0, 0, 0, 0⟩ : Entity)] := by simp [small]
  have h3 := f_entity_Put [] [⟨5, 0, 0, 0, 0, 0, 0, 0, 0⟩] (by decide) (by decide)
  rw [show puts [] [⟨5, 0, 0, 0, 0, 0, 0, 0, 0⟩] = [⟨5, 0, 0, 0, 0, 0, 0, 0, 0⟩] by decide] at h3
  have h4 := f_entity_Find [⟨5, 0, 0, 0, 0, 0, 0, 0, 0⟩] 5 hs
  rw [show find [⟨5, 0, 0, 0, 0, 0, 0, 0, 0⟩] 5 = 0 by decide] at h4
  have h5 := f_entity_Sorted [] (by simp [small])
  rw [show sortedL [] = true from rfl] at h5
  refine Wp.ev ?_
  refine gs (l := [.a (Task.call 14 [V.t (T.sl 9 []), V.t (T.sl 9 [T.agg [ti 5, ti 0, ti 0, ti 0, ti 0, ti 0, ti 0, ti 0, ti 0]])] []) (Res.mk Ex.ret [V.all 0 none] [Ob.arr 9 [Entity.enc (Entity.mk 5 0 0 0 0 0 0 0 0)] none false]), .l 1, .b (1 == 1) true, .tt, .tt, .a (Task.call 16 [V.t (T.sl 9 [T.agg [ti 5, ti 0, ti 0, ti 0, ti 0, ti 0, ti 0, ti 0, ti 0]]), vi 5] []) (Res.mk Ex.ret [vi 0] []), .tt, .tt, .b (0 == 0) true, .a (Task.call 15 [V.t (T.sl 9 [])] []) (Res.mk Ex.ret [vb true] []), .tt]) (by kernel_rfl) ⟨o_a h3, o_b (by kernel_rfl), o_a h4, o_b (by kernel_rfl), o_a h5, trivial⟩ ?_
  refine rt (a := Res.mk Ex.ret [vb true] []) (by kernel_rfl) ?_
  rfl
theorem f_joustlaw05_EntitySorted_loop (l x : List Entity) (hl : l.length ≤ 40) (hx : x.length ≤ 40) (hm : ∀ e ∈ l, ∃ y ∈ x, y.id = e.id) : ∀ (d i : Nat) (r : Bool), i + d = l.length →
    ∃ r' : Bool, Is cx (.loop 3 [0, 1, 0, 1, 1, 1, 1] 0 [.t (.sl 9 (l.map Entity.enc)), vb false, .all 0 none, vi i] [.arr 9 (x.map Entity.enc) none r])
      ⟨.exit 0, [.t (.sl 9 (l.map Entity.enc)), vb false, .all 0 none, vi l.length], [.arr 9 (x.map Entity.enc) none r']⟩ := by
  intro d
  induction d with
  | zero =>
    intro i r hi
    refine ⟨r, ?_⟩
    refine Wp.ev ?_
    refine gs (l := [.n (List.length (List.map Entity.enc l)) (List.length l), .b (decide ((↑i : Int) < (↑(List.length l) : Int))) false]) (by kernel_rfl) ⟨o_n (by simp), f_brp (by omega), trivial⟩ ?_
    refine rt (a := Res.mk (Ex.exit 0) [V.t (T.sl 9 (List.map Entity.enc l)), vb false, V.all 0 none, vi (↑i : Int)] [Ob.arr 9 (List.map Entity.enc x) none r]) (by kernel_rfl) ?_
    ((have hq : i = l.length := by omega); subst hq; rfl)
  | succ d ih =>
    intro i r hi
    have hlt : i < l.length := by omega
    obtain ⟨r', ih1⟩ := ih (i + 1) true (by omega)
    refine ⟨r', ?_⟩
    clear ih
    obtain ⟨k, hk⟩ := has_find (hm _ (gt_mem hlt))
    obtain ⟨h1, h2, _⟩ := an_id hk
    have hs : small x := by unfold small; omega
    have hF := f_entity_Find x (gt l i).id hs
    rw [show find x (gt l i).id = (k : Int) from pos_some hk] at hF
    have hd : (drops x [(gt l i).id]).length ≤ x.length := List.length_filter_le ..
    have hG := f_entity_Find (drops x [(gt l i).id]) (gt l i).id (by unfold small; omega)
    rw [find_drop] at hG
    have hi1 : small [(gt l i).id] := by simp [small]
    refine Wp.ev ?_
    refine gs (l := [.n (List.length (List.map Entity.enc l)) (List.length l), .b (decide ((↑i : Int) < (↑(List.length l) : Int))) true, .w ((0 : Int) ≤ (↑i : Int)), .n (Int.toNat (↑i : Int)) i, .g (List.map Entity.enc l) i (Entity.enc (gt l i)), .a (Task.call 16 [V.t (T.sl 9 (List.map Entity.enc x)), vi (gt l i).id] []) (Res.mk Ex.ret [vi (↑k : Int)] []), .b (flats [ti (↑k : Int)]) true, .b (decide ((↑k : Int) < 0)) false, .ff, .ff, .n (List.length (List.map Entity.enc x)) (List.length x), .ff, .ff, .b (decide ((↑k : Int) ≥ (↑(List.length x) : Int))) false, .ff, .ff]) (by kernel_rfl) ⟨o_n (by simp), t_brp (by omega), o_w (by omega), o_n (by kernel_rfl), o_gt rfl (by assumption) (by intro h; cases h), o_a hF, o_b (by kernel_rfl), o_b (by kernel_rfl), o_n (by simp), f_brp (by omega), trivial⟩ ?_
    refine gs (l := [.w ((0 : Int) ≤ (↑k : Int)), .n (Int.toNat (↑k : Int)) k, .w (k < List.length (List.map Entity.enc x)), .ff, .ff, .ff, .ff, .w ((0 : Int) ≤ (↑i : Int)), .n (Int.toNat (↑i : Int)) i, .g (List.map Entity.enc l) i (Entity.enc (gt l i)), .ff, .ff, .g (List.map Entity.enc x) k (Entity.enc (gt x k)), .ff, .ff, .ff]) (by kernel_rfl) ⟨o_w (by omega), o_n (by kernel_rfl), o_w (by (simp; omega)), o_w (by omega), o_n (by kernel_rfl), o_gt rfl (by assumption) (by intro h; cases h), o_gt rfl (by assumption) (by intro h; cases h), trivial⟩ ?_
    refine gs (l := [.b ((gt x k).id != (gt l i).id) false, .ff, .ff, .ff, .w ((0 : Int) ≤ (↑i : Int)), .n (Int.toNat (↑i : Int)) i, .g (List.map Entity.enc l) i (Entity.enc (gt l i)), .ff, .ff, .ff, .ff, .w ((0 : Int) ≤ (↑i : Int)), .n (Int.toNat (↑i : Int)) i, .g (List.map Entity.enc l) i (Entity.enc (gt l i)), .ff, .ff]) (by kernel_rfl) ⟨f_brn (by assumption), o_w (by omega), o_n (by kernel_rfl), o_gt rfl (by assumption) (by intro h; cases h), o_w (by omega), o_n (by kernel_rfl), o_gt rfl (by assumption) (by intro h; cases h), trivial⟩ ?_
    refine gs (l := [.ff, .ff, .ff, .a (Task.call 17 [V.t (T.sl 9 (List.map Entity.enc x)), V.t (T.sl 1 [ti (gt l i).id])] []) (Res.mk Ex.ret [V.all 0 none] [Ob.arr 9 (List.map Entity.enc (drops x [(gt l i).id])) none false]), .ff, .a (Task.call 16 [V.t (T.sl 9 (List.map Entity.enc (drops x [(gt l i).id]))), vi (gt l i).id] []) (Res.mk Ex.ret [vi (-1)] []), .b (flats [ti (-1)]) true, .ff, .ff, .b (-1 != -1) false, .i IntKind.i64 ((↑i : Int) + 1) ((↑(i + 1) : Int)), .a (Task.loop 3 [0, 1, 0, 1, 1, 1, 1] 0 [V.t (T.sl 9 (List.map Entity.enc l)), vb false, V.all 0 none, vi (↑(i + 1) : Int)] [Ob.arr 9 (List.map Entity.enc x) none true]) (Res.mk (Ex.exit 0) [V.t (T.sl 9 (List.map Entity.enc l)), vb false, V.all 0 none, vi (↑(List.length l) : Int)] [Ob.arr 9 (List.map Entity.enc x) none r'])]) (by kernel_rfl) ⟨o_a (f_entity_Drop _ (ids := [(gt l i).id]) (by assumption) (by assumption)), o_a hG, o_b (by kernel_rfl), o_b (by kernel_rfl), o_i (w64 (by omega)), o_a ih1, trivial⟩ ?_
    refine rt (a := Res.mk (Ex.exit 0) [V.t (T.sl 9 (List.map Entity.enc l)), vb false, V.all 0 none, vi (↑(List.length l) : Int)] [Ob.arr 9 (List.map Entity.enc x) none r']) (by kernel_rfl) ?_
    rfl
theorem f_joustlaw05_EntitySorted (l : List Entity) : Fn cx 3 [.sl 9 (l.map Entity.enc)] (.bool true) := by
  have ha := f_joustlaw05_awake
  by_cases hl : l.length ≤ 40
  · have h2 := @puts_len l []
    simp only [List.length_nil, Nat.zero_add] at h2
    have hs : small (puts [] l) := by unfold small; omega
    have hS := f_entity_Sorted (puts [] l) hs
    rw [sorted_iff.2 (puts_sorted (by simp [Srt]))] at hS
    obtain ⟨r', hL⟩ := f_joustlaw05_EntitySorted_loop l (puts [] l) hl (by omega) puts_mem l.length 0 false (by omega)
    have hP := f_entity_Put (puts [] l) l (by omega) (by omega)
    rw [puts_same (l := puts [] l) puts_mem] at hP
    have hQ := f_jousthelp_Plain_Entity (puts [] l) (puts [] l) hs
    rw [show plain (puts [] l) (puts [] l) = true by simp [plain]] at hQ
    have h0 := f_entity_Put [] l (by decide) (by omega)
    refine Wp.ev ?_
    refine gs (l := [.n (List.length (List.map Entity.enc l)) (List.length l), .b (decide ((↑(List.length l) : Int) > 40)) false, .a (Task.call 14 [V.t (T.sl 9 []), V.t (T.sl 9 (List.map Entity.enc l))] []) (Res.mk Ex.ret [V.all 0 none] [Ob.arr 9 (List.map Entity.enc (puts [] l)) none false]), .a (Task.call 13 [] []) (Res.mk Ex.ret [vb true] []), .b (!true) false, .ff, .a (Task.call 15 [V.t (T.sl 9 (List.map Entity.enc (puts [] l)))] []) (Res.mk Ex.ret [vb true] []), .b (flats [T.bool true]) true, .ff, .ff, .b (!true) false, .ff, .n (List.length (List.map Entity.enc (puts [] l))) (List.length (puts [] l)), .ff, .ff, .n (List.length (List.map Entity.enc l)) (List.length l)]) (by kernel_rfl) ⟨o_n (by simp), f_brp (by omega), o_a h0, o_a ha, o_b (by kernel_rfl), o_a hS, o_b (by kernel_rfl), o_b (by kernel_rfl), o_n (by simp), o_n (by simp), trivial⟩ ?_
    refine gs (l := [.ff, .ff, .b (decide ((↑(List.length (puts [] l)) : Int) > (↑(List.length l) : Int))) false, .a (Task.loop 3 [0, 1, 0, 1, 1, 1, 1] 0 [V.t (T.sl 9 (List.map Entity.enc l)), vb false, V.all 0 none, vi 0] [Ob.arr 9 (List.map Entity.enc (puts [] l)) none false]) (Res.mk (Ex.exit 0) [V.t (T.sl 9 (List.map Entity.enc l)), vb false, V.all 0 none, vi (↑(List.length l) : Int)] [Ob.arr 9 (List.map Entity.enc (puts [] l)) none r']), .a (Task.call 14 [V.t (T.sl 9 (List.map Entity.enc (puts [] l))), V.t (T.sl 9 (List.map Entity.enc l))] []) (Res.mk Ex.ret [V.all 0 none] [Ob.arr 9 (List.map Entity.enc (puts [] l)) none false]), .a (Task.call 18 [V.t (T.sl 9 (List.map Entity.enc (puts [] l))), V.t (T.sl 9 (List.map Entity.enc (puts [] l)))] []) (Res.mk Ex.ret [vb true] []), .b (flats [T.bool true]) true]) (by kernel_rfl) ⟨f_brp (by omega), o_a hL, o_a hP, o_a hQ, o_b (by kernel_rfl), trivial⟩ ?_
    refine rt (a := Res.mk Ex.ret [vb true] []) (by kernel_rfl) ?_
    rfl
  · refine Wp.ev ?_
    refine gs (l := [.n (List.length (List.map Entity.enc l)) (List.length l), .b (decide ((↑(List.length l) : Int) > 40)) true, .a (Task.call 13 [] []) (Res.mk Ex.ret [vb true] [])]) (by kernel_rfl) ⟨o_n (by simp), t_brp (by omega), o_a ha, trivial⟩ ?_
    refine rt (a := Res.mk Ex.ret [vb true] []) (by kernel_rfl) ?_
    rfl
end Go.Eva.S1
