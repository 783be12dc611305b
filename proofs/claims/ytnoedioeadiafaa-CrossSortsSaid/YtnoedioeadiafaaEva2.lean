/- A reading of the program, proved sound against the model, and what its functions answer by it: part 2. -/
import Derived.Test.YtnoedioeadiafaaEva1
set_option linter.unusedSimpArgs false
set_option linter.unusedVariables false
/- Functions of the lowest layers (fixed, grid): what each answers. -/
namespace Go.Eva.S1
theorem f_grid_within (v lo hi : Int) : Fn cx 81 [ti v, ti lo, ti hi] (.bool (within v lo hi)) := by
  refine Wp.ev ?_
  refine brp (p := v ≥ lo) (by kernel_rfl) (fun h1 => ?_) (fun h1 => ?_)
  · refine gg [.tt, .tt, .tt] trivial ?_
    refine rt (a := Res.mk Ex.ret [vb (decide (v ≤ hi))] []) (by kernel_rfl) ?_
    (simp_all [within]; (try (rw [Bool.eq_iff_iff]; simp only [decide_eq_true_eq, Bool.and_eq_true]; omega)); (try (intros; omega)))
  · refine gg [.ff, .ff, .ff] trivial ?_
    refine rt (a := Res.mk Ex.ret [vb false] []) (by kernel_rfl) ?_
    (simp_all [within]; (try (rw [Bool.eq_iff_iff]; simp only [decide_eq_true_eq, Bool.and_eq_true]; omega)); (try (intros; omega)))
theorem f_entity_within (v lo hi : Int) : Fn cx 60 [ti v, ti lo, ti hi] (.bool (within v lo hi)) := by
  refine Wp.ev ?_
  refine brp (p := v ≥ lo) (by kernel_rfl) (fun h1 => ?_) (fun h1 => ?_)
  · refine gg [.tt, .tt, .tt] trivial ?_
    refine rt (a := Res.mk Ex.ret [vb (decide (v ≤ hi))] []) (by kernel_rfl) ?_
    (simp_all [within]; (try (rw [Bool.eq_iff_iff]; simp only [decide_eq_true_eq, Bool.and_eq_true]; omega)); (try (intros; omega)))
  · refine gg [.ff, .ff, .ff] trivial ?_
    refine rt (a := Res.mk Ex.ret [vb false] []) (by kernel_rfl) ?_
    (simp_all [within]; (try (rw [Bool.eq_iff_iff]; simp only [decide_eq_true_eq, Bool.and_eq_true]; omega)); (try (intros; omega)))
theorem f_joustref05_within (v lo hi : Int) : Fn cx 63 [ti v, ti lo, ti hi] (.bool (within v lo hi)) := by
  refine Wp.ev ?_
  refine brp (p := v ≥ lo) (by kernel_rfl) (fun h1 => ?_) (fun h1 => ?_)
  · refine gg [.tt, .tt, .tt] trivial ?_
    refine rt (a := Res.mk Ex.ret [vb (decide (v ≤ hi))] []) (by kernel_rfl) ?_
    (simp_all [within]; (try (rw [Bool.eq_iff_iff]; simp only [decide_eq_true_eq, Bool.and_eq_true]; omega)); (try (intros; omega)))
  · refine gg [.ff, .ff, .ff] trivial ?_
    refine rt (a := Res.mk Ex.ret [vb false] []) (by kernel_rfl) ?_
    (simp_all [within]; (try (rw [Bool.eq_iff_iff]; simp only [decide_eq_true_eq, Bool.and_eq_true]; omega)); (try (intros; omega)))
theorem f_grid_right (c : Config) : Fn cx 58 [c.enc] (.bool c.right) := by
  refine Wp.ev ?_
  refine gg [.a _ _] ⟨o_a (f_grid_within c.cols 1 4), trivial⟩ ?_
  refine br (b := within c.cols 1 4) (by kernel_rfl) (fun h1 => ?_) (fun h1 => ?_)
  · refine gg [.tt, .tt, .a _ _, .tt] ⟨o_a (f_grid_within c.rows 1 4), trivial⟩ ?_
    refine br (b := within c.rows 1 4) (by kernel_rfl) (fun h2 => ?_) (fun h2 => ?_)
    · refine gg [.tt, .tt, .a _ _, .tt] ⟨o_a (f_grid_within c.players 1 6), trivial⟩ ?_
      refine br (b := within c.players 1 6) (by kernel_rfl) (fun h3 => ?_) (fun h3 => ?_)
      · refine gg [.tt, .tt, .a _ _, .tt] ⟨o_a (f_grid_within c.window 1 16), trivial⟩ ?_
        refine rt (a := Res.mk Ex.ret [vb (within c.window 1 16)] []) (by kernel_rfl) ?_
        simp_all [Config.right]
      · refine gg [.ff, .ff, .ff] trivial ?_
        refine rt (a := Res.mk Ex.ret [vb false] []) (by kernel_rfl) ?_
        simp_all [Config.right]
    · refine gg [.ff, .ff, .ff, .ff, .ff, .ff, .ff] trivial ?_
      refine rt (a := Res.mk Ex.ret [vb false] []) (by kernel_rfl) ?_
      simp_all [Config.right]
  · refine gg [.ff, .ff, .ff, .ff, .ff, .ff, .ff, .ff, .ff, .ff, .ff] trivial ?_
    refine rt (a := Res.mk Ex.ret [vb false] []) (by kernel_rfl) ?_
    simp_all [Config.right]
theorem f_grid_New (c : Config) : Is cx (.call 21 [.t c.enc] []) ⟨.ret, [.t c.grid.enc, vi c.err], []⟩ := by
  refine Wp.ev ?_
  refine gg [.a _ _] ⟨o_a (f_grid_right c), trivial⟩ ?_
  refine brnot (b := Config.right c) (by kernel_rfl) (fun h1 => ?_) (fun h1 => ?_)
  · refine rt (a := Res.mk Ex.ret [V.t (T.agg [ti 0, ti 0, ti 0, ti 0, T.int IntKind.u64 0]), vi 10] []) (by kernel_rfl) ?_
    simp_all [Config.grid, Config.err, Config.zero, Config.enc]
  · refine rt (a := Res.mk Ex.ret [V.t (Config.enc c), vi 0] []) (by kernel_rfl) ?_
    simp_all [Config.grid, Config.err, Config.zero, Config.enc]
theorem f_grid_size_t (c : Config) (h : c.right = true) : Is cx (.call 90 [.t c.enc] []) ⟨.ret, [vi c.cols, vi c.rows], []⟩ := by
  refine Wp.ev ?_
  refine gg [.a _ _, .b (!Config.right c) false] ⟨o_a (f_grid_right c), f_brnot (by assumption), trivial⟩ ?_
  exact ge
theorem f_grid_size_f (c : Config) (h : c.right = false) : Is cx (.call 90 [.t c.enc] []) ⟨.ret, [vi 0, vi 0], []⟩ := by
  refine Wp.ev ?_
  refine gg [.a _ _, .b (!Config.right c) true] ⟨o_a (f_grid_right c), t_brnot (by assumption), trivial⟩ ?_
  exact ge
theorem f_fixed_Clamp (v lo hi : Int) : Fn cx 91 [ti v, ti lo, ti hi] (ti (clamp v lo hi)) := by
  refine Wp.ev ?_
  refine brp (p := v < lo) (by kernel_rfl) (fun h1 => ?_) (fun h1 => ?_)
  · refine rt (a := Res.mk Ex.ret [vi lo] []) (by kernel_rfl) ?_
    (simp_all [clamp]; (try (rw [Bool.eq_iff_iff]; simp only [decide_eq_true_eq, Bool.and_eq_true]; omega)); (try (intros; omega)))
  · refine brp (p := v > hi) (by kernel_rfl) (fun h2 => ?_) (fun h2 => ?_)
    · refine rt (a := Res.mk Ex.ret [vi hi] []) (by kernel_rfl) ?_
      (simp_all [clamp]; (try (rw [Bool.eq_iff_iff]; simp only [decide_eq_true_eq, Bool.and_eq_true]; omega)); (try (intros; omega)))
    · refine rt (a := Res.mk Ex.ret [vi v] []) (by kernel_rfl) ?_
      (simp_all [clamp]; (try (rw [Bool.eq_iff_iff]; simp only [decide_eq_true_eq, Bool.and_eq_true]; omega)); (try (intros; omega)))
theorem f_joustref01_Clamp (v lo hi : Int) : Fn cx 77 [ti v, ti lo, ti hi] (ti (clamp v lo hi)) := by
  refine Wp.ev ?_
  refine brp (p := v < lo) (by kernel_rfl) (fun h1 => ?_) (fun h1 => ?_)
  · refine rt (a := Res.mk Ex.ret [vi lo] []) (by kernel_rfl) ?_
    (simp_all [clamp]; (try (rw [Bool.eq_iff_iff]; simp only [decide_eq_true_eq, Bool.and_eq_true]; omega)); (try (intros; omega)))
  · refine brp (p := v > hi) (by kernel_rfl) (fun h2 => ?_) (fun h2 => ?_)
    · refine rt (a := Res.mk Ex.ret [vi hi] []) (by kernel_rfl) ?_
      (simp_all [clamp]; (try (rw [Bool.eq_iff_iff]; simp only [decide_eq_true_eq, Bool.and_eq_true]; omega)); (try (intros; omega)))
    · refine rt (a := Res.mk Ex.ret [vi v] []) (by kernel_rfl) ?_
      (simp_all [clamp]; (try (rw [Bool.eq_iff_iff]; simp only [decide_eq_true_eq, Bool.and_eq_true]; omega)); (try (intros; omega)))
theorem f_joustref03_Right (c : Config) : Fn cx 57 [c.enc] (.bool c.right) := by
  refine Wp.ev ?_
  refine brp (p := c.cols ≥ 1) (by kernel_rfl) (fun h1 => ?_) (fun h1 => ?_)
  · refine gg [.tt, .tt, .tt] trivial ?_
    refine brp (p := c.cols ≤ 4) (by kernel_rfl) (fun h2 => ?_) (fun h2 => ?_)
    · refine gg [.tt, .tt, .tt] trivial ?_
      refine brp (p := c.rows ≥ 1) (by kernel_rfl) (fun h3 => ?_) (fun h3 => ?_)
      · refine gg [.tt, .tt, .tt] trivial ?_
        refine brp (p := c.rows ≤ 4) (by kernel_rfl) (fun h4 => ?_) (fun h4 => ?_)
        · refine gg [.tt, .tt, .tt] trivial ?_
          refine brp (p := c.players ≥ 1) (by kernel_rfl) (fun h5 => ?_) (fun h5 => ?_)
          · refine gg [.tt, .tt, .tt] trivial ?_
            refine brp (p := c.players ≤ 6) (by kernel_rfl) (fun h6 => ?_) (fun h6 => ?_)
            · refine gg [.tt, .tt, .tt] trivial ?_
              refine brp (p := c.window ≥ 1) (by kernel_rfl) (fun h7 => ?_) (fun h7 => ?_)
              · refine gg [.tt, .tt, .tt] trivial ?_
                refine rt (a := Res.mk Ex.ret [vb (decide (c.window ≤ 16))] []) (by kernel_rfl) ?_
                (simp_all [Config.right, within]; (try (rw [Bool.eq_iff_iff]; simp only [decide_eq_true_eq, Bool.and_eq_true]; omega)); (try (intros; omega)))
              · refine gg [.ff, .ff, .ff] trivial ?_
                refine rt (a := Res.mk Ex.ret [vb false] []) (by kernel_rfl) ?_
                (simp_all [Config.right, within]; (try (rw [Bool.eq_iff_iff]; simp only [decide_eq_true_eq, Bool.and_eq_true]; omega)); (try (intros; omega)))
            · refine gg [.ff, .ff, .ff, .ff, .ff, .ff, .ff] trivial ?_
              refine rt (a := Res.mk Ex.ret [vb false] []) (by kernel_rfl) ?_
              (simp_all [Config.right, within]; (try (rw [Bool.eq_iff_iff]; simp only [decide_eq_true_eq, Bool.and_eq_true]; omega)); (try (intros; omega)))
          · refine gg [.ff, .ff, .ff, .ff, .ff, .ff, .ff, .ff, .ff, .ff, .ff] trivial ?_
            refine rt (a := Res.mk Ex.ret [vb false] []) (by kernel_rfl) ?_
            (simp_all [Config.right, within]; (try (rw [Bool.eq_iff_iff]; simp only [decide_eq_true_eq, Bool.and_eq_true]; omega)); (try (intros; omega)))
        · refine gg [.ff, .ff, .ff, .ff, .ff, .ff, .ff, .ff, .ff, .ff, .ff, .ff, .ff, .ff, .ff] trivial ?_
          refine rt (a := Res.mk Ex.ret [vb false] []) (by kernel_rfl) ?_
          (simp_all [Config.right, within]; (try (rw [Bool.eq_iff_iff]; simp only [decide_eq_true_eq, Bool.and_eq_true]; omega)); (try (intros; omega)))
      · refine gg [.ff, .ff, .ff, .ff, .ff, .ff, .ff, .ff, .ff, .ff, .ff, .ff, .ff, .ff, .ff, .ff] trivial ?_
        refine gg [.ff, .ff, .ff] trivial ?_
        refine rt (a := Res.mk Ex.ret [vb false] []) (by kernel_rfl) ?_
        (simp_all [Config.right, within]; (try (rw [Bool.eq_iff_iff]; simp only [decide_eq_true_eq, Bool.and_eq_true]; omega)); (try (intros; omega)))
    · refine gg [.ff, .ff, .ff, .ff, .ff, .ff, .ff, .ff, .ff, .ff, .ff, .ff, .ff, .ff, .ff, .ff] trivial ?_
      refine gg [.ff, .ff, .ff, .ff, .ff, .ff, .ff] trivial ?_
      refine rt (a := Res.mk Ex.ret [vb false] []) (by kernel_rfl) ?_
      (simp_all [Config.right, within]; (try (rw [Bool.eq_iff_iff]; simp only [decide_eq_true_eq, Bool.and_eq_true]; omega)); (try (intros; omega)))
  · refine gg [.ff, .ff, .ff, .ff, .ff, .ff, .ff, .ff, .ff, .ff, .ff, .ff, .ff, .ff, .ff, .ff] trivial ?_
    refine gg [.ff, .ff, .ff, .ff, .ff, .ff, .ff, .ff, .ff, .ff, .ff] trivial ?_
    refine rt (a := Res.mk Ex.ret [vb false] []) (by kernel_rfl) ?_
    (simp_all [Config.right, within]; (try (rw [Bool.eq_iff_iff]; simp only [decide_eq_true_eq, Bool.and_eq_true]; omega)); (try (intros; omega)))
theorem f_grid_Regions (c : Config) : Fn cx 96 [c.enc] (ti c.regions) := by
  cases h : c.right with
  | true =>
    have h2 := Config.mul_le h
    refine Wp.ev ?_
    refine gg [.a _ _, .i IntKind.i64 (c.cols * c.rows) (c.cols * c.rows)] ⟨o_a (f_grid_size_t c (by assumption)), oI, trivial⟩ ?_
    refine rt (a := Res.mk Ex.ret [vi (c.cols * c.rows)] []) (by kernel_rfl) ?_
    simp [Config.regions, h]
  | false => refine Wp.ev ?_
             refine gg [.a _ _, .i IntKind.i64 0 0] ⟨o_a (f_grid_size_f c (by assumption)), oK, trivial⟩ ?_
             refine rt (a := Res.mk Ex.ret [vi 0] []) (by kernel_rfl) ?_
             simp [Config.regions, h]
theorem f_joustref03_Regions (c : Config) : Fn cx 76 [c.enc] (ti c.regions) := by
  cases h : c.right with
  | true =>
    have h2 := Config.mul_le h
    refine Wp.ev ?_
    refine gg [.a _ _, .b (!Config.right c) false, .i IntKind.i64 (c.cols * c.rows) (c.cols * c.rows)] ⟨o_a (f_joustref03_Right c), f_brnot (by assumption), oI, trivial⟩ ?_
    refine rt (a := Res.mk Ex.ret [vi (c.cols * c.rows)] []) (by kernel_rfl) ?_
    simp [Config.regions, h]
  | false => refine Wp.ev ?_
             refine gg [.a _ _, .b (!Config.right c) true] ⟨o_a (f_joustref03_Right c), t_brnot (by assumption), trivial⟩ ?_
             refine rt (a := Res.mk Ex.ret [vi 0] []) (by kernel_rfl) ?_
             simp [Config.regions, h]
theorem f_grid_Width (c : Config) : Fn cx 82 [c.enc] (ti c.width) := by
  cases h : c.right with
  | true =>
    have h2 := Config.right_iff.1 h
    refine Wp.ev ?_
    refine gg [.a _ _, .i IntKind.i64 (c.cols * 1024) (c.cols * 1024)] ⟨o_a (f_grid_size_t c (by assumption)), oI, trivial⟩ ?_
    refine rt (a := Res.mk Ex.ret [vi (c.cols * 1024)] []) (by kernel_rfl) ?_
    simp [Config.width, h]
  | false => refine Wp.ev ?_
             refine gg [.a _ _, .i IntKind.i64 0 0] ⟨o_a (f_grid_size_f c (by assumption)), oK, trivial⟩ ?_
             refine rt (a := Res.mk Ex.ret [vi 0] []) (by kernel_rfl) ?_
             simp [Config.width, h]
theorem f_grid_Height (c : Config) : Fn cx 83 [c.enc] (ti c.height) := by
  cases h : c.right with
  | true =>
    have h2 := Config.right_iff.1 h
    refine Wp.ev ?_
    refine gg [.a _ _, .i IntKind.i64 (c.rows * 1024) (c.rows * 1024)] ⟨o_a (f_grid_size_t c (by assumption)), oI, trivial⟩ ?_
    refine rt (a := Res.mk Ex.ret [vi (c.rows * 1024)] []) (by kernel_rfl) ?_
    simp [Config.height, h]
  | false => refine Wp.ev ?_
             refine gg [.a _ _, .i IntKind.i64 0 0] ⟨o_a (f_grid_size_f c (by assumption)), oK, trivial⟩ ?_
             refine rt (a := Res.mk Ex.ret [vi 0] []) (by kernel_rfl) ?_
             simp [Config.height, h]
theorem f_grid_Inside (c : Config) (x y : Int) : Fn cx 59 [c.enc, ti x, ti y] (.bool (c.inside x y)) := by
  have h1 := @Config.width_le c
  have h2 := @Config.height_le c
  refine Wp.ev ?_
  refine gg [.a _ _, .i IntKind.i64 (Config.width c - 1) (Config.width c - 1), .a _ _] ⟨o_a (f_grid_Width c), oI, o_a (f_grid_within x 0 (Config.width c - 1)), trivial⟩ ?_
  refine br (b := within x 0 (Config.width c - 1)) (by kernel_rfl) (fun h1 => ?_) (fun h1 => ?_)
  · refine gg [.tt, .tt, .a _ _, .tt, .i IntKind.i64 (Config.height c - 1) (Config.height c - 1), .tt, .a _ _, .tt] ⟨o_a (f_grid_Height c), oI, o_a (f_grid_within y 0 (Config.height c - 1)), trivial⟩ ?_
    refine rt (a := Res.mk Ex.ret [vb (within y 0 (Config.height c - 1))] []) (by kernel_rfl) ?_
    simp_all [Config.inside]
  · refine gg [.ff, .ff, .ff, .ff, .ff] trivial ?_
    refine rt (a := Res.mk Ex.ret [vb false] []) (by kernel_rfl) ?_
    simp_all [Config.inside]
theorem f_joustref03_Inside (c : Config) (x y : Int) : Fn cx 62 [c.enc, ti x, ti y] (.bool (c.inside x y)) := by
  cases h : c.right with
  | true =>
    have h2 := Config.right_iff.1 h
    refine Wp.ev ?_
    refine gg [.a _ _, .b (Config.right c) true, .tt, .tt] ⟨o_a (f_joustref03_Right c), tB, trivial⟩ ?_
    refine brp (p := x ≥ 0) (by kernel_rfl) (fun h1 => ?_) (fun h1 => ?_)
    · refine gg [.tt, .tt, .tt, .i IntKind.i64 (c.cols * 1024) (c.cols * 1024), .tt, .tt] ⟨oI, trivial⟩ ?_
      refine brp (p := x < c.cols * 1024) (by kernel_rfl) (fun h2 => ?_) (fun h2 => ?_)
      · refine gg [.tt, .tt] trivial ?_
        refine brp (p := y ≥ 0) (by kernel_rfl) (fun h3 => ?_) (fun h3 => ?_)
        · refine gg [.tt, .tt, .tt, .i IntKind.i64 (c.rows * 1024) (c.rows * 1024), .tt, .tt] ⟨oI, trivial⟩ ?_
          refine rt (a := Res.mk Ex.ret [vb (decide (y < c.rows * 1024))] []) (by kernel_rfl) ?_
          (simp_all [Config.inside, Config.width, Config.height, within]; (try (rw [Bool.eq_iff_iff]; simp only [decide_eq_true_eq, Bool.and_eq_true]; omega)); (try (intros; omega)))
        · refine gg [.ff, .ff, .ff, .ff, .ff] trivial ?_
          refine rt (a := Res.mk Ex.ret [vb false] []) (by kernel_rfl) ?_
          (simp_all [Config.inside, Config.width, Config.height, within]; (try (rw [Bool.eq_iff_iff]; simp only [decide_eq_true_eq, Bool.and_eq_true]; omega)); (try (intros; omega)))
      · refine gg [.ff, .ff, .ff, .ff, .ff, .ff, .ff, .ff] trivial ?_
        refine rt (a := Res.mk Ex.ret [vb false] []) (by kernel_rfl) ?_
        (simp_all [Config.inside, Config.width, Config.height, within]; (try (rw [Bool.eq_iff_iff]; simp only [decide_eq_true_eq, Bool.and_eq_true]; omega)); (try (intros; omega)))
    · refine gg [.ff, .ff, .ff, .ff, .ff, .ff, .ff, .ff, .ff, .ff, .ff, .ff, .ff, .ff] trivial ?_
      refine rt (a := Res.mk Ex.ret [vb false] []) (by kernel_rfl) ?_
      (simp_all [Config.inside, Config.width, Config.height, within]; (try (rw [Bool.eq_iff_iff]; simp only [decide_eq_true_eq, Bool.and_eq_true]; omega)); (try (intros; omega)))
  | false => refine Wp.ev ?_
             refine gg [.a _ _, .b (Config.right c) false, .ff, .ff, .ff, .ff, .ff, .ff, .ff, .ff, .ff, .ff, .ff, .ff, .ff, .ff] ⟨o_a (f_joustref03_Right c), fB, trivial⟩ ?_
             refine gg [.ff, .ff, .ff] trivial ?_
             refine rt (a := Res.mk Ex.ret [vb false] []) (by kernel_rfl) ?_
             (simp_all [Config.inside, Config.width, Config.height, within]; (try (rw [Bool.eq_iff_iff]; simp only [decide_eq_true_eq, Bool.and_eq_true]; omega)); (try (intros; omega)))
theorem f_grid_is (c : Config) (r : Int) : Fn cx 89 [c.enc, ti r] (.bool (c.is r)) := by
  have h1 := @Config.regions_le c
  refine Wp.ev ?_
  refine gg [.a _ _, .i IntKind.i64 (Config.regions c - 1) (Config.regions c - 1), .a _ _] ⟨o_a (f_grid_Regions c), oI, o_a (f_grid_within r 0 (Config.regions c - 1)), trivial⟩ ?_
  refine rt (a := Res.mk Ex.ret [vb (within r 0 (Config.regions c - 1))] []) (by kernel_rfl) ?_
  simp_all [Config.is]
theorem f_joustref03_Is (c : Config) (r : Int) : Fn cx 75 [c.enc, ti r] (.bool (c.is r)) := by
  have h1 := @Config.regions_le c
  refine Wp.ev ?_
  refine brp (p := r ≥ 0) (by kernel_rfl) (fun h1 => ?_) (fun h1 => ?_)
  · refine gg [.tt, .tt, .a _ _, .tt, .tt] ⟨o_a (f_joustref03_Regions c), trivial⟩ ?_
    refine rt (a := Res.mk Ex.ret [vb (decide (r < Config.regions c))] []) (by kernel_rfl) ?_
    (simp_all [Config.is, within]; (try (rw [Bool.eq_iff_iff]; simp only [decide_eq_true_eq, Bool.and_eq_true]; omega)); (try (intros; omega)))
  · refine gg [.ff, .ff, .ff, .ff] trivial ?_
    refine rt (a := Res.mk Ex.ret [vb false] []) (by kernel_rfl) ?_
    (simp_all [Config.is, within]; (try (rw [Bool.eq_iff_iff]; simp only [decide_eq_true_eq, Bool.and_eq_true]; omega)); (try (intros; omega)))
theorem f_grid_Of (c : Config) (x y : Int) : Fn cx 74 [c.enc, ti x, ti y] (ti (c.of x y)) := by
  cases h : c.right with
  | true =>
    have h2 := Config.right_iff.1 h
    have h3 := @Config.width_le c
    have h4 := @Config.height_le c
    have hw : c.width = c.cols * 1024 := by simp [Config.width, h]
    have hh : c.height = c.rows * 1024 := by simp [Config.height, h]
    have h5 := @clamp_le x 0 (c.width - 1) (by omega)
    have h6 := @clamp_le y 0 (c.height - 1) (by omega)
    have h7 := tdiv_le (v := clamp x 0 (c.width - 1)) (k := 1024) (m := 4) (by omega) (by omega) (by omega)
    have h8 := tdiv_le (v := clamp y 0 (c.height - 1)) (k := 1024) (m := 4) (by omega) (by omega) (by omega)
    have h9 := mul4 (a := (clamp y 0 (c.height - 1)).tdiv 1024) (b := c.cols) (by omega) (by omega)
    refine Wp.ev ?_
    refine gg [.a _ _, .b (c.cols == 0) false, .a _ _, .i IntKind.i64 (Config.width c - 1) (Config.width c - 1), .a _ _, .a _ _, .i IntKind.i64 (Config.height c - 1) (Config.height c - 1), .a _ _, .w ((1024 : Int) ≠ (0 : Int)), .i IntKind.i64 (Int.tdiv (clamp y 0 (Config.height c - 1)) 1024) (Int.tdiv (clamp y 0 (Config.height c - 1)) 1024), .i IntKind.i64 (Int.tdiv (clamp y 0 (Config.height c - 1)) 1024 * c.cols) (Int.tdiv (clamp y 0 (Config.height c - 1)) 1024 * c.cols), .w ((1024 : Int) ≠ (0 : Int)), .i IntKind.i64 (Int.tdiv (clamp x 0 (Config.width c - 1)) 1024) (Int.tdiv (clamp x 0 (Config.width c - 1)) 1024), .i IntKind.i64 (Int.tdiv (clamp y 0 (Config.height c - 1)) 1024 * c.cols + Int.tdiv (clamp x 0 (Config.width c - 1)) 1024) (Int.tdiv (clamp y 0 (Config.height c - 1)) 1024 * c.cols + Int.tdiv (clamp x 0 (Config.width c - 1)) 1024)] ⟨o_a (f_grid_size_t c (by assumption)), fE, o_a (f_grid_Width c), oI, o_a (f_fixed_Clamp x 0 (Config.width c - 1)), o_a (f_grid_Height c), oI, o_a (f_fixed_Clamp y 0 (Config.height c - 1)), o_w (by intro h; cases h), oI, oI, o_w (by intro h; cases h), oI, oI, trivial⟩ ?_
    refine rt (a := Res.mk Ex.ret [vi (Int.tdiv (clamp y 0 (Config.height c - 1)) 1024 * c.cols + Int.tdiv (clamp x 0 (Config.width c - 1)) 1024)] []) (by kernel_rfl) ?_
    simp [Config.of, h]
  | false => refine Wp.ev ?_
             refine gg [.a _ _, .b (0 == 0) true] ⟨o_a (f_grid_size_f c (by assumption)), o_b (by kernel_rfl), trivial⟩ ?_
             refine rt (a := Res.mk Ex.ret [vi 0] []) (by kernel_rfl) ?_
             simp [Config.of, h]
theorem f_joustref03_Of (c : Config) (x y : Int) : Fn cx 46 [c.enc, ti x, ti y] (ti (c.of x y)) := by
  cases h : c.right with
  | true =>
    have h2 := Config.right_iff.1 h
    have h3 := @Config.width_le c
    have h4 := @Config.height_le c
    have hw : c.width = c.cols * 1024 := by simp [Config.width, h]
    have hh : c.height = c.rows * 1024 := by simp [Config.height, h]
    have h5 := @clamp_le x 0 (c.cols * 1024 - 1) (by omega)
    have h6 := @clamp_le y 0 (c.rows * 1024 - 1) (by omega)
    have h7 := tdiv_le (v := clamp x 0 (c.cols * 1024 - 1)) (k := 1024) (m := 4) (by omega) (by omega) (by omega)
    have h8 := tdiv_le (v := clamp y 0 (c.rows * 1024 - 1)) (k := 1024) (m := 4) (by omega) (by omega) (by omega)
    have h9 := mul4 (a := (clamp y 0 (c.rows * 1024 - 1)).tdiv 1024) (b := c.cols) (by omega) (by omega)
    refine Wp.ev ?_
    refine gg [.a _ _, .b (!Config.right c) false, .i IntKind.i64 (c.cols * 1024) (c.cols * 1024), .i IntKind.i64 (c.cols * 1024 - 1) (c.cols * 1024 - 1), .i IntKind.i64 (c.rows * 1024) (c.rows * 1024), .i IntKind.i64 (c.rows * 1024 - 1) (c.rows * 1024 - 1), .a _ _, .a _ _, .w ((1024 : Int) ≠ (0 : Int)), .i IntKind.i64 (Int.tdiv (clamp y 0 (c.rows * 1024 - 1)) 1024) (Int.tdiv (clamp y 0 (c.rows * 1024 - 1)) 1024), .i IntKind.i64 (Int.tdiv (clamp y 0 (c.rows * 1024 - 1)) 1024 * c.cols) (Int.tdiv (clamp y 0 (c.rows * 1024 - 1)) 1024 * c.cols), .w ((1024 : Int) ≠ (0 : Int)), .i IntKind.i64 (Int.tdiv (clamp x 0 (c.cols * 1024 - 1)) 1024) (Int.tdiv (clamp x 0 (c.cols * 1024 - 1)) 1024), .i IntKind.i64 (Int.tdiv (clamp y 0 (c.rows * 1024 - 1)) 1024 * c.cols + Int.tdiv (clamp x 0 (c.cols * 1024 - 1)) 1024) (Int.tdiv (clamp y 0 (c.rows * 1024 - 1)) 1024 * c.cols + Int.tdiv (clamp x 0 (c.cols * 1024 - 1)) 1024)] ⟨o_a (f_joustref03_Right c), f_brnot (by assumption), oI, oI, oI, oI, o_a (f_joustref01_Clamp x 0 (c.cols * 1024 - 1)), o_a (f_joustref01_Clamp y 0 (c.rows * 1024 - 1)), o_w (by intro h; cases h), oI, oI, o_w (by intro h; cases h), oI, oI, trivial⟩ ?_
    refine rt (a := Res.mk Ex.ret [vi (Int.tdiv (clamp y 0 (c.rows * 1024 - 1)) 1024 * c.cols + Int.tdiv (clamp x 0 (c.cols * 1024 - 1)) 1024)] []) (by kernel_rfl) ?_
    simp [Config.of, h, hw, hh]
  | false => refine Wp.ev ?_
             refine gg [.a _ _, .b (!Config.right c) true] ⟨o_a (f_joustref03_Right c), t_brnot (by assumption), trivial⟩ ?_
             refine rt (a := Res.mk Ex.ret [vi 0] []) (by kernel_rfl) ?_
             simp [Config.of, h]
end Go.Eva.S1

/- Eva, part 43: entities, in plain words. -/
namespace Go.Eva

/-- The place of the first one of which it holds; -1. -/
def pos {α : Type} (p : α → Bool) (l : List α) : Int := match l.findIdx? p with
  | some j => j
  | none => -1

/-- A list that is not beyond all measure. -/
def small {α : Type} (l : List α) : Prop := l.length ≤ 1000000

theorem drop_gt {α : Type} [Inhabited α] {l : List α} {i : Nat} (h : i < l.length) : l.drop i = gt l i :: l.drop (i + 1) := by
  rw [List.drop_eq_getElem_cons h]; simp [gt, h]
theorem take_gt {α : Type} [Inhabited α] {l : List α} {i : Nat} (h : i < l.length) : l.take (i + 1) = l.take i ++ [gt l i] := by
  rw [List.take_add_one]; simp [gt, h]
theorem gt_mem {α : Type} [Inhabited α] {l : List α} {i : Nat} (h : i < l.length) : gt l i ∈ l := by simp [gt, h]
theorem drop_end {α : Type} {l : List α} {i : Nat} (h : l.length ≤ i) : l.drop i = [] := List.drop_eq_nil_of_le h
theorem insert_any {α : Type} (m r : List α) (x : α) (i n : Nat) (hn : n = m.length) (h : i < n) :
    List.take (n + 1) (List.take i (List.take (i + 1) (m ++ r) ++ List.take (n - i) (List.take (n + 1 - i) (List.drop i (m ++ r))) ++ List.drop (i + (n - i) + 1) (m ++ r)) ++ List.take 1 [x] ++
      List.drop (i + 1) (List.take (i + 1) (m ++ r) ++ List.take (n - i) (List.take (n + 1 - i) (List.drop i (m ++ r))) ++ List.drop (i + (n - i) + 1) (m ++ r))) = List.take i m ++ x :: List.drop i m := by
  subst hn
  have e1 : List.take (i + 1) (m ++ r) = List.take (i+1) m := by rw [List.take_append_of_le_length (by omega)]
  have e2 : List.take (m.length - i) (List.take (m.length + 1 - i) (List.drop i (m ++ r))) = List.drop i m := by
    rw [List.take_take, Nat.min_eq_left (by omega), List.drop_append_of_le_length (by omega), List.take_append_of_le_length (by simp), List.take_of_length_le (by simp)]
  rw [e1, e2]
  generalize List.drop (i + (m.length - i) + 1) (m ++ r) = z
  have hl : (List.take (i+1) m).length = i + 1 := by simp; omega
  have e3 : List.take i (List.take (i + 1) m ++ List.drop i m ++ z) = List.take i m := by
    rw [List.append_assoc, List.take_append_of_le_length (by omega), List.take_take, Nat.min_eq_left (by omega)]
  have e4 : List.drop (i + 1) (List.take (i + 1) m ++ List.drop i m ++ z) = List.drop i m ++ z := by
    rw [List.append_assoc, List.drop_append, List.drop_of_length_le (by omega)]
    simp [hl]
  rw [e3, e4]
  have e5 : List.take i m ++ List.take 1 [x] ++ (List.drop i m ++ z) = (List.take i m ++ x :: List.drop i m) ++ z := by simp
  rw [e5, List.take_append_of_le_length (by simp; omega), List.take_of_length_le (by simp; omega)]

theorem insert_any' {α : Type} (m r : List α) (x : α) (i n : Nat) (hn : n = m.length) (h : i < n) :
    List.take (n + 1) (List.take i (List.take (i + 1) (m ++ r) ++ List.take (n + 1 - (i + 1)) (List.take (n + 1 - i) (List.drop i (m ++ r))) ++ List.drop (i + 1 + (n + 1 - (i + 1))) (m ++ r)) ++ List.take 1 [x] ++
      List.drop (i + 1) (List.take (i + 1) (m ++ r) ++ List.take (n + 1 - (i + 1)) (List.take (n + 1 - i) (List.drop i (m ++ r))) ++ List.drop (i + 1 + (n + 1 - (i + 1))) (m ++ r))) = List.take i m ++ x :: List.drop i m := by
  have e1 : n + 1 - (i + 1) = n - i := by omega
  have e2 : i + 1 + (n - i) = i + (n - i) + 1 := by omega
  rw [e1, e2]
  exact insert_any m r x i n hn h

theorem res_arr {v : List V} {s : Nat} {xs ys : List T} {x : Ex} {o : Ob} (h : xs = ys) : Res.mk x v [o, .arr s xs none false] = Res.mk x v [o, .arr s ys none false] := by rw [h]
/-- What does not hold of a test moves ahead. -/
def dfl {α : Type} (p : α → Bool) (A : List α) (i : Nat) : List α → Nat × List α
  | [] => (i, A)
  | v :: r => match p v with
    | true => dfl p A i r
    | false => dfl p (A.set i v) (i + 1) r

theorem dfl_len {α : Type} {p : α → Bool} : ∀ {r A : List α} {i : Nat}, (dfl p A i r).2.length = A.length ∧ i ≤ (dfl p A i r).1 ∧ (dfl p A i r).1 ≤ i + r.length
  | [], A, i => by simp [dfl]
  | v :: r, A, i => by
    simp only [dfl]
    cases p v with
    | true => have := @dfl_len α p r A i; simp only [List.length_cons]; omega
    | false => have := @dfl_len α p r (A.set i v) (i + 1); simp only [List.length_cons, List.length_set] at *; omega

theorem dfl_take {α : Type} {p : α → Bool} : ∀ {r A : List α} {i : Nat}, i + r.length ≤ A.length → (dfl p A i r).2.take (dfl p A i r).1 = A.take i ++ r.filter fun e => !p e
  | [], A, i, _ => by simp [dfl]
  | v :: r, A, i, h => by
    simp only [List.length_cons] at h
    simp only [dfl]
    cases hp : p v with
    | true =>
      simp only [hp, List.filter_cons, Bool.not_true, Bool.false_eq_true, if_false]
      exact dfl_take (by omega)
    | false =>
      simp only [hp, List.filter_cons, Bool.not_false, if_true]
      rw [dfl_take (by simp; omega), List.take_add_one]
      simp [List.take_set_of_le, show i < A.length by omega]

theorem find_none {α : Type} {p : α → Bool} {l : List α} (h : l.findIdx? p = none) : (l.filter fun e => !p e) = l := by
  rw [List.filter_eq_self]
  intro a ha
  have := List.findIdx?_eq_none_iff.1 h a ha
  simp [this]

theorem find_some {α : Type} [Inhabited α] {p : α → Bool} {l : List α} {k : Nat} (h : l.findIdx? p = some k) : k < l.length ∧ (l.filter fun e => !p e) = l.take k ++ (l.drop (k + 1)).filter fun e => !p e := by
  obtain ⟨hk, h1, h2⟩ := List.findIdx?_eq_some_iff_getElem.1 h
  refine ⟨hk, ?_⟩
  have e : l = l.take k ++ l[k] :: l.drop (k + 1) := by rw [← List.drop_eq_getElem_cons hk, List.take_append_drop]
  conv => lhs; rw [e]
  rw [List.filter_append, List.filter_cons, h1]
  have : (l.take k).filter (fun e => !p e) = l.take k := by
    rw [List.filter_eq_self]
    intro a ha
    obtain ⟨j, hj, rfl⟩ := List.getElem_of_mem ha
    simp only [List.length_take] at hj
    have := h2 j (by omega)
    simp only [List.getElem_take]
    simpa using this
  simp [this]

theorem gt_eq {α : Type} [Inhabited α] {l : List α} {i : Nat} (h : i < l.length) : gt l i = l[i] := by simp [gt, h]
end Go.Eva

/- Generic functions of slices. -/
namespace Go.Eva.S1
theorem f_slices_Clone_Entity (l : List Entity) (hl : small l) : Is cx (.call 47 [.t (.sl 9 (l.map Entity.enc))] []) ⟨.ret, [.all 0 none], [.arr 9 (l.map Entity.enc) none false]⟩ := by
  unfold small at hl
  refine Wp.ev ?_
  refine cp (lo := 0) (by kernel_rfl) (fun c1 hc1 => ?_)
  refine brp (p := c1 = 0 ∧ List.length (List.map Entity.enc l) = 0) (by kernel_rfl) (fun h2 => ?_) (fun h2 => ?_)
  · refine rt (a := Res.mk Ex.ret [V.all 0 none] [Ob.arr 9 [] none false]) (by kernel_rfl) ?_
    (first | rfl | (have : l = [] := List.length_eq_zero_iff.1 (by simp_all; done); subst this; rfl))
  · refine gg [.w ((0 : Nat) < (72 : Nat)), .s (T.sl 0 (List.map Entity.enc l)), .s (T.sl 0 (List.map Entity.enc l)), .w (room (List.length (List.map Entity.enc l)) (72 : Nat))] ⟨oW, o_w (by (simp [room, appendMax]; omega)), trivial⟩ ?_
    refine rt (a := Res.mk Ex.ret [V.all 0 none] [Ob.arr 9 (List.map Entity.enc l) none false]) (by kernel_rfl) ?_
    (first | rfl | (have : l = [] := List.length_eq_zero_iff.1 (by simp_all; done); subst this; rfl))
theorem f_slices_IndexFunc_loop_Entity (l : List Entity) (g : Nat) (cs : List T) (p : Entity → Bool) (hb : isFnB cx g = true) (hn : small l)
    (hg : ∀ e ∈ l, Fn cx g (e.enc :: cs) (.bool (p e))) : ∀ (d i : Nat), i + d = l.length →
    Is cx (.loop 48 [0, 1, 0, 1] 0 [.t (.sl 9 (l.map Entity.enc)), .t (.clo g cs), vi 0, vi l.length, vi i] [])
      (match (l.drop i).findIdx? p with
        | some j => ⟨.ret, [.t (.sl 9 (l.map Entity.enc)), .t (.clo g cs), vi (i + j : Nat), vi l.length, vi (i + j : Nat)], []⟩
        | none => ⟨.exit 0, [.t (.sl 9 (l.map Entity.enc)), .t (.clo g cs), vi 0, vi l.length, vi l.length], []⟩) := by
  unfold small at hn
  intro d
  induction d with
  | zero =>
    intro i hi
    refine Wp.ev ?_
    refine gg [.b (decide ((↑i : Int) < (↑(List.length l) : Int))) false] ⟨fP, trivial⟩ ?_
    refine rt (a := Res.mk (Ex.exit 0) [V.t (T.sl 9 (List.map Entity.enc l)), V.t (T.clo g cs), vi 0, vi (↑(List.length l) : Int), vi (↑i : Int)] []) (by kernel_rfl) ?_
    ((have : i = l.length := by omega); subst this; rw [drop_end (Nat.le_refl _)]; rfl)
  | succ d ih =>
    intro i hi
    have hlt : i < l.length := by omega
    have hy := hg _ (gt_mem hlt)
    have ih1 := ih (i + 1) (by omega)
    clear ih hg
    rw [drop_gt hlt, List.findIdx?_cons]
    cases hp : p (gt l i) with
    | true =>
      rw [hp] at hy
      refine Wp.ev ?_
      refine gg [.b (decide ((↑i : Int) < (↑(List.length l) : Int))) true, .w ((0 : Int) ≤ (↑i : Int)), .n (Int.toNat (↑i : Int)) i, .g (List.map Entity.enc l) i (Entity.enc (gt l i)), .w (isFnB cx g = true), .a _ _, .tt] ⟨tP, oW, o_n (by kernel_rfl), o_gt rfl (by assumption) (by intro h; cases h), oA, o_a hy, trivial⟩ ?_
      exact ge
    | false =>
      rw [hp] at hy
      simp only [Bool.false_eq_true, if_false]
      cases hq : (l.drop (i+1)).findIdx? p with
      | none =>
        rw [hq] at ih1
        refine Wp.ev ?_
        refine gg [.b (decide ((↑i : Int) < (↑(List.length l) : Int))) true, .w ((0 : Int) ≤ (↑i : Int)), .n (Int.toNat (↑i : Int)) i, .g (List.map Entity.enc l) i (Entity.enc (gt l i)), .w (isFnB cx g = true), .a _ _, .ff, .i IntKind.i64 ((↑i : Int) + 1) ((↑(i + 1) : Int)), .a _ _] ⟨tP, oW, o_n (by kernel_rfl), o_gt rfl (by assumption) (by intro h; cases h), oA, o_a hy, oI, o_a ih1, trivial⟩ ?_
        exact ge
      | some j =>
        rw [hq] at ih1
        refine Wp.ev ?_
        refine gg [.b (decide ((↑i : Int) < (↑(List.length l) : Int))) true, .w ((0 : Int) ≤ (↑i : Int)), .n (Int.toNat (↑i : Int)) i, .g (List.map Entity.enc l) i (Entity.enc (gt l i)), .w (isFnB cx g = true), .a _ _, .ff, .i IntKind.i64 ((↑i : Int) + 1) ((↑(i + 1) : Int)), .a _ _] ⟨tP, oW, o_n (by kernel_rfl), o_gt rfl (by assumption) (by intro h; cases h), oA, o_a hy, oI, o_a ih1, trivial⟩ ?_
        refine rt (a := Res.mk Ex.ret [V.t (T.sl 9 (List.map Entity.enc l)), V.t (T.clo g cs), vi (↑(i + 1 + j) : Int), vi (↑(List.length l) : Int), vi (↑(i + 1 + j) : Int)] []) (by kernel_rfl) ?_
        simp [Nat.add_assoc, Nat.add_comm 1 j]
theorem f_slices_IndexFunc_Entity (l : List Entity) (g : Nat) (cs : List T) (p : Entity → Bool) (hb : isFnB cx g = true) (hn : small l)
    (hg : ∀ e ∈ l, Fn cx g (e.enc :: cs) (.bool (p e))) : Fn cx 48 [.sl 9 (l.map Entity.enc), .clo g cs] (ti (pos p l)) := by
  have h := f_slices_IndexFunc_loop_Entity l g cs p hb hn hg l.length 0 (by omega)
  clear hg
  rw [List.drop_zero] at h
  unfold pos
  cases hq : l.findIdx? p with
  | none =>
    rw [hq] at h
    refine Wp.ev ?_
    refine gg [.n (List.length (List.map Entity.enc l)) (List.length l), .a _ _] ⟨o_n (by simp), o_a h, trivial⟩ ?_
    exact ge
  | some j =>
    rw [hq] at h
    refine Wp.ev ?_
    refine gg [.n (List.length (List.map Entity.enc l)) (List.length l), .a _ _] ⟨o_n (by simp), o_a h, trivial⟩ ?_
    refine rt (a := Res.mk Ex.ret [vi (↑(0 + j) : Int)] []) (by kernel_rfl) ?_
    simp
theorem f_slices_Insert_Entity (l : List Entity) (e : Entity) (i : Nat) (hl : small l) (hi : i ≤ l.length) : Is cx (.call 50 [.all 0 none, vi i, .fit 9 ([e].map Entity.enc)] [.arr 9 (l.map Entity.enc) none false]) ⟨.ret, [.all 1 none], [.dead, .arr 9 ((l.take i ++ e :: l.drop i).map Entity.enc) none false]⟩ := by
  unfold small at hl
  refine Wp.ev ?_
  refine gg [.w ((0 : Int) ≤ (↑i : Int)), .n (Int.toNat (↑i : Int)) i, .w (i ≤ List.length (List.map Entity.enc l) ∧ List.length (List.map Entity.enc l) ≤ List.length (List.map Entity.enc l)), .n (0 + i) i, .n (List.length (List.map Entity.enc l) - i) (List.length l - i), .n (List.length (List.map Entity.enc [e])) 1, .b (1 == 0) false, .n (List.length (List.map Entity.enc l)) (List.length l)] ⟨oW, o_n (by kernel_rfl), o_w ⟨(by (simp [room, appendMax]; omega)), (by omega)⟩, oN, o_n (by simp), o_n (by kernel_rfl), o_b (by kernel_rfl), o_n (by simp), trivial⟩ ?_
  refine bre (x := (↑i : Int)) (y := (↑(List.length l) : Int)) (by kernel_rfl) (fun h1 => ?_) (fun h1 => ?_)
  · refine gg [.w ((0 : Nat) < (72 : Nat)), .t (T.sl 0 [Entity.enc e]) (T.sl 0 (List.map Entity.enc [e])), .t (T.sl 0 (List.map Entity.enc l ++ List.map Entity.enc [e])) (T.sl 0 (List.map Entity.enc (l ++ [e]))), .w (room (List.length (List.map Entity.enc (l ++ [e]))) (72 : Nat))] ⟨oW, o_l (nm_cons rfl nm_nil), o_l (nm_app rfl rfl), o_w (by (simp [room, appendMax]; omega)), trivial⟩ ?_
    refine rt (a := Res.mk Ex.ret [V.all 1 none] [Ob.dead, Ob.arr 9 (List.map Entity.enc (l ++ [e])) none false]) (by kernel_rfl) ?_
    (refine res_arr ?_; first | (simp only [List.map_cons, List.map_nil]; rw [insert_any' _ _ _ _ _ (by simp) (by omega)]; simp; done) | (have hq : i = l.length := by omega; subst hq; simp; done) | (apply List.ext_getElem?; grind))
  · refine gg [.i IntKind.i64 ((↑(List.length l) : Int) + 1) ((↑(List.length l + 1) : Int))] ⟨o_i (w64 (by (simp [room, appendMax]; omega))), trivial⟩ ?_
    refine cp (lo := List.length (List.map Entity.enc l)) (by kernel_rfl) (fun c2 hc2 => ?_)
    refine gg [.n (c2 - 0) c2] ⟨o_n (by kernel_rfl), trivial⟩ ?_
    refine brp (p := (↑(List.length l + 1) : Int) > (↑c2 : Int)) (by kernel_rfl) (fun h3 => ?_) (fun h3 => ?_)
    · refine gg [.w ((0 : Int) ≤ (↑i : Int)), .n (Int.toNat (↑i : Int)) i, .b (decide (c2 - List.length (List.map Entity.enc l) = 0)) true, .w ((0 : Nat) ≤ i ∧ (0 : Nat) + i ≤ List.length (List.map Entity.enc l)), .l 0, .n (i - 0) i, .i IntKind.i64 ((↑(List.length l) : Int) + 1) ((↑(List.length l + 1) : Int)), .i IntKind.i64 ((↑(List.length l + 1) : Int) - (↑i : Int)) ((↑(List.length l + 1) : Int) - (↑i : Int)), .w ((0 : Int) ≤ (↑(List.length l + (1 : Nat)) : Int) - (↑i : Int) ∧ room (Int.toNat ((↑(List.length l + (1 : Nat)) : Int) - (↑i : Int))) (72 : Nat)), .n (Int.toNat ((↑(List.length l + 1) : Int) - (↑i : Int))) (List.length l + 1 - i), .b (decide (c2 - List.length (List.map Entity.enc l) = 0)) true, .b (decide (0 + i + List.length (List.replicate (List.length l + 1 - i) (T.agg [ti 0, ti 0, ti 0, ti 0, ti 0, ti 0, ti 0, ti 0, ti 0])) ≤ List.length (List.map Entity.enc l))) false, .t (T.sl 0 (List.take i (List.drop 0 (List.map Entity.enc l)) ++ List.replicate (List.length l + 1 - i) (T.agg [ti 0, ti 0, ti 0, ti 0, ti 0, ti 0, ti 0, ti 0, ti 0]))) (T.sl 0 (List.map Entity.enc (List.take i l ++ List.replicate (List.length l + 1 - i) (Entity.mk 0 0 0 0 0 0 0 0 0)))), .w (room (List.length (List.map Entity.enc (List.take i l ++ List.replicate (List.length l + (1 : Nat) - i) (Entity.mk (0 : Int) (0 : Int) (0 : Int) (0 : Int) (0 : Int) (0 : Int) (0 : Int) (0 : Int) (0 : Int))))) (72 : Nat)), .w ((0 : Int) ≤ (↑i : Int)), .n (Int.toNat (↑i : Int)) i] ⟨oW, o_n (by kernel_rfl), t_brp (by (simp; omega)), o_w ⟨(by omega), (by (simp [room, appendMax]; omega))⟩, o_n (by kernel_rfl), o_i (w64 (by (simp [room, appendMax]; omega))), o_i (w64 (by (simp [room, appendMax]; omega))), o_w ⟨(by (simp [room, appendMax]; omega)), (by (simp [room, appendMax]; omega))⟩, oN, t_brp (by (simp; omega)), f_brp (by (simp; omega)), o_l (nm_eq (nm_app (nm_take (nm_drop rfl)) (nm_rep (e := Entity.mk 0 0 0 0 0 0 0 0 0) rfl)) (by kernel_rfl)), o_w (by (simp [room, appendMax]; omega)), oW, o_n (by kernel_rfl), trivial⟩ ?_
      refine gg [.w (i ≤ List.length (List.map Entity.enc (List.take i l ++ List.replicate (List.length l + (1 : Nat) - i) (Entity.mk (0 : Int) (0 : Int) (0 : Int) (0 : Int) (0 : Int) (0 : Int) (0 : Int) (0 : Int) (0 : Int)))) ∧ List.length (List.map Entity.enc (List.take i l ++ List.replicate (List.length l + (1 : Nat) - i) (Entity.mk (0 : Int) (0 : Int) (0 : Int) (0 : Int) (0 : Int) (0 : Int) (0 : Int) (0 : Int) (0 : Int)))) ≤ List.length (List.map Entity.enc (List.take i l ++ List.replicate (List.length l + (1 : Nat) - i) (Entity.mk (0 : Int) (0 : Int) (0 : Int) (0 : Int) (0 : Int) (0 : Int) (0 : Int) (0 : Int) (0 : Int))))), .n (0 + i) i, .n (List.length (List.map Entity.enc (List.take i l ++ List.replicate (List.length l + 1 - i) (Entity.mk 0 0 0 0 0 0 0 0 0))) - i) (List.length l + 1 - i), .n (min (List.length (List.map Entity.enc [e])) (List.length l + 1 - i)) 1, .t (T.sl 0 (List.take i (List.map Entity.enc (List.take i l ++ List.replicate (List.length l + 1 - i) (Entity.mk 0 0 0 0 0 0 0 0 0))) ++ List.take 1 (List.map Entity.enc [e]) ++ List.drop (i + 1) (List.map Entity.enc (List.take i l ++ List.replicate (List.length l + 1 - i) (Entity.mk 0 0 0 0 0 0 0 0 0))))) (T.sl 0 (List.map Entity.enc (List.take i (List.take i l ++ List.replicate (List.length l + 1 - i) (Entity.mk 0 0 0 0 0 0 0 0 0)) ++ [e] ++ List.drop (i + 1) (List.take i l ++ List.replicate (List.length l + 1 - i) (Entity.mk 0 0 0 0 0 0 0 0 0))))), .i IntKind.i64 ((↑i : Int) + 1) ((↑(i + 1) : Int)), .w ((0 : Int) ≤ (↑(i + (1 : Nat)) : Int)), .n (Int.toNat (↑(i + 1) : Int)) (i + 1), .w (i + (1 : Nat) ≤ List.length (List.map Entity.enc (List.take i (List.take i l ++ List.replicate (List.length l + (1 : Nat) - i) (Entity.mk (0 : Int) (0 : Int) (0 : Int) (0 : Int) (0 : Int) (0 : Int) (0 : Int) (0 : Int) (0 : Int))) ++ [e] ++ List.drop (i + (1 : Nat)) (List.take i l ++ List.replicate (List.length l + (1 : Nat) - i) (Entity.mk (0 : Int) (0 : Int) (0 : Int) (0 : Int) (0 : Int) (0 : Int) (0 : Int) (0 : Int) (0 : Int))))) ∧ List.length (List.map Entity.enc (List.take i (List.take i l ++ List.replicate (List.length l + (1 : Nat) - i) (Entity.mk (0 : Int) (0 : Int) (0 : Int) (0 : Int) (0 : Int) (0 : Int) (0 : Int) (0 : Int) (0 : Int))) ++ [e] ++ List.drop (i + (1 : Nat)) (List.take i l ++ List.replicate (List.length l + (1 : Nat) - i) (Entity.mk (0 : Int) (0 : Int) (0 : Int) (0 : Int) (0 : Int) (0 : Int) (0 : Int) (0 : Int) (0 : Int))))) ≤ List.length (List.map Entity.enc (List.take i (List.take i l ++ List.replicate (List.length l + (1 : Nat) - i) (Entity.mk (0 : Int) (0 : Int) (0 : Int) (0 : Int) (0 : Int) (0 : Int) (0 : Int) (0 : Int) (0 : Int))) ++ [e] ++ List.drop (i + (1 : Nat)) (List.take i l ++ List.replicate (List.length l + (1 : Nat) - i) (Entity.mk (0 : Int) (0 : Int) (0 : Int) (0 : Int) (0 : Int) (0 : Int) (0 : Int) (0 : Int) (0 : Int)))))), .n (0 + (i + 1)) (i + 1), .n (List.length (List.map Entity.enc (List.take i (List.take i l ++ List.replicate (List.length l + 1 - i) (Entity.mk 0 0 0 0 0 0 0 0 0)) ++ [e] ++ List.drop (i + 1) (List.take i l ++ List.replicate (List.length l + 1 - i) (Entity.mk 0 0 0 0 0 0 0 0 0)))) - (i + 1)) (i + (List.length l + 1 - i) - (i + 1))] ⟨o_w ⟨(by (simp [room, appendMax]; omega)), (by omega)⟩, oN, o_n (by (simp; omega)), o_n (by (simp; omega)), o_l (nm_eq (nm_app (nm_app (nm_take rfl) (nm_take rfl)) (nm_drop rfl)) (by kernel_rfl)), o_i (w64 (by (simp [room, appendMax]; omega))), o_w (by (simp [room, appendMax]; omega)), o_n (by kernel_rfl), o_w ⟨(by (simp [room, appendMax]; omega)), (by omega)⟩, oN, o_n (by (simp; omega)), trivial⟩ ?_
      refine gg [.w ((0 : Int) ≤ (↑i : Int)), .n (Int.toNat (↑i : Int)) i, .b (decide (c2 - List.length (List.map Entity.enc l) = 0)) true, .w (i ≤ List.length (List.map Entity.enc l) ∧ (0 : Nat) + List.length (List.map Entity.enc l) ≤ List.length (List.map Entity.enc l)), .n (0 + i) i, .n (List.length (List.map Entity.enc l) - i) (List.length l - i), .n (min (List.length (List.take (List.length l - i) (List.drop i (List.map Entity.enc l)))) (i + (List.length l + 1 - i) - (i + 1))) (List.length l - i), .t (T.sl 0 (List.take (i + 1) (List.map Entity.enc (List.take i (List.take i l ++ List.replicate (List.length l + 1 - i) (Entity.mk 0 0 0 0 0 0 0 0 0)) ++ [e] ++ List.drop (i + 1) (List.take i l ++ List.replicate (List.length l + 1 - i) (Entity.mk 0 0 0 0 0 0 0 0 0)))) ++ List.take (List.length l - i) (List.take (List.length l - i) (List.drop i (List.map Entity.enc l))) ++ List.drop (i + 1 + (List.length l - i)) (List.map Entity.enc (List.take i (List.take i l ++ List.replicate (List.length l + 1 - i) (Entity.mk 0 0 0 0 0 0 0 0 0)) ++ [e] ++ List.drop (i + 1) (List.take i l ++ List.replicate (List.length l + 1 - i) (Entity.mk 0 0 0 0 0 0 0 0 0)))))) (T.sl 0 (List.map Entity.enc (List.take (i + 1) (List.take i (List.take i l ++ List.replicate (List.length l + 1 - i) (Entity.mk 0 0 0 0 0 0 0 0 0)) ++ [e] ++ List.drop (i + 1) (List.take i l ++ List.replicate (List.length l + 1 - i) (Entity.mk 0 0 0 0 0 0 0 0 0))) ++ List.take (List.length l - i) (List.take (List.length l - i) (List.drop i l)) ++ List.drop (i + 1 + (List.length l - i)) (List.take i (List.take i l ++ List.replicate (List.length l + 1 - i) (Entity.mk 0 0 0 0 0 0 0 0 0)) ++ [e] ++ List.drop (i + 1) (List.take i l ++ List.replicate (List.length l + 1 - i) (Entity.mk 0 0 0 0 0 0 0 0 0))))))] ⟨oW, o_n (by kernel_rfl), t_brp (by (simp; omega)), o_w ⟨(by (simp [room, appendMax]; omega)), (by omega)⟩, oN, o_n (by simp), o_n (by (simp; omega)), o_l (nm_app (nm_app (nm_take rfl) (nm_take (nm_take (nm_drop rfl)))) (nm_drop rfl)), trivial⟩ ?_
      refine rt (a := Res.mk Ex.ret [V.all 1 none] [Ob.dead, Ob.arr 9 (List.map Entity.enc (List.take (i + 1) (List.take i (List.take i l ++ List.replicate (List.length l + 1 - i) (Entity.mk 0 0 0 0 0 0 0 0 0)) ++ [e] ++ List.drop (i + 1) (List.take i l ++ List.replicate (List.length l + 1 - i) (Entity.mk 0 0 0 0 0 0 0 0 0))) ++ List.take (List.length l - i) (List.take (List.length l - i) (List.drop i l)) ++ List.drop (i + 1 + (List.length l - i)) (List.take i (List.take i l ++ List.replicate (List.length l + 1 - i) (Entity.mk 0 0 0 0 0 0 0 0 0)) ++ [e] ++ List.drop (i + 1) (List.take i l ++ List.replicate (List.length l + 1 - i) (Entity.mk 0 0 0 0 0 0 0 0 0))))) none false]) (by kernel_rfl) ?_
      (refine res_arr ?_; first | (simp only [List.map_cons, List.map_nil]; rw [insert_any' _ _ _ _ _ (by simp) (by omega)]; simp; done) | (have hq : i = l.length := by omega; subst hq; simp; done) | (apply List.ext_getElem?; grind))
    · refine gg [.i IntKind.i64 ((↑(List.length l) : Int) + 1) ((↑(List.length l + 1) : Int)), .w ((0 : Int) ≤ (↑(List.length l + (1 : Nat)) : Int)), .n (Int.toNat (↑(List.length l + 1) : Int)) (List.length l + 1), .b (decide (c2 - List.length (List.map Entity.enc l) = 0)) false, .w ((0 : Nat) ≤ List.length l + (1 : Nat) ∧ (0 : Nat) + (List.length l + (1 : Nat)) ≤ List.length (List.map Entity.enc l) + (c2 - List.length (List.map Entity.enc l))), .b (decide (0 + (List.length l + 1) ≤ List.length (List.map Entity.enc l))) false, .l 0, .n (List.length l + 1 - 0) (List.length l + 1), .i IntKind.i64 ((↑i : Int) + 1) ((↑(i + 1) : Int)), .w ((0 : Int) ≤ (↑(i + (1 : Nat)) : Int)), .n (Int.toNat (↑(i + 1) : Int)) (i + 1), .b (decide (0 = 0)) true, .w (i + (1 : Nat) ≤ List.length l + (1 : Nat) ∧ (0 : Nat) + (List.length l + (1 : Nat)) ≤ List.length (List.map Entity.enc l ++ List.replicate (c2 - List.length (List.map Entity.enc l)) T.any)), .n (0 + (i + 1)) (i + 1), .l (List.length l + 1 - (i + 1)), .b (!false) true] ⟨o_i (w64 (by (simp [room, appendMax]; omega))), o_w (by (simp [room, appendMax]; omega)), o_n (by kernel_rfl), f_brp (by (simp; omega)), o_w ⟨(by omega), (by (simp [room, appendMax]; omega))⟩, f_brp (by simp), o_n (by kernel_rfl), o_i (w64 (by (simp [room, appendMax]; omega))), o_w (by (simp [room, appendMax]; omega)), o_n (by kernel_rfl), o_b (by kernel_rfl), o_w ⟨(by (simp [room, appendMax]; omega)), (by (simp [room, appendMax]; omega))⟩, oN, o_b (by kernel_rfl), trivial⟩ ?_
      refine gg [.i IntKind.i64 ((↑i : Int) + 1) ((↑(i + 1) : Int)), .w ((0 : Int) ≤ (↑(i + (1 : Nat)) : Int)), .n (Int.toNat (↑(i + 1) : Int)) (i + 1), .b (decide (0 = 0)) true, .w (i + (1 : Nat) ≤ List.length l + (1 : Nat) ∧ (0 : Nat) + (List.length l + (1 : Nat)) ≤ List.length (List.map Entity.enc l ++ List.replicate (c2 - List.length (List.map Entity.enc l)) T.any)), .n (0 + (i + 1)) (i + 1), .l (List.length l + 1 - (i + 1)), .w ((0 : Int) ≤ (↑i : Int)), .n (Int.toNat (↑i : Int)) i, .b (decide (0 = 0)) true, .w (i ≤ List.length l + (1 : Nat) ∧ (0 : Nat) + (List.length l + (1 : Nat)) ≤ List.length (List.map Entity.enc l ++ List.replicate (c2 - List.length (List.map Entity.enc l)) T.any)), .n (0 + i) i, .l (List.length l + 1 - i), .n (min (List.length (List.take (List.length l + 1 - i) (List.drop i (List.map Entity.enc l ++ List.replicate (c2 - List.length (List.map Entity.enc l)) T.any)))) (List.length l + 1 - (i + 1))) (List.length l + 1 - (i + 1)), .s (T.sl 0 (List.take (i + 1) (List.map Entity.enc l ++ List.replicate (c2 - List.length (List.map Entity.enc l)) T.any) ++ List.take (List.length l + 1 - (i + 1)) (List.take (List.length l + 1 - i) (List.drop i (List.map Entity.enc l ++ List.replicate (c2 - List.length (List.map Entity.enc l)) T.any))) ++ List.drop (i + 1 + (List.length l + 1 - (i + 1))) (List.map Entity.enc l ++ List.replicate (c2 - List.length (List.map Entity.enc l)) T.any))), .w ((0 : Int) ≤ (↑i : Int))] ⟨o_i (w64 (by (simp [room, appendMax]; omega))), o_w (by (simp [room, appendMax]; omega)), o_n (by kernel_rfl), o_b (by kernel_rfl), o_w ⟨(by (simp [room, appendMax]; omega)), (by (simp [room, appendMax]; omega))⟩, oN, oW, o_n (by kernel_rfl), o_b (by kernel_rfl), o_w ⟨(by omega), (by (simp [room, appendMax]; omega))⟩, oN, o_n (by (simp; omega)), oW, trivial⟩ ?_
      refine gg [.n (Int.toNat (↑i : Int)) i, .b (decide (0 = 0)) true, .w (i ≤ List.length l + (1 : Nat) ∧ (0 : Nat) + (List.length l + (1 : Nat)) ≤ List.length (List.take (i + (1 : Nat)) (List.map Entity.enc l ++ List.replicate (c2 - List.length (List.map Entity.enc l)) T.any) ++ List.take (List.length l + (1 : Nat) - (i + (1 : Nat))) (List.take (List.length l + (1 : Nat) - i) (List.drop i (List.map Entity.enc l ++ List.replicate (c2 - List.length (List.map Entity.enc l)) T.any))) ++ List.drop (i + (1 : Nat) + (List.length l + (1 : Nat) - (i + (1 : Nat)))) (List.map Entity.enc l ++ List.replicate (c2 - List.length (List.map Entity.enc l)) T.any))), .n (0 + i) i, .l (List.length l + 1 - i), .n (min (List.length (List.map Entity.enc [e])) (List.length l + 1 - i)) 1, .s (T.sl 0 (List.take i (List.take (i + 1) (List.map Entity.enc l ++ List.replicate (c2 - List.length (List.map Entity.enc l)) T.any) ++ List.take (List.length l + 1 - (i + 1)) (List.take (List.length l + 1 - i) (List.drop i (List.map Entity.enc l ++ List.replicate (c2 - List.length (List.map Entity.enc l)) T.any))) ++ List.drop (i + 1 + (List.length l + 1 - (i + 1))) (List.map Entity.enc l ++ List.replicate (c2 - List.length (List.map Entity.enc l)) T.any)) ++ List.take 1 (List.map Entity.enc [e]) ++ List.drop (i + 1) (List.take (i + 1) (List.map Entity.enc l ++ List.replicate (c2 - List.length (List.map Entity.enc l)) T.any) ++ List.take (List.length l + 1 - (i + 1)) (List.take (List.length l + 1 - i) (List.drop i (List.map Entity.enc l ++ List.replicate (c2 - List.length (List.map Entity.enc l)) T.any))) ++ List.drop (i + 1 + (List.length l + 1 - (i + 1))) (List.map Entity.enc l ++ List.replicate (c2 - List.length (List.map Entity.enc l)) T.any)))), .s (T.sl 0 (List.take (List.length l + 1) (List.take i (List.take (i + 1) (List.map Entity.enc l ++ List.replicate (c2 - List.length (List.map Entity.enc l)) T.any) ++ List.take (List.length l + 1 - (i + 1)) (List.take (List.length l + 1 - i) (List.drop i (List.map Entity.enc l ++ List.replicate (c2 - List.length (List.map Entity.enc l)) T.any))) ++ List.drop (i + 1 + (List.length l + 1 - (i + 1))) (List.map Entity.enc l ++ List.replicate (c2 - List.length (List.map Entity.enc l)) T.any)) ++ List.take 1 (List.map Entity.enc [e]) ++ List.drop (i + 1) (List.take (i + 1) (List.map Entity.enc l ++ List.replicate (c2 - List.length (List.map Entity.enc l)) T.any) ++ List.take (List.length l + 1 - (i + 1)) (List.take (List.length l + 1 - i) (List.drop i (List.map Entity.enc l ++ List.replicate (c2 - List.length (List.map Entity.enc l)) T.any))) ++ List.drop (i + 1 + (List.length l + 1 - (i + 1))) (List.map Entity.enc l ++ List.replicate (c2 - List.length (List.map Entity.enc l)) T.any)))))] ⟨o_n (by kernel_rfl), o_b (by kernel_rfl), o_w ⟨(by omega), (by (simp [room, appendMax]; omega))⟩, oN, o_n (by (simp; omega)), trivial⟩ ?_
      refine rt (a := Res.mk Ex.ret [V.all 1 none] [Ob.dead, Ob.arr 9 (List.take (List.length l + 1) (List.take i (List.take (i + 1) (List.map Entity.enc l ++ List.replicate (c2 - List.length (List.map Entity.enc l)) T.any) ++ List.take (List.length l + 1 - (i + 1)) (List.take (List.length l + 1 - i) (List.drop i (List.map Entity.enc l ++ List.replicate (c2 - List.length (List.map Entity.enc l)) T.any))) ++ List.drop (i + 1 + (List.length l + 1 - (i + 1))) (List.map Entity.enc l ++ List.replicate (c2 - List.length (List.map Entity.enc l)) T.any)) ++ List.take 1 (List.map Entity.enc [e]) ++ List.drop (i + 1) (List.take (i + 1) (List.map Entity.enc l ++ List.replicate (c2 - List.length (List.map Entity.enc l)) T.any) ++ List.take (List.length l + 1 - (i + 1)) (List.take (List.length l + 1 - i) (List.drop i (List.map Entity.enc l ++ List.replicate (c2 - List.length (List.map Entity.enc l)) T.any))) ++ List.drop (i + 1 + (List.length l + 1 - (i + 1))) (List.map Entity.enc l ++ List.replicate (c2 - List.length (List.map Entity.enc l)) T.any)))) none false]) (by kernel_rfl) ?_
      (refine res_arr ?_; first | (simp only [List.map_cons, List.map_nil]; rw [insert_any' _ _ _ _ _ (by simp) (by omega)]; simp; done) | (have hq : i = l.length := by omega; subst hq; simp; done) | (apply List.ext_getElem?; grind))
theorem f_slices_Clone_Cross (l : List Cross) (hl : small l) : Is cx (.call 71 [.t (.sl 15 (l.map Cross.enc))] []) ⟨.ret, [.all 0 none], [.arr 15 (l.map Cross.enc) none false]⟩ := by
  unfold small at hl
  refine Wp.ev ?_
  refine cp (lo := 0) (by kernel_rfl) (fun c1 hc1 => ?_)
  refine brp (p := c1 = 0 ∧ List.length (List.map Cross.enc l) = 0) (by kernel_rfl) (fun h2 => ?_) (fun h2 => ?_)
  · refine rt (a := Res.mk Ex.ret [V.all 0 none] [Ob.arr 15 [] none false]) (by kernel_rfl) ?_
    (first | rfl | (have : l = [] := List.length_eq_zero_iff.1 (by simp_all; done); subst this; rfl))
  · refine gg [.w ((0 : Nat) < (120 : Nat)), .s (T.sl 0 (List.map Cross.enc l)), .s (T.sl 0 (List.map Cross.enc l)), .w (room (List.length (List.map Cross.enc l)) (120 : Nat))] ⟨oW, o_w (by (simp [room, appendMax]; omega)), trivial⟩ ?_
    refine rt (a := Res.mk Ex.ret [V.all 0 none] [Ob.arr 15 (List.map Cross.enc l) none false]) (by kernel_rfl) ?_
    (first | rfl | (have : l = [] := List.length_eq_zero_iff.1 (by simp_all; done); subst this; rfl))
theorem f_slices_IndexFunc_loop_Cross (l : List Cross) (g : Nat) (cs : List T) (p : Cross → Bool) (hb : isFnB cx g = true) (hn : small l)
    (hg : ∀ e ∈ l, Fn cx g (e.enc :: cs) (.bool (p e))) : ∀ (d i : Nat), i + d = l.length →
    Is cx (.loop 88 [0, 1, 0, 1] 0 [.t (.sl 15 (l.map Cross.enc)), .t (.clo g cs), vi 0, vi l.length, vi i] [])
      (match (l.drop i).findIdx? p with
        | some j => ⟨.ret, [.t (.sl 15 (l.map Cross.enc)), .t (.clo g cs), vi (i + j : Nat), vi l.length, vi (i + j : Nat)], []⟩
        | none => ⟨.exit 0, [.t (.sl 15 (l.map Cross.enc)), .t (.clo g cs), vi 0, vi l.length, vi l.length], []⟩) := by
  unfold small at hn
  intro d
  induction d with
  | zero =>
    intro i hi
    refine Wp.ev ?_
    refine gg [.b (decide ((↑i : Int) < (↑(List.length l) : Int))) false] ⟨fP, trivial⟩ ?_
    refine rt (a := Res.mk (Ex.exit 0) [V.t (T.sl 15 (List.map Cross.enc l)), V.t (T.clo g cs), vi 0, vi (↑(List.length l) : Int), vi (↑i : Int)] []) (by kernel_rfl) ?_
    ((have : i = l.length := by omega); subst this; rw [drop_end (Nat.le_refl _)]; rfl)
  | succ d ih =>
    intro i hi
    have hlt : i < l.length := by omega
    have hy := hg _ (gt_mem hlt)
    have ih1 := ih (i + 1) (by omega)
    clear ih hg
    rw [drop_gt hlt, List.findIdx?_cons]
    cases hp : p (gt l i) with
    | true =>
      rw [hp] at hy
      refine Wp.ev ?_
      refine gg [.b (decide ((↑i : Int) < (↑(List.length l) : Int))) true, .w ((0 : Int) ≤ (↑i : Int)), .n (Int.toNat (↑i : Int)) i, .g (List.map Cross.enc l) i (Cross.enc (gt l i)), .w (isFnB cx g = true), .a _ _, .tt] ⟨tP, oW, o_n (by kernel_rfl), o_gt rfl (by assumption) (by intro h; cases h), oA, o_a hy, trivial⟩ ?_
      exact ge
    | false =>
      rw [hp] at hy
      simp only [Bool.false_eq_true, if_false]
      cases hq : (l.drop (i+1)).findIdx? p with
      | none =>
        rw [hq] at ih1
        refine Wp.ev ?_
        refine gg [.b (decide ((↑i : Int) < (↑(List.length l) : Int))) true, .w ((0 : Int) ≤ (↑i : Int)), .n (Int.toNat (↑i : Int)) i, .g (List.map Cross.enc l) i (Cross.enc (gt l i)), .w (isFnB cx g = true), .a _ _, .ff, .i IntKind.i64 ((↑i : Int) + 1) ((↑(i + 1) : Int)), .a _ _] ⟨tP, oW, o_n (by kernel_rfl), o_gt rfl (by assumption) (by intro h; cases h), oA, o_a hy, oI, o_a ih1, trivial⟩ ?_
        exact ge
      | some j =>
        rw [hq] at ih1
        refine Wp.ev ?_
        refine gg [.b (decide ((↑i : Int) < (↑(List.length l) : Int))) true, .w ((0 : Int) ≤ (↑i : Int)), .n (Int.toNat (↑i : Int)) i, .g (List.map Cross.enc l) i (Cross.enc (gt l i)), .w (isFnB cx g = true), .a _ _, .ff, .i IntKind.i64 ((↑i : Int) + 1) ((↑(i + 1) : Int)), .a _ _] ⟨tP, oW, o_n (by kernel_rfl), o_gt rfl (by assumption) (by intro h; cases h), oA, o_a hy, oI, o_a ih1, trivial⟩ ?_
        refine rt (a := Res.mk Ex.ret [V.t (T.sl 15 (List.map Cross.enc l)), V.t (T.clo g cs), vi (↑(i + 1 + j) : Int), vi (↑(List.length l) : Int), vi (↑(i + 1 + j) : Int)] []) (by kernel_rfl) ?_
        simp [Nat.add_assoc, Nat.add_comm 1 j]
theorem f_slices_IndexFunc_Cross (l : List Cross) (g : Nat) (cs : List T) (p : Cross → Bool) (hb : isFnB cx g = true) (hn : small l)
    (hg : ∀ e ∈ l, Fn cx g (e.enc :: cs) (.bool (p e))) : Fn cx 88 [.sl 15 (l.map Cross.enc), .clo g cs] (ti (pos p l)) := by
  have h := f_slices_IndexFunc_loop_Cross l g cs p hb hn hg l.length 0 (by omega)
  clear hg
  rw [List.drop_zero] at h
  unfold pos
  cases hq : l.findIdx? p with
  | none =>
    rw [hq] at h
    refine Wp.ev ?_
    refine gg [.n (List.length (List.map Cross.enc l)) (List.length l), .a _ _] ⟨o_n (by simp), o_a h, trivial⟩ ?_
    exact ge
  | some j =>
    rw [hq] at h
    refine Wp.ev ?_
    refine gg [.n (List.length (List.map Cross.enc l)) (List.length l), .a _ _] ⟨o_n (by simp), o_a h, trivial⟩ ?_
    refine rt (a := Res.mk Ex.ret [vi (↑(0 + j) : Int)] []) (by kernel_rfl) ?_
    simp
end Go.Eva.S1

/- Generic functions of slices, more. -/
namespace Go.Eva.S1
theorem f_slices_DeleteFunc_loop_Entity (l : List Entity) (g : Nat) (cs : List T) (p : Entity → Bool) (hb : isFnB cx g = true) (hn : small l)
    (hg : ∀ e ∈ l, Fn cx g (e.enc :: cs) (.bool (p e))) : ∀ (d i j : Nat) (A : List Entity), j + d = l.length → A.length = l.length → A.drop j = l.drop j → i < j →
    Is cx (.loop 52 [0, 1, 0, 1, 1, 1] 1 [.all 0 none, .t (.clo g cs), vi i, vi j] [.arr 9 (A.map Entity.enc) none false])
      ⟨.exit 0, [.all 0 none, .t (.clo g cs), vi (dfl p A i (l.drop j)).1, vi l.length], [.arr 9 ((dfl p A i (l.drop j)).2.map Entity.enc) none false]⟩ := by
  unfold small at hn
  intro d
  induction d with
  | zero =>
    intro i j A hj hA hd hi
    have hl := drop_end (l := l) (i := j) (by omega)
    rw [hl]
    refine Wp.ev ?_
    refine gg [.n (List.length (List.map Entity.enc A)) (List.length A), .b (decide ((↑j : Int) < (↑(List.length A) : Int))) false] ⟨o_n (by simp), fP, trivial⟩ ?_
    refine rt (a := Res.mk (Ex.exit 0) [V.all 0 none, V.t (T.clo g cs), vi (↑i : Int), vi (↑j : Int)] [Ob.arr 9 (List.map Entity.enc A) none false]) (by kernel_rfl) ?_
    ((have hq : j = l.length := by omega); subst hq; simp [dfl])
  | succ d ih =>
    intro i j A hj hA hd hi
    have hlt : j < l.length := by omega
    have hy := hg _ (gt_mem hlt)
    have hx : A[j]? = some (gt l j) := by rw [← List.head?_drop, hd, drop_gt hlt]; rfl
    have ih1 := ih i (j + 1) A (by omega) hA (by rw [← List.drop_drop, hd, List.drop_drop]) (by omega)
    have ih2 := ih (i + 1) (j + 1) (A.set i (gt l j)) (by omega) (by simpa using hA) (by rw [List.drop_set_of_lt (by omega), ← List.drop_drop, hd, List.drop_drop]) (by omega)
    clear ih hg
    rw [drop_gt hlt]
    cases hp : p (gt l j) with
    | true =>
      rw [hp] at hy
      refine Wp.ev ?_
      refine gg [.n (List.length (List.map Entity.enc A)) (List.length A), .b (decide ((↑j : Int) < (↑(List.length A) : Int))) true, .w ((0 : Int) ≤ (↑j : Int)), .n (Int.toNat (↑j : Int)) j, .w (j < List.length (List.map Entity.enc A)), .g (List.map Entity.enc A) j (Entity.enc (gt l j)), .w (isFnB cx g = true), .a _ _, .b (!true) false, .i IntKind.i64 ((↑j : Int) + 1) ((↑(j + 1) : Int)), .a _ _] ⟨o_n (by simp), tP, oW, o_n (by kernel_rfl), o_w (by (simp; omega)), o_gm rfl hx (by intro h; cases h), oA, o_a hy, o_b (by kernel_rfl), oI, o_a ih1, trivial⟩ ?_
      refine rt (a := Res.mk (Ex.exit 0) [V.all 0 none, V.t (T.clo g cs), vi (↑(dfl p A i (List.drop (j + 1) l)).fst : Int), vi (↑(List.length l) : Int)] [Ob.arr 9 (List.map Entity.enc (dfl p A i (List.drop (j + 1) l)).snd) none false]) (by kernel_rfl) ?_
      simp [dfl, hp]
    | false =>
      rw [hp] at hy
      refine Wp.ev ?_
      refine gg [.n (List.length (List.map Entity.enc A)) (List.length A), .b (decide ((↑j : Int) < (↑(List.length A) : Int))) true, .w ((0 : Int) ≤ (↑j : Int)), .n (Int.toNat (↑j : Int)) j, .w (j < List.length (List.map Entity.enc A)), .g (List.map Entity.enc A) j (Entity.enc (gt l j)), .w (isFnB cx g = true), .a _ _, .b (!false) true, .w ((0 : Int) ≤ (↑i : Int)), .n (Int.toNat (↑i : Int)) i, .w (i < List.length (List.map Entity.enc A)), .w (i < List.length (List.map Entity.enc A)), .t (T.sl 0 (List.set (List.map Entity.enc A) i (Entity.enc (gt l j)))) (T.sl 0 (List.map Entity.enc (List.set A i (gt l j)))), .i IntKind.i64 ((↑i : Int) + 1) ((↑(i + 1) : Int)), .i IntKind.i64 ((↑j : Int) + 1) ((↑(j + 1) : Int))] ⟨o_n (by simp), tP, oW, o_n (by kernel_rfl), o_w (by (simp; omega)), o_gm rfl hx (by intro h; cases h), oA, o_a hy, o_b (by kernel_rfl), oW, o_n (by kernel_rfl), o_w (by (simp; omega)), o_w (by (simp; omega)), o_l (nm_set rfl rfl), oI, oI, trivial⟩ ?_
      refine gg [.a _ _] ⟨o_a ih2, trivial⟩ ?_
      refine rt (a := Res.mk (Ex.exit 0) [V.all 0 none, V.t (T.clo g cs), vi (↑(dfl p (List.set A i (gt l j)) (i + 1) (List.drop (j + 1) l)).fst : Int), vi (↑(List.length l) : Int)] [Ob.arr 9 (List.map Entity.enc (dfl p (List.set A i (gt l j)) (i + 1) (List.drop (j + 1) l)).snd) none false]) (by kernel_rfl) ?_
      simp [dfl, hp]
theorem f_slices_DeleteFunc_Entity (l : List Entity) (g : Nat) (cs : List T) (p : Entity → Bool) (hb : isFnB cx g = true) (hn : small l)
    (hg : ∀ e ∈ l, Fn cx g (e.enc :: cs) (.bool (p e))) : Is cx (.call 52 [.all 0 none, .t (.clo g cs)] [.arr 9 (l.map Entity.enc) none false])
      ⟨.ret, [.all 1 none], [.dead, .arr 9 ((l.filter fun e => !p e).map Entity.enc) none false]⟩ := by
  have h0 := f_slices_IndexFunc_Entity l g cs p hb hn hg
  have h1 := f_slices_DeleteFunc_loop_Entity l g cs p hb hn hg
  clear hg
  unfold pos at h0
  have hn' : l.length ≤ 1000000 := hn
  cases hq : l.findIdx? p with
  | none =>
    rw [hq] at h0; simp only at h0
    have hf := find_none hq
    refine Wp.ev ?_
    refine gg [.a _ _, .b (flats [ti (-1)]) true, .b (-1 == -1) true] ⟨o_a h0, o_b (by kernel_rfl), o_b (by kernel_rfl), trivial⟩ ?_
    refine rt (a := Res.mk Ex.ret [V.all 1 none] [Ob.dead, Ob.arr 9 (List.map Entity.enc l) none false]) (by kernel_rfl) ?_
    (refine res_arr ?_; rw [hf])
  | some k =>
    rw [hq] at h0; simp only at h0
    obtain ⟨hk, hf⟩ := find_some hq
    have h1' := h1 (l.length - (k + 1)) k (k + 1) l (by omega) rfl rfl (by omega)
    clear h1
    have hl := @dfl_len _ p (l.drop (k + 1)) l k
    have ht := @dfl_take _ p (l.drop (k + 1)) l k (by simp; omega)
    simp only [List.length_drop] at hl
    generalize hr : dfl p l k (l.drop (k + 1)) = r at *
    obtain ⟨i, A⟩ := r
    simp only at hl ht h1'
    refine Wp.ev ?_
    refine gg [.a _ _, .b (flats [ti (↑k : Int)]) true, .b ((↑k : Int) == -1) false, .i IntKind.i64 ((↑k : Int) + 1) ((↑(k + 1) : Int)), .a _ _, .w ((0 : Int) ≤ (↑i : Int)), .n (Int.toNat (↑i : Int)) i, .w (i ≤ List.length (List.map Entity.enc A) ∧ List.length (List.map Entity.enc A) ≤ List.length (List.map Entity.enc A)), .n (0 + i) i, .n (List.length (List.map Entity.enc A) - i) (List.length A - i), .n (min (List.length (List.replicate (List.length A - i) (T.agg [ti 0, ti 0, ti 0, ti 0, ti 0, ti 0, ti 0, ti 0, ti 0]))) (List.length A - i)) (List.length A - i), .t (T.sl 0 (List.take i (List.map Entity.enc A) ++ List.take (List.length A - i) (List.replicate (List.length A - i) (T.agg [ti 0, ti 0, ti 0, ti 0, ti 0, ti 0, ti 0, ti 0, ti 0])) ++ List.drop (i + (List.length A - i)) (List.map Entity.enc A))) (T.sl 0 (List.map Entity.enc (List.take i A ++ List.replicate (List.length A - i) (Entity.mk 0 0 0 0 0 0 0 0 0) ++ List.drop (i + (List.length A - i)) A))), .w ((0 : Int) ≤ (↑i : Int)), .n (Int.toNat (↑i : Int)) i, .w ((0 : Nat) ≤ i ∧ i ≤ List.length (List.map Entity.enc (List.take i A ++ List.replicate (List.length A - i) (Entity.mk (0 : Int) (0 : Int) (0 : Int) (0 : Int) (0 : Int) (0 : Int) (0 : Int) (0 : Int) (0 : Int)) ++ List.drop (i + (List.length A - i)) A))), .l 0] ⟨o_a h0, o_b (by kernel_rfl), o_b (by kernel_rfl), oI, o_a h1', oW, o_n (by kernel_rfl), o_w ⟨(by (simp; omega)), (by omega)⟩, oN, o_n (by simp), o_n (by simp), o_l (nm_eq (nm_app (nm_app (nm_take rfl) (nm_take (nm_rep (e := Entity.mk 0 0 0 0 0 0 0 0 0) rfl))) (nm_drop rfl)) (by simp)), oW, o_n (by kernel_rfl), o_w ⟨(by omega), (by (simp; omega))⟩, trivial⟩ ?_
    refine gg [.n (i - 0) i, .t (T.sl 0 (List.take i (List.map Entity.enc (List.take i A ++ List.replicate (List.length A - i) (Entity.mk 0 0 0 0 0 0 0 0 0) ++ List.drop (i + (List.length A - i)) A)))) (T.sl 0 (List.map Entity.enc (List.take i (List.take i A ++ List.replicate (List.length A - i) (Entity.mk 0 0 0 0 0 0 0 0 0) ++ List.drop (i + (List.length A - i)) A))))] ⟨o_n (by kernel_rfl), o_l (nm_take rfl), trivial⟩ ?_
    refine rt (a := Res.mk Ex.ret [V.all 1 none] [Ob.dead, Ob.arr 9 (List.map Entity.enc (List.take i (List.take i A ++ List.replicate (List.length A - i) (Entity.mk 0 0 0 0 0 0 0 0 0) ++ List.drop (i + (List.length A - i)) A))) none false]) (by kernel_rfl) ?_
    (refine res_arr ?_; rw [hf, ← ht, List.append_assoc, List.take_append_of_le_length (by simp; omega), List.take_take, Nat.min_self])
theorem f_slices_DeleteFunc_loop_Cross (l : List Cross) (g : Nat) (cs : List T) (p : Cross → Bool) (hb : isFnB cx g = true) (hn : small l)
    (hg : ∀ e ∈ l, Fn cx g (e.enc :: cs) (.bool (p e))) : ∀ (d i j : Nat) (A : List Cross), j + d = l.length → A.length = l.length → A.drop j = l.drop j → i < j →
    Is cx (.loop 70 [0, 1, 0, 1, 1, 1] 1 [.all 0 none, .t (.clo g cs), vi i, vi j] [.arr 15 (A.map Cross.enc) none false])
      ⟨.exit 0, [.all 0 none, .t (.clo g cs), vi (dfl p A i (l.drop j)).1, vi l.length], [.arr 15 ((dfl p A i (l.drop j)).2.map Cross.enc) none false]⟩ := by
  unfold small at hn
  intro d
  induction d with
  | zero =>
    intro i j A hj hA hd hi
    have hl := drop_end (l := l) (i := j) (by omega)
    rw [hl]
    refine Wp.ev ?_
    refine gg [.n (List.length (List.map Cross.enc A)) (List.length A), .b (decide ((↑j : Int) < (↑(List.length A) : Int))) false] ⟨o_n (by simp), fP, trivial⟩ ?_
    refine rt (a := Res.mk (Ex.exit 0) [V.all 0 none, V.t (T.clo g cs), vi (↑i : Int), vi (↑j : Int)] [Ob.arr 15 (List.map Cross.enc A) none false]) (by kernel_rfl) ?_
    ((have hq : j = l.length := by omega); subst hq; simp [dfl])
  | succ d ih =>
    intro i j A hj hA hd hi
    have hlt : j < l.length := by omega
    have hy := hg _ (gt_mem hlt)
    have hx : A[j]? = some (gt l j) := by rw [← List.head?_drop, hd, drop_gt hlt]; rfl
    have ih1 := ih i (j + 1) A (by omega) hA (by rw [← List.drop_drop, hd, List.drop_drop]) (by omega)
    have ih2 := ih (i + 1) (j + 1) (A.set i (gt l j)) (by omega) (by simpa using hA) (by rw [List.drop_set_of_lt (by omega), ← List.drop_drop, hd, List.drop_drop]) (by omega)
    clear ih hg
    rw [drop_gt hlt]
    cases hp : p (gt l j) with
    | true =>
      rw [hp] at hy
      refine Wp.ev ?_
      refine gg [.n (List.length (List.map Cross.enc A)) (List.length A), .b (decide ((↑j : Int) < (↑(List.length A) : Int))) true, .w ((0 : Int) ≤ (↑j : Int)), .n (Int.toNat (↑j : Int)) j, .w (j < List.length (List.map Cross.enc A)), .g (List.map Cross.enc A) j (Cross.enc (gt l j)), .w (isFnB cx g = true), .a _ _, .b (!true) false, .i IntKind.i64 ((↑j : Int) + 1) ((↑(j + 1) : Int)), .a _ _] ⟨o_n (by simp), tP, oW, o_n (by kernel_rfl), o_w (by (simp; omega)), o_gm rfl hx (by intro h; cases h), oA, o_a hy, o_b (by kernel_rfl), oI, o_a ih1, trivial⟩ ?_
      refine rt (a := Res.mk (Ex.exit 0) [V.all 0 none, V.t (T.clo g cs), vi (↑(dfl p A i (List.drop (j + 1) l)).fst : Int), vi (↑(List.length l) : Int)] [Ob.arr 15 (List.map Cross.enc (dfl p A i (List.drop (j + 1) l)).snd) none false]) (by kernel_rfl) ?_
      simp [dfl, hp]
    | false =>
      rw [hp] at hy
      refine Wp.ev ?_
      refine gg [.n (List.length (List.map Cross.enc A)) (List.length A), .b (decide ((↑j : Int) < (↑(List.length A) : Int))) true, .w ((0 : Int) ≤ (↑j : Int)), .n (Int.toNat (↑j : Int)) j, .w (j < List.length (List.map Cross.enc A)), .g (List.map Cross.enc A) j (Cross.enc (gt l j)), .w (isFnB cx g = true), .a _ _, .b (!false) true, .w ((0 : Int) ≤ (↑i : Int)), .n (Int.toNat (↑i : Int)) i, .w (i < List.length (List.map Cross.enc A)), .w (i < List.length (List.map Cross.enc A)), .t (T.sl 0 (List.set (List.map Cross.enc A) i (Cross.enc (gt l j)))) (T.sl 0 (List.map Cross.enc (List.set A i (gt l j)))), .i IntKind.i64 ((↑i : Int) + 1) ((↑(i + 1) : Int)), .i IntKind.i64 ((↑j : Int) + 1) ((↑(j + 1) : Int))] ⟨o_n (by simp), tP, oW, o_n (by kernel_rfl), o_w (by (simp; omega)), o_gm rfl hx (by intro h; cases h), oA, o_a hy, o_b (by kernel_rfl), oW, o_n (by kernel_rfl), o_w (by (simp; omega)), o_w (by (simp; omega)), o_l (nm_set rfl rfl), oI, oI, trivial⟩ ?_
      refine gg [.a _ _] ⟨o_a ih2, trivial⟩ ?_
      refine rt (a := Res.mk (Ex.exit 0) [V.all 0 none, V.t (T.clo g cs), vi (↑(dfl p (List.set A i (gt l j)) (i + 1) (List.drop (j + 1) l)).fst : Int), vi (↑(List.length l) : Int)] [Ob.arr 15 (List.map Cross.enc (dfl p (List.set A i (gt l j)) (i + 1) (List.drop (j + 1) l)).snd) none false]) (by kernel_rfl) ?_
      simp [dfl, hp]
theorem f_slices_DeleteFunc_Cross (l : List Cross) (g : Nat) (cs : List T) (p : Cross → Bool) (hb : isFnB cx g = true) (hn : small l)
    (hg : ∀ e ∈ l, Fn cx g (e.enc :: cs) (.bool (p e))) : Is cx (.call 70 [.all 0 none, .t (.clo g cs)] [.arr 15 (l.map Cross.enc) none false])
      ⟨.ret, [.all 1 none], [.dead, .arr 15 ((l.filter fun e => !p e).map Cross.enc) none false]⟩ := by
  have h0 := f_slices_IndexFunc_Cross l g cs p hb hn hg
  have h1 := f_slices_DeleteFunc_loop_Cross l g cs p hb hn hg
  clear hg
  unfold pos at h0
  have hn' : l.length ≤ 1000000 := hn
  cases hq : l.findIdx? p with
  | none =>
    rw [hq] at h0; simp only at h0
    have hf := find_none hq
    refine Wp.ev ?_
    refine gg [.a _ _, .b (flats [ti (-1)]) true, .b (-1 == -1) true] ⟨o_a h0, o_b (by kernel_rfl), o_b (by kernel_rfl), trivial⟩ ?_
    refine rt (a := Res.mk Ex.ret [V.all 1 none] [Ob.dead, Ob.arr 15 (List.map Cross.enc l) none false]) (by kernel_rfl) ?_
    (refine res_arr ?_; rw [hf])
  | some k =>
    rw [hq] at h0; simp only at h0
    obtain ⟨hk, hf⟩ := find_some hq
    have h1' := h1 (l.length - (k + 1)) k (k + 1) l (by omega) rfl rfl (by omega)
    clear h1
    have hl := @dfl_len _ p (l.drop (k + 1)) l k
    have ht := @dfl_take _ p (l.drop (k + 1)) l k (by simp; omega)
    simp only [List.length_drop] at hl
    generalize hr : dfl p l k (l.drop (k + 1)) = r at *
    obtain ⟨i, A⟩ := r
    simp only at hl ht h1'
    refine Wp.ev ?_
    refine gg [.a _ _, .b (flats [ti (↑k : Int)]) true, .b ((↑k : Int) == -1) false, .i IntKind.i64 ((↑k : Int) + 1) ((↑(k + 1) : Int)), .a _ _, .w ((0 : Int) ≤ (↑i : Int)), .n (Int.toNat (↑i : Int)) i, .w (i ≤ List.length (List.map Cross.enc A) ∧ List.length (List.map Cross.enc A) ≤ List.length (List.map Cross.enc A)), .n (0 + i) i, .n (List.length (List.map Cross.enc A) - i) (List.length A - i), .n (min (List.length (List.replicate (List.length A - i) (T.agg [ti 0, ti 0, ti 0, ti 0, ti 0, ti 0, ti 0, ti 0, ti 0, ti 0, ti 0, ti 0, ti 0, ti 0, ti 0]))) (List.length A - i)) (List.length A - i), .t (T.sl 0 (List.take i (List.map Cross.enc A) ++ List.take (List.length A - i) (List.replicate (List.length A - i) (T.agg [ti 0, ti 0, ti 0, ti 0, ti 0, ti 0, ti 0, ti 0, ti 0, ti 0, ti 0, ti 0, ti 0, ti 0, ti 0])) ++ List.drop (i + (List.length A - i)) (List.map Cross.enc A))) (T.sl 0 (List.map Cross.enc (List.take i A ++ List.replicate (List.length A - i) (Cross.mk 0 0 0 0 (Entity.mk 0 0 0 0 0 0 0 0 0) 0 0) ++ List.drop (i + (List.length A - i)) A))), .w ((0 : Int) ≤ (↑i : Int)), .n (Int.toNat (↑i : Int)) i, .w ((0 : Nat) ≤ i ∧ i ≤ List.length (List.map Cross.enc (List.take i A ++ List.replicate (List.length A - i) (Cross.mk (0 : Int) (0 : Int) (0 : Int) (0 : Int) (Entity.mk (0 : Int) (0 : Int) (0 : Int) (0 : Int) (0 : Int) (0 : Int) (0 : Int) (0 : Int) (0 : Int)) (0 : Int) (0 : Int)) ++ List.drop (i + (List.length A - i)) A))), .l 0] ⟨o_a h0, o_b (by kernel_rfl), o_b (by kernel_rfl), oI, o_a h1', oW, o_n (by kernel_rfl), o_w ⟨(by (simp; omega)), (by omega)⟩, oN, o_n (by simp), o_n (by simp), o_l (nm_eq (nm_app (nm_app (nm_take rfl) (nm_take (nm_rep (e := Cross.mk 0 0 0 0 (Entity.mk 0 0 0 0 0 0 0 0 0) 0 0) rfl))) (nm_drop rfl)) (by simp)), oW, o_n (by kernel_rfl), o_w ⟨(by omega), (by (simp; omega))⟩, trivial⟩ ?_
    refine gg [.n (i - 0) i, .t (T.sl 0 (List.take i (List.map Cross.enc (List.take i A ++ List.replicate (List.length A - i) (Cross.mk 0 0 0 0 (Entity.mk 0 0 0 0 0 0 0 0 0) 0 0) ++ List.drop (i + (List.length A - i)) A)))) (T.sl 0 (List.map Cross.enc (List.take i (List.take i A ++ List.replicate (List.length A - i) (Cross.mk 0 0 0 0 (Entity.mk 0 0 0 0 0 0 0 0 0) 0 0) ++ List.drop (i + (List.length A - i)) A))))] ⟨o_n (by kernel_rfl), o_l (nm_take rfl), trivial⟩ ?_
    refine rt (a := Res.mk Ex.ret [V.all 1 none] [Ob.dead, Ob.arr 15 (List.map Cross.enc (List.take i (List.take i A ++ List.replicate (List.length A - i) (Cross.mk 0 0 0 0 (Entity.mk 0 0 0 0 0 0 0 0 0) 0 0) ++ List.drop (i + (List.length A - i)) A))) none false]) (by kernel_rfl) ?_
    (refine res_arr ?_; rw [hf, ← ht, List.append_assoc, List.take_append_of_le_length (by simp; omega), List.take_take, Nat.min_self])
end Go.Eva.S1

/- Eva, part 44: lists of entities, in plain words. -/
namespace Go.Eva

def find (l : List Entity) (id : Int) : Int := pos (fun e => e.id == id) l
/-- One is put where it belongs. -/
def ins (l : List Entity) (e : Entity) : List Entity := match l.findIdx? fun x => decide (x.id ≥ e.id) with
  | some k => l.take k ++ e :: l.drop k
  | none => l ++ [e]
def put1 (l : List Entity) (e : Entity) : List Entity := match l.findIdx? fun x => x.id == e.id with
  | some _ => l
  | none => ins l e
def puts (l m : List Entity) : List Entity := m.foldl put1 l
def has (ids : List Int) (id : Int) : Bool := ids.any fun x => x == id
def drops (l : List Entity) (ids : List Int) : List Entity := l.filter fun e => !has ids e.id
def things (l : List Entity) : Int := (l.countP fun e => e.kind != 1 : Nat)
def sortedL : List Entity → Bool
  | a :: b :: r => decide (a.id < b.id) && sortedL (b :: r)
  | _ => true
def sameL {α : Type} (p : α → α → Bool) : List α → List α → Bool
  | a :: r, b :: s => p a b && sameL p r s
  | _, _ => true

theorem pos_none {α : Type} {p : α → Bool} {l : List α} (h : l.findIdx? p = none) : pos p l = -1 := by simp [pos, h]
theorem pos_some {α : Type} {p : α → Bool} {l : List α} {k : Nat} (h : l.findIdx? p = some k) : pos p l = (k : Int) := by simp [pos, h]
theorem ins_len {l : List Entity} {e : Entity} : (ins l e).length = l.length + 1 := by
  unfold ins
  split
  · rename_i k h
    have := (List.findIdx?_eq_some_iff_getElem.1 h).1
    simp; omega
  · simp
theorem put1_len {l : List Entity} {e : Entity} : l.length ≤ (put1 l e).length ∧ (put1 l e).length ≤ l.length + 1 := by
  unfold put1
  split
  · omega
  · rw [ins_len]; omega
theorem puts_len {m l : List Entity} : l.length ≤ (puts l m).length ∧ (puts l m).length ≤ l.length + m.length := by
  induction m generalizing l with
  | nil => simp [puts]
  | cons e m ih =>
    have h1 := @put1_len l e
    have h2 := @ih (put1 l e)
    have h3 : puts l (e :: m) = puts (put1 l e) m := rfl
    rw [h3]
    simp only [List.length_cons]
    omega
theorem sorted_gt {l : List Entity} {i : Nat} (h : i + 1 < l.length) : sortedL (l.drop i) = (decide ((gt l i).id < (gt l (i + 1)).id) && sortedL (l.drop (i + 1))) := by
  rw [drop_gt (by omega), drop_gt h, sortedL]
theorem sorted_end {l : List Entity} {i : Nat} (h : l.length ≤ i + 1) : sortedL (l.drop i) = true := by
  rcases Nat.lt_or_ge i l.length with h1 | h1
  · rw [drop_gt h1, drop_end (by omega)]; rfl
  · rw [drop_end h1]; rfl
theorem countP_gt {l : List Entity} {i : Nat} (p : Entity → Bool) (h : i < l.length) : (l.drop i).countP p = (if p (gt l i) = true then 1 else 0) + (l.drop (i + 1)).countP p := by
  rw [drop_gt h, List.countP_cons]; omega
theorem filter_gt {α : Type} [Inhabited α] {l : List α} {i : Nat} (p : α → Bool) (h : i < l.length) : (l.drop i).filter p = (if p (gt l i) = true then [gt l i] else []) ++ (l.drop (i + 1)).filter p := by
  rw [drop_gt h, List.filter_cons]; split <;> simp
theorem has_pos {l : List Int} {x : Int} : (decide (pos (fun y => x == y) l ≥ 0)) = has l x := by
  unfold has
  cases h : l.findIdx? fun y => x == y with
  | none =>
    rw [pos_none h]
    have := List.findIdx?_eq_none_iff.1 h
    symm
    rw [show (l.any fun y => y == x) = false from ?_]
    · rfl
    · rw [List.any_eq_false]
      intro y hy
      have := this y hy
      simp at this ⊢
      exact fun e => this e.symm
  | some k =>
    rw [pos_some h]
    obtain ⟨hk, h1, _⟩ := List.findIdx?_eq_some_iff_getElem.1 h
    symm
    simp only [ge_iff_le, Int.natCast_nonneg, decide_true]
    rw [List.any_eq_true]
    exact ⟨l[k], List.getElem_mem _, by simp at h1 ⊢; exact h1.symm⟩
theorem any_gt {α : Type} [Inhabited α] {l : List α} {i : Nat} (p : α → Bool) (h : i < l.length) : (l.drop i).any p = (p (gt l i) || (l.drop (i + 1)).any p) := by
  rw [drop_gt h, List.any_cons]
theorem same_gt {α : Type} [Inhabited α] {p : α → α → Bool} {a b : List α} {i : Nat} (h : i < a.length) (h' : i < b.length) : sameL p (a.drop i) (b.drop i) = (p (gt a i) (gt b i) && sameL p (a.drop (i + 1)) (b.drop (i + 1))) := by
  rw [drop_gt h, drop_gt h', sameL]
theorem same_eq {α : Type} [DecidableEq α] : ∀ {a b : List α}, a.length = b.length → sameL (fun x y => decide (x = y)) a b = decide (a = b)
  | [], [], _ => rfl
  | [], _ :: _, h => by simp at h
  | _ :: _, [], h => by simp at h
  | x :: a, y :: b, h => by
    rw [sameL, same_eq (by simpa using h)]
    by_cases h1 : x = y <;> simp [h1]
/-- Are two lists alike? -/
def plain {α : Type} [DecidableEq α] (a b : List α) : Bool := decide (a = b)
end Go.Eva

/- Entities. -/
namespace Go.Eva.S1
theorem f_entity_Find_1 (e : Entity) (id : Int) : Fn cx 51 [e.enc, .ip 1 (ti id) 0] (.bool (e.id == id)) := by
  refine Wp.ev ?_
  exact ge
theorem f_entity_Put_1 (e x : Entity) : Fn cx 49 [x.enc, .ip 9 e.enc 0] (.bool (decide (x.id ≥ e.id))) := by
  refine Wp.ev ?_
  exact ge
theorem f_entity_Find (l : List Entity) (id : Int) (hl : small l) : Fn cx 16 [.sl 9 (l.map Entity.enc), ti id] (ti (find l id)) := by
  have h := f_slices_IndexFunc_Entity l 51 [.ip 1 (ti id) 0] (fun e => e.id == id) (by kernel_rfl) hl (fun e _ => f_entity_Find_1 e id)
  refine Wp.ev ?_
  refine gg [.a _ _, .b (flats [ti (pos (fun (e : Entity) ↦ e.id == id) l)]) true] ⟨o_a h, o_b (by kernel_rfl), trivial⟩ ?_
  exact ge
theorem f_entity_Put_loop (m : List Entity) (hm : m.length ≤ 400000) : ∀ (d i : Nat) (A : List Entity), i + d = m.length → A.length ≤ 400000 + i →
    Is cx (.loop 14 [0, 1, 0, 1, 1] 0 [.all 0 none, .t (.sl 9 (m.map Entity.enc)), vi m.length, vi i] [.arr 9 (A.map Entity.enc) none false])
      ⟨.exit 0, [.all 0 none, .t (.sl 9 (m.map Entity.enc)), vi m.length, vi m.length], [.arr 9 ((puts A (m.drop i)).map Entity.enc) none false]⟩ := by
  intro d
  induction d with
  | zero =>
    intro i A hi hA
    rw [drop_end (by omega)]
    refine Wp.ev ?_
    refine gg [.b (decide ((↑i : Int) < (↑(List.length m) : Int))) false] ⟨fP, trivial⟩ ?_
    refine rt (a := Res.mk (Ex.exit 0) [V.all 0 none, V.t (T.sl 9 (List.map Entity.enc m)), vi (↑(List.length m) : Int), vi (↑i : Int)] [Ob.arr 9 (List.map Entity.enc A) none false]) (by kernel_rfl) ?_
    ((have hq : i = m.length := by omega); subst hq; rfl)
  | succ d ih =>
    intro i A hi hA
    have hlt : i < m.length := by omega
    rw [drop_gt hlt]
    show Is cx _ ⟨_, _, [.arr 9 ((puts (put1 A (gt m i)) (m.drop (i + 1))).map Entity.enc) none false]⟩
    have hl := @put1_len A (gt m i)
    have ih1 := ih (i + 1) (put1 A (gt m i)) (by omega) (by omega)
    clear ih
    have hs : small A := by unfold small; omega
    have hF := f_entity_Find A (gt m i).id hs
    have hG := f_slices_IndexFunc_Entity A 49 [.ip 9 (gt m i).enc 0] (fun x => decide (x.id ≥ (gt m i).id)) (by kernel_rfl) hs (fun x _ => f_entity_Put_1 (gt m i) x)
    clear hl
    unfold find at hF
    unfold put1 at *
    cases hq : A.findIdx? fun x => x.id == (gt m i).id with
    | some k =>
      rw [hq] at ih1
      rw [pos_some hq] at hF
      simp only at ih1 ⊢
      refine Wp.ev ?_
      refine gg [.b (decide ((↑i : Int) < (↑(List.length m) : Int))) true, .w ((0 : Int) ≤ (↑i : Int)), .n (Int.toNat (↑i : Int)) i, .g (List.map Entity.enc m) i (Entity.enc (gt m i)), .a _ _, .b (flats [ti (↑k : Int)]) true, .b (decide ((↑k : Int) ≥ 0)) true, .i IntKind.i64 ((↑i : Int) + 1) ((↑(i + 1) : Int)), .a _ _] ⟨tP, oW, o_n (by kernel_rfl), o_gt rfl (by assumption) (by intro h; cases h), o_a hF, o_b (by kernel_rfl), o_b (by kernel_rfl), oI, o_a ih1, trivial⟩ ?_
      exact ge
    | none =>
      rw [hq] at ih1
      rw [pos_none hq] at hF
      simp only at ih1 ⊢
      unfold ins at *
      cases hp : A.findIdx? fun x => decide (x.id ≥ (gt m i).id) with
      | some k =>
        rw [hp] at ih1
        rw [pos_some hp] at hG
        simp only at ih1 ⊢
        have hk := (List.findIdx?_eq_some_iff_getElem.1 hp).1
        refine Wp.ev ?_
        refine gg [.b (decide ((↑i : Int) < (↑(List.length m) : Int))) true, .w ((0 : Int) ≤ (↑i : Int)), .n (Int.toNat (↑i : Int)) i, .g (List.map Entity.enc m) i (Entity.enc (gt m i)), .a _ _, .b (flats [ti (-1)]) true, .b (decide (-1 ≥ 0)) false, .a _ _, .b (flats [ti (↑k : Int)]) true, .b (decide ((↑k : Int) < 0)) false, .a _ _, .i IntKind.i64 ((↑i : Int) + 1) ((↑(i + 1) : Int)), .a _ _] ⟨tP, oW, o_n (by kernel_rfl), o_gt rfl (by assumption) (by intro h; cases h), o_a hF, o_b (by kernel_rfl), o_b (by kernel_rfl), o_a hG, o_b (by kernel_rfl), o_b (by kernel_rfl), o_a (f_slices_Insert_Entity A (gt m i) k (by assumption) (by omega)), oI, o_a ih1, trivial⟩ ?_
        exact ge
      | none =>
        rw [hp] at ih1
        rw [pos_none hp] at hG
        simp only at ih1 ⊢
        have hI := f_slices_Insert_Entity A (gt m i) A.length hs (Nat.le_refl _)
        rw [List.take_length, List.drop_length] at hI
        refine Wp.ev ?_
        refine gg [.b (decide ((↑i : Int) < (↑(List.length m) : Int))) true, .w ((0 : Int) ≤ (↑i : Int)), .n (Int.toNat (↑i : Int)) i, .g (List.map Entity.enc m) i (Entity.enc (gt m i)), .a _ _, .b (flats [ti (-1)]) true, .b (decide (-1 ≥ 0)) false, .a _ _, .b (flats [ti (-1)]) true, .b (decide (-1 < 0)) true, .n (List.length (List.map Entity.enc A)) (List.length A), .a _ _, .i IntKind.i64 ((↑i : Int) + 1) ((↑(i + 1) : Int)), .a _ _] ⟨tP, oW, o_n (by kernel_rfl), o_gt rfl (by assumption) (by intro h; cases h), o_a hF, o_b (by kernel_rfl), o_b (by kernel_rfl), o_a hG, o_b (by kernel_rfl), o_b (by kernel_rfl), o_n (by simp), o_a hI, oI, o_a ih1, trivial⟩ ?_
        exact ge
theorem f_entity_Put (l m : List Entity) (hl : l.length ≤ 400000) (hm : m.length ≤ 400000) : Is cx (.call 14 [.t (.sl 9 (l.map Entity.enc)), .t (.sl 9 (m.map Entity.enc))] []) ⟨.ret, [.all 0 none], [.arr 9 ((puts l m).map Entity.enc) none false]⟩ := by
  have hs : small l := by unfold small; omega
  have h := f_entity_Put_loop m hm m.length 0 l (by omega) (by omega)
  rw [List.drop_zero] at h
  refine Wp.ev ?_
  refine gg [.a _ _, .n (List.length (List.map Entity.enc m)) (List.length m), .a _ _] ⟨o_a (f_slices_Clone_Entity l (by assumption)), o_n (by simp), o_a h, trivial⟩ ?_
  exact ge
theorem f_entity_Sorted_loop (l : List Entity) (hn : small l) : ∀ (d i : Nat), i + d = l.length → 1 ≤ i →
    ∃ k : Nat, Is cx (.loop 15 [0, 1, 0, 1] 0 [.t (.sl 9 (l.map Entity.enc)), vb false, vi l.length, vi i] []) (match sortedL (l.drop (i - 1)) with
       | true => ⟨.exit 0, [.t (.sl 9 (l.map Entity.enc)), vb false, vi l.length, vi l.length], []⟩
       | false => ⟨.ret, [.t (.sl 9 (l.map Entity.enc)), vb false, vi l.length, vi k], []⟩) := by
  unfold small at hn
  intro d
  induction d with
  | zero =>
    intro i hi h1
    refine ⟨0, ?_⟩
    rw [sorted_end (by omega)]
    refine Wp.ev ?_
    refine gg [.b (decide ((↑i : Int) < (↑(List.length l) : Int))) false] ⟨fP, trivial⟩ ?_
    refine rt (a := Res.mk (Ex.exit 0) [V.t (T.sl 9 (List.map Entity.enc l)), vb false, vi (↑(List.length l) : Int), vi (↑i : Int)] []) (by kernel_rfl) ?_
    ((have hq : i = l.length := by omega); subst hq; rfl)
  | succ d ih =>
    intro i hi h1
    have hlt : i < l.length := by omega
    obtain ⟨k, ih1⟩ := ih (i + 1) (by omega) (by omega)
    clear ih
    obtain ⟨j, rfl⟩ : ∃ j, i = j + 1 := ⟨i - 1, by omega⟩
    simp only [Nat.add_sub_cancel] at *
    rw [sorted_gt hlt]
    by_cases hp : (gt l j).id < (gt l (j + 1)).id
    · simp only [hp, decide_true, Bool.true_and]
      refine ⟨k, ?_⟩
      cases hq : sortedL (l.drop (j + 1)) with
      | true => rw [hq] at ih1
                refine Wp.ev ?_
                refine gg [.b (decide ((↑(j + 1) : Int) < (↑(List.length l) : Int))) true, .b (decide ((↑(j + 1) : Int) > 0)) true, .tt, .tt, .w ((0 : Int) ≤ (↑(j + (1 : Nat)) : Int)), .n (Int.toNat (↑(j + 1) : Int)) (j + 1), .g (List.map Entity.enc l) (j + 1) (Entity.enc (gt l (j + 1))), .tt, .tt, .tt, .tt, .i IntKind.i64 ((↑(j + 1) : Int) - 1) ((↑(j + 1) : Int) - 1), .tt, .w ((0 : Int) ≤ (↑(j + (1 : Nat)) : Int) - (1 : Int)), .n (Int.toNat ((↑(j + 1) : Int) - 1)) j, .g (List.map Entity.enc l) j (Entity.enc (gt l j))] ⟨tP, tP, oW, o_n (by kernel_rfl), o_gt rfl (by assumption) (by intro h; cases h), oI, oW, oN, oT, trivial⟩ ?_
                refine gg [.tt, .tt, .tt, .tt, .tt, .b (decide ((gt l (j + 1)).id ≤ (gt l j).id)) false, .i IntKind.i64 ((↑(j + 1) : Int) + 1) ((↑(j + 1 + 1) : Int)), .a _ _] ⟨fP, oI, o_a ih1, trivial⟩ ?_
                exact ge
      | false => rw [hq] at ih1
                 refine Wp.ev ?_
                 refine gg [.b (decide ((↑(j + 1) : Int) < (↑(List.length l) : Int))) true, .b (decide ((↑(j + 1) : Int) > 0)) true, .tt, .tt, .w ((0 : Int) ≤ (↑(j + (1 : Nat)) : Int)), .n (Int.toNat (↑(j + 1) : Int)) (j + 1), .g (List.map Entity.enc l) (j + 1) (Entity.enc (gt l (j + 1))), .tt, .tt, .tt, .tt, .i IntKind.i64 ((↑(j + 1) : Int) - 1) ((↑(j + 1) : Int) - 1), .tt, .w ((0 : Int) ≤ (↑(j + (1 : Nat)) : Int) - (1 : Int)), .n (Int.toNat ((↑(j + 1) : Int) - 1)) j, .g (List.map Entity.enc l) j (Entity.enc (gt l j))] ⟨tP, tP, oW, o_n (by kernel_rfl), o_gt rfl (by assumption) (by intro h; cases h), oI, oW, oN, oT, trivial⟩ ?_
                 refine gg [.tt, .tt, .tt, .tt, .tt, .b (decide ((gt l (j + 1)).id ≤ (gt l j).id)) false, .i IntKind.i64 ((↑(j + 1) : Int) + 1) ((↑(j + 1 + 1) : Int)), .a _ _] ⟨fP, oI, o_a ih1, trivial⟩ ?_
                 exact ge
    · simp only [hp, decide_false, Bool.false_and]
      refine ⟨j + 1, ?_⟩
      refine Wp.ev ?_
      refine gg [.b (decide ((↑(j + 1) : Int) < (↑(List.length l) : Int))) true, .b (decide ((↑(j + 1) : Int) > 0)) true, .tt, .tt, .w ((0 : Int) ≤ (↑(j + (1 : Nat)) : Int)), .n (Int.toNat (↑(j + 1) : Int)) (j + 1), .g (List.map Entity.enc l) (j + 1) (Entity.enc (gt l (j + 1))), .tt, .tt, .tt, .tt, .i IntKind.i64 ((↑(j + 1) : Int) - 1) ((↑(j + 1) : Int) - 1), .tt, .w ((0 : Int) ≤ (↑(j + (1 : Nat)) : Int) - (1 : Int)), .n (Int.toNat ((↑(j + 1) : Int) - 1)) j, .g (List.map Entity.enc l) j (Entity.enc (gt l j))] ⟨tP, tP, oW, o_n (by kernel_rfl), o_gt rfl (by assumption) (by intro h; cases h), oI, oW, oN, oT, trivial⟩ ?_
      refine gg [.tt, .tt, .tt, .tt, .tt, .b (decide ((gt l (j + 1)).id ≤ (gt l j).id)) true] ⟨tP, trivial⟩ ?_
      exact ge
theorem f_entity_Sorted (l : List Entity) (hn : small l) : Fn cx 15 [.sl 9 (l.map Entity.enc)] (.bool (sortedL l)) := by
  have hn' : l.length ≤ 1000000 := hn
  have hz : l.length = 0 → Is cx (.loop 15 [0, 1, 0, 1] 0 [.t (.sl 9 (l.map Entity.enc)), vb false, vi l.length, vi 0] []) ⟨.exit 0, [.t (.sl 9 (l.map Entity.enc)), vb false, vi l.length, vi l.length], []⟩ := by
    intro h0
    rw [h0]
    refine Wp.ev ?_
    refine gg [.b (decide (0 < 0)) false] ⟨o_b (by kernel_rfl), trivial⟩ ?_
    exact ge
  by_cases h0 : l.length = 0
  · have h := hz h0
    have : l = [] := List.length_eq_zero_iff.1 h0
    subst this
    refine Wp.ev ?_
    refine gg [.l 0, .a _ _] ⟨o_a (hz (by kernel_rfl)), trivial⟩ ?_
    exact ge
  · clear hz
    obtain ⟨k, h⟩ := f_entity_Sorted_loop l hn (l.length - 1) 1 (by omega) (by omega)
    simp only [Nat.sub_self, List.drop_zero] at h
    have hz : Is cx (.loop 15 [0, 1, 0, 1] 0 [.t (.sl 9 (l.map Entity.enc)), vb false, vi l.length, vi 0] []) (match sortedL l with
       | true => ⟨.exit 0, [.t (.sl 9 (l.map Entity.enc)), vb false, vi l.length, vi l.length], []⟩
       | false => ⟨.ret, [.t (.sl 9 (l.map Entity.enc)), vb false, vi l.length, vi k], []⟩) := by
      cases hq : sortedL l with
      | true => rw [hq] at h
                refine Wp.ev ?_
                refine gg [.b (decide (0 < (↑(List.length l) : Int))) true, .b (decide (0 > 0)) false, .ff, .ff, .ff, .ff, .ff, .ff, .ff, .ff, .ff, .ff, .ff, .ff, .ff, .i IntKind.i64 1 1] ⟨tP, o_b (by kernel_rfl), oK, trivial⟩ ?_
                refine gg [.a _ _] ⟨o_a h, trivial⟩ ?_
                exact ge
      | false => rw [hq] at h
                 refine Wp.ev ?_
                 refine gg [.b (decide (0 < (↑(List.length l) : Int))) true, .b (decide (0 > 0)) false, .ff, .ff, .ff, .ff, .ff, .ff, .ff, .ff, .ff, .ff, .ff, .ff, .ff, .i IntKind.i64 1 1] ⟨tP, o_b (by kernel_rfl), oK, trivial⟩ ?_
                 refine gg [.a _ _] ⟨o_a h, trivial⟩ ?_
                 exact ge
    clear h
    cases hq : sortedL l with
    | true => rw [hq] at hz
              refine Wp.ev ?_
              refine gg [.n (List.length (List.map Entity.enc l)) (List.length l), .a _ _] ⟨o_n (by simp), o_a hz, trivial⟩ ?_
              exact ge
    | false => rw [hq] at hz
               refine Wp.ev ?_
               refine gg [.n (List.length (List.map Entity.enc l)) (List.length l), .a _ _] ⟨o_n (by simp), o_a hz, trivial⟩ ?_
               exact ge
theorem f_joustref05_Sorted_loop (l : List Entity) (hn : small l) : ∀ (d i : Nat), i + d = l.length → 1 ≤ i →
    ∃ k : Nat, Is cx (.loop 29 [0, 1, 0, 1] 0 [.t (.sl 9 (l.map Entity.enc)), vb false, vi i] []) (match sortedL (l.drop (i - 1)) with
       | true => ⟨.exit 0, [.t (.sl 9 (l.map Entity.enc)), vb false, vi l.length], []⟩
       | false => ⟨.ret, [.t (.sl 9 (l.map Entity.enc)), vb false, vi k], []⟩) := by
  unfold small at hn
  intro d
  induction d with
  | zero =>
    intro i hi h1
    refine ⟨0, ?_⟩
    rw [sorted_end (by omega)]
    refine Wp.ev ?_
    refine gg [.n (List.length (List.map Entity.enc l)) (List.length l), .b (decide ((↑i : Int) < (↑(List.length l) : Int))) false] ⟨o_n (by simp), fP, trivial⟩ ?_
    refine rt (a := Res.mk (Ex.exit 0) [V.t (T.sl 9 (List.map Entity.enc l)), vb false, vi (↑i : Int)] []) (by kernel_rfl) ?_
    ((have hq : i = l.length := by omega); subst hq; rfl)
  | succ d ih =>
    intro i hi h1
    have hlt : i < l.length := by omega
    obtain ⟨k, ih1⟩ := ih (i + 1) (by omega) (by omega)
    clear ih
    obtain ⟨j, rfl⟩ : ∃ j, i = j + 1 := ⟨i - 1, by omega⟩
    simp only [Nat.add_sub_cancel] at *
    rw [sorted_gt hlt]
    by_cases hp : (gt l j).id < (gt l (j + 1)).id
    · simp only [hp, decide_true, Bool.true_and]
      refine ⟨k, ?_⟩
      cases hq : sortedL (l.drop (j + 1)) with
      | true => rw [hq] at ih1
                refine Wp.ev ?_
                refine gg [.n (List.length (List.map Entity.enc l)) (List.length l), .b (decide ((↑(j + 1) : Int) < (↑(List.length l) : Int))) true, .w ((0 : Int) ≤ (↑(j + (1 : Nat)) : Int)), .n (Int.toNat (↑(j + 1) : Int)) (j + 1), .g (List.map Entity.enc l) (j + 1) (Entity.enc (gt l (j + 1))), .i IntKind.i64 ((↑(j + 1) : Int) - 1) ((↑(j + 1) : Int) - 1), .w ((0 : Int) ≤ (↑(j + (1 : Nat)) : Int) - (1 : Int)), .n (Int.toNat ((↑(j + 1) : Int) - 1)) j, .g (List.map Entity.enc l) j (Entity.enc (gt l j)), .b (decide ((gt l (j + 1)).id ≤ (gt l j).id)) false, .i IntKind.i64 ((↑(j + 1) : Int) + 1) ((↑(j + 1 + 1) : Int)), .a _ _] ⟨o_n (by simp), tP, oW, o_n (by kernel_rfl), o_gt rfl (by assumption) (by intro h; cases h), oI, oW, oN, oT, fP, oI, o_a ih1, trivial⟩ ?_
                exact ge
      | false => rw [hq] at ih1
                 refine Wp.ev ?_
                 refine gg [.n (List.length (List.map Entity.enc l)) (List.length l), .b (decide ((↑(j + 1) : Int) < (↑(List.length l) : Int))) true, .w ((0 : Int) ≤ (↑(j + (1 : Nat)) : Int)), .n (Int.toNat (↑(j + 1) : Int)) (j + 1), .g (List.map Entity.enc l) (j + 1) (Entity.enc (gt l (j + 1))), .i IntKind.i64 ((↑(j + 1) : Int) - 1) ((↑(j + 1) : Int) - 1), .w ((0 : Int) ≤ (↑(j + (1 : Nat)) : Int) - (1 : Int)), .n (Int.toNat ((↑(j + 1) : Int) - 1)) j, .g (List.map Entity.enc l) j (Entity.enc (gt l j)), .b (decide ((gt l (j + 1)).id ≤ (gt l j).id)) false, .i IntKind.i64 ((↑(j + 1) : Int) + 1) ((↑(j + 1 + 1) : Int)), .a _ _] ⟨o_n (by simp), tP, oW, o_n (by kernel_rfl), o_gt rfl (by assumption) (by intro h; cases h), oI, oW, oN, oT, fP, oI, o_a ih1, trivial⟩ ?_
                 exact ge
    · simp only [hp, decide_false, Bool.false_and]
      refine ⟨j + 1, ?_⟩
      refine Wp.ev ?_
      refine gg [.n (List.length (List.map Entity.enc l)) (List.length l), .b (decide ((↑(j + 1) : Int) < (↑(List.length l) : Int))) true, .w ((0 : Int) ≤ (↑(j + (1 : Nat)) : Int)), .n (Int.toNat (↑(j + 1) : Int)) (j + 1), .g (List.map Entity.enc l) (j + 1) (Entity.enc (gt l (j + 1))), .i IntKind.i64 ((↑(j + 1) : Int) - 1) ((↑(j + 1) : Int) - 1), .w ((0 : Int) ≤ (↑(j + (1 : Nat)) : Int) - (1 : Int)), .n (Int.toNat ((↑(j + 1) : Int) - 1)) j, .g (List.map Entity.enc l) j (Entity.enc (gt l j)), .b (decide ((gt l (j + 1)).id ≤ (gt l j).id)) true] ⟨o_n (by simp), tP, oW, o_n (by kernel_rfl), o_gt rfl (by assumption) (by intro h; cases h), oI, oW, oN, oT, tP, trivial⟩ ?_
      exact ge
theorem f_joustref05_Sorted (l : List Entity) (hn : small l) : Fn cx 29 [.sl 9 (l.map Entity.enc)] (.bool (sortedL l)) := by
  have hn' : l.length ≤ 1000000 := hn
  by_cases h0 : l.length = 0
  · have : l = [] := List.length_eq_zero_iff.1 h0
    subst this
    have h : Is cx (.loop 29 [0, 1, 0, 1] 0 [.t (.sl 9 []), vb false, vi 1] []) ⟨.exit 0, [.t (.sl 9 []), vb false, vi 1], []⟩ := by
      refine Wp.ev ?_
      refine gg [.l 0, .b (decide (1 < 0)) false] ⟨o_b (by kernel_rfl), trivial⟩ ?_
      exact ge
    refine Wp.ev ?_
    refine gg [.a _ _] ⟨o_a h, trivial⟩ ?_
    exact ge
  · obtain ⟨k, h⟩ := f_joustref05_Sorted_loop l hn (l.length - 1) 1 (by omega) (by omega)
    simp only [Nat.sub_self, List.drop_zero] at h
    cases hq : sortedL l with
    | true => rw [hq] at h
              refine Wp.ev ?_
              refine gg [.a _ _] ⟨o_a h, trivial⟩ ?_
              exact ge
    | false => rw [hq] at h
               refine Wp.ev ?_
               refine gg [.a _ _] ⟨o_a h, trivial⟩ ?_
               exact ge
theorem f_slices_Index_loop_int (l : List Int) (x : Int) (hn : small l) : ∀ (d i : Nat), i + d = l.length →
    Is cx (.loop 80 [0, 1, 0, 1] 0 [.t (.sl 1 (l.map ti)), vi x, vi 0, vi l.length, vi i] [])
      (match (l.drop i).findIdx? fun y => x == y with
        | some j => ⟨.ret, [.t (.sl 1 (l.map ti)), vi x, vi (i + j : Nat), vi l.length, vi (i + j : Nat)], []⟩
        | none => ⟨.exit 0, [.t (.sl 1 (l.map ti)), vi x, vi 0, vi l.length, vi l.length], []⟩) := by
  unfold small at hn
  intro d
  induction d with
  | zero =>
    intro i hi
    refine Wp.ev ?_
    refine gg [.b (decide ((↑i : Int) < (↑(List.length l) : Int))) false] ⟨fP, trivial⟩ ?_
    refine rt (a := Res.mk (Ex.exit 0) [V.t (T.sl 1 (List.map ti l)), vi x, vi 0, vi (↑(List.length l) : Int), vi (↑i : Int)] []) (by kernel_rfl) ?_
    ((have : i = l.length := by omega); subst this; rw [drop_end (Nat.le_refl _)]; rfl)
  | succ d ih =>
    intro i hi
    have hlt : i < l.length := by omega
    have ih1 := ih (i + 1) (by omega)
    clear ih
    rw [drop_gt hlt, List.findIdx?_cons]
    by_cases hp : x = gt l i
    · simp only [show (x == gt l i) = true by simpa using hp, if_true]
      refine Wp.ev ?_
      refine gg [.b (decide ((↑i : Int) < (↑(List.length l) : Int))) true, .w ((0 : Int) ≤ (↑i : Int)), .n (Int.toNat (↑i : Int)) i, .g (List.map ti l) i (ti (gt l i)), .b (x == gt l i) true] ⟨tP, oW, o_n (by kernel_rfl), o_gt rfl (by assumption) (by intro h; cases h), t_bre (by assumption), trivial⟩ ?_
      exact ge
    · simp only [show (x == gt l i) = false by simpa using hp, Bool.false_eq_true, if_false]
      cases hq : (l.drop (i+1)).findIdx? fun y => x == y with
      | none =>
        rw [hq] at ih1
        refine Wp.ev ?_
        refine gg [.b (decide ((↑i : Int) < (↑(List.length l) : Int))) true, .w ((0 : Int) ≤ (↑i : Int)), .n (Int.toNat (↑i : Int)) i, .g (List.map ti l) i (ti (gt l i)), .b (x == gt l i) false, .i IntKind.i64 ((↑i : Int) + 1) ((↑(i + 1) : Int)), .a _ _] ⟨tP, oW, o_n (by kernel_rfl), o_gt rfl (by assumption) (by intro h; cases h), f_bre (by assumption), oI, o_a ih1, trivial⟩ ?_
        exact ge
      | some j =>
        rw [hq] at ih1
        refine Wp.ev ?_
        refine gg [.b (decide ((↑i : Int) < (↑(List.length l) : Int))) true, .w ((0 : Int) ≤ (↑i : Int)), .n (Int.toNat (↑i : Int)) i, .g (List.map ti l) i (ti (gt l i)), .b (x == gt l i) false, .i IntKind.i64 ((↑i : Int) + 1) ((↑(i + 1) : Int)), .a _ _] ⟨tP, oW, o_n (by kernel_rfl), o_gt rfl (by assumption) (by intro h; cases h), f_bre (by assumption), oI, o_a ih1, trivial⟩ ?_
        refine rt (a := Res.mk Ex.ret [V.t (T.sl 1 (List.map ti l)), vi x, vi (↑(i + 1 + j) : Int), vi (↑(List.length l) : Int), vi (↑(i + 1 + j) : Int)] []) (by kernel_rfl) ?_
        simp [Nat.add_assoc, Nat.add_comm 1 j]
theorem f_slices_Index_int (l : List Int) (x : Int) (hn : small l) : Fn cx 80 [.sl 1 (l.map ti), ti x] (ti (pos (fun y => x == y) l)) := by
  have h := f_slices_Index_loop_int l x hn l.length 0 (by omega)
  rw [List.drop_zero] at h
  unfold pos
  cases hq : l.findIdx? fun y => x == y with
  | none =>
    rw [hq] at h
    refine Wp.ev ?_
    refine gg [.n (List.length (List.map ti l)) (List.length l), .a _ _] ⟨o_n (by simp), o_a h, trivial⟩ ?_
    exact ge
  | some j =>
    rw [hq] at h
    refine Wp.ev ?_
    refine gg [.n (List.length (List.map ti l)) (List.length l), .a _ _] ⟨o_n (by simp), o_a h, trivial⟩ ?_
    refine rt (a := Res.mk Ex.ret [vi (↑(0 + j) : Int)] []) (by kernel_rfl) ?_
    simp
theorem f_slices_Contains_int (l : List Int) (x : Int) (hn : small l) : Fn cx 54 [.sl 1 (l.map ti), ti x] (.bool (has l x)) := by
  have h := f_slices_Index_int l x hn
  rw [← has_pos]
  generalize pos (fun y => x == y) l = k at *
  refine Wp.ev ?_
  refine gg [.a _ _] ⟨o_a h, trivial⟩ ?_
  exact ge
theorem f_entity_Drop_1 (e : Entity) (l : List Int) (hn : small l) : Fn cx 53 [e.enc, .ip 1 (.sl 1 (l.map ti)) 0] (.bool (has l e.id)) := by
  refine Wp.ev ?_
  refine gg [.a _ _] ⟨o_a (f_slices_Contains_int l e.id (by assumption)), trivial⟩ ?_
  exact ge
theorem f_entity_Drop (l : List Entity) (ids : List Int) (hl : small l) (hi : small ids) : Is cx (.call 17 [.t (.sl 9 (l.map Entity.enc)), .t (.sl 1 (ids.map ti))] []) ⟨.ret, [.all 0 none], [.arr 9 ((drops l ids).map Entity.enc) none false]⟩ := by
  have h := f_slices_DeleteFunc_Entity l 53 [.ip 1 (.sl 1 (ids.map ti)) 0] (fun e => has ids e.id) (by kernel_rfl) hl (fun e _ => f_entity_Drop_1 e ids hi)
  refine Wp.ev ?_
  refine gg [.a _ _, .s (T.clo 53 [T.ip 1 (T.sl 1 (List.map ti ids)) 0]), .a _ _] ⟨o_a (f_slices_Clone_Entity l (by assumption)), o_a h, trivial⟩ ?_
  exact ge
theorem f_entity_Things_loop (l : List Entity) (hn : small l) : ∀ (d i n : Nat), i + d = l.length → n ≤ i →
    Is cx (.loop 19 [0, 1, 0, 1, 1] 0 [vi n, .t (.sl 9 (l.map Entity.enc)), vi l.length, vi i] []) ⟨.exit 0, [vi (n + (l.drop i).countP fun e => e.kind != 1 : Nat), .t (.sl 9 (l.map Entity.enc)), vi l.length, vi l.length], []⟩ := by
  unfold small at hn
  intro d
  induction d with
  | zero =>
    intro i n hi hm
    rw [drop_end (by omega)]
    refine Wp.ev ?_
    refine gg [.b (decide ((↑i : Int) < (↑(List.length l) : Int))) false] ⟨fP, trivial⟩ ?_
    refine rt (a := Res.mk (Ex.exit 0) [vi (↑n : Int), V.t (T.sl 9 (List.map Entity.enc l)), vi (↑(List.length l) : Int), vi (↑i : Int)] []) (by kernel_rfl) ?_
    ((have hq : i = l.length := by omega); subst hq; rfl)
  | succ d ih =>
    intro i n hi hm
    have hlt : i < l.length := by omega
    have ih1 := ih (i + 1) n (by omega) (by omega)
    have ih2 := ih (i + 1) (n + 1) (by omega) (by omega)
    clear ih
    rw [countP_gt _ hlt]
    refine Wp.ev ?_
    refine gg [.b (decide ((↑i : Int) < (↑(List.length l) : Int))) true, .w ((0 : Int) ≤ (↑i : Int)), .n (Int.toNat (↑i : Int)) i, .g (List.map Entity.enc l) i (Entity.enc (gt l i))] ⟨tP, oW, o_n (by kernel_rfl), o_gt rfl (by assumption) (by intro h; cases h), trivial⟩ ?_
    refine brn (x := (gt l i).kind) (y := 1) (by kernel_rfl) (fun h1 => ?_) (fun h1 => ?_)
    · refine gg [.i IntKind.i64 ((↑n : Int) + 1) ((↑(n + 1) : Int)), .i IntKind.i64 ((↑i : Int) + 1) ((↑(i + 1) : Int)), .a _ _] ⟨oI, oI, o_a ih2, trivial⟩ ?_
      refine rt (a := Res.mk (Ex.exit 0) [vi (↑(n + 1 + List.countP (fun (e : Entity) ↦ e.kind != 1) (List.drop (i + 1) l)) : Int), V.t (T.sl 9 (List.map Entity.enc l)), vi (↑(List.length l) : Int), vi (↑(List.length l) : Int)] []) (by kernel_rfl) ?_
      (simp_all; try omega)
    · refine gg [.i IntKind.i64 ((↑i : Int) + 1) ((↑(i + 1) : Int)), .a _ _] ⟨oI, o_a ih1, trivial⟩ ?_
      refine rt (a := Res.mk (Ex.exit 0) [vi (↑(n + List.countP (fun (e : Entity) ↦ e.kind != 1) (List.drop (i + 1) l)) : Int), V.t (T.sl 9 (List.map Entity.enc l)), vi (↑(List.length l) : Int), vi (↑(List.length l) : Int)] []) (by kernel_rfl) ?_
      (simp_all; try omega)
theorem f_entity_Things (l : List Entity) (hn : small l) : Fn cx 19 [.sl 9 (l.map Entity.enc)] (ti (things l)) := by
  have h := f_entity_Things_loop l hn l.length 0 0 (by omega) (by omega)
  rw [List.drop_zero, Nat.zero_add] at h
  refine Wp.ev ?_
  refine gg [.n (List.length (List.map Entity.enc l)) (List.length l), .a _ _] ⟨o_n (by simp), o_a h, trivial⟩ ?_
  exact ge
theorem f_joustref05_Things_loop (l : List Entity) (hn : small l) : ∀ (d i n : Nat), i + d = l.length → n ≤ i →
    Is cx (.loop 28 [0, 1, 0, 1, 1] 0 [.t (.sl 9 (l.map Entity.enc)), vi n, vi i] []) ⟨.exit 0, [.t (.sl 9 (l.map Entity.enc)), vi (n + (l.drop i).countP fun e => e.kind != 1 : Nat), vi l.length], []⟩ := by
  unfold small at hn
  intro d
  induction d with
  | zero =>
    intro i n hi hm
    rw [drop_end (by omega)]
    refine Wp.ev ?_
    refine gg [.n (List.length (List.map Entity.enc l)) (List.length l), .b (decide ((↑i : Int) < (↑(List.length l) : Int))) false] ⟨o_n (by simp), fP, trivial⟩ ?_
    refine rt (a := Res.mk (Ex.exit 0) [V.t (T.sl 9 (List.map Entity.enc l)), vi (↑n : Int), vi (↑i : Int)] []) (by kernel_rfl) ?_
    ((have hq : i = l.length := by omega); subst hq; rfl)
  | succ d ih =>
    intro i n hi hm
    have hlt : i < l.length := by omega
    have ih1 := ih (i + 1) n (by omega) (by omega)
    have ih2 := ih (i + 1) (n + 1) (by omega) (by omega)
    clear ih
    rw [countP_gt _ hlt]
    refine Wp.ev ?_
    refine gg [.n (List.length (List.map Entity.enc l)) (List.length l), .b (decide ((↑i : Int) < (↑(List.length l) : Int))) true, .w ((0 : Int) ≤ (↑i : Int)), .n (Int.toNat (↑i : Int)) i, .g (List.map Entity.enc l) i (Entity.enc (gt l i))] ⟨o_n (by simp), tP, oW, o_n (by kernel_rfl), o_gt rfl (by assumption) (by intro h; cases h), trivial⟩ ?_
    refine brn (x := (gt l i).kind) (y := 1) (by kernel_rfl) (fun h1 => ?_) (fun h1 => ?_)
    · refine gg [.i IntKind.i64 ((↑n : Int) + 1) ((↑(n + 1) : Int)), .i IntKind.i64 ((↑i : Int) + 1) ((↑(i + 1) : Int)), .a _ _] ⟨oI, oI, o_a ih2, trivial⟩ ?_
      refine rt (a := Res.mk (Ex.exit 0) [V.t (T.sl 9 (List.map Entity.enc l)), vi (↑(n + 1 + List.countP (fun (e : Entity) ↦ e.kind != 1) (List.drop (i + 1) l)) : Int), vi (↑(List.length l) : Int)] []) (by kernel_rfl) ?_
      (simp_all; try omega)
    · refine gg [.i IntKind.i64 ((↑i : Int) + 1) ((↑(i + 1) : Int)), .a _ _] ⟨oI, o_a ih1, trivial⟩ ?_
      refine rt (a := Res.mk (Ex.exit 0) [V.t (T.sl 9 (List.map Entity.enc l)), vi (↑(n + List.countP (fun (e : Entity) ↦ e.kind != 1) (List.drop (i + 1) l)) : Int), vi (↑(List.length l) : Int)] []) (by kernel_rfl) ?_
      (simp_all; try omega)
theorem f_joustref05_Things (l : List Entity) (hn : small l) : Fn cx 28 [.sl 9 (l.map Entity.enc)] (ti (things l)) := by
  have h := f_joustref05_Things_loop l hn l.length 0 0 (by omega) (by omega)
  rw [List.drop_zero, Nat.zero_add] at h
  refine Wp.ev ?_
  refine gg [.a _ _] ⟨o_a h, trivial⟩ ?_
  exact ge
theorem f_joustref05_Find_loop (l : List Entity) (id : Int) (hn : small l) : ∀ (d i : Nat), i + d = l.length →
    Is cx (.loop 26 [0, 1, 0, 1] 0 [.t (.sl 9 (l.map Entity.enc)), vi id, vi 0, vi i] [])
      (match (l.drop i).findIdx? fun e => e.id == id with
        | some j => ⟨.ret, [.t (.sl 9 (l.map Entity.enc)), vi id, vi (i + j : Nat), vi (i + j : Nat)], []⟩
        | none => ⟨.exit 0, [.t (.sl 9 (l.map Entity.enc)), vi id, vi 0, vi l.length], []⟩) := by
  unfold small at hn
  intro d
  induction d with
  | zero =>
    intro i hi
    refine Wp.ev ?_
    refine gg [.n (List.length (List.map Entity.enc l)) (List.length l), .b (decide ((↑i : Int) < (↑(List.length l) : Int))) false] ⟨o_n (by simp), fP, trivial⟩ ?_
    refine rt (a := Res.mk (Ex.exit 0) [V.t (T.sl 9 (List.map Entity.enc l)), vi id, vi 0, vi (↑i : Int)] []) (by kernel_rfl) ?_
    ((have : i = l.length := by omega); subst this; rw [drop_end (Nat.le_refl _)]; rfl)
  | succ d ih =>
    intro i hi
    have hlt : i < l.length := by omega
    have ih1 := ih (i + 1) (by omega)
    clear ih
    rw [drop_gt hlt, List.findIdx?_cons]
    by_cases hp : (gt l i).id = id
    · simp only [show ((gt l i).id == id) = true by simpa using hp, if_true]
      refine Wp.ev ?_
      refine gg [.n (List.length (List.map Entity.enc l)) (List.length l), .b (decide ((↑i : Int) < (↑(List.length l) : Int))) true, .w ((0 : Int) ≤ (↑i : Int)), .n (Int.toNat (↑i : Int)) i, .g (List.map Entity.enc l) i (Entity.enc (gt l i)), .b ((gt l i).id == id) true] ⟨o_n (by simp), tP, oW, o_n (by kernel_rfl), o_gt rfl (by assumption) (by intro h; cases h), t_bre (by assumption), trivial⟩ ?_
      exact ge
    · simp only [show ((gt l i).id == id) = false by simpa using hp, Bool.false_eq_true, if_false]
      cases hq : (l.drop (i+1)).findIdx? fun e => e.id == id with
      | none =>
        rw [hq] at ih1
        refine Wp.ev ?_
        refine gg [.n (List.length (List.map Entity.enc l)) (List.length l), .b (decide ((↑i : Int) < (↑(List.length l) : Int))) true, .w ((0 : Int) ≤ (↑i : Int)), .n (Int.toNat (↑i : Int)) i, .g (List.map Entity.enc l) i (Entity.enc (gt l i)), .b ((gt l i).id == id) false, .i IntKind.i64 ((↑i : Int) + 1) ((↑(i + 1) : Int)), .a _ _] ⟨o_n (by simp), tP, oW, o_n (by kernel_rfl), o_gt rfl (by assumption) (by intro h; cases h), f_bre (by assumption), oI, o_a ih1, trivial⟩ ?_
        exact ge
      | some j =>
        rw [hq] at ih1
        refine Wp.ev ?_
        refine gg [.n (List.length (List.map Entity.enc l)) (List.length l), .b (decide ((↑i : Int) < (↑(List.length l) : Int))) true, .w ((0 : Int) ≤ (↑i : Int)), .n (Int.toNat (↑i : Int)) i, .g (List.map Entity.enc l) i (Entity.enc (gt l i)), .b ((gt l i).id == id) false, .i IntKind.i64 ((↑i : Int) + 1) ((↑(i + 1) : Int)), .a _ _] ⟨o_n (by simp), tP, oW, o_n (by kernel_rfl), o_gt rfl (by assumption) (by intro h; cases h), f_bre (by assumption), oI, o_a ih1, trivial⟩ ?_
        refine rt (a := Res.mk Ex.ret [V.t (T.sl 9 (List.map Entity.enc l)), vi id, vi (↑(i + 1 + j) : Int), vi (↑(i + 1 + j) : Int)] []) (by kernel_rfl) ?_
        simp [Nat.add_assoc, Nat.add_comm 1 j]
theorem f_joustref05_Find (l : List Entity) (id : Int) (hn : small l) : Fn cx 26 [.sl 9 (l.map Entity.enc), ti id] (ti (find l id)) := by
  have h := f_joustref05_Find_loop l id hn l.length 0 (by omega)
  rw [List.drop_zero] at h
  unfold find pos
  cases hq : l.findIdx? fun e => e.id == id with
  | none =>
    rw [hq] at h
    refine Wp.ev ?_
    refine gg [.a _ _] ⟨o_a h, trivial⟩ ?_
    exact ge
  | some j =>
    rw [hq] at h
    refine Wp.ev ?_
    refine gg [.a _ _] ⟨o_a h, trivial⟩ ?_
    refine rt (a := Res.mk Ex.ret [vi (↑(0 + j) : Int)] []) (by kernel_rfl) ?_
    simp
theorem f_jousthelp_In_loop_int (l : List Int) (x : Int) (hn : small l) : ∀ (d i : Nat), i + d = l.length →
    ∃ k : Nat, Is cx (.loop 44 [0, 1, 0, 1] 0 [.t (.sl 1 (l.map ti)), vi x, vb false, vi i] [])
      (match has (l.drop i) x with
        | true => ⟨.ret, [.t (.sl 1 (l.map ti)), vi x, vb true, vi k], []⟩
        | false => ⟨.exit 0, [.t (.sl 1 (l.map ti)), vi x, vb false, vi l.length], []⟩) := by
  unfold small at hn
  intro d
  induction d with
  | zero =>
    intro i hi
    refine ⟨0, ?_⟩
    rw [drop_end (by omega)]
    refine Wp.ev ?_
    refine gg [.n (List.length (List.map ti l)) (List.length l), .b (decide ((↑i : Int) < (↑(List.length l) : Int))) false] ⟨o_n (by simp), fP, trivial⟩ ?_
    refine rt (a := Res.mk (Ex.exit 0) [V.t (T.sl 1 (List.map ti l)), vi x, vb false, vi (↑i : Int)] []) (by kernel_rfl) ?_
    ((have : i = l.length := by omega); subst this; rfl)
  | succ d ih =>
    intro i hi
    have hlt : i < l.length := by omega
    obtain ⟨k, ih1⟩ := ih (i + 1) (by omega)
    clear ih
    unfold has at *
    rw [any_gt _ hlt]
    by_cases hp : gt l i = x
    · simp only [show (gt l i == x) = true by simpa using hp, Bool.true_or]
      refine ⟨i, ?_⟩
      refine Wp.ev ?_
      refine gg [.n (List.length (List.map ti l)) (List.length l), .b (decide ((↑i : Int) < (↑(List.length l) : Int))) true, .w ((0 : Int) ≤ (↑i : Int)), .n (Int.toNat (↑i : Int)) i, .g (List.map ti l) i (ti (gt l i)), .b (gt l i == x) true] ⟨o_n (by simp), tP, oW, o_n (by kernel_rfl), o_gt rfl (by assumption) (by intro h; cases h), t_bre (by assumption), trivial⟩ ?_
      exact ge
    · simp only [show (gt l i == x) = false by simpa using hp, Bool.false_or]
      refine ⟨k, ?_⟩
      cases hq : (l.drop (i+1)).any fun y => y == x with
      | true =>
        rw [hq] at ih1
        refine Wp.ev ?_
        refine gg [.n (List.length (List.map ti l)) (List.length l), .b (decide ((↑i : Int) < (↑(List.length l) : Int))) true, .w ((0 : Int) ≤ (↑i : Int)), .n (Int.toNat (↑i : Int)) i, .g (List.map ti l) i (ti (gt l i)), .b (gt l i == x) false, .i IntKind.i64 ((↑i : Int) + 1) ((↑(i + 1) : Int)), .a _ _] ⟨o_n (by simp), tP, oW, o_n (by kernel_rfl), o_gt rfl (by assumption) (by intro h; cases h), f_bre (by assumption), oI, o_a ih1, trivial⟩ ?_
        exact ge
      | false =>
        rw [hq] at ih1
        refine Wp.ev ?_
        refine gg [.n (List.length (List.map ti l)) (List.length l), .b (decide ((↑i : Int) < (↑(List.length l) : Int))) true, .w ((0 : Int) ≤ (↑i : Int)), .n (Int.toNat (↑i : Int)) i, .g (List.map ti l) i (ti (gt l i)), .b (gt l i == x) false, .i IntKind.i64 ((↑i : Int) + 1) ((↑(i + 1) : Int)), .a _ _] ⟨o_n (by simp), tP, oW, o_n (by kernel_rfl), o_gt rfl (by assumption) (by intro h; cases h), f_bre (by assumption), oI, o_a ih1, trivial⟩ ?_
        exact ge
theorem f_jousthelp_In_int (l : List Int) (x : Int) (hn : small l) : Fn cx 44 [.sl 1 (l.map ti), ti x] (.bool (has l x)) := by
  obtain ⟨k, h⟩ := f_jousthelp_In_loop_int l x hn l.length 0 (by omega)
  rw [List.drop_zero] at h
  cases hq : has l x with
  | true =>
    rw [hq] at h
    refine Wp.ev ?_
    refine gg [.a _ _] ⟨o_a h, trivial⟩ ?_
    exact ge
  | false =>
    rw [hq] at h
    refine Wp.ev ?_
    refine gg [.a _ _] ⟨o_a h, trivial⟩ ?_
    exact ge
theorem f_joustref05_Drop_loop (l : List Entity) (ids : List Int) (hn : small l) (hm : small ids) : ∀ (d i : Nat) (A : List Entity), i + d = l.length → A.length ≤ i →
    Is cx (.loop 27 [0, 1, 0, 1, 1] 0 [.t (.sl 9 (l.map Entity.enc)), .t (.sl 1 (ids.map ti)), .all 0 none, vi i] [.arr 9 (A.map Entity.enc) none false])
      ⟨.exit 0, [.t (.sl 9 (l.map Entity.enc)), .t (.sl 1 (ids.map ti)), .all 0 none, vi l.length], [.arr 9 ((A ++ drops (l.drop i) ids).map Entity.enc) none false]⟩ := by
  have hn' := hn
  unfold small at hn
  intro d
  induction d with
  | zero =>
    intro i A hi hA
    rw [drop_end (by omega)]
    refine Wp.ev ?_
    refine gg [.n (List.length (List.map Entity.enc l)) (List.length l), .b (decide ((↑i : Int) < (↑(List.length l) : Int))) false] ⟨o_n (by simp), fP, trivial⟩ ?_
    refine rt (a := Res.mk (Ex.exit 0) [V.t (T.sl 9 (List.map Entity.enc l)), V.t (T.sl 1 (List.map ti ids)), V.all 0 none, vi (↑i : Int)] [Ob.arr 9 (List.map Entity.enc A) none false]) (by kernel_rfl) ?_
    ((have hq : i = l.length := by omega); subst hq; simp [drops])
  | succ d ih =>
    intro i A hi hA
    have hlt : i < l.length := by omega
    have ih1 := ih (i + 1) A (by omega) (by omega)
    have ih2 := ih (i + 1) (A ++ [gt l i]) (by omega) (by simp; omega)
    clear ih
    unfold drops at *
    rw [filter_gt _ hlt]
    refine Wp.ev ?_
    refine gg [.n (List.length (List.map Entity.enc l)) (List.length l), .b (decide ((↑i : Int) < (↑(List.length l) : Int))) true, .w ((0 : Int) ≤ (↑i : Int)), .n (Int.toNat (↑i : Int)) i, .g (List.map Entity.enc l) i (Entity.enc (gt l i)), .a _ _] ⟨o_n (by simp), tP, oW, o_n (by kernel_rfl), o_gt rfl (by assumption) (by intro h; cases h), o_a (f_jousthelp_In_int ids ((gt l i).id) (by assumption)), trivial⟩ ?_
    refine brnot (b := has ids (gt l i).id) (by kernel_rfl) (fun h1 => ?_) (fun h1 => ?_)
    · refine gg [.w ((0 : Int) ≤ (↑i : Int)), .n (Int.toNat (↑i : Int)) i, .g (List.map Entity.enc l) i (Entity.enc (gt l i)), .w ((0 : Nat) < (72 : Nat)), .t (T.sl 0 [Entity.enc (gt l i)]) (T.sl 0 (List.map Entity.enc [gt l i])), .t (T.sl 0 (List.map Entity.enc A ++ List.map Entity.enc [gt l i])) (T.sl 0 (List.map Entity.enc (A ++ [gt l i]))), .w (room (List.length (List.map Entity.enc (A ++ [gt l i]))) (72 : Nat)), .i IntKind.i64 ((↑i : Int) + 1) ((↑(i + 1) : Int)), .a _ _] ⟨oW, o_n (by kernel_rfl), o_gt rfl (by assumption) (by intro h; cases h), oW, o_l (nm_cons rfl nm_nil), o_l (nm_app rfl rfl), o_w (by (simp [room, appendMax]; omega)), o_i (w64 (by (simp [room, appendMax]; omega))), o_a ih2, trivial⟩ ?_
      refine rt (a := Res.mk (Ex.exit 0) [V.t (T.sl 9 (List.map Entity.enc l)), V.t (T.sl 1 (List.map ti ids)), V.all 0 none, vi (↑(List.length l) : Int)] [Ob.arr 9 (List.map Entity.enc (A ++ [gt l i] ++ List.filter (fun (e : Entity) ↦ !has ids e.id) (List.drop (i + 1) l))) none false]) (by kernel_rfl) ?_
      simp_all
    · refine gg [.i IntKind.i64 ((↑i : Int) + 1) ((↑(i + 1) : Int)), .a _ _] ⟨o_i (w64 (by (simp [room, appendMax]; omega))), o_a ih1, trivial⟩ ?_
      refine rt (a := Res.mk (Ex.exit 0) [V.t (T.sl 9 (List.map Entity.enc l)), V.t (T.sl 1 (List.map ti ids)), V.all 0 none, vi (↑(List.length l) : Int)] [Ob.arr 9 (List.map Entity.enc (A ++ List.filter (fun (e : Entity) ↦ !has ids e.id) (List.drop (i + 1) l))) none false]) (by kernel_rfl) ?_
      simp_all
theorem f_joustref05_Drop (l : List Entity) (ids : List Int) (hn : small l) (hm : small ids) : Fn cx 27 [.sl 9 (l.map Entity.enc), .sl 1 (ids.map ti)] (.sl 9 ((drops l ids).map Entity.enc)) := by
  have h := f_joustref05_Drop_loop l ids hn hm l.length 0 [] (by omega) (by simp)
  rw [List.drop_zero, List.nil_append] at h
  refine Wp.ev ?_
  refine gg [.a _ _] ⟨o_a h, trivial⟩ ?_
  exact ge
end Go.Eva.S1

/- Eva, part 45: which entities are right. -/
namespace Go.Eva

def pace (v : Int) : Bool := decide (v = 0) || decide (v = 160) || decide (v = -160)
def Entity.right (c : Config) (e : Entity) : Bool := c.inside e.x e.y &&
  (if e.kind = 1 then within e.id 1 c.players && within e.vx (-64) 64 && within e.vy (-64) 64 && within e.health 1 100 && within e.age 0 6 && decide (e.owner = 0)
   else if e.kind = 2 then within e.id 1000 2147483647 && decide (e.health = 1) && pace e.vx && pace e.vy && (!decide (e.vx = 0) || !decide (e.vy = 0)) && within e.age 0 12 && within e.owner 1 c.players
   else if e.kind = 3 then within e.id 1000 2147483647 && decide (e.health = 1) && decide (e.vx = 0) && decide (e.vy = 0) && decide (e.age = 0) && decide (e.owner = 0)
   else false)

theorem beqd (a b : Int) : (a == b) = decide (a = b) := by rw [Bool.eq_iff_iff]; simp
theorem bned (a b : Int) : (a != b) = !decide (a = b) := by rw [Bool.eq_iff_iff]; simp
theorem teq_ent {a b : Entity} : teq a.enc b.enc = decide (a = b) := by rw [Bool.eq_iff_iff, teqIff, Entity.enc_inj, decide_eq_true_eq]
theorem teq_cross {a b : Cross} : teq a.enc b.enc = decide (a = b) := by rw [Bool.eq_iff_iff, teqIff, Cross.enc_inj, decide_eq_true_eq]
theorem teq_input {a b : Input} : teq a.enc b.enc = decide (a = b) := by rw [Bool.eq_iff_iff, teqIff, Input.enc_inj, decide_eq_true_eq]

theorem Config.inside_false {c : Config} {x y : Int} (h : c.right = false) : c.inside x y = false := by
  cases hi : c.inside x y with
  | false => rfl
  | true =>
    simp only [Config.inside, Config.width, h, within_iff, Bool.and_eq_true, Bool.false_eq_true, if_false] at hi
    omega
theorem Config.grid_inside {c : Config} {x y : Int} : c.grid.inside x y = c.inside x y := by
  unfold Config.grid
  split
  · rfl
  · rename_i h
    rw [Config.inside_false (c := Config.zero) rfl, Config.inside_false (c := c) (by simpa using h)]
theorem Config.inside_right {c : Config} {x y : Int} (h : c.inside x y = true) : c.right = true := by
  cases hr : c.right with
  | true => rfl
  | false => rw [Config.inside_false hr] at h; contradiction
theorem Entity.right_grid {c : Config} {e : Entity} : Entity.right c.grid e = Entity.right c e := by
  unfold Entity.right
  rw [Config.grid_inside]
  cases h : c.inside e.x e.y with
  | false => simp
  | true =>
    have hr := Config.inside_right h
    simp [Config.grid, hr]
end Go.Eva

/- Lists held against each other; which entities are right. -/
namespace Go.Eva.S1
theorem f_jousthelp_Plain_1_Entity (a b : Entity) : Fn cx 56 [a.enc, b.enc] (.bool (decide (a = b))) := by
  rw [← teq_ent]
  refine Wp.ev ?_
  refine gg [.w (conform cx (40 : Nat) (28 : Nat) (T.agg [ti a.id, ti a.kind, ti a.x, ti a.y, ti a.vx, ti a.vy, ti a.health, ti a.age, ti a.owner]) = true ∧ conform cx (40 : Nat) (28 : Nat) (T.agg [ti b.id, ti b.kind, ti b.x, ti b.y, ti b.vx, ti b.vy, ti b.health, ti b.age, ti b.owner]) = true)] ⟨o_w ⟨(by kernel_rfl), (by kernel_rfl)⟩, trivial⟩ ?_
  exact ge
theorem f_jousthelp_Same_loop_Entity (a b : List Entity) (g : Nat) (p : Entity → Entity → Bool) (hb : isFnB cx g = true) (hn : small a) (hl : a.length = b.length)
    (hg : ∀ x y, Fn cx g [x.enc, y.enc] (.bool (p x y))) : ∀ (d i : Nat), i + d = a.length →
    ∃ k : Nat, Is cx (.loop 55 [0, 1, 0, 1, 1] 0 [.t (.sl 9 (a.map Entity.enc)), .t (.sl 9 (b.map Entity.enc)), .t (.clo g []), vb false, vi i] [])
      (match sameL p (a.drop i) (b.drop i) with
        | true => ⟨.exit 0, [.t (.sl 9 (a.map Entity.enc)), .t (.sl 9 (b.map Entity.enc)), .t (.clo g []), vb false, vi a.length], []⟩
        | false => ⟨.ret, [.t (.sl 9 (a.map Entity.enc)), .t (.sl 9 (b.map Entity.enc)), .t (.clo g []), vb false, vi k], []⟩) := by
  unfold small at hn
  intro d
  induction d with
  | zero =>
    intro i hi
    refine ⟨0, ?_⟩
    rw [drop_end (by omega), drop_end (by omega)]
    refine Wp.ev ?_
    refine gg [.n (List.length (List.map Entity.enc a)) (List.length a), .b (decide ((↑i : Int) < (↑(List.length a) : Int))) false] ⟨o_n (by simp), fP, trivial⟩ ?_
    refine rt (a := Res.mk (Ex.exit 0) [V.t (T.sl 9 (List.map Entity.enc a)), V.t (T.sl 9 (List.map Entity.enc b)), V.t (T.clo g []), vb false, vi (↑i : Int)] []) (by kernel_rfl) ?_
    ((have hq : i = a.length := by omega); subst hq; rfl)
  | succ d ih =>
    intro i hi
    have hlt : i < a.length := by omega
    have hlt' : i < b.length := by omega
    obtain ⟨k, ih1⟩ := ih (i + 1) (by omega)
    have hy := hg (gt a i) (gt b i)
    clear ih hg
    rw [same_gt hlt hlt']
    cases hp : p (gt a i) (gt b i) with
    | true =>
      rw [hp] at hy
      refine ⟨k, ?_⟩
      rw [Bool.true_and]
      cases hq : sameL p (a.drop (i + 1)) (b.drop (i + 1)) with
      | true =>
        rw [hq] at ih1
        refine Wp.ev ?_
        refine gg [.n (List.length (List.map Entity.enc a)) (List.length a), .b (decide ((↑i : Int) < (↑(List.length a) : Int))) true, .w ((0 : Int) ≤ (↑i : Int)), .n (Int.toNat (↑i : Int)) i, .g (List.map Entity.enc a) i (Entity.enc (gt a i)), .w ((0 : Int) ≤ (↑i : Int)), .n (Int.toNat (↑i : Int)) i, .g (List.map Entity.enc b) i (Entity.enc (gt b i)), .w (isFnB cx g = true), .a _ _, .b (!true) false, .i IntKind.i64 ((↑i : Int) + 1) ((↑(i + 1) : Int)), .a _ _] ⟨o_n (by simp), tP, oW, o_n (by kernel_rfl), o_gt rfl (by assumption) (by intro h; cases h), oW, o_n (by kernel_rfl), o_gt rfl (by assumption) (by intro h; cases h), oA, o_a hy, o_b (by kernel_rfl), oI, o_a ih1, trivial⟩ ?_
        exact ge
      | false =>
        rw [hq] at ih1
        refine Wp.ev ?_
        refine gg [.n (List.length (List.map Entity.enc a)) (List.length a), .b (decide ((↑i : Int) < (↑(List.length a) : Int))) true, .w ((0 : Int) ≤ (↑i : Int)), .n (Int.toNat (↑i : Int)) i, .g (List.map Entity.enc a) i (Entity.enc (gt a i)), .w ((0 : Int) ≤ (↑i : Int)), .n (Int.toNat (↑i : Int)) i, .g (List.map Entity.enc b) i (Entity.enc (gt b i)), .w (isFnB cx g = true), .a _ _, .b (!true) false, .i IntKind.i64 ((↑i : Int) + 1) ((↑(i + 1) : Int)), .a _ _] ⟨o_n (by simp), tP, oW, o_n (by kernel_rfl), o_gt rfl (by assumption) (by intro h; cases h), oW, o_n (by kernel_rfl), o_gt rfl (by assumption) (by intro h; cases h), oA, o_a hy, o_b (by kernel_rfl), oI, o_a ih1, trivial⟩ ?_
        exact ge
    | false =>
      rw [hp] at hy
      refine ⟨i, ?_⟩
      rw [Bool.false_and]
      refine Wp.ev ?_
      refine gg [.n (List.length (List.map Entity.enc a)) (List.length a), .b (decide ((↑i : Int) < (↑(List.length a) : Int))) true, .w ((0 : Int) ≤ (↑i : Int)), .n (Int.toNat (↑i : Int)) i, .g (List.map Entity.enc a) i (Entity.enc (gt a i)), .w ((0 : Int) ≤ (↑i : Int)), .n (Int.toNat (↑i : Int)) i, .g (List.map Entity.enc b) i (Entity.enc (gt b i)), .w (isFnB cx g = true), .a _ _, .b (!false) true] ⟨o_n (by simp), tP, oW, o_n (by kernel_rfl), o_gt rfl (by assumption) (by intro h; cases h), oW, o_n (by kernel_rfl), o_gt rfl (by assumption) (by intro h; cases h), oA, o_a hy, o_b (by kernel_rfl), trivial⟩ ?_
      exact ge
theorem f_jousthelp_Same_Entity (a b : List Entity) (g : Nat) (p : Entity → Entity → Bool) (hb : isFnB cx g = true) (hn : small a)
    (hg : ∀ x y, Fn cx g [x.enc, y.enc] (.bool (p x y))) : Fn cx 55 [.sl 9 (a.map Entity.enc), .sl 9 (b.map Entity.enc), .clo g []] (.bool (decide (a.length = b.length) && sameL p a b)) := by
  by_cases hl : a.length = b.length
  · obtain ⟨k, h⟩ := f_jousthelp_Same_loop_Entity a b g p hb hn hl hg a.length 0 (by omega)
    clear hg
    rw [List.drop_zero, List.drop_zero] at h
    rw [show decide (a.length = b.length) = true by simpa using hl, Bool.true_and]
    cases hq : sameL p a b with
    | true =>
      rw [hq] at h
      refine Wp.ev ?_
      refine gg [.n (List.length (List.map Entity.enc a)) (List.length a), .n (List.length (List.map Entity.enc b)) (List.length b), .b ((↑(List.length a) : Int) != (↑(List.length b) : Int)) false, .a _ _] ⟨o_n (by simp), o_n (by simp), fN, o_a h, trivial⟩ ?_
      exact ge
    | false =>
      rw [hq] at h
      refine Wp.ev ?_
      refine gg [.n (List.length (List.map Entity.enc a)) (List.length a), .n (List.length (List.map Entity.enc b)) (List.length b), .b ((↑(List.length a) : Int) != (↑(List.length b) : Int)) false, .a _ _] ⟨o_n (by simp), o_n (by simp), fN, o_a h, trivial⟩ ?_
      exact ge
  · clear hg
    simp only [hl, decide_false, Bool.false_and]
    refine Wp.ev ?_
    refine gg [.n (List.length (List.map Entity.enc a)) (List.length a), .n (List.length (List.map Entity.enc b)) (List.length b), .b ((↑(List.length a) : Int) != (↑(List.length b) : Int)) true] ⟨o_n (by simp), o_n (by simp), tN, trivial⟩ ?_
    exact ge
theorem f_jousthelp_Plain_Entity (a b : List Entity) (hn : small a) : Fn cx 18 [.sl 9 (a.map Entity.enc), .sl 9 (b.map Entity.enc)] (.bool (plain a b)) := by
  have h := f_jousthelp_Same_Entity a b 56 (fun x y => decide (x = y)) (by kernel_rfl) hn f_jousthelp_Plain_1_Entity
  have e : (decide (a.length = b.length) && sameL (fun x y => decide (x = y)) a b) = plain a b := by
    by_cases hl : a.length = b.length
    · rw [same_eq hl]; simp [hl, plain]
    · have : a ≠ b := fun h => hl (by rw [h])
      simp [hl, plain, this]
  rw [e] at h
  refine Wp.ev ?_
  refine gg [.a _ _] ⟨o_a h, trivial⟩ ?_
  exact ge
theorem f_jousthelp_Own_loop_Entity (f : Entity) (n : Nat) (hn : n ≤ 1000) : ∀ (d i : Nat) (A : List Entity), i + d = n + 3 → A.length = n + 3 →
    Is cx (.loop 23 [0, 1, 0, 1, 1, 1, 1] 0 [.ptr 0 0 0, .sl 1 0 n none, .sl 1 0 (n + 3) none, vi i] [.one 9 (.t f.enc) false, .arr 9 (A.map Entity.enc) (some 0) false])
      ⟨.exit 0, [.ptr 0 0 0, .sl 1 0 n none, .sl 1 0 (n + 3) none, vi (n + 3 : Nat)], [.one 9 (.t f.enc) false, .arr 9 ((A.take i ++ List.replicate d f).map Entity.enc) (some 0) false]⟩ := by
  intro d
  induction d with
  | zero =>
    intro i A hi hA
    have hq : i = n + 3 := by omega
    subst hq
    rw [List.take_of_length_le (by omega)]
    refine Wp.ev ?_
    refine gg [.l (n + 3), .b (decide ((↑(n + 3) : Int) < (↑(n + 3) : Int))) false] ⟨fP, trivial⟩ ?_
    refine rt (a := Res.mk (Ex.exit 0) [V.ptr 0 0 0, V.sl 1 0 n none, V.sl 1 0 (n + 3) none, vi (↑(n + 3) : Int)] [Ob.one 9 (V.t (Entity.enc f)) false, Ob.arr 9 (List.map Entity.enc A) (some 0) false]) (by kernel_rfl) ?_
    simp
  | succ d ih =>
    intro i A hi hA
    have ih1 := ih (i + 1) (A.set i f) (by omega) (by simpa using hA)
    clear ih
    have e : (A.set i f).take (i + 1) ++ List.replicate d f = A.take i ++ List.replicate (d + 1) f := by
      rw [List.take_add_one, List.replicate_succ]
      simp [List.getElem?_set, List.take_set_of_le, show i < A.length by omega]
    rw [e] at ih1
    refine Wp.ev ?_
    refine gg [.l (n + 3), .b (decide ((↑i : Int) < (↑(n + 3) : Int))) true, .w ((0 : Int) ≤ (↑i : Int)), .n (Int.toNat (↑i : Int)) i, .w (i < n + (3 : Nat)), .n (0 + i) i, .w (i < List.length (List.map Entity.enc A)), .t (T.sl 0 (List.set (List.map Entity.enc A) i (Entity.enc f))) (T.sl 0 (List.map Entity.enc (List.set A i f))), .i IntKind.i64 ((↑i : Int) + 1) ((↑(i + 1) : Int)), .a _ _] ⟨tP, oW, o_n (by kernel_rfl), oW, oN, o_w (by (simp; omega)), o_l (nm_set rfl rfl), oI, o_a ih1, trivial⟩ ?_
    exact ge
theorem f_jousthelp_Own_Entity (l : List Entity) (f : Entity) (hn : l.length ≤ 1000) : Is cx (.call 23 [.t (.sl 9 (l.map Entity.enc)), .t f.enc] []) ⟨.ret, [.sl 0 0 l.length none], [.arr 9 ((l ++ [f, f, f]).map Entity.enc) (some 0) false]⟩ := by
  have h := f_jousthelp_Own_loop_Entity f l.length hn 3 l.length
  refine Wp.ev ?_
  refine gg [.n (List.length (List.map Entity.enc l)) (List.length l), .i IntKind.i64 ((↑(List.length l) : Int) + 3) ((↑(List.length l + 3) : Int)), .w ((0 : Int) ≤ (0 : Int) ∧ (0 : Int) ≤ (↑(List.length l + (3 : Nat)) : Int) ∧ room (Int.toNat (↑(List.length l + (3 : Nat)) : Int)) (72 : Nat)), .n (Int.toNat (↑(List.length l + 3) : Int)) (List.length l + 3), .l 0, .w ((0 : Nat) < (72 : Nat)), .s (T.sl 0 (List.map Entity.enc l)), .b (decide (0 = 0)) true, .b (decide (0 + List.length (List.map Entity.enc l) ≤ List.length (List.replicate (List.length l + 3) (T.agg [ti 0, ti 0, ti 0, ti 0, ti 0, ti 0, ti 0, ti 0, ti 0])))) true, .t (T.sl 0 (List.take 0 (List.replicate (List.length l + 3) (T.agg [ti 0, ti 0, ti 0, ti 0, ti 0, ti 0, ti 0, ti 0, ti 0])) ++ List.map Entity.enc l ++ List.drop (0 + List.length (List.map Entity.enc l)) (List.replicate (List.length l + 3) (T.agg [ti 0, ti 0, ti 0, ti 0, ti 0, ti 0, ti 0, ti 0, ti 0])))) (T.sl 0 (List.map Entity.enc (l ++ List.drop (List.length l) (List.replicate (List.length l + 3) (Entity.mk 0 0 0 0 0 0 0 0 0))))), .n (0 + List.length (List.map Entity.enc l)) (List.length l), .n (List.length (List.map Entity.enc l)) (List.length l), .i IntKind.i64 ((↑(List.length l) : Int) + 3) ((↑(List.length l + 3) : Int)), .w ((0 : Int) ≤ (↑(List.length l + (3 : Nat)) : Int)), .n (Int.toNat (↑(List.length l + 3) : Int)) (List.length l + 3), .b (decide (0 = 0)) true] ⟨o_n (by simp), o_i (w64 (by (simp [room, appendMax]; omega))), o_w ⟨(by omega), ⟨(by (simp [room, appendMax]; omega)), (by (simp [room, appendMax]; omega))⟩⟩, o_n (by kernel_rfl), oW, o_b (by kernel_rfl), t_brp (by simp), o_l (nm_eq (nm_app (nm_app (nm_take (nm_rep (e := Entity.mk 0 0 0 0 0 0 0 0 0) rfl)) rfl) (nm_drop (nm_rep (e := Entity.mk 0 0 0 0 0 0 0 0 0) rfl))) (by simp)), o_n (by simp), o_n (by simp), o_i (w64 (by (simp [room, appendMax]; omega))), o_w (by (simp [room, appendMax]; omega)), o_n (by kernel_rfl), o_b (by kernel_rfl), trivial⟩ ?_
  refine gg [.w ((0 : Nat) ≤ List.length l + (3 : Nat) ∧ (0 : Nat) + (List.length l + (3 : Nat)) ≤ List.length (List.map Entity.enc (l ++ List.drop (List.length l) (List.replicate (List.length l + (3 : Nat)) (Entity.mk (0 : Int) (0 : Int) (0 : Int) (0 : Int) (0 : Int) (0 : Int) (0 : Int) (0 : Int) (0 : Int)))))), .l 0, .n (List.length l + 3 - 0) (List.length l + 3), .n (List.length (List.map Entity.enc l)) (List.length l), .a _ _] ⟨o_w ⟨(by omega), (by simp)⟩, o_n (by kernel_rfl), o_n (by simp), o_a (h (l ++ List.drop (List.length l) (List.replicate (List.length l + 3) (Entity.mk 0 0 0 0 0 0 0 0 0))) (by kernel_rfl) (by simp)), trivial⟩ ?_
  refine rt (a := Res.mk Ex.ret [V.sl 0 0 (List.length l) none] [Ob.arr 9 (List.map Entity.enc (List.take (List.length l) (l ++ List.drop (List.length l) (List.replicate (List.length l + 3) (Entity.mk 0 0 0 0 0 0 0 0 0))) ++ List.replicate 3 f)) (some 0) false]) (by kernel_rfl) ?_
  simp
theorem f_jousthelp_Plain_1_Cross (a b : Cross) : Fn cx 69 [a.enc, b.enc] (.bool (decide (a = b))) := by
  rw [← teq_cross]
  refine Wp.ev ?_
  refine gg [.w (conform cx (40 : Nat) (55 : Nat) (T.agg [ti a.kind, ti a.frm, ti a.to, ti a.frame, ti a.ent.id, ti a.ent.kind, ti a.ent.x, ti a.ent.y, ti a.ent.vx, ti a.ent.vy, ti a.ent.health, ti a.ent.age, ti a.ent.owner, ti a.x, ti a.y]) = true ∧ conform cx (40 : Nat) (55 : Nat) (T.agg [ti b.kind, ti b.frm, ti b.to, ti b.frame, ti b.ent.id, ti b.ent.kind, ti b.ent.x, ti b.ent.y, ti b.ent.vx, ti b.ent.vy, ti b.ent.health, ti b.ent.age, ti b.ent.owner, ti b.x, ti b.y]) = true)] ⟨o_w ⟨(by kernel_rfl), (by kernel_rfl)⟩, trivial⟩ ?_
  exact ge
theorem f_jousthelp_Same_loop_Cross (a b : List Cross) (g : Nat) (p : Cross → Cross → Bool) (hb : isFnB cx g = true) (hn : small a) (hl : a.length = b.length)
    (hg : ∀ x y, Fn cx g [x.enc, y.enc] (.bool (p x y))) : ∀ (d i : Nat), i + d = a.length →
    ∃ k : Nat, Is cx (.loop 68 [0, 1, 0, 1, 1] 0 [.t (.sl 15 (a.map Cross.enc)), .t (.sl 15 (b.map Cross.enc)), .t (.clo g []), vb false, vi i] [])
      (match sameL p (a.drop i) (b.drop i) with
        | true => ⟨.exit 0, [.t (.sl 15 (a.map Cross.enc)), .t (.sl 15 (b.map Cross.enc)), .t (.clo g []), vb false, vi a.length], []⟩
        | false => ⟨.ret, [.t (.sl 15 (a.map Cross.enc)), .t (.sl 15 (b.map Cross.enc)), .t (.clo g []), vb false, vi k], []⟩) := by
  unfold small at hn
  intro d
  induction d with
  | zero =>
    intro i hi
    refine ⟨0, ?_⟩
    rw [drop_end (by omega), drop_end (by omega)]
    refine Wp.ev ?_
    refine gg [.n (List.length (List.map Cross.enc a)) (List.length a), .b (decide ((↑i : Int) < (↑(List.length a) : Int))) false] ⟨o_n (by simp), fP, trivial⟩ ?_
    refine rt (a := Res.mk (Ex.exit 0) [V.t (T.sl 15 (List.map Cross.enc a)), V.t (T.sl 15 (List.map Cross.enc b)), V.t (T.clo g []), vb false, vi (↑i : Int)] []) (by kernel_rfl) ?_
    ((have hq : i = a.length := by omega); subst hq; rfl)
  | succ d ih =>
    intro i hi
    have hlt : i < a.length := by omega
    have hlt' : i < b.length := by omega
    obtain ⟨k, ih1⟩ := ih (i + 1) (by omega)
    have hy := hg (gt a i) (gt b i)
    clear ih hg
    rw [same_gt hlt hlt']
    cases hp : p (gt a i) (gt b i) with
    | true =>
      rw [hp] at hy
      refine ⟨k, ?_⟩
      rw [Bool.true_and]
      cases hq : sameL p (a.drop (i + 1)) (b.drop (i + 1)) with
      | true =>
        rw [hq] at ih1
        refine Wp.ev ?_
        refine gg [.n (List.length (List.map Cross.enc a)) (List.length a), .b (decide ((↑i : Int) < (↑(List.length a) : Int))) true, .w ((0 : Int) ≤ (↑i : Int)), .n (Int.toNat (↑i : Int)) i, .g (List.map Cross.enc a) i (Cross.enc (gt a i)), .w ((0 : Int) ≤ (↑i : Int)), .n (Int.toNat (↑i : Int)) i, .g (List.map Cross.enc b) i (Cross.enc (gt b i)), .w (isFnB cx g = true), .a _ _, .b (!true) false, .i IntKind.i64 ((↑i : Int) + 1) ((↑(i + 1) : Int)), .a _ _] ⟨o_n (by simp), tP, oW, o_n (by kernel_rfl), o_gt rfl (by assumption) (by intro h; cases h), oW, o_n (by kernel_rfl), o_gt rfl (by assumption) (by intro h; cases h), oA, o_a hy, o_b (by kernel_rfl), oI, o_a ih1, trivial⟩ ?_
        exact ge
      | false =>
        rw [hq] at ih1
        refine Wp.ev ?_
        refine gg [.n (List.length (List.map Cross.enc a)) (List.length a), .b (decide ((↑i : Int) < (↑(List.length a) : Int))) true, .w ((0 : Int) ≤ (↑i : Int)), .n (Int.toNat (↑i : Int)) i, .g (List.map Cross.enc a) i (Cross.enc (gt a i)), .w ((0 : Int) ≤ (↑i : Int)), .n (Int.toNat (↑i : Int)) i, .g (List.map Cross.enc b) i (Cross.enc (gt b i)), .w (isFnB cx g = true), .a _ _, .b (!true) false, .i IntKind.i64 ((↑i : Int) + 1) ((↑(i + 1) : Int)), .a _ _] ⟨o_n (by simp), tP, oW, o_n (by kernel_rfl), o_gt rfl (by assumption) (by intro h; cases h), oW, o_n (by kernel_rfl), o_gt rfl (by assumption) (by intro h; cases h), oA, o_a hy, o_b (by kernel_rfl), oI, o_a ih1, trivial⟩ ?_
        exact ge
    | false =>
      rw [hp] at hy
      refine ⟨i, ?_⟩
      rw [Bool.false_and]
      refine Wp.ev ?_
      refine gg [.n (List.length (List.map Cross.enc a)) (List.length a), .b (decide ((↑i : Int) < (↑(List.length a) : Int))) true, .w ((0 : Int) ≤ (↑i : Int)), .n (Int.toNat (↑i : Int)) i, .g (List.map Cross.enc a) i (Cross.enc (gt a i)), .w ((0 : Int) ≤ (↑i : Int)), .n (Int.toNat (↑i : Int)) i, .g (List.map Cross.enc b) i (Cross.enc (gt b i)), .w (isFnB cx g = true), .a _ _, .b (!false) true] ⟨o_n (by simp), tP, oW, o_n (by kernel_rfl), o_gt rfl (by assumption) (by intro h; cases h), oW, o_n (by kernel_rfl), o_gt rfl (by assumption) (by intro h; cases h), oA, o_a hy, o_b (by kernel_rfl), trivial⟩ ?_
      exact ge
theorem f_jousthelp_Same_Cross (a b : List Cross) (g : Nat) (p : Cross → Cross → Bool) (hb : isFnB cx g = true) (hn : small a)
    (hg : ∀ x y, Fn cx g [x.enc, y.enc] (.bool (p x y))) : Fn cx 68 [.sl 15 (a.map Cross.enc), .sl 15 (b.map Cross.enc), .clo g []] (.bool (decide (a.length = b.length) && sameL p a b)) := by
  by_cases hl : a.length = b.length
  · obtain ⟨k, h⟩ := f_jousthelp_Same_loop_Cross a b g p hb hn hl hg a.length 0 (by omega)
    clear hg
    rw [List.drop_zero, List.drop_zero] at h
    rw [show decide (a.length = b.length) = true by simpa using hl, Bool.true_and]
    cases hq : sameL p a b with
    | true =>
      rw [hq] at h
      refine Wp.ev ?_
      refine gg [.n (List.length (List.map Cross.enc a)) (List.length a), .n (List.length (List.map Cross.enc b)) (List.length b), .b ((↑(List.length a) : Int) != (↑(List.length b) : Int)) false, .a _ _] ⟨o_n (by simp), o_n (by simp), fN, o_a h, trivial⟩ ?_
      exact ge
    | false =>
      rw [hq] at h
      refine Wp.ev ?_
      refine gg [.n (List.length (List.map Cross.enc a)) (List.length a), .n (List.length (List.map Cross.enc b)) (List.length b), .b ((↑(List.length a) : Int) != (↑(List.length b) : Int)) false, .a _ _] ⟨o_n (by simp), o_n (by simp), fN, o_a h, trivial⟩ ?_
      exact ge
  · clear hg
    simp only [hl, decide_false, Bool.false_and]
    refine Wp.ev ?_
    refine gg [.n (List.length (List.map Cross.enc a)) (List.length a), .n (List.length (List.map Cross.enc b)) (List.length b), .b ((↑(List.length a) : Int) != (↑(List.length b) : Int)) true] ⟨o_n (by simp), o_n (by simp), tN, trivial⟩ ?_
    exact ge
theorem f_jousthelp_Plain_Cross (a b : List Cross) (hn : small a) : Fn cx 33 [.sl 15 (a.map Cross.enc), .sl 15 (b.map Cross.enc)] (.bool (plain a b)) := by
  have h := f_jousthelp_Same_Cross a b 69 (fun x y => decide (x = y)) (by kernel_rfl) hn f_jousthelp_Plain_1_Cross
  have e : (decide (a.length = b.length) && sameL (fun x y => decide (x = y)) a b) = plain a b := by
    by_cases hl : a.length = b.length
    · rw [same_eq hl]; simp [hl, plain]
    · have : a ≠ b := fun h => hl (by rw [h])
      simp [hl, plain, this]
  rw [e] at h
  refine Wp.ev ?_
  refine gg [.a _ _] ⟨o_a h, trivial⟩ ?_
  exact ge
theorem f_jousthelp_In_loop_Cross (l : List Cross) (x : Cross) (hn : small l) : ∀ (d i : Nat), i + d = l.length →
    ∃ k : Nat, Is cx (.loop 35 [0, 1, 0, 1] 0 [.t (.sl 15 (l.map Cross.enc)), .ptr 0 0 0, vb false, vi i] [.one 15 (.t x.enc) false])
      (match (l.drop i).any fun y => decide (y = x) with
        | true => ⟨.ret, [.t (.sl 15 (l.map Cross.enc)), .ptr 0 0 0, vb true, vi k], [.one 15 (.t x.enc) false]⟩
        | false => ⟨.exit 0, [.t (.sl 15 (l.map Cross.enc)), .ptr 0 0 0, vb false, vi l.length], [.one 15 (.t x.enc) false]⟩) := by
  unfold small at hn
  intro d
  induction d with
  | zero =>
    intro i hi
    refine ⟨0, ?_⟩
    rw [drop_end (by omega)]
    refine Wp.ev ?_
    refine gg [.n (List.length (List.map Cross.enc l)) (List.length l), .b (decide ((↑i : Int) < (↑(List.length l) : Int))) false] ⟨o_n (by simp), fP, trivial⟩ ?_
    refine rt (a := Res.mk (Ex.exit 0) [V.t (T.sl 15 (List.map Cross.enc l)), V.ptr 0 0 0, vb false, vi (↑i : Int)] [Ob.one 15 (V.t (Cross.enc x)) false]) (by kernel_rfl) ?_
    ((have : i = l.length := by omega); subst this; rfl)
  | succ d ih =>
    intro i hi
    have hlt : i < l.length := by omega
    obtain ⟨k, ih1⟩ := ih (i + 1) (by omega)
    clear ih
    rw [any_gt _ hlt]
    by_cases hp : gt l i = x
    · have ht : teq (gt l i).enc x.enc = true := by rw [teq_cross]; simpa using hp
      rw [show decide (gt l i = x) = true by simpa using hp, Bool.true_or]
      clear ih1
      refine ⟨i, ?_⟩
      refine Wp.ev ?_
      refine gg [.n (List.length (List.map Cross.enc l)) (List.length l), .b (decide ((↑i : Int) < (↑(List.length l) : Int))) true, .w ((0 : Int) ≤ (↑i : Int)), .n (Int.toNat (↑i : Int)) i, .g (List.map Cross.enc l) i (Cross.enc (gt l i)), .w (conform cx (40 : Nat) (55 : Nat) (T.agg [ti (gt l i).kind, ti (gt l i).frm, ti (gt l i).to, ti (gt l i).frame, ti (gt l i).ent.id, ti (gt l i).ent.kind, ti (gt l i).ent.x, ti (gt l i).ent.y, ti (gt l i).ent.vx, ti (gt l i).ent.vy, ti (gt l i).ent.health, ti (gt l i).ent.age, ti (gt l i).ent.owner, ti (gt l i).x, ti (gt l i).y]) = true ∧ conform cx (40 : Nat) (55 : Nat) (T.agg [ti x.kind, ti x.frm, ti x.to, ti x.frame, ti x.ent.id, ti x.ent.kind, ti x.ent.x, ti x.ent.y, ti x.ent.vx, ti x.ent.vy, ti x.ent.health, ti x.ent.age, ti x.ent.owner, ti x.x, ti x.y]) = true), .b (teq (Cross.enc (gt l i)) (Cross.enc x)) true] ⟨o_n (by simp), tP, oW, o_n (by kernel_rfl), o_gt rfl (by assumption) (by intro h; cases h), o_w ⟨(by kernel_rfl), (by kernel_rfl)⟩, tB, trivial⟩ ?_
      exact ge
    · have ht : teq (gt l i).enc x.enc = false := by rw [teq_cross]; simpa using hp
      rw [show decide (gt l i = x) = false by simpa using hp, Bool.false_or]
      refine ⟨k, ?_⟩
      cases hq : (l.drop (i+1)).any fun y => decide (y = x) with
      | true =>
        rw [hq] at ih1
        refine Wp.ev ?_
        refine gg [.n (List.length (List.map Cross.enc l)) (List.length l), .b (decide ((↑i : Int) < (↑(List.length l) : Int))) true, .w ((0 : Int) ≤ (↑i : Int)), .n (Int.toNat (↑i : Int)) i, .g (List.map Cross.enc l) i (Cross.enc (gt l i)), .w (conform cx (40 : Nat) (55 : Nat) (T.agg [ti (gt l i).kind, ti (gt l i).frm, ti (gt l i).to, ti (gt l i).frame, ti (gt l i).ent.id, ti (gt l i).ent.kind, ti (gt l i).ent.x, ti (gt l i).ent.y, ti (gt l i).ent.vx, ti (gt l i).ent.vy, ti (gt l i).ent.health, ti (gt l i).ent.age, ti (gt l i).ent.owner, ti (gt l i).x, ti (gt l i).y]) = true ∧ conform cx (40 : Nat) (55 : Nat) (T.agg [ti x.kind, ti x.frm, ti x.to, ti x.frame, ti x.ent.id, ti x.ent.kind, ti x.ent.x, ti x.ent.y, ti x.ent.vx, ti x.ent.vy, ti x.ent.health, ti x.ent.age, ti x.ent.owner, ti x.x, ti x.y]) = true), .b (teq (Cross.enc (gt l i)) (Cross.enc x)) false, .i IntKind.i64 ((↑i : Int) + 1) ((↑(i + 1) : Int)), .a _ _] ⟨o_n (by simp), tP, oW, o_n (by kernel_rfl), o_gt rfl (by assumption) (by intro h; cases h), o_w ⟨(by kernel_rfl), (by kernel_rfl)⟩, fB, oI, o_a ih1, trivial⟩ ?_
        exact ge
      | false =>
        rw [hq] at ih1
        refine Wp.ev ?_
        refine gg [.n (List.length (List.map Cross.enc l)) (List.length l), .b (decide ((↑i : Int) < (↑(List.length l) : Int))) true, .w ((0 : Int) ≤ (↑i : Int)), .n (Int.toNat (↑i : Int)) i, .g (List.map Cross.enc l) i (Cross.enc (gt l i)), .w (conform cx (40 : Nat) (55 : Nat) (T.agg [ti (gt l i).kind, ti (gt l i).frm, ti (gt l i).to, ti (gt l i).frame, ti (gt l i).ent.id, ti (gt l i).ent.kind, ti (gt l i).ent.x, ti (gt l i).ent.y, ti (gt l i).ent.vx, ti (gt l i).ent.vy, ti (gt l i).ent.health, ti (gt l i).ent.age, ti (gt l i).ent.owner, ti (gt l i).x, ti (gt l i).y]) = true ∧ conform cx (40 : Nat) (55 : Nat) (T.agg [ti x.kind, ti x.frm, ti x.to, ti x.frame, ti x.ent.id, ti x.ent.kind, ti x.ent.x, ti x.ent.y, ti x.ent.vx, ti x.ent.vy, ti x.ent.health, ti x.ent.age, ti x.ent.owner, ti x.x, ti x.y]) = true), .b (teq (Cross.enc (gt l i)) (Cross.enc x)) false, .i IntKind.i64 ((↑i : Int) + 1) ((↑(i + 1) : Int)), .a _ _] ⟨o_n (by simp), tP, oW, o_n (by kernel_rfl), o_gt rfl (by assumption) (by intro h; cases h), o_w ⟨(by kernel_rfl), (by kernel_rfl)⟩, fB, oI, o_a ih1, trivial⟩ ?_
        exact ge
theorem f_jousthelp_Own_loop_Cross (f : Cross) (n : Nat) (hn : n ≤ 1000) : ∀ (d i : Nat) (A : List Cross), i + d = n + 3 → A.length = n + 3 →
    Is cx (.loop 37 [0, 1, 0, 1, 1, 1, 1] 0 [.ptr 0 0 0, .sl 1 0 n none, .sl 1 0 (n + 3) none, vi i] [.one 15 (.t f.enc) false, .arr 15 (A.map Cross.enc) (some 0) false])
      ⟨.exit 0, [.ptr 0 0 0, .sl 1 0 n none, .sl 1 0 (n + 3) none, vi (n + 3 : Nat)], [.one 15 (.t f.enc) false, .arr 15 ((A.take i ++ List.replicate d f).map Cross.enc) (some 0) false]⟩ := by
  intro d
  induction d with
  | zero =>
    intro i A hi hA
    have hq : i = n + 3 := by omega
    subst hq
    rw [List.take_of_length_le (by omega)]
    refine Wp.ev ?_
    refine gg [.l (n + 3), .b (decide ((↑(n + 3) : Int) < (↑(n + 3) : Int))) false] ⟨fP, trivial⟩ ?_
    refine rt (a := Res.mk (Ex.exit 0) [V.ptr 0 0 0, V.sl 1 0 n none, V.sl 1 0 (n + 3) none, vi (↑(n + 3) : Int)] [Ob.one 15 (V.t (Cross.enc f)) false, Ob.arr 15 (List.map Cross.enc A) (some 0) false]) (by kernel_rfl) ?_
    simp
  | succ d ih =>
    intro i A hi hA
    have ih1 := ih (i + 1) (A.set i f) (by omega) (by simpa using hA)
    clear ih
    have e : (A.set i f).take (i + 1) ++ List.replicate d f = A.take i ++ List.replicate (d + 1) f := by
      rw [List.take_add_one, List.replicate_succ]
      simp [List.getElem?_set, List.take_set_of_le, show i < A.length by omega]
    rw [e] at ih1
    refine Wp.ev ?_
    refine gg [.l (n + 3), .b (decide ((↑i : Int) < (↑(n + 3) : Int))) true, .w ((0 : Int) ≤ (↑i : Int)), .n (Int.toNat (↑i : Int)) i, .w (i < n + (3 : Nat)), .n (0 + i) i, .w (i < List.length (List.map Cross.enc A)), .t (T.sl 0 (List.set (List.map Cross.enc A) i (Cross.enc f))) (T.sl 0 (List.map Cross.enc (List.set A i f))), .i IntKind.i64 ((↑i : Int) + 1) ((↑(i + 1) : Int)), .a _ _] ⟨tP, oW, o_n (by kernel_rfl), oW, oN, o_w (by (simp; omega)), o_l (nm_set rfl rfl), oI, o_a ih1, trivial⟩ ?_
    exact ge
theorem f_jousthelp_Own_Cross (l : List Cross) (f : Cross) (hn : l.length ≤ 1000) : Is cx (.call 37 [.t (.sl 15 (l.map Cross.enc)), .t f.enc] []) ⟨.ret, [.sl 0 0 l.length none], [.arr 15 ((l ++ [f, f, f]).map Cross.enc) (some 0) false]⟩ := by
  have h := f_jousthelp_Own_loop_Cross f l.length hn 3 l.length
  refine Wp.ev ?_
  refine gg [.n (List.length (List.map Cross.enc l)) (List.length l), .i IntKind.i64 ((↑(List.length l) : Int) + 3) ((↑(List.length l + 3) : Int)), .w ((0 : Int) ≤ (0 : Int) ∧ (0 : Int) ≤ (↑(List.length l + (3 : Nat)) : Int) ∧ room (Int.toNat (↑(List.length l + (3 : Nat)) : Int)) (120 : Nat)), .n (Int.toNat (↑(List.length l + 3) : Int)) (List.length l + 3), .l 0, .w ((0 : Nat) < (120 : Nat)), .s (T.sl 0 (List.map Cross.enc l)), .b (decide (0 = 0)) true, .b (decide (0 + List.length (List.map Cross.enc l) ≤ List.length (List.replicate (List.length l + 3) (T.agg [ti 0, ti 0, ti 0, ti 0, ti 0, ti 0, ti 0, ti 0, ti 0, ti 0, ti 0, ti 0, ti 0, ti 0, ti 0])))) true, .t (T.sl 0 (List.take 0 (List.replicate (List.length l + 3) (T.agg [ti 0, ti 0, ti 0, ti 0, ti 0, ti 0, ti 0, ti 0, ti 0, ti 0, ti 0, ti 0, ti 0, ti 0, ti 0])) ++ List.map Cross.enc l ++ List.drop (0 + List.length (List.map Cross.enc l)) (List.replicate (List.length l + 3) (T.agg [ti 0, ti 0, ti 0, ti 0, ti 0, ti 0, ti 0, ti 0, ti 0, ti 0, ti 0, ti 0, ti 0, ti 0, ti 0])))) (T.sl 0 (List.map Cross.enc (l ++ List.drop (List.length l) (List.replicate (List.length l + 3) (Cross.mk 0 0 0 0 (Entity.mk 0 0 0 0 0 0 0 0 0) 0 0))))), .n (0 + List.length (List.map Cross.enc l)) (List.length l), .n (List.length (List.map Cross.enc l)) (List.length l), .i IntKind.i64 ((↑(List.length l) : Int) + 3) ((↑(List.length l + 3) : Int)), .w ((0 : Int) ≤ (↑(List.length l + (3 : Nat)) : Int)), .n (Int.toNat (↑(List.length l + 3) : Int)) (List.length l + 3), .b (decide (0 = 0)) true] ⟨o_n (by simp), o_i (w64 (by (simp [room, appendMax]; omega))), o_w ⟨(by omega), ⟨(by (simp [room, appendMax]; omega)), (by (simp [room, appendMax]; omega))⟩⟩, o_n (by kernel_rfl), oW, o_b (by kernel_rfl), t_brp (by simp), o_l (nm_eq (nm_app (nm_app (nm_take (nm_rep (e := Cross.mk 0 0 0 0 (Entity.mk 0 0 0 0 0 0 0 0 0) 0 0) rfl)) rfl) (nm_drop (nm_rep (e := Cross.mk 0 0 0 0 (Entity.mk 0 0 0 0 0 0 0 0 0) 0 0) rfl))) (by simp)), o_n (by simp), o_n (by simp), o_i (w64 (by (simp [room, appendMax]; omega))), o_w (by (simp [room, appendMax]; omega)), o_n (by kernel_rfl), o_b (by kernel_rfl), trivial⟩ ?_
  refine gg [.w ((0 : Nat) ≤ List.length l + (3 : Nat) ∧ (0 : Nat) + (List.length l + (3 : Nat)) ≤ List.length (List.map Cross.enc (l ++ List.drop (List.length l) (List.replicate (List.length l + (3 : Nat)) (Cross.mk (0 : Int) (0 : Int) (0 : Int) (0 : Int) (Entity.mk (0 : Int) (0 : Int) (0 : Int) (0 : Int) (0 : Int) (0 : Int) (0 : Int) (0 : Int) (0 : Int)) (0 : Int) (0 : Int)))))), .l 0, .n (List.length l + 3 - 0) (List.length l + 3), .n (List.length (List.map Cross.enc l)) (List.length l), .a _ _] ⟨o_w ⟨(by omega), (by simp)⟩, o_n (by kernel_rfl), o_n (by simp), o_a (h (l ++ List.drop (List.length l) (List.replicate (List.length l + 3) (Cross.mk 0 0 0 0 (Entity.mk 0 0 0 0 0 0 0 0 0) 0 0))) (by kernel_rfl) (by simp)), trivial⟩ ?_
  refine rt (a := Res.mk Ex.ret [V.sl 0 0 (List.length l) none] [Ob.arr 15 (List.map Cross.enc (List.take (List.length l) (l ++ List.drop (List.length l) (List.replicate (List.length l + 3) (Cross.mk 0 0 0 0 (Entity.mk 0 0 0 0 0 0 0 0 0) 0 0))) ++ List.replicate 3 f)) (some 0) false]) (by kernel_rfl) ?_
  simp
end Go.Eva.S1

/- Which entities are right; the statements of the entities. -/
namespace Go.Eva.S1
theorem f_entity_pace (v : Int) : Fn cx 61 [ti v] (.bool (pace v)) := by
  refine Wp.ev ?_
  refine bre (x := v) (y := 0) (by kernel_rfl) (fun h1 => ?_) (fun h1 => ?_)
  · refine gg [.tt, .tt, .tt, .tt, .tt] trivial ?_
    refine rt (a := Res.mk Ex.ret [vb true] []) (by kernel_rfl) ?_
    simp_all [pace, beqd]
  · refine gg [.ff, .ff] trivial ?_
    refine bre (x := v) (y := 160) (by kernel_rfl) (fun h2 => ?_) (fun h2 => ?_)
    · refine gg [.tt, .tt] trivial ?_
      refine rt (a := Res.mk Ex.ret [vb true] []) (by kernel_rfl) ?_
      simp_all [pace, beqd]
    · refine gg [.ff, .ff] trivial ?_
      refine rt (a := Res.mk Ex.ret [vb (v == -160)] []) (by kernel_rfl) ?_
      simp_all [pace, beqd]
theorem f_joustref05_step (v : Int) : Fn cx 64 [ti v] (.bool (pace v)) := by
  refine Wp.ev ?_
  refine bre (x := v) (y := -160) (by kernel_rfl) (fun h1 => ?_) (fun h1 => ?_)
  · refine gg [.tt, .tt, .tt, .tt, .tt] trivial ?_
    refine rt (a := Res.mk Ex.ret [vb true] []) (by kernel_rfl) ?_
    (simp_all [pace, beqd])
  · refine gg [.ff, .ff] trivial ?_
    refine bre (x := v) (y := 0) (by kernel_rfl) (fun h2 => ?_) (fun h2 => ?_)
    · refine gg [.tt, .tt] trivial ?_
      refine rt (a := Res.mk Ex.ret [vb true] []) (by kernel_rfl) ?_
      (simp_all [pace, beqd])
    · refine gg [.ff, .ff] trivial ?_
      refine rt (a := Res.mk Ex.ret [vb (v == 160)] []) (by kernel_rfl) ?_
      (simp_all [pace, beqd])
theorem f_entity_Right (c : Config) (e : Entity) : Fn cx 22 [c.enc, e.enc] (.bool (e.right c)) := by
  refine Wp.ev ?_
  refine gg [.a _ _] ⟨o_a (f_grid_Inside c e.x e.y), trivial⟩ ?_
  refine brnot (b := Config.inside c e.x e.y) (by kernel_rfl) (fun h1 => ?_) (fun h1 => ?_)
  · refine rt (a := Res.mk Ex.ret [vb false] []) (by kernel_rfl) ?_
    simp_all [Entity.right, beqd, bned]
  · refine gg [.a _ _] ⟨o_a (f_entity_within e.id 1000 2147483647), trivial⟩ ?_
    refine br (b := within e.id 1000 2147483647) (by kernel_rfl) (fun h2 => ?_) (fun h2 => ?_)
    · refine gg [.tt, .tt, .tt] trivial ?_
      refine bre (x := e.kind) (y := 1) (by kernel_rfl) (fun h3 => ?_) (fun h3 => ?_)
      · refine gg [.a _ _] ⟨o_a (f_entity_within e.id 1 c.players), trivial⟩ ?_
        refine br (b := within e.id 1 c.players) (by kernel_rfl) (fun h4 => ?_) (fun h4 => ?_)
        · refine gg [.tt, .tt, .a _ _, .tt] ⟨o_a (f_entity_within e.vx (-64) 64), trivial⟩ ?_
          refine br (b := within e.vx (-64) 64) (by kernel_rfl) (fun h5 => ?_) (fun h5 => ?_)
          · refine gg [.tt, .tt, .a _ _, .tt] ⟨o_a (f_entity_within e.vy (-64) 64), trivial⟩ ?_
            refine br (b := within e.vy (-64) 64) (by kernel_rfl) (fun h6 => ?_) (fun h6 => ?_)
            · refine gg [.tt, .tt, .a _ _, .tt] ⟨o_a (f_entity_within e.health 1 100), trivial⟩ ?_
              refine br (b := within e.health 1 100) (by kernel_rfl) (fun h7 => ?_) (fun h7 => ?_)
              · refine gg [.tt, .tt, .a _ _, .tt] ⟨o_a (f_entity_within e.age 0 6), trivial⟩ ?_
                refine br (b := within e.age 0 6) (by kernel_rfl) (fun h8 => ?_) (fun h8 => ?_)
                · refine gg [.tt, .tt, .tt] trivial ?_
                  refine rt (a := Res.mk Ex.ret [vb (e.owner == 0)] []) (by kernel_rfl) ?_
                  simp_all [Entity.right, beqd, bned]
                · refine gg [.ff, .ff, .ff] trivial ?_
                  refine rt (a := Res.mk Ex.ret [vb false] []) (by kernel_rfl) ?_
                  simp_all [Entity.right, beqd, bned]
              · refine gg [.ff, .ff, .ff, .ff, .ff, .ff, .ff] trivial ?_
                refine rt (a := Res.mk Ex.ret [vb false] []) (by kernel_rfl) ?_
                simp_all [Entity.right, beqd, bned]
            · refine gg [.ff, .ff, .ff, .ff, .ff, .ff, .ff, .ff, .ff, .ff, .ff] trivial ?_
              refine rt (a := Res.mk Ex.ret [vb false] []) (by kernel_rfl) ?_
              simp_all [Entity.right, beqd, bned]
          · refine gg [.ff, .ff, .ff, .ff, .ff, .ff, .ff, .ff, .ff, .ff, .ff, .ff, .ff, .ff, .ff] trivial ?_
            refine rt (a := Res.mk Ex.ret [vb false] []) (by kernel_rfl) ?_
            simp_all [Entity.right, beqd, bned]
        · refine gg [.ff, .ff, .ff, .ff, .ff, .ff, .ff, .ff, .ff, .ff, .ff, .ff, .ff, .ff, .ff, .ff] trivial ?_
          refine gg [.ff, .ff, .ff] trivial ?_
          refine rt (a := Res.mk Ex.ret [vb false] []) (by kernel_rfl) ?_
          simp_all [Entity.right, beqd, bned]
      · refine bre (x := e.kind) (y := 2) (by kernel_rfl) (fun h4 => ?_) (fun h4 => ?_)
        · refine bre (x := e.health) (y := 1) (by kernel_rfl) (fun h5 => ?_) (fun h5 => ?_)
          · refine gg [.tt, .tt, .a _ _, .tt] ⟨o_a (f_entity_pace e.vx), trivial⟩ ?_
            refine br (b := pace e.vx) (by kernel_rfl) (fun h6 => ?_) (fun h6 => ?_)
            · refine gg [.tt, .tt, .a _ _, .tt] ⟨o_a (f_entity_pace e.vy), trivial⟩ ?_
              refine br (b := pace e.vy) (by kernel_rfl) (fun h7 => ?_) (fun h7 => ?_)
              · refine gg [.tt, .tt, .tt] trivial ?_
                refine brn (x := e.vx) (y := 0) (by kernel_rfl) (fun h8 => ?_) (fun h8 => ?_)
                · refine gg [.tt, .tt, .tt, .tt, .tt, .tt, .tt, .tt, .a _ _, .tt] ⟨o_a (f_entity_within e.age 0 12), trivial⟩ ?_
                  refine br (b := within e.age 0 12) (by kernel_rfl) (fun h9 => ?_) (fun h9 => ?_)
                  · refine gg [.tt, .tt, .tt, .tt, .tt, .a _ _, .tt] ⟨o_a (f_entity_within e.owner 1 c.players), trivial⟩ ?_
                    refine rt (a := Res.mk Ex.ret [vb (within e.owner 1 c.players)] []) (by kernel_rfl) ?_
                    simp_all [Entity.right, beqd, bned]
                  · refine gg [.ff, .ff, .ff, .ff, .ff, .ff] trivial ?_
                    refine rt (a := Res.mk Ex.ret [vb false] []) (by kernel_rfl) ?_
                    simp_all [Entity.right, beqd, bned]
                · refine gg [.ff, .ff, .tt, .ff, .tt] trivial ?_
                  refine brn (x := e.vy) (y := 0) (by kernel_rfl) (fun h9 => ?_) (fun h9 => ?_)
                  · refine gg [.tt, .tt, .a _ _, .tt] ⟨o_a (f_entity_within e.age 0 12), trivial⟩ ?_
                    refine br (b := within e.age 0 12) (by kernel_rfl) (fun h10 => ?_) (fun h10 => ?_)
                    · refine gg [.tt, .tt, .tt, .tt, .tt, .a _ _, .tt] ⟨o_a (f_entity_within e.owner 1 c.players), trivial⟩ ?_
                      refine rt (a := Res.mk Ex.ret [vb (within e.owner 1 c.players)] []) (by kernel_rfl) ?_
                      simp_all [Entity.right, beqd, bned]
                    · refine gg [.ff, .ff, .ff, .ff, .ff, .ff] trivial ?_
                      refine rt (a := Res.mk Ex.ret [vb false] []) (by kernel_rfl) ?_
                      simp_all [Entity.right, beqd, bned]
                  · refine gg [.ff, .ff, .ff, .ff, .ff, .ff, .ff, .ff, .ff, .ff] trivial ?_
                    refine rt (a := Res.mk Ex.ret [vb false] []) (by kernel_rfl) ?_
                    simp_all [Entity.right, beqd, bned]
              · refine gg [.ff, .ff, .ff, .ff, .ff, .ff, .ff, .ff, .ff, .ff, .ff, .ff, .ff, .ff, .ff, .ff] trivial ?_
                refine rt (a := Res.mk Ex.ret [vb false] []) (by kernel_rfl) ?_
                simp_all [Entity.right, beqd, bned]
            · refine gg [.ff, .ff, .ff, .ff, .ff, .ff, .ff, .ff, .ff, .ff, .ff, .ff, .ff, .ff, .ff, .ff] trivial ?_
              refine gg [.ff, .ff, .ff, .ff] trivial ?_
              refine rt (a := Res.mk Ex.ret [vb false] []) (by kernel_rfl) ?_
              simp_all [Entity.right, beqd, bned]
          · refine gg [.ff, .ff, .ff, .ff, .ff, .ff, .ff, .ff, .ff, .ff, .ff, .ff, .ff, .ff, .ff, .ff] trivial ?_
            refine gg [.ff, .ff, .ff, .ff, .ff, .ff, .ff, .ff] trivial ?_
            refine rt (a := Res.mk Ex.ret [vb false] []) (by kernel_rfl) ?_
            simp_all [Entity.right, beqd, bned]
        · refine bre (x := e.kind) (y := 3) (by kernel_rfl) (fun h5 => ?_) (fun h5 => ?_)
          · refine bre (x := e.health) (y := 1) (by kernel_rfl) (fun h6 => ?_) (fun h6 => ?_)
            · refine gg [.tt, .tt, .tt] trivial ?_
              refine bre (x := e.vx) (y := 0) (by kernel_rfl) (fun h7 => ?_) (fun h7 => ?_)
              · refine gg [.tt, .tt, .tt] trivial ?_
                refine bre (x := e.vy) (y := 0) (by kernel_rfl) (fun h8 => ?_) (fun h8 => ?_)
                · refine gg [.tt, .tt, .tt] trivial ?_
                  refine bre (x := e.age) (y := 0) (by kernel_rfl) (fun h9 => ?_) (fun h9 => ?_)
                  · refine gg [.tt, .tt, .tt] trivial ?_
                    refine rt (a := Res.mk Ex.ret [vb (e.owner == 0)] []) (by kernel_rfl) ?_
                    simp_all [Entity.right, beqd, bned]
                  · refine gg [.ff, .ff, .ff] trivial ?_
                    refine rt (a := Res.mk Ex.ret [vb false] []) (by kernel_rfl) ?_
                    simp_all [Entity.right, beqd, bned]
                · refine gg [.ff, .ff, .ff, .ff, .ff, .ff, .ff] trivial ?_
                  refine rt (a := Res.mk Ex.ret [vb false] []) (by kernel_rfl) ?_
                  simp_all [Entity.right, beqd, bned]
              · refine gg [.ff, .ff, .ff, .ff, .ff, .ff, .ff, .ff, .ff, .ff, .ff] trivial ?_
                refine rt (a := Res.mk Ex.ret [vb false] []) (by kernel_rfl) ?_
                simp_all [Entity.right, beqd, bned]
            · refine gg [.ff, .ff, .ff, .ff, .ff, .ff, .ff, .ff, .ff, .ff, .ff, .ff, .ff, .ff, .ff] trivial ?_
              refine rt (a := Res.mk Ex.ret [vb false] []) (by kernel_rfl) ?_
              simp_all [Entity.right, beqd, bned]
          · refine rt (a := Res.mk Ex.ret [vb false] []) (by kernel_rfl) ?_
            simp_all [Entity.right, beqd, bned]
    · refine gg [.ff, .ff, .ff] trivial ?_
      refine bre (x := e.kind) (y := 1) (by kernel_rfl) (fun h3 => ?_) (fun h3 => ?_)
      · refine gg [.a _ _] ⟨o_a (f_entity_within e.id 1 c.players), trivial⟩ ?_
        refine br (b := within e.id 1 c.players) (by kernel_rfl) (fun h4 => ?_) (fun h4 => ?_)
        · refine gg [.tt, .tt, .a _ _, .tt] ⟨o_a (f_entity_within e.vx (-64) 64), trivial⟩ ?_
          refine br (b := within e.vx (-64) 64) (by kernel_rfl) (fun h5 => ?_) (fun h5 => ?_)
          · refine gg [.tt, .tt, .a _ _, .tt] ⟨o_a (f_entity_within e.vy (-64) 64), trivial⟩ ?_
            refine br (b := within e.vy (-64) 64) (by kernel_rfl) (fun h6 => ?_) (fun h6 => ?_)
            · refine gg [.tt, .tt, .a _ _, .tt] ⟨o_a (f_entity_within e.health 1 100), trivial⟩ ?_
              refine br (b := within e.health 1 100) (by kernel_rfl) (fun h7 => ?_) (fun h7 => ?_)
              · refine gg [.tt, .tt, .a _ _, .tt] ⟨o_a (f_entity_within e.age 0 6), trivial⟩ ?_
                refine br (b := within e.age 0 6) (by kernel_rfl) (fun h8 => ?_) (fun h8 => ?_)
                · refine gg [.tt, .tt, .tt] trivial ?_
                  refine rt (a := Res.mk Ex.ret [vb (e.owner == 0)] []) (by kernel_rfl) ?_
                  simp_all [Entity.right, beqd, bned]
                · refine gg [.ff, .ff, .ff] trivial ?_
                  refine rt (a := Res.mk Ex.ret [vb false] []) (by kernel_rfl) ?_
                  simp_all [Entity.right, beqd, bned]
              · refine gg [.ff, .ff, .ff, .ff, .ff, .ff, .ff] trivial ?_
                refine rt (a := Res.mk Ex.ret [vb false] []) (by kernel_rfl) ?_
                simp_all [Entity.right, beqd, bned]
            · refine gg [.ff, .ff, .ff, .ff, .ff, .ff, .ff, .ff, .ff, .ff, .ff] trivial ?_
              refine rt (a := Res.mk Ex.ret [vb false] []) (by kernel_rfl) ?_
              simp_all [Entity.right, beqd, bned]
          · refine gg [.ff, .ff, .ff, .ff, .ff, .ff, .ff, .ff, .ff, .ff, .ff, .ff, .ff, .ff, .ff] trivial ?_
            refine rt (a := Res.mk Ex.ret [vb false] []) (by kernel_rfl) ?_
            simp_all [Entity.right, beqd, bned]
        · refine gg [.ff, .ff, .ff, .ff, .ff, .ff, .ff, .ff, .ff, .ff, .ff, .ff, .ff, .ff, .ff, .ff] trivial ?_
          refine gg [.ff, .ff, .ff] trivial ?_
          refine rt (a := Res.mk Ex.ret [vb false] []) (by kernel_rfl) ?_
          simp_all [Entity.right, beqd, bned]
      · refine bre (x := e.kind) (y := 2) (by kernel_rfl) (fun h4 => ?_) (fun h4 => ?_)
        · refine gg [.ff, .ff, .ff, .ff, .ff, .ff, .ff, .ff, .ff, .ff, .ff, .ff, .ff, .ff, .ff, .ff] trivial ?_
          refine gg [.ff, .ff, .ff, .ff, .ff, .ff, .ff, .ff, .ff] trivial ?_
          refine rt (a := Res.mk Ex.ret [vb false] []) (by kernel_rfl) ?_
          simp_all [Entity.right, beqd, bned]
        · refine bre (x := e.kind) (y := 3) (by kernel_rfl) (fun h5 => ?_) (fun h5 => ?_)
          · refine gg [.ff, .ff, .ff, .ff, .ff, .ff, .ff, .ff, .ff, .ff, .ff, .ff, .ff, .ff, .ff, .ff] trivial ?_
            refine rt (a := Res.mk Ex.ret [vb false] []) (by kernel_rfl) ?_
            simp_all [Entity.right, beqd, bned]
          · refine rt (a := Res.mk Ex.ret [vb false] []) (by kernel_rfl) ?_
            simp_all [Entity.right, beqd, bned]
theorem f_joustref05_Right (c : Config) (e : Entity) : Fn cx 25 [c.enc, e.enc] (.bool (e.right c)) := by
  refine Wp.ev ?_
  refine gg [.a _ _] ⟨o_a (f_joustref03_Inside c e.x e.y), trivial⟩ ?_
  refine brnot (b := Config.inside c e.x e.y) (by kernel_rfl) (fun h1 => ?_) (fun h1 => ?_)
  · refine rt (a := Res.mk Ex.ret [vb false] []) (by kernel_rfl) ?_
    simp_all [Entity.right, beqd, bned]
  · refine gg [.a _ _] ⟨o_a (f_joustref05_within e.id 1000 2147483647), trivial⟩ ?_
    refine bre (x := e.kind) (y := 1) (by kernel_rfl) (fun h2 => ?_) (fun h2 => ?_)
    · refine gg [.a _ _] ⟨o_a (f_joustref05_within e.id 1 c.players), trivial⟩ ?_
      refine br (b := within e.id 1 c.players) (by kernel_rfl) (fun h3 => ?_) (fun h3 => ?_)
      · refine gg [.tt, .tt, .a _ _, .tt] ⟨o_a (f_joustref05_within e.vx (-64) 64), trivial⟩ ?_
        refine br (b := within e.vx (-64) 64) (by kernel_rfl) (fun h4 => ?_) (fun h4 => ?_)
        · refine gg [.tt, .tt, .a _ _, .tt] ⟨o_a (f_joustref05_within e.vy (-64) 64), trivial⟩ ?_
          refine br (b := within e.vy (-64) 64) (by kernel_rfl) (fun h5 => ?_) (fun h5 => ?_)
          · refine gg [.tt, .tt, .a _ _, .tt] ⟨o_a (f_joustref05_within e.health 1 100), trivial⟩ ?_
            refine br (b := within e.health 1 100) (by kernel_rfl) (fun h6 => ?_) (fun h6 => ?_)
            · refine gg [.tt, .tt, .a _ _, .tt] ⟨o_a (f_joustref05_within e.age 0 6), trivial⟩ ?_
              refine br (b := within e.age 0 6) (by kernel_rfl) (fun h7 => ?_) (fun h7 => ?_)
              · refine gg [.tt, .tt, .tt] trivial ?_
                refine rt (a := Res.mk Ex.ret [vb (e.owner == 0)] []) (by kernel_rfl) ?_
                simp_all [Entity.right, beqd, bned]
              · refine gg [.ff, .ff, .ff] trivial ?_
                refine rt (a := Res.mk Ex.ret [vb false] []) (by kernel_rfl) ?_
                simp_all [Entity.right, beqd, bned]
            · refine gg [.ff, .ff, .ff, .ff, .ff, .ff, .ff] trivial ?_
              refine rt (a := Res.mk Ex.ret [vb false] []) (by kernel_rfl) ?_
              simp_all [Entity.right, beqd, bned]
          · refine gg [.ff, .ff, .ff, .ff, .ff, .ff, .ff, .ff, .ff, .ff, .ff] trivial ?_
            refine rt (a := Res.mk Ex.ret [vb false] []) (by kernel_rfl) ?_
            simp_all [Entity.right, beqd, bned]
        · refine gg [.ff, .ff, .ff, .ff, .ff, .ff, .ff, .ff, .ff, .ff, .ff, .ff, .ff, .ff, .ff] trivial ?_
          refine rt (a := Res.mk Ex.ret [vb false] []) (by kernel_rfl) ?_
          simp_all [Entity.right, beqd, bned]
      · refine gg [.ff, .ff, .ff, .ff, .ff, .ff, .ff, .ff, .ff, .ff, .ff, .ff, .ff, .ff, .ff, .ff] trivial ?_
        refine gg [.ff, .ff, .ff] trivial ?_
        refine rt (a := Res.mk Ex.ret [vb false] []) (by kernel_rfl) ?_
        simp_all [Entity.right, beqd, bned]
    · refine bre (x := e.kind) (y := 2) (by kernel_rfl) (fun h3 => ?_) (fun h3 => ?_)
      · refine br (b := within e.id 1000 2147483647) (by kernel_rfl) (fun h4 => ?_) (fun h4 => ?_)
        · refine gg [.tt, .tt, .a _ _, .tt] ⟨o_a (f_joustref05_step e.vx), trivial⟩ ?_
          refine br (b := pace e.vx) (by kernel_rfl) (fun h5 => ?_) (fun h5 => ?_)
          · refine gg [.tt, .tt, .a _ _, .tt] ⟨o_a (f_joustref05_step e.vy), trivial⟩ ?_
            refine br (b := pace e.vy) (by kernel_rfl) (fun h6 => ?_) (fun h6 => ?_)
            · refine gg [.tt, .tt, .tt] trivial ?_
              refine brn (x := e.vx) (y := 0) (by kernel_rfl) (fun h7 => ?_) (fun h7 => ?_)
              · refine gg [.tt, .tt, .tt, .tt, .tt, .tt, .tt, .tt, .tt] trivial ?_
                refine bre (x := e.health) (y := 1) (by kernel_rfl) (fun h8 => ?_) (fun h8 => ?_)
                · refine gg [.tt, .tt, .a _ _, .tt] ⟨o_a (f_joustref05_within e.age 0 12), trivial⟩ ?_
                  refine br (b := within e.age 0 12) (by kernel_rfl) (fun h9 => ?_) (fun h9 => ?_)
                  · refine gg [.tt, .tt, .tt, .tt, .a _ _, .tt] ⟨o_a (f_joustref05_within e.owner 1 c.players), trivial⟩ ?_
                    refine rt (a := Res.mk Ex.ret [vb (within e.owner 1 c.players)] []) (by kernel_rfl) ?_
                    simp_all [Entity.right, beqd, bned]
                  · refine gg [.ff, .ff, .ff, .ff, .ff] trivial ?_
                    refine rt (a := Res.mk Ex.ret [vb false] []) (by kernel_rfl) ?_
                    simp_all [Entity.right, beqd, bned]
                · refine gg [.ff, .ff, .ff, .ff, .ff, .ff, .ff, .ff, .ff] trivial ?_
                  refine rt (a := Res.mk Ex.ret [vb false] []) (by kernel_rfl) ?_
                  simp_all [Entity.right, beqd, bned]
              · refine gg [.ff, .ff, .tt, .ff, .tt] trivial ?_
                refine brn (x := e.vy) (y := 0) (by kernel_rfl) (fun h8 => ?_) (fun h8 => ?_)
                · refine gg [.tt, .tt, .tt] trivial ?_
                  refine bre (x := e.health) (y := 1) (by kernel_rfl) (fun h9 => ?_) (fun h9 => ?_)
                  · refine gg [.tt, .tt, .a _ _, .tt] ⟨o_a (f_joustref05_within e.age 0 12), trivial⟩ ?_
                    refine br (b := within e.age 0 12) (by kernel_rfl) (fun h10 => ?_) (fun h10 => ?_)
                    · refine gg [.tt, .tt, .tt, .tt, .a _ _, .tt] ⟨o_a (f_joustref05_within e.owner 1 c.players), trivial⟩ ?_
                      refine rt (a := Res.mk Ex.ret [vb (within e.owner 1 c.players)] []) (by kernel_rfl) ?_
                      simp_all [Entity.right, beqd, bned]
                    · refine gg [.ff, .ff, .ff, .ff, .ff] trivial ?_
                      refine rt (a := Res.mk Ex.ret [vb false] []) (by kernel_rfl) ?_
                      simp_all [Entity.right, beqd, bned]
                  · refine gg [.ff, .ff, .ff, .ff, .ff, .ff, .ff, .ff, .ff] trivial ?_
                    refine rt (a := Res.mk Ex.ret [vb false] []) (by kernel_rfl) ?_
                    simp_all [Entity.right, beqd, bned]
                · refine gg [.ff, .ff, .ff, .ff, .ff, .ff, .ff, .ff, .ff, .ff, .ff, .ff, .ff] trivial ?_
                  refine rt (a := Res.mk Ex.ret [vb false] []) (by kernel_rfl) ?_
                  simp_all [Entity.right, beqd, bned]
            · refine gg [.ff, .ff, .ff, .ff, .ff, .ff, .ff, .ff, .ff, .ff, .ff, .ff, .ff, .ff, .ff, .ff] trivial ?_
              refine gg [.ff, .ff, .ff] trivial ?_
              refine rt (a := Res.mk Ex.ret [vb false] []) (by kernel_rfl) ?_
              simp_all [Entity.right, beqd, bned]
          · refine gg [.ff, .ff, .ff, .ff, .ff, .ff, .ff, .ff, .ff, .ff, .ff, .ff, .ff, .ff, .ff, .ff] trivial ?_
            refine gg [.ff, .ff, .ff, .ff, .ff, .ff, .ff] trivial ?_
            refine rt (a := Res.mk Ex.ret [vb false] []) (by kernel_rfl) ?_
            simp_all [Entity.right, beqd, bned]
        · refine gg [.ff, .ff, .ff, .ff, .ff, .ff, .ff, .ff, .ff, .ff, .ff, .ff, .ff, .ff, .ff, .ff] trivial ?_
          refine gg [.ff, .ff, .ff, .ff, .ff, .ff, .ff, .ff, .ff, .ff, .ff] trivial ?_
          refine rt (a := Res.mk Ex.ret [vb false] []) (by kernel_rfl) ?_
          simp_all [Entity.right, beqd, bned]
      · refine bre (x := e.kind) (y := 3) (by kernel_rfl) (fun h4 => ?_) (fun h4 => ?_)
        · refine br (b := within e.id 1000 2147483647) (by kernel_rfl) (fun h5 => ?_) (fun h5 => ?_)
          · refine gg [.tt, .tt, .tt] trivial ?_
            refine bre (x := e.vx) (y := 0) (by kernel_rfl) (fun h6 => ?_) (fun h6 => ?_)
            · refine gg [.tt, .tt, .tt] trivial ?_
              refine bre (x := e.vy) (y := 0) (by kernel_rfl) (fun h7 => ?_) (fun h7 => ?_)
              · refine gg [.tt, .tt, .tt] trivial ?_
                refine bre (x := e.age) (y := 0) (by kernel_rfl) (fun h8 => ?_) (fun h8 => ?_)
                · refine gg [.tt, .tt, .tt] trivial ?_
                  refine bre (x := e.owner) (y := 0) (by kernel_rfl) (fun h9 => ?_) (fun h9 => ?_)
                  · refine gg [.tt, .tt, .tt] trivial ?_
                    refine rt (a := Res.mk Ex.ret [vb (e.health == 1)] []) (by kernel_rfl) ?_
                    simp_all [Entity.right, beqd, bned]
                  · refine gg [.ff, .ff, .ff] trivial ?_
                    refine rt (a := Res.mk Ex.ret [vb false] []) (by kernel_rfl) ?_
                    simp_all [Entity.right, beqd, bned]
                · refine gg [.ff, .ff, .ff, .ff, .ff, .ff, .ff] trivial ?_
                  refine rt (a := Res.mk Ex.ret [vb false] []) (by kernel_rfl) ?_
                  simp_all [Entity.right, beqd, bned]
              · refine gg [.ff, .ff, .ff, .ff, .ff, .ff, .ff, .ff, .ff, .ff, .ff] trivial ?_
                refine rt (a := Res.mk Ex.ret [vb false] []) (by kernel_rfl) ?_
                simp_all [Entity.right, beqd, bned]
            · refine gg [.ff, .ff, .ff, .ff, .ff, .ff, .ff, .ff, .ff, .ff, .ff, .ff, .ff, .ff, .ff] trivial ?_
              refine rt (a := Res.mk Ex.ret [vb false] []) (by kernel_rfl) ?_
              simp_all [Entity.right, beqd, bned]
          · refine gg [.ff, .ff, .ff, .ff, .ff, .ff, .ff, .ff, .ff, .ff, .ff, .ff, .ff, .ff, .ff, .ff] trivial ?_
            refine gg [.ff, .ff, .ff] trivial ?_
            refine rt (a := Res.mk Ex.ret [vb false] []) (by kernel_rfl) ?_
            simp_all [Entity.right, beqd, bned]
        · refine rt (a := Res.mk Ex.ret [vb false] []) (by kernel_rfl) ?_
          simp_all [Entity.right, beqd, bned]
theorem f_joustref05_Put_loop (l : List Entity) (e : Entity) (hn : small l) : ∀ (d k : Nat), k + d = l.length →
    Is cx (.loop 24 [0, 0, 1, 1, 1] 0 [.t (.sl 9 (l.map Entity.enc)), .ptr 0 0 0, vi k] [.one 9 (.t e.enc) false])
      ⟨.exit 0, [.t (.sl 9 (l.map Entity.enc)), .ptr 0 0 0, vi (match (l.drop k).findIdx? fun x => decide (x.id ≥ e.id) with | some j => k + j | none => l.length : Nat)], [.one 9 (.t e.enc) false]⟩ := by
  unfold small at hn
  intro d
  induction d with
  | zero =>
    intro k hk
    rw [drop_end (by omega)]
    refine Wp.ev ?_
    refine gg [.n (List.length (List.map Entity.enc l)) (List.length l), .b (decide ((↑k : Int) < (↑(List.length l) : Int))) false, .ff, .ff, .ff, .ff, .ff, .ff, .ff, .ff, .ff] ⟨o_n (by simp), fP, trivial⟩ ?_
    refine rt (a := Res.mk (Ex.exit 0) [V.t (T.sl 9 (List.map Entity.enc l)), V.ptr 0 0 0, vi (↑k : Int)] [Ob.one 9 (V.t (Entity.enc e)) false]) (by kernel_rfl) ?_
    ((have hq : k = l.length := by omega); subst hq; rfl)
  | succ d ih =>
    intro k hk
    have hlt : k < l.length := by omega
    have ih1 := ih (k + 1) (by omega)
    clear ih
    rw [drop_gt hlt, List.findIdx?_cons]
    by_cases hp : (gt l k).id ≥ e.id
    · rw [show decide ((gt l k).id ≥ e.id) = true by simpa using hp, if_pos rfl]
      clear ih1
      refine Wp.ev ?_
      refine gg [.n (List.length (List.map Entity.enc l)) (List.length l), .b (decide ((↑k : Int) < (↑(List.length l) : Int))) true, .tt, .tt, .w ((0 : Int) ≤ (↑k : Int)), .n (Int.toNat (↑k : Int)) k, .g (List.map Entity.enc l) k (Entity.enc (gt l k)), .tt, .tt, .tt, .tt, .tt, .tt, .b (decide ((gt l k).id < e.id)) false] ⟨o_n (by simp), tP, oW, o_n (by kernel_rfl), o_gt rfl (by assumption) (by intro h; cases h), fP, trivial⟩ ?_
      exact ge
    · rw [show decide ((gt l k).id ≥ e.id) = false by simpa using hp, if_neg (by simp)]
      cases hq : (l.drop (k + 1)).findIdx? fun x => decide (x.id ≥ e.id) with
      | none =>
        rw [hq] at ih1
        refine Wp.ev ?_
        refine gg [.n (List.length (List.map Entity.enc l)) (List.length l), .b (decide ((↑k : Int) < (↑(List.length l) : Int))) true, .tt, .tt, .w ((0 : Int) ≤ (↑k : Int)), .n (Int.toNat (↑k : Int)) k, .g (List.map Entity.enc l) k (Entity.enc (gt l k)), .tt, .tt, .tt, .tt, .tt, .tt, .b (decide ((gt l k).id < e.id)) true, .i IntKind.i64 ((↑k : Int) + 1) ((↑(k + 1) : Int)), .a _ _] ⟨o_n (by simp), tP, oW, o_n (by kernel_rfl), o_gt rfl (by assumption) (by intro h; cases h), tP, oI, o_a ih1, trivial⟩ ?_
        exact ge
      | some j =>
        rw [hq] at ih1
        refine Wp.ev ?_
        refine gg [.n (List.length (List.map Entity.enc l)) (List.length l), .b (decide ((↑k : Int) < (↑(List.length l) : Int))) true, .tt, .tt, .w ((0 : Int) ≤ (↑k : Int)), .n (Int.toNat (↑k : Int)) k, .g (List.map Entity.enc l) k (Entity.enc (gt l k)), .tt, .tt, .tt, .tt, .tt, .tt, .b (decide ((gt l k).id < e.id)) true, .i IntKind.i64 ((↑k : Int) + 1) ((↑(k + 1) : Int)), .a _ _] ⟨o_n (by simp), tP, oW, o_n (by kernel_rfl), o_gt rfl (by assumption) (by intro h; cases h), tP, oI, o_a ih1, trivial⟩ ?_
        refine rt (a := Res.mk (Ex.exit 0)
          [V.t (T.sl 9 (List.map Entity.enc l)), V.ptr 0 0 0,
            vi
              (↑(match some j with
                  | some j => k + 1 + j
                  | none => List.length l) :
                Int)]
          [Ob.one 9 (V.t (Entity.enc e)) false]) (by kernel_rfl) ?_
        (simp; omega)
theorem f_joustref05_Put (l : List Entity) (e : Entity) (hn : small l) : Fn cx 24 [.sl 9 (l.map Entity.enc), e.enc] (.sl 9 ((put1 l e).map Entity.enc)) := by
  have hF := f_joustref05_Find l e.id hn
  have hn' : l.length ≤ 1000000 := hn
  unfold find at hF
  unfold put1
  cases hq : l.findIdx? fun x => x.id == e.id with
  | some k =>
    rw [pos_some hq] at hF
    refine Wp.ev ?_
    refine gg [.a _ _, .b (decide ((↑k : Int) ≥ 0)) true] ⟨o_a hF, o_b (by kernel_rfl), trivial⟩ ?_
    exact ge
  | none =>
    rw [pos_none hq] at hF
    have h := f_joustref05_Put_loop l e hn l.length 0 (by omega)
    rw [List.drop_zero] at h
    unfold ins
    cases hp : l.findIdx? fun x => decide (x.id ≥ e.id) with
    | some k =>
      rw [hp] at h
      simp only [Nat.zero_add] at h
      have hk := (List.findIdx?_eq_some_iff_getElem.1 hp).1
      refine Wp.ev ?_
      refine gg [.a _ _, .b (decide (-1 ≥ 0)) false, .a _ _, .w ((0 : Int) ≤ (↑k : Int)), .n (Int.toNat (↑k : Int)) k, .w ((0 : Nat) ≤ k ∧ k ≤ List.length (List.map Entity.enc l)), .t (T.sl 9 (List.take (k - 0) (List.drop 0 (List.map Entity.enc l)))) (T.sl 9 (List.map Entity.enc (List.take k l))), .w ((0 : Int) ≤ (↑k : Int)), .n (Int.toNat (↑k : Int)) k, .w (k ≤ List.length (List.map Entity.enc l) ∧ List.length (List.map Entity.enc l) ≤ List.length (List.map Entity.enc l)), .t (T.sl 9 (List.take (List.length (List.map Entity.enc l) - k) (List.drop k (List.map Entity.enc l)))) (T.sl 9 (List.map Entity.enc (List.take (List.length (List.map Entity.enc l) - k) (List.drop k l))))] ⟨o_a hF, o_b (by kernel_rfl), o_a h, oW, o_n (by kernel_rfl), o_w ⟨(by omega), (by (simp [room, appendMax]; omega))⟩, o_l (nm_eq (nm_take (nm_drop rfl)) (by kernel_rfl)), oW, o_n (by kernel_rfl), o_w ⟨(by (simp [room, appendMax]; omega)), (by omega)⟩, o_l (nm_take (nm_drop rfl)), trivial⟩ ?_
      refine bo (by kernel_rfl) ?_ ?_
      · refine gg [.w ((0 : Nat) < (72 : Nat)), .s (T.sl 0 (List.map Entity.enc (List.take k l))), .s (T.sl 0 (List.map Entity.enc (List.take k l))), .w (room (List.length (List.map Entity.enc (List.take k l))) (72 : Nat)), .w ((0 : Nat) < (72 : Nat)), .t (T.sl 0 [Entity.enc e]) (T.sl 0 (List.map Entity.enc [e])), .t (T.sl 0 (List.map Entity.enc (List.take k l) ++ List.map Entity.enc [e])) (T.sl 0 (List.map Entity.enc (List.take k l ++ [e]))), .w (room (List.length (List.map Entity.enc (List.take k l ++ [e]))) (72 : Nat)), .w ((0 : Nat) < (72 : Nat)), .s (T.sl 0 (List.map Entity.enc (List.take (List.length (List.map Entity.enc l) - k) (List.drop k l)))), .t (T.sl 0 (List.map Entity.enc (List.take k l ++ [e]) ++ List.map Entity.enc (List.take (List.length (List.map Entity.enc l) - k) (List.drop k l)))) (T.sl 0 (List.map Entity.enc (List.take k l ++ [e] ++ List.take (List.length (List.map Entity.enc l) - k) (List.drop k l)))), .w (room (List.length (List.map Entity.enc (List.take k l ++ [e] ++ List.take (List.length (List.map Entity.enc l) - k) (List.drop k l)))) (72 : Nat))] ⟨oW, o_w (by (simp [room, appendMax]; omega)), oW, o_l (nm_cons rfl nm_nil), o_l (nm_app rfl rfl), o_w (by (simp [room, appendMax]; omega)), oW, o_l (nm_app rfl rfl), o_w (by (simp [room, appendMax]; omega)), trivial⟩ ?_
        refine rt (a := Res.mk Ex.ret [V.t (T.sl 9 (List.map Entity.enc (List.take k l ++ [e] ++ List.take (List.length (List.map Entity.enc l) - k) (List.drop k l))))] []) (by kernel_rfl) ?_
        (first | (simp; done) | (simp; rw [List.take_of_length_le (by simp)]))
      · refine gg [.w ((0 : Nat) < (72 : Nat)), .s (T.sl 0 (List.map Entity.enc (List.take k l))), .s (T.sl 0 (List.map Entity.enc (List.take k l))), .w (room (List.length (List.map Entity.enc (List.take k l))) (72 : Nat)), .w ((0 : Nat) < (72 : Nat)), .t (T.sl 0 [Entity.enc e]) (T.sl 0 (List.map Entity.enc [e])), .t (T.sl 0 (List.map Entity.enc (List.take k l) ++ List.map Entity.enc [e])) (T.sl 0 (List.map Entity.enc (List.take k l ++ [e]))), .w (room (List.length (List.map Entity.enc (List.take k l ++ [e]))) (72 : Nat)), .w ((0 : Nat) < (72 : Nat)), .s (T.sl 0 (List.map Entity.enc (List.take (List.length (List.map Entity.enc l) - k) (List.drop k l)))), .t (T.sl 0 (List.map Entity.enc (List.take k l ++ [e]) ++ List.map Entity.enc (List.take (List.length (List.map Entity.enc l) - k) (List.drop k l)))) (T.sl 0 (List.map Entity.enc (List.take k l ++ [e] ++ List.take (List.length (List.map Entity.enc l) - k) (List.drop k l)))), .w (room (List.length (List.map Entity.enc (List.take k l ++ [e] ++ List.take (List.length (List.map Entity.enc l) - k) (List.drop k l)))) (72 : Nat))] ⟨oW, o_w (by (simp [room, appendMax]; omega)), oW, o_l (nm_cons rfl nm_nil), o_l (nm_app rfl rfl), o_w (by (simp [room, appendMax]; omega)), oW, o_l (nm_app rfl rfl), o_w (by (simp [room, appendMax]; omega)), trivial⟩ ?_
        refine rt (a := Res.mk Ex.ret [V.t (T.sl 9 (List.map Entity.enc (List.take k l ++ [e] ++ List.take (List.length (List.map Entity.enc l) - k) (List.drop k l))))] []) (by kernel_rfl) ?_
        (first | (simp; done) | (simp; rw [List.take_of_length_le (by simp)]))
    | none =>
      rw [hp] at h
      simp only at h
      refine Wp.ev ?_
      refine gg [.a _ _, .b (decide (-1 ≥ 0)) false, .a _ _, .w ((0 : Int) ≤ (↑(List.length l) : Int)), .n (Int.toNat (↑(List.length l) : Int)) (List.length l), .w ((0 : Nat) ≤ List.length l ∧ List.length l ≤ List.length (List.map Entity.enc l)), .t (T.sl 9 (List.take (List.length l - 0) (List.drop 0 (List.map Entity.enc l)))) (T.sl 9 (List.map Entity.enc l)), .w ((0 : Int) ≤ (↑(List.length l) : Int)), .n (Int.toNat (↑(List.length l) : Int)) (List.length l), .w (List.length l ≤ List.length (List.map Entity.enc l) ∧ List.length (List.map Entity.enc l) ≤ List.length (List.map Entity.enc l)), .t (T.sl 9 (List.take (List.length (List.map Entity.enc l) - List.length l) (List.drop (List.length l) (List.map Entity.enc l)))) (T.sl 9 (List.map Entity.enc []))] ⟨o_a hF, o_b (by kernel_rfl), o_a h, oW, o_n (by kernel_rfl), o_w ⟨(by omega), (by simp)⟩, o_l (nm_eq (nm_take (nm_drop rfl)) (by simp)), oW, o_n (by kernel_rfl), o_w ⟨(by simp), (by omega)⟩, o_l (nm_eq (nm_take (nm_drop rfl)) (by simp)), trivial⟩ ?_
      refine bo (by kernel_rfl) ?_ ?_
      · refine gg [.w ((0 : Nat) < (72 : Nat)), .s (T.sl 0 (List.map Entity.enc l)), .s (T.sl 0 (List.map Entity.enc l)), .w (room (List.length (List.map Entity.enc l)) (72 : Nat)), .w ((0 : Nat) < (72 : Nat)), .t (T.sl 0 [Entity.enc e]) (T.sl 0 (List.map Entity.enc [e])), .t (T.sl 0 (List.map Entity.enc l ++ List.map Entity.enc [e])) (T.sl 0 (List.map Entity.enc (l ++ [e]))), .w (room (List.length (List.map Entity.enc (l ++ [e]))) (72 : Nat)), .w ((0 : Nat) < (72 : Nat)), .s (T.sl 0 []), .t (T.sl 0 (List.map Entity.enc (l ++ [e]) ++ [])) (T.sl 0 (List.map Entity.enc (l ++ [e]))), .w (room (List.length (List.map Entity.enc (l ++ [e]))) (72 : Nat))] ⟨oW, o_w (by (simp [room, appendMax]; omega)), oW, o_l (nm_cons rfl nm_nil), o_l (nm_app rfl rfl), o_w (by (simp [room, appendMax]; omega)), oW, o_l (nm_eq (nm_app rfl nm_nil) (by simp)), o_w (by (simp [room, appendMax]; omega)), trivial⟩ ?_
        refine rt (a := Res.mk Ex.ret [V.t (T.sl 9 (List.map Entity.enc (l ++ [e])))] []) (by kernel_rfl) ?_
        (first | (simp; done) | (simp; rw [List.take_of_length_le (by simp)]))
      · refine gg [.w ((0 : Nat) < (72 : Nat)), .s (T.sl 0 (List.map Entity.enc l)), .s (T.sl 0 (List.map Entity.enc l)), .w (room (List.length (List.map Entity.enc l)) (72 : Nat)), .w ((0 : Nat) < (72 : Nat)), .t (T.sl 0 [Entity.enc e]) (T.sl 0 (List.map Entity.enc [e])), .t (T.sl 0 (List.map Entity.enc l ++ List.map Entity.enc [e])) (T.sl 0 (List.map Entity.enc (l ++ [e]))), .w (room (List.length (List.map Entity.enc (l ++ [e]))) (72 : Nat)), .w ((0 : Nat) < (72 : Nat)), .s (T.sl 0 []), .t (T.sl 0 (List.map Entity.enc (l ++ [e]) ++ [])) (T.sl 0 (List.map Entity.enc (l ++ [e]))), .w (room (List.length (List.map Entity.enc (l ++ [e]))) (72 : Nat))] ⟨oW, o_w (by (simp [room, appendMax]; omega)), oW, o_l (nm_cons rfl nm_nil), o_l (nm_app rfl rfl), o_w (by (simp [room, appendMax]; omega)), oW, o_l (nm_eq (nm_app rfl nm_nil) (by simp)), o_w (by (simp [room, appendMax]; omega)), trivial⟩ ?_
        refine rt (a := Res.mk Ex.ret [V.t (T.sl 9 (List.map Entity.enc (l ++ [e])))] []) (by kernel_rfl) ?_
        (first | (simp; done) | (simp; rw [List.take_of_length_le (by simp)]))
theorem f_jousthelp_Kept_loop_Entity (l : List Entity) (f : Entity) (hn : l.length ≤ 1000) (r : Bool) : ∀ (d i : Nat), l.length ≤ i → i + d = l.length + 3 →
    Is cx (.loop 30 [0, 1, 0, 1, 1, 1] 1 [.ptr 1 0 0, vb false, .sl 0 0 (l.length + 3) none, vi i] [.arr 9 ((l ++ [f, f, f]).map Entity.enc) (some 0) r, .one 9 (.t f.enc) false])
      ⟨.exit 0, [.ptr 1 0 0, vb false, .sl 0 0 (l.length + 3) none, vi (l.length + 3 : Nat)], [.arr 9 ((l ++ [f, f, f]).map Entity.enc) (some 0) r, .one 9 (.t f.enc) false]⟩ := by
  intro d
  induction d with
  | zero =>
    intro i hi hd
    refine Wp.ev ?_
    refine gg [.l (List.length l + 3), .b (decide ((↑i : Int) < (↑(List.length l + 3) : Int))) false] ⟨fP, trivial⟩ ?_
    refine rt (a := Res.mk (Ex.exit 0) [V.ptr 1 0 0, vb false, V.sl 0 0 (List.length l + 3) none, vi (↑i : Int)] [Ob.arr 9 (List.map Entity.enc (l ++ [f, f, f])) (some 0) r, Ob.one 9 (V.t (Entity.enc f)) false]) (by kernel_rfl) ?_
    ((have hq : i = l.length + 3 := by omega); subst hq; rfl)
  | succ d ih =>
    intro i hi hd
    have ih1 := ih (i + 1) (by omega) (by omega)
    clear ih
    have hx : (l ++ [f, f, f])[i]? = some f := by
      rw [List.getElem?_append_right hi]
      have : i - l.length = 0 ∨ i - l.length = 1 ∨ i - l.length = 2 := by omega
      rcases this with h | h | h <;> rw [h] <;> rfl
    have ht : teq f.enc f.enc = true := by rw [teqIff]
    refine Wp.ev ?_
    refine gg [.l (List.length l + 3), .b (decide ((↑i : Int) < (↑(List.length l + 3) : Int))) true, .w ((0 : Int) ≤ (↑i : Int)), .n (Int.toNat (↑i : Int)) i, .w (i < List.length l + (3 : Nat)), .n (0 + i) i, .g (List.map Entity.enc (l ++ [f, f, f])) i (Entity.enc f), .w (conform cx (40 : Nat) (28 : Nat) (T.agg [ti f.id, ti f.kind, ti f.x, ti f.y, ti f.vx, ti f.vy, ti f.health, ti f.age, ti f.owner]) = true ∧ conform cx (40 : Nat) (28 : Nat) (T.agg [ti f.id, ti f.kind, ti f.x, ti f.y, ti f.vx, ti f.vy, ti f.health, ti f.age, ti f.owner]) = true), .b (!teq (Entity.enc f) (Entity.enc f)) false, .i IntKind.i64 ((↑i : Int) + 1) ((↑(i + 1) : Int)), .a _ _] ⟨tP, oW, o_n (by kernel_rfl), oW, oN, o_gm rfl hx (by intro h; cases h), o_w ⟨(by kernel_rfl), (by kernel_rfl)⟩, f_brnot (by assumption), oI, o_a ih1, trivial⟩ ?_
    exact ge
theorem f_jousthelp_Kept_Entity (l : List Entity) (f : Entity) (hn : l.length ≤ 1000) (r : Bool) : Is cx (.call 30 [.sl 0 0 l.length none, .t (.sl 9 (l.map Entity.enc)), .t f.enc] [.arr 9 ((l ++ [f, f, f]).map Entity.enc) (some 0) r])
      ⟨.ret, [vb true], [.arr 9 ((l ++ [f, f, f]).map Entity.enc) (some 0) r]⟩ := by
  have h := f_jousthelp_Kept_loop_Entity l f hn r 3 l.length (Nat.le_refl _) rfl
  have hs : small l := by unfold small; omega
  have he : (l ++ [f, f, f]).take l.length = l := by simp
  have hp := f_jousthelp_Plain_Entity ((l ++ [f, f, f]).take l.length) l (by rw [he]; exact hs)
  have e : plain ((l ++ [f, f, f]).take l.length) l = true := by rw [he]; simp [plain]
  rw [e] at hp
  refine Wp.ev ?_
  refine gg [.t (T.sl 9 (List.take (List.length l) (List.drop 0 (List.map Entity.enc (l ++ [f, f, f]))))) (T.sl 9 (List.map Entity.enc (List.take (List.length l) (l ++ [f, f, f])))), .a _ _, .b (flats [T.bool true]) true, .b (!true) false, .ff, .n (List.length (List.map Entity.enc (l ++ [f, f, f])) + 0 - 0) (List.length l + 3), .ff, .ff, .n (List.length (List.map Entity.enc l)) (List.length l), .ff, .i IntKind.i64 ((↑(List.length l) : Int) + 3) ((↑(List.length l + 3) : Int)), .ff, .ff, .b (decide ((↑(List.length l + 3) : Int) < (↑(List.length l + 3) : Int))) false, .n (List.length (List.map Entity.enc l)) (List.length l), .i IntKind.i64 ((↑(List.length l) : Int) + 3) ((↑(List.length l + 3) : Int))] ⟨o_l (nm_eq (nm_take (nm_drop rfl)) (by kernel_rfl)), o_a hp, o_b (by kernel_rfl), o_b (by kernel_rfl), o_n (by simp), o_n (by simp), oI, fP, o_n (by simp), oI, trivial⟩ ?_
  refine gg [.w ((0 : Int) ≤ (↑(List.length l + (3 : Nat)) : Int)), .n (Int.toNat (↑(List.length l + 3) : Int)) (List.length l + 3), .b (decide (0 = 0)) true, .w ((0 : Nat) ≤ List.length l + (3 : Nat) ∧ (0 : Nat) + (List.length l + (3 : Nat)) ≤ List.length (List.map Entity.enc (l ++ [f, f, f]))), .l 0, .n (List.length l + 3 - 0) (List.length l + 3), .n (List.length (List.map Entity.enc l)) (List.length l), .a _ _] ⟨oW, o_n (by kernel_rfl), o_b (by kernel_rfl), o_w ⟨(by omega), (by simp)⟩, o_n (by kernel_rfl), o_n (by simp), o_a h, trivial⟩ ?_
  exact ge
theorem f_jousthelp_Kept_loop_Cross (l : List Cross) (f : Cross) (hn : l.length ≤ 1000) (r : Bool) : ∀ (d i : Nat), l.length ≤ i → i + d = l.length + 3 →
    Is cx (.loop 43 [0, 1, 0, 1, 1, 1] 1 [.ptr 1 0 0, vb false, .sl 0 0 (l.length + 3) none, vi i] [.arr 15 ((l ++ [f, f, f]).map Cross.enc) (some 0) r, .one 15 (.t f.enc) false])
      ⟨.exit 0, [.ptr 1 0 0, vb false, .sl 0 0 (l.length + 3) none, vi (l.length + 3 : Nat)], [.arr 15 ((l ++ [f, f, f]).map Cross.enc) (some 0) r, .one 15 (.t f.enc) false]⟩ := by
  intro d
  induction d with
  | zero =>
    intro i hi hd
    refine Wp.ev ?_
    refine gg [.l (List.length l + 3), .b (decide ((↑i : Int) < (↑(List.length l + 3) : Int))) false] ⟨fP, trivial⟩ ?_
    refine rt (a := Res.mk (Ex.exit 0) [V.ptr 1 0 0, vb false, V.sl 0 0 (List.length l + 3) none, vi (↑i : Int)] [Ob.arr 15 (List.map Cross.enc (l ++ [f, f, f])) (some 0) r, Ob.one 15 (V.t (Cross.enc f)) false]) (by kernel_rfl) ?_
    ((have hq : i = l.length + 3 := by omega); subst hq; rfl)
  | succ d ih =>
    intro i hi hd
    have ih1 := ih (i + 1) (by omega) (by omega)
    clear ih
    have hx : (l ++ [f, f, f])[i]? = some f := by
      rw [List.getElem?_append_right hi]
      have : i - l.length = 0 ∨ i - l.length = 1 ∨ i - l.length = 2 := by omega
      rcases this with h | h | h <;> rw [h] <;> rfl
    have ht : teq f.enc f.enc = true := by rw [teqIff]
    refine Wp.ev ?_
    refine gg [.l (List.length l + 3), .b (decide ((↑i : Int) < (↑(List.length l + 3) : Int))) true, .w ((0 : Int) ≤ (↑i : Int)), .n (Int.toNat (↑i : Int)) i, .w (i < List.length l + (3 : Nat)), .n (0 + i) i, .g (List.map Cross.enc (l ++ [f, f, f])) i (Cross.enc f), .w (conform cx (40 : Nat) (55 : Nat) (T.agg [ti f.kind, ti f.frm, ti f.to, ti f.frame, ti f.ent.id, ti f.ent.kind, ti f.ent.x, ti f.ent.y, ti f.ent.vx, ti f.ent.vy, ti f.ent.health, ti f.ent.age, ti f.ent.owner, ti f.x, ti f.y]) = true ∧ conform cx (40 : Nat) (55 : Nat) (T.agg [ti f.kind, ti f.frm, ti f.to, ti f.frame, ti f.ent.id, ti f.ent.kind, ti f.ent.x, ti f.ent.y, ti f.ent.vx, ti f.ent.vy, ti f.ent.health, ti f.ent.age, ti f.ent.owner, ti f.x, ti f.y]) = true), .b (!teq (Cross.enc f) (Cross.enc f)) false, .i IntKind.i64 ((↑i : Int) + 1) ((↑(i + 1) : Int)), .a _ _] ⟨tP, oW, o_n (by kernel_rfl), oW, oN, o_gm rfl hx (by intro h; cases h), o_w ⟨(by kernel_rfl), (by kernel_rfl)⟩, f_brnot (by assumption), oI, o_a ih1, trivial⟩ ?_
    exact ge
theorem f_jousthelp_Kept_Cross (l : List Cross) (f : Cross) (hn : l.length ≤ 1000) (r : Bool) : Is cx (.call 43 [.sl 0 0 l.length none, .t (.sl 15 (l.map Cross.enc)), .t f.enc] [.arr 15 ((l ++ [f, f, f]).map Cross.enc) (some 0) r])
      ⟨.ret, [vb true], [.arr 15 ((l ++ [f, f, f]).map Cross.enc) (some 0) r]⟩ := by
  have h := f_jousthelp_Kept_loop_Cross l f hn r 3 l.length (Nat.le_refl _) rfl
  have hs : small l := by unfold small; omega
  have he : (l ++ [f, f, f]).take l.length = l := by simp
  have hp := f_jousthelp_Plain_Cross ((l ++ [f, f, f]).take l.length) l (by rw [he]; exact hs)
  have e : plain ((l ++ [f, f, f]).take l.length) l = true := by rw [he]; simp [plain]
  rw [e] at hp
  refine Wp.ev ?_
  refine gg [.t (T.sl 15 (List.take (List.length l) (List.drop 0 (List.map Cross.enc (l ++ [f, f, f]))))) (T.sl 15 (List.map Cross.enc (List.take (List.length l) (l ++ [f, f, f])))), .a _ _, .b (flats [T.bool true]) true, .b (!true) false, .ff, .n (List.length (List.map Cross.enc (l ++ [f, f, f])) + 0 - 0) (List.length l + 3), .ff, .ff, .n (List.length (List.map Cross.enc l)) (List.length l), .ff, .i IntKind.i64 ((↑(List.length l) : Int) + 3) ((↑(List.length l + 3) : Int)), .ff, .ff, .b (decide ((↑(List.length l + 3) : Int) < (↑(List.length l + 3) : Int))) false, .n (List.length (List.map Cross.enc l)) (List.length l), .i IntKind.i64 ((↑(List.length l) : Int) + 3) ((↑(List.length l + 3) : Int))] ⟨o_l (nm_eq (nm_take (nm_drop rfl)) (by kernel_rfl)), o_a hp, o_b (by kernel_rfl), o_b (by kernel_rfl), o_n (by simp), o_n (by simp), oI, fP, o_n (by simp), oI, trivial⟩ ?_
  refine gg [.w ((0 : Int) ≤ (↑(List.length l + (3 : Nat)) : Int)), .n (Int.toNat (↑(List.length l + 3) : Int)) (List.length l + 3), .b (decide (0 = 0)) true, .w ((0 : Nat) ≤ List.length l + (3 : Nat) ∧ (0 : Nat) + (List.length l + (3 : Nat)) ≤ List.length (List.map Cross.enc (l ++ [f, f, f]))), .l 0, .n (List.length l + 3 - 0) (List.length l + 3), .n (List.length (List.map Cross.enc l)) (List.length l), .a _ _] ⟨oW, o_n (by kernel_rfl), o_b (by kernel_rfl), o_w ⟨(by omega), (by simp)⟩, o_n (by kernel_rfl), o_n (by simp), o_a h, trivial⟩ ?_
  exact ge
end Go.Eva.S1

/- Eva, part 46: what is put into what is sorted is sorted; what is dropped, and put again. -/
namespace Go.Eva

abbrev Srt (l : List Entity) : Prop := l.Pairwise fun a b => a.id < b.id

theorem sorted_iff : ∀ {l : List Entity}, sortedL l = true ↔ Srt l
  | [] => by simp [sortedL]
  | [a] => by simp [sortedL]
  | a :: b :: r => by
    rw [sortedL, Bool.and_eq_true, decide_eq_true_eq, @sorted_iff (b :: r), Srt, Srt, List.pairwise_cons (a := a)]
    constructor
    · rintro ⟨h1, h2⟩
      refine ⟨fun x hx => ?_, h2⟩
      rcases List.mem_cons.1 hx with rfl | hx
      · exact h1
      · have := (List.pairwise_cons.1 h2).1 x hx; omega
    · rintro ⟨h1, h2⟩
      exact ⟨h1 b (List.mem_cons_self ..), h2⟩

theorem ins_nil {e : Entity} : ins [] e = [e] := rfl
theorem ins_ge {y e : Entity} {l : List Entity} (h : e.id ≤ y.id) : ins (y :: l) e = e :: y :: l := by
  unfold ins
  rw [List.findIdx?_cons, show decide (y.id ≥ e.id) = true by simpa using h]
  rfl
theorem ins_lt {y e : Entity} {l : List Entity} (h : y.id < e.id) : ins (y :: l) e = y :: ins l e := by
  unfold ins
  rw [List.findIdx?_cons, show decide (y.id ≥ e.id) = false by simpa using h]
  cases l.findIdx? fun x => decide (x.id ≥ e.id) <;> simp
theorem ins_split {e : Entity} : ∀ {a b : List Entity}, (∀ y ∈ a, y.id < e.id) → (∀ y ∈ b, e.id ≤ y.id) → ins (a ++ b) e = a ++ e :: b
  | [], [], _, _ => rfl
  | [], y :: b, _, h => ins_ge (h y (List.mem_cons_self ..))
  | y :: a, b, h, h' => by
    rw [List.cons_append, ins_lt (h y (List.mem_cons_self ..)), ins_split (fun z hz => h z (List.mem_cons_of_mem _ hz)) h', List.cons_append]
theorem ins_mem {e x : Entity} : ∀ {l : List Entity}, x ∈ ins l e ↔ x = e ∨ x ∈ l
  | [] => by simp [ins_nil]
  | y :: l => by
    rcases Int.lt_or_le y.id e.id with h | h
    · rw [ins_lt h, List.mem_cons, ins_mem, List.mem_cons]
      constructor <;> (intro h; rcases h with h | h | h <;> simp [h])
    · rw [ins_ge h]; simp
theorem ins_sorted {e : Entity} : ∀ {l : List Entity}, Srt l → (∀ x ∈ l, x.id ≠ e.id) → Srt (ins l e)
  | [], _, _ => by simp [ins_nil, Srt]
  | y :: l, h, hne => by
    obtain ⟨h1, h2⟩ := List.pairwise_cons.1 h
    rcases Int.lt_or_le y.id e.id with hy | hy
    · rw [ins_lt hy]
      refine List.pairwise_cons.2 ⟨fun x hx => ?_, ins_sorted h2 fun x hx => hne x (List.mem_cons_of_mem _ hx)⟩
      rcases ins_mem.1 hx with rfl | hx
      · exact hy
      · exact h1 x hx
    · rw [ins_ge hy]
      have hyy := hne y (List.mem_cons_self ..)
      refine List.pairwise_cons.2 ⟨fun x hx => ?_, h⟩
      rcases List.mem_cons.1 hx with rfl | hx
      · omega
      · have := h1 x hx; omega

theorem no_id {l : List Entity} {id : Int} (h : l.findIdx? (fun x => x.id == id) = none) : ∀ x ∈ l, x.id ≠ id := by
  intro x hx
  have := List.findIdx?_eq_none_iff.1 h x hx
  simpa using this
theorem an_id [Inhabited Entity] {l : List Entity} {id : Int} {k : Nat} (h : l.findIdx? (fun x => x.id == id) = some k) : k < l.length ∧ (gt l k).id = id ∧ gt l k ∈ l := by
  obtain ⟨hk, h1, _⟩ := List.findIdx?_eq_some_iff_getElem.1 h
  exact ⟨hk, by rw [gt_eq hk]; simpa using h1, gt_mem hk⟩
theorem put1_sorted {l : List Entity} {e : Entity} (h : Srt l) : Srt (put1 l e) := by
  unfold put1
  split
  · exact h
  · rename_i hq; exact ins_sorted h (no_id hq)
theorem puts_sorted {m : List Entity} : ∀ {l : List Entity}, Srt l → Srt (puts l m) := by
  induction m with
  | nil => intro l h; exact h
  | cons e m ih => intro l h; exact ih (put1_sorted h)
theorem put1_sub {l : List Entity} {e : Entity} : ∀ x ∈ l, x ∈ put1 l e := by
  intro x hx
  unfold put1
  split
  · exact hx
  · exact ins_mem.2 (.inr hx)
theorem put1_mem {l : List Entity} {e : Entity} : ∃ x ∈ put1 l e, x.id = e.id := by
  unfold put1
  split
  · rename_i k h
    obtain ⟨_, h1, h2⟩ := an_id h
    exact ⟨_, h2, h1⟩
  · exact ⟨e, ins_mem.2 (.inl rfl), rfl⟩
theorem puts_sub {m : List Entity} : ∀ {l : List Entity}, ∀ x ∈ l, x ∈ puts l m := by
  induction m with
  | nil => intro l x h; exact h
  | cons e m ih => intro l x h; exact ih x (put1_sub x h)
theorem puts_mem {m : List Entity} : ∀ {l : List Entity}, ∀ e ∈ m, ∃ x ∈ puts l m, x.id = e.id := by
  induction m with
  | nil => intro l e h; simp at h
  | cons a m ih =>
    intro l e h
    rcases List.mem_cons.1 h with rfl | h
    · obtain ⟨x, h1, h2⟩ := @put1_mem l e
      exact ⟨x, puts_sub (l := put1 l e) x h1, h2⟩
    · exact ih e h
theorem has_find {l : List Entity} {id : Int} (h : ∃ x ∈ l, x.id = id) : ∃ k : Nat, l.findIdx? (fun x => x.id == id) = some k := by
  cases hq : l.findIdx? fun x => x.id == id with
  | some k => exact ⟨k, rfl⟩
  | none =>
    obtain ⟨x, hx, he⟩ := h
    exact absurd he (no_id hq x hx)
theorem put1_same {l : List Entity} {e : Entity} (h : ∃ x ∈ l, x.id = e.id) : put1 l e = l := by
  obtain ⟨k, hk⟩ := has_find h
  unfold put1
  rw [hk]
theorem puts_same {m : List Entity} : ∀ {l : List Entity}, (∀ e ∈ m, ∃ x ∈ l, x.id = e.id) → puts l m = l := by
  induction m with
  | nil => intro l _; rfl
  | cons e m ih =>
    intro l h
    show puts (put1 l e) m = l
    rw [put1_same (h e (List.mem_cons_self ..))]
    exact ih fun x hx => h x (List.mem_cons_of_mem _ hx)
theorem find_drop {l : List Entity} {id : Int} : find (drops l [id]) id = -1 := by
  unfold find
  refine pos_none (List.findIdx?_eq_none_iff.2 ?_)
  intro x hx
  have := (List.mem_filter.1 hx).2
  simp [has] at this
  simpa using fun e => this e.symm

theorem things_players {l : List Entity} : (l.countP fun e => e.kind != 1) + (l.countP fun e => e.kind == 1) = l.length := by
  induction l with
  | nil => rfl
  | cons e l ih =>
    simp only [List.countP_cons, List.length_cons]
    by_cases h : e.kind = 1
    · simp [h]; omega
    · simp [h]; omega

theorem drop_split {l : List Entity} {k : Nat} (h : Srt l) (hk : k < l.length) : drops l [(gt l k).id] = l.take k ++ l.drop (k + 1) ∧ (∀ y ∈ l.take k, y.id < (gt l k).id) ∧ ∀ y ∈ l.drop (k + 1), (gt l k).id < y.id := by
  have e : l = l.take k ++ gt l k :: l.drop (k + 1) := by rw [← drop_gt hk, List.take_append_drop]
  have h' := h
  rw [e] at h'
  obtain ⟨_, h2, h3⟩ := List.pairwise_append.1 h'
  have h4 : ∀ y ∈ l.take k, y.id < (gt l k).id := fun y hy => h3 y hy _ (List.mem_cons_self ..)
  have h5 := (List.pairwise_cons.1 h2).1
  refine ⟨?_, h4, h5⟩
  unfold drops
  have e2 : l.filter (fun x => !has [(gt l k).id] x.id) = (l.take k ++ gt l k :: l.drop (k + 1)).filter (fun x => !has [(gt l k).id] x.id) := congrArg _ e
  rw [e2, List.filter_append, List.filter_cons]
  have f1 : (l.take k).filter (fun x => !has [(gt l k).id] x.id) = l.take k := by
    rw [List.filter_eq_self]
    intro a ha
    have := h4 a ha
    simp [has]; omega
  have f2 : (l.drop (k + 1)).filter (fun x => !has [(gt l k).id] x.id) = l.drop (k + 1) := by
    rw [List.filter_eq_self]
    intro a ha
    have := h5 a ha
    simp [has]; omega
  have f3 : (!has [(gt l k).id] (gt l k).id) = false := by simp [has]
  rw [f1, f2, f3]
  simp

theorem drop_put {l : List Entity} {k : Nat} (h : Srt l) (hk : k < l.length) : put1 (drops l [(gt l k).id]) (gt l k) = l := by
  obtain ⟨h1, h2, h3⟩ := drop_split h hk
  have hn : (drops l [(gt l k).id]).findIdx? (fun x => x.id == (gt l k).id) = none := by
    rw [List.findIdx?_eq_none_iff]
    intro x hx
    have := (List.mem_filter.1 hx).2
    simp [has] at this
    simpa using fun e => this e.symm
  unfold put1
  rw [hn]
  simp only
  rw [h1, ins_split h2 fun y hy => Int.le_of_lt (h3 y hy), ← drop_gt hk, List.take_append_drop]
theorem drop_len {l : List Entity} {k : Nat} (h : Srt l) (hk : k < l.length) : (drops l [(gt l k).id]).length + 1 = l.length := by
  rw [(drop_split h hk).1]; simp; omega
theorem drop_drop {l : List Entity} {id : Int} : drops (drops l [id]) [id, id] = drops l [id] := by
  unfold drops
  rw [List.filter_filter]
  congr 1
  funext x
  simp [has]
theorem drop_sorted {l : List Entity} {ids : List Int} (h : Srt l) : Srt (drops l ids) := List.Pairwise.filter _ h
end Go.Eva

/- Eva, part 48: arenas that statements are about. -/
namespace Go.Eva

def u1 (n k : Int) : Int := 1 + (IntKind.u64.wrap n).tmod k
/-- The arena that a statement makes of any one. -/
def Config.play (c : Config) : Config := if c.right = true ∧ c.cols ≤ 3 ∧ c.rows ≤ 3 ∧ c.players ≤ 4 then c else ⟨u1 c.cols 3, u1 c.rows 3, u1 c.players 4, u1 c.window 8, c.seed⟩

theorem u64_nonneg {n : Int} : 0 ≤ IntKind.u64.wrap n := by simp [IntKind.wrap, IntKind.bits, IntKind.signed]; omega
theorem u64_tmod {n k : Int} (hk : 0 < k) : 0 ≤ (IntKind.u64.wrap n).tmod k ∧ (IntKind.u64.wrap n).tmod k < k := tmod_le hk u64_nonneg
theorem Config.play_ok {c : Config} : c.play.right = true ∧ (1 ≤ c.play.cols ∧ c.play.cols ≤ 3) ∧ (1 ≤ c.play.rows ∧ c.play.rows ≤ 3) ∧ (1 ≤ c.play.players ∧ c.play.players ≤ 4) ∧ 1 ≤ c.play.window ∧ c.play.window ≤ 16 := by
  unfold Config.play
  split
  · rename_i h
    have := Config.right_iff.1 h.1
    exact ⟨h.1, by omega, by omega, by omega, by omega⟩
  · have h1 := @u64_tmod c.cols 3 (by decide)
    have h2 := @u64_tmod c.rows 3 (by decide)
    have h3 := @u64_tmod c.players 4 (by decide)
    have h4 := @u64_tmod c.window 8 (by decide)
    simp only [Config.right_iff, u1]
    omega
theorem Config.grid_of {c : Config} (h : c.right = true) : c.grid = c := by simp [Config.grid, h]
theorem Config.err_of {c : Config} (h : c.right = true) : c.err = 0 := by simp [Config.err, h]
end Go.Eva

/- Eva, part 49: messages, in plain words. -/
namespace Go.Eva

def cmpI (x y : Int) : Int := if x < y then -1 else if x > y then 1 else 0
def orI : List Int → Int
  | [] => 0
  | x :: r => if x ≠ 0 then x else orI r
def Cross.cmp (a b : Cross) : Int :=
  if orI [cmpI a.to b.to, cmpI a.kind b.kind] ≠ 0 then orI [cmpI a.to b.to, cmpI a.kind b.kind]
  else if a.kind = 1 then cmpI a.ent.id b.ent.id
  else orI [cmpI a.x b.x, cmpI a.y b.y]
def Cross.less (a b : Cross) : Bool := decide (a.cmp b < 0)
def toL (l : List Cross) (r : Int) : List Cross := l.filter fun c => decide (c.to = r)

theorem cmpI_le (x y : Int) : -1 ≤ cmpI x y ∧ cmpI x y ≤ 1 := by unfold cmpI; split <;> (try split) <;> omega
theorem orI_two {x y : Int} (hx : -1 ≤ x ∧ x ≤ 1) (hy : -1 ≤ y ∧ y ≤ 1) : -1 ≤ orI [x, y] ∧ orI [x, y] ≤ 1 := by
  unfold orI orI orI; split <;> (try split) <;> omega
theorem cmpI_neg {x y : Int} : cmpI x y < 0 ↔ x < y := by unfold cmpI; split <;> (try split) <;> omega
theorem cmpI_zero {x y : Int} : cmpI x y = 0 ↔ x = y := by unfold cmpI; split <;> (try split) <;> omega
theorem orI_neg {x y : Int} : orI [x, y] < 0 ↔ x < 0 ∨ x = 0 ∧ y < 0 := by unfold orI orI orI; split <;> (try split) <;> omega
theorem orI_zero {x y : Int} : orI [x, y] = 0 ↔ x = 0 ∧ y = 0 := by unfold orI orI orI; split <;> (try split) <;> omega
theorem less_iff {a b : Cross} : a.less b = true ↔ (a.to < b.to ∨ a.to = b.to ∧ (a.kind < b.kind ∨ a.kind = b.kind ∧ (a.kind = 1 ∧ a.ent.id < b.ent.id ∨ a.kind ≠ 1 ∧ (a.x < b.x ∨ a.x = b.x ∧ a.y < b.y)))) := by
  unfold Cross.less Cross.cmp
  rw [decide_eq_true_eq]
  split
  · rename_i h
    rw [Ne, orI_zero, cmpI_zero, cmpI_zero] at h
    rw [orI_neg, cmpI_neg, cmpI_neg, cmpI_zero]
    omega
  · rename_i h
    rw [Ne, orI_zero, cmpI_zero, cmpI_zero] at h
    split
    · rw [cmpI_neg]; omega
    · rw [orI_neg, cmpI_neg, cmpI_neg, cmpI_zero]; omega
end Go.Eva

/- Messages: which stands ahead; those that go somewhere. -/
namespace Go.Eva.S1
theorem f_joustplay_Config (c : Config) : Fn cx 20 [c.enc] c.play.enc := by
  have k1 := @u64_tmod c.cols 3 (by decide)
  have k2 := @u64_tmod c.rows 3 (by decide)
  have k3 := @u64_tmod c.players 4 (by decide)
  have k4 := @u64_tmod c.window 8 (by decide)
  refine Wp.ev ?_
  refine gg [.a _ _] ⟨o_a (f_joustref03_Right c), trivial⟩ ?_
  refine br (b := Config.right c) (by kernel_rfl) (fun h1 => ?_) (fun h1 => ?_)
  · refine gg [.tt, .tt, .tt] trivial ?_
    refine brp (p := c.cols ≤ 3) (by kernel_rfl) (fun h2 => ?_) (fun h2 => ?_)
    · refine gg [.tt, .tt, .tt] trivial ?_
      refine brp (p := c.rows ≤ 3) (by kernel_rfl) (fun h3 => ?_) (fun h3 => ?_)
      · refine gg [.tt, .tt, .tt] trivial ?_
        refine brp (p := c.players ≤ 4) (by kernel_rfl) (fun h4 => ?_) (fun h4 => ?_)
        · refine rt (a := Res.mk Ex.ret [V.t (Config.enc c)] []) (by kernel_rfl) ?_
          (unfold Config.play; first | (rw [if_pos (by simp_all)]; done) | (rw [if_pos (by simp_all)]; rfl) | (rw [if_neg (by rintro ⟨q1, q2, q3, q4⟩; simp_all; try omega)]; simp [Config.enc, u1]; done))
        · refine gg [.i IntKind.u64 c.cols (IntKind.wrap IntKind.u64 c.cols), .w ((3 : Int) ≠ (0 : Int)), .s (T.int IntKind.u64 (Int.tmod (IntKind.wrap IntKind.u64 c.cols) 3)), .i IntKind.i64 (Int.tmod (IntKind.wrap IntKind.u64 c.cols) 3) (Int.tmod (IntKind.wrap IntKind.u64 c.cols) 3), .i IntKind.i64 (1 + Int.tmod (IntKind.wrap IntKind.u64 c.cols) 3) (1 + Int.tmod (IntKind.wrap IntKind.u64 c.cols) 3), .i IntKind.u64 c.rows (IntKind.wrap IntKind.u64 c.rows), .w ((3 : Int) ≠ (0 : Int)), .s (T.int IntKind.u64 (Int.tmod (IntKind.wrap IntKind.u64 c.rows) 3)), .i IntKind.i64 (Int.tmod (IntKind.wrap IntKind.u64 c.rows) 3) (Int.tmod (IntKind.wrap IntKind.u64 c.rows) 3), .i IntKind.i64 (1 + Int.tmod (IntKind.wrap IntKind.u64 c.rows) 3) (1 + Int.tmod (IntKind.wrap IntKind.u64 c.rows) 3), .i IntKind.u64 c.players (IntKind.wrap IntKind.u64 c.players), .w ((4 : Int) ≠ (0 : Int)), .s (T.int IntKind.u64 (Int.tmod (IntKind.wrap IntKind.u64 c.players) 4)), .i IntKind.i64 (Int.tmod (IntKind.wrap IntKind.u64 c.players) 4) (Int.tmod (IntKind.wrap IntKind.u64 c.players) 4), .i IntKind.i64 (1 + Int.tmod (IntKind.wrap IntKind.u64 c.players) 4) (1 + Int.tmod (IntKind.wrap IntKind.u64 c.players) 4), .i IntKind.u64 c.window (IntKind.wrap IntKind.u64 c.window)] ⟨o_i rfl, o_w (by intro h; cases h), oI, oI, o_i rfl, o_w (by intro h; cases h), oI, oI, o_i rfl, o_w (by intro h; cases h), oI, oI, o_i rfl, trivial⟩ ?_
          refine gg [.w ((8 : Int) ≠ (0 : Int)), .s (T.int IntKind.u64 (Int.tmod (IntKind.wrap IntKind.u64 c.window) 8)), .i IntKind.i64 (Int.tmod (IntKind.wrap IntKind.u64 c.window) 8) (Int.tmod (IntKind.wrap IntKind.u64 c.window) 8), .i IntKind.i64 (1 + Int.tmod (IntKind.wrap IntKind.u64 c.window) 8) (1 + Int.tmod (IntKind.wrap IntKind.u64 c.window) 8)] ⟨o_w (by intro h; cases h), oI, oI, trivial⟩ ?_
          refine rt (a := Res.mk Ex.ret [V.t (T.agg [ti (1 + Int.tmod (IntKind.wrap IntKind.u64 c.cols) 3), ti (1 + Int.tmod (IntKind.wrap IntKind.u64 c.rows) 3), ti (1 + Int.tmod (IntKind.wrap IntKind.u64 c.players) 4), ti (1 + Int.tmod (IntKind.wrap IntKind.u64 c.window) 8), T.int IntKind.u64 c.seed])] []) (by kernel_rfl) ?_
          (unfold Config.play; first | (rw [if_pos (by simp_all)]; done) | (rw [if_pos (by simp_all)]; rfl) | (rw [if_neg (by rintro ⟨q1, q2, q3, q4⟩; simp_all; try omega)]; simp [Config.enc, u1]; done))
      · refine gg [.ff, .ff, .ff, .ff, .i IntKind.u64 c.cols (IntKind.wrap IntKind.u64 c.cols), .w ((3 : Int) ≠ (0 : Int)), .s (T.int IntKind.u64 (Int.tmod (IntKind.wrap IntKind.u64 c.cols) 3)), .i IntKind.i64 (Int.tmod (IntKind.wrap IntKind.u64 c.cols) 3) (Int.tmod (IntKind.wrap IntKind.u64 c.cols) 3), .i IntKind.i64 (1 + Int.tmod (IntKind.wrap IntKind.u64 c.cols) 3) (1 + Int.tmod (IntKind.wrap IntKind.u64 c.cols) 3), .i IntKind.u64 c.rows (IntKind.wrap IntKind.u64 c.rows), .w ((3 : Int) ≠ (0 : Int)), .s (T.int IntKind.u64 (Int.tmod (IntKind.wrap IntKind.u64 c.rows) 3)), .i IntKind.i64 (Int.tmod (IntKind.wrap IntKind.u64 c.rows) 3) (Int.tmod (IntKind.wrap IntKind.u64 c.rows) 3), .i IntKind.i64 (1 + Int.tmod (IntKind.wrap IntKind.u64 c.rows) 3) (1 + Int.tmod (IntKind.wrap IntKind.u64 c.rows) 3), .i IntKind.u64 c.players (IntKind.wrap IntKind.u64 c.players), .w ((4 : Int) ≠ (0 : Int))] ⟨o_i rfl, o_w (by intro h; cases h), oI, oI, o_i rfl, o_w (by intro h; cases h), oI, oI, o_i rfl, o_w (by intro h; cases h), trivial⟩ ?_
        refine gg [.s (T.int IntKind.u64 (Int.tmod (IntKind.wrap IntKind.u64 c.players) 4)), .i IntKind.i64 (Int.tmod (IntKind.wrap IntKind.u64 c.players) 4) (Int.tmod (IntKind.wrap IntKind.u64 c.players) 4), .i IntKind.i64 (1 + Int.tmod (IntKind.wrap IntKind.u64 c.players) 4) (1 + Int.tmod (IntKind.wrap IntKind.u64 c.players) 4), .i IntKind.u64 c.window (IntKind.wrap IntKind.u64 c.window), .w ((8 : Int) ≠ (0 : Int)), .s (T.int IntKind.u64 (Int.tmod (IntKind.wrap IntKind.u64 c.window) 8)), .i IntKind.i64 (Int.tmod (IntKind.wrap IntKind.u64 c.window) 8) (Int.tmod (IntKind.wrap IntKind.u64 c.window) 8), .i IntKind.i64 (1 + Int.tmod (IntKind.wrap IntKind.u64 c.window) 8) (1 + Int.tmod (IntKind.wrap IntKind.u64 c.window) 8)] ⟨oI, oI, o_i rfl, o_w (by intro h; cases h), oI, oI, trivial⟩ ?_
        refine rt (a := Res.mk Ex.ret [V.t (T.agg [ti (1 + Int.tmod (IntKind.wrap IntKind.u64 c.cols) 3), ti (1 + Int.tmod (IntKind.wrap IntKind.u64 c.rows) 3), ti (1 + Int.tmod (IntKind.wrap IntKind.u64 c.players) 4), ti (1 + Int.tmod (IntKind.wrap IntKind.u64 c.window) 8), T.int IntKind.u64 c.seed])] []) (by kernel_rfl) ?_
        (unfold Config.play; first | (rw [if_pos (by simp_all)]; done) | (rw [if_pos (by simp_all)]; rfl) | (rw [if_neg (by rintro ⟨q1, q2, q3, q4⟩; simp_all; try omega)]; simp [Config.enc, u1]; done))
    · refine gg [.ff, .ff, .ff, .ff, .ff, .ff, .ff, .ff, .i IntKind.u64 c.cols (IntKind.wrap IntKind.u64 c.cols), .w ((3 : Int) ≠ (0 : Int)), .s (T.int IntKind.u64 (Int.tmod (IntKind.wrap IntKind.u64 c.cols) 3)), .i IntKind.i64 (Int.tmod (IntKind.wrap IntKind.u64 c.cols) 3) (Int.tmod (IntKind.wrap IntKind.u64 c.cols) 3), .i IntKind.i64 (1 + Int.tmod (IntKind.wrap IntKind.u64 c.cols) 3) (1 + Int.tmod (IntKind.wrap IntKind.u64 c.cols) 3), .i IntKind.u64 c.rows (IntKind.wrap IntKind.u64 c.rows), .w ((3 : Int) ≠ (0 : Int)), .s (T.int IntKind.u64 (Int.tmod (IntKind.wrap IntKind.u64 c.rows) 3))] ⟨o_i rfl, o_w (by intro h; cases h), oI, oI, o_i rfl, o_w (by intro h; cases h), trivial⟩ ?_
      refine gg [.i IntKind.i64 (Int.tmod (IntKind.wrap IntKind.u64 c.rows) 3) (Int.tmod (IntKind.wrap IntKind.u64 c.rows) 3), .i IntKind.i64 (1 + Int.tmod (IntKind.wrap IntKind.u64 c.rows) 3) (1 + Int.tmod (IntKind.wrap IntKind.u64 c.rows) 3), .i IntKind.u64 c.players (IntKind.wrap IntKind.u64 c.players), .w ((4 : Int) ≠ (0 : Int)), .s (T.int IntKind.u64 (Int.tmod (IntKind.wrap IntKind.u64 c.players) 4)), .i IntKind.i64 (Int.tmod (IntKind.wrap IntKind.u64 c.players) 4) (Int.tmod (IntKind.wrap IntKind.u64 c.players) 4), .i IntKind.i64 (1 + Int.tmod (IntKind.wrap IntKind.u64 c.players) 4) (1 + Int.tmod (IntKind.wrap IntKind.u64 c.players) 4), .i IntKind.u64 c.window (IntKind.wrap IntKind.u64 c.window), .w ((8 : Int) ≠ (0 : Int)), .s (T.int IntKind.u64 (Int.tmod (IntKind.wrap IntKind.u64 c.window) 8)), .i IntKind.i64 (Int.tmod (IntKind.wrap IntKind.u64 c.window) 8) (Int.tmod (IntKind.wrap IntKind.u64 c.window) 8), .i IntKind.i64 (1 + Int.tmod (IntKind.wrap IntKind.u64 c.window) 8) (1 + Int.tmod (IntKind.wrap IntKind.u64 c.window) 8)] ⟨oI, oI, o_i rfl, o_w (by intro h; cases h), oI, oI, o_i rfl, o_w (by intro h; cases h), oI, oI, trivial⟩ ?_
      refine rt (a := Res.mk Ex.ret [V.t (T.agg [ti (1 + Int.tmod (IntKind.wrap IntKind.u64 c.cols) 3), ti (1 + Int.tmod (IntKind.wrap IntKind.u64 c.rows) 3), ti (1 + Int.tmod (IntKind.wrap IntKind.u64 c.players) 4), ti (1 + Int.tmod (IntKind.wrap IntKind.u64 c.window) 8), T.int IntKind.u64 c.seed])] []) (by kernel_rfl) ?_
      (unfold Config.play; first | (rw [if_pos (by simp_all)]; done) | (rw [if_pos (by simp_all)]; rfl) | (rw [if_neg (by rintro ⟨q1, q2, q3, q4⟩; simp_all; try omega)]; simp [Config.enc, u1]; done))
  · refine gg [.ff, .ff, .ff, .ff, .ff, .ff, .ff, .ff, .ff, .ff, .ff, .ff, .i IntKind.u64 c.cols (IntKind.wrap IntKind.u64 c.cols), .w ((3 : Int) ≠ (0 : Int)), .s (T.int IntKind.u64 (Int.tmod (IntKind.wrap IntKind.u64 c.cols) 3)), .i IntKind.i64 (Int.tmod (IntKind.wrap IntKind.u64 c.cols) 3) (Int.tmod (IntKind.wrap IntKind.u64 c.cols) 3)] ⟨o_i rfl, o_w (by intro h; cases h), oI, trivial⟩ ?_
    refine gg [.i IntKind.i64 (1 + Int.tmod (IntKind.wrap IntKind.u64 c.cols) 3) (1 + Int.tmod (IntKind.wrap IntKind.u64 c.cols) 3), .i IntKind.u64 c.rows (IntKind.wrap IntKind.u64 c.rows), .w ((3 : Int) ≠ (0 : Int)), .s (T.int IntKind.u64 (Int.tmod (IntKind.wrap IntKind.u64 c.rows) 3)), .i IntKind.i64 (Int.tmod (IntKind.wrap IntKind.u64 c.rows) 3) (Int.tmod (IntKind.wrap IntKind.u64 c.rows) 3), .i IntKind.i64 (1 + Int.tmod (IntKind.wrap IntKind.u64 c.rows) 3) (1 + Int.tmod (IntKind.wrap IntKind.u64 c.rows) 3), .i IntKind.u64 c.players (IntKind.wrap IntKind.u64 c.players), .w ((4 : Int) ≠ (0 : Int)), .s (T.int IntKind.u64 (Int.tmod (IntKind.wrap IntKind.u64 c.players) 4)), .i IntKind.i64 (Int.tmod (IntKind.wrap IntKind.u64 c.players) 4) (Int.tmod (IntKind.wrap IntKind.u64 c.players) 4), .i IntKind.i64 (1 + Int.tmod (IntKind.wrap IntKind.u64 c.players) 4) (1 + Int.tmod (IntKind.wrap IntKind.u64 c.players) 4), .i IntKind.u64 c.window (IntKind.wrap IntKind.u64 c.window), .w ((8 : Int) ≠ (0 : Int)), .s (T.int IntKind.u64 (Int.tmod (IntKind.wrap IntKind.u64 c.window) 8)), .i IntKind.i64 (Int.tmod (IntKind.wrap IntKind.u64 c.window) 8) (Int.tmod (IntKind.wrap IntKind.u64 c.window) 8), .i IntKind.i64 (1 + Int.tmod (IntKind.wrap IntKind.u64 c.window) 8) (1 + Int.tmod (IntKind.wrap IntKind.u64 c.window) 8)] ⟨oI, o_i rfl, o_w (by intro h; cases h), oI, oI, o_i rfl, o_w (by intro h; cases h), oI, oI, o_i rfl, o_w (by intro h; cases h), oI, oI, trivial⟩ ?_
    refine rt (a := Res.mk Ex.ret [V.t (T.agg [ti (1 + Int.tmod (IntKind.wrap IntKind.u64 c.cols) 3), ti (1 + Int.tmod (IntKind.wrap IntKind.u64 c.rows) 3), ti (1 + Int.tmod (IntKind.wrap IntKind.u64 c.players) 4), ti (1 + Int.tmod (IntKind.wrap IntKind.u64 c.window) 8), T.int IntKind.u64 c.seed])] []) (by kernel_rfl) ?_
    (unfold Config.play; first | (rw [if_pos (by simp_all)]; done) | (rw [if_pos (by simp_all)]; rfl) | (rw [if_neg (by rintro ⟨q1, q2, q3, q4⟩; simp_all; try omega)]; simp [Config.enc, u1]; done))
theorem f_cmp_isNaN_int (x : Int) : Fn cx 95 [ti x] (.bool false) := by
  refine Wp.ev ?_
  refine rt (a := Res.mk Ex.ret [vb (x != x)] []) (by kernel_rfl) ?_
  simp
theorem f_cmp_Compare_int (x y : Int) : Fn cx 87 [ti x, ti y] (ti (cmpI x y)) := by
  refine Wp.ev ?_
  refine gg [.a _ _, .a _ _, .ff, .ff] ⟨o_a (f_cmp_isNaN_int x), o_a (f_cmp_isNaN_int y), trivial⟩ ?_
  refine brp (p := x < y) (by kernel_rfl) (fun h1 => ?_) (fun h1 => ?_)
  · refine rt (a := Res.mk Ex.ret [vi (-1)] []) (by kernel_rfl) ?_
    (simp_all [cmpI]; try omega)
  · refine brp (p := x > y) (by kernel_rfl) (fun h2 => ?_) (fun h2 => ?_)
    · refine rt (a := Res.mk Ex.ret [vi 1] []) (by kernel_rfl) ?_
      (simp_all [cmpI]; try omega)
    · refine rt (a := Res.mk Ex.ret [vi 0] []) (by kernel_rfl) ?_
      (simp_all [cmpI]; try omega)
theorem f_cmp_Or_int (x y : Int) : Fn cx 86 [.sl 1 [ti x, ti y]] (ti (orI [x, y])) := by
  by_cases hx : x = 0
  · subst hx
    by_cases hy : y = 0
    · subst hy
      have h2 : Is cx (.loop 86 [0, 1, 0, 1, 1] 0 [vi 0, vi 0, .t (.sl 1 [ti 0, ti 0]), vi 2, vi 2] []) ⟨.exit 0, [vi 0, vi 0, .t (.sl 1 [ti 0, ti 0]), vi 2, vi 2], []⟩ := by
        refine Wp.ev ?_
        refine gg [.b (decide (2 < 2)) false] ⟨o_b (by kernel_rfl), trivial⟩ ?_
        exact ge
      have h1 : Is cx (.loop 86 [0, 1, 0, 1, 1] 0 [vi 0, vi 0, .t (.sl 1 [ti 0, ti 0]), vi 2, vi 1] []) ⟨.exit 0, [vi 0, vi 0, .t (.sl 1 [ti 0, ti 0]), vi 2, vi 2], []⟩ := by
        refine Wp.ev ?_
        refine gg [.b (decide (1 < 2)) true, .w ((0 : Int) ≤ (1 : Int)), .l 1, .g [ti 0, ti 0] 1 (ti 0), .b (0 != 0) false, .i IntKind.i64 2 2, .a _ _] ⟨o_b (by kernel_rfl), oW, oG, o_b (by kernel_rfl), oK, o_a h2, trivial⟩ ?_
        exact ge
      have h0 : Is cx (.loop 86 [0, 1, 0, 1, 1] 0 [vi 0, vi 0, .t (.sl 1 [ti 0, ti 0]), vi 2, vi 0] []) ⟨.exit 0, [vi 0, vi 0, .t (.sl 1 [ti 0, ti 0]), vi 2, vi 2], []⟩ := by
        refine Wp.ev ?_
        refine gg [.b (decide (0 < 2)) true, .w ((0 : Int) ≤ (0 : Int)), .l 0, .g [ti 0, ti 0] 0 (ti 0), .b (0 != 0) false, .i IntKind.i64 1 1, .a _ _] ⟨o_b (by kernel_rfl), oW, oG, o_b (by kernel_rfl), oK, o_a h1, trivial⟩ ?_
        exact ge
      refine Wp.ev ?_
      refine gg [.l 2, .a _ _] ⟨o_a h0, trivial⟩ ?_
      exact ge
    · have h1 : Is cx (.loop 86 [0, 1, 0, 1, 1] 0 [vi 0, vi 0, .t (.sl 1 [ti 0, ti y]), vi 2, vi 1] []) ⟨.ret, [vi y, vi 0, .t (.sl 1 [ti 0, ti y]), vi 2, vi 1], []⟩ := by
        refine Wp.ev ?_
        refine gg [.b (decide (1 < 2)) true, .w ((0 : Int) ≤ (1 : Int)), .l 1, .g [ti 0, ti y] 1 (ti y), .b (y != 0) true] ⟨o_b (by kernel_rfl), oW, oG, t_brn (by assumption), trivial⟩ ?_
        exact ge
      have h0 : Is cx (.loop 86 [0, 1, 0, 1, 1] 0 [vi 0, vi 0, .t (.sl 1 [ti 0, ti y]), vi 2, vi 0] []) ⟨.ret, [vi y, vi 0, .t (.sl 1 [ti 0, ti y]), vi 2, vi 1], []⟩ := by
        refine Wp.ev ?_
        refine gg [.b (decide (0 < 2)) true, .w ((0 : Int) ≤ (0 : Int)), .l 0, .g [ti 0, ti y] 0 (ti 0), .b (0 != 0) false, .i IntKind.i64 1 1, .a _ _] ⟨o_b (by kernel_rfl), oW, oG, o_b (by kernel_rfl), oK, o_a h1, trivial⟩ ?_
        exact ge
      refine Wp.ev ?_
      refine gg [.n (List.length [ti 0, ti y]) 2, .a _ _] ⟨o_n (by kernel_rfl), o_a h0, trivial⟩ ?_
      refine rt (a := Res.mk Ex.ret [vi y] []) (by kernel_rfl) ?_
      simp [orI, hy]
  · have h0 : Is cx (.loop 86 [0, 1, 0, 1, 1] 0 [vi 0, vi 0, .t (.sl 1 [ti x, ti y]), vi 2, vi 0] []) ⟨.ret, [vi x, vi 0, .t (.sl 1 [ti x, ti y]), vi 2, vi 0], []⟩ := by
      refine Wp.ev ?_
      refine gg [.b (decide (0 < 2)) true, .w ((0 : Int) ≤ (0 : Int)), .l 0, .g [ti x, ti y] 0 (ti x), .b (x != 0) true] ⟨o_b (by kernel_rfl), oW, oG, t_brn (by assumption), trivial⟩ ?_
      exact ge
    refine Wp.ev ?_
    refine gg [.n (List.length [ti x, ti y]) 2, .a _ _] ⟨o_n (by kernel_rfl), o_a h0, trivial⟩ ?_
    refine rt (a := Res.mk Ex.ret [vi x] []) (by kernel_rfl) ?_
    simp [orI, hx]
theorem f_cross_compare (a b : Cross) : Fn cx 67 [a.enc, b.enc] (ti (a.cmp b)) := by
  refine Wp.ev ?_
  refine gg [.a _ _, .a _ _, .a _ _] ⟨o_a (f_cmp_Compare_int a.to b.to), o_a (f_cmp_Compare_int a.kind b.kind), o_a (f_cmp_Or_int (cmpI a.to b.to) (cmpI a.kind b.kind)), trivial⟩ ?_
  refine brn (x := orI [cmpI a.to b.to, cmpI a.kind b.kind]) (y := 0) (by kernel_rfl) (fun h1 => ?_) (fun h1 => ?_)
  · refine rt (a := Res.mk Ex.ret [vi (orI [cmpI a.to b.to, cmpI a.kind b.kind])] []) (by kernel_rfl) ?_
    simp_all [Cross.cmp]
  · refine bre (x := a.kind) (y := 1) (by kernel_rfl) (fun h2 => ?_) (fun h2 => ?_)
    · refine gg [.a _ _] ⟨o_a (f_cmp_Compare_int a.ent.id b.ent.id), trivial⟩ ?_
      refine rt (a := Res.mk Ex.ret [vi (cmpI a.ent.id b.ent.id)] []) (by kernel_rfl) ?_
      simp_all [Cross.cmp]
    · refine gg [.a _ _, .a _ _, .a _ _] ⟨o_a (f_cmp_Compare_int a.x b.x), o_a (f_cmp_Compare_int a.y b.y), o_a (f_cmp_Or_int (cmpI a.x b.x) (cmpI a.y b.y)), trivial⟩ ?_
      refine rt (a := Res.mk Ex.ret [vi (orI [cmpI a.x b.x, cmpI a.y b.y])] []) (by kernel_rfl) ?_
      simp_all [Cross.cmp]
theorem f_cross_Less (a b : Cross) : Fn cx 34 [a.enc, b.enc] (.bool (a.less b)) := by
  refine Wp.ev ?_
  refine gg [.a _ _] ⟨o_a (f_cross_compare a b), trivial⟩ ?_
  exact ge
theorem f_joustref05_Less (a b : Cross) : Fn cx 40 [a.enc, b.enc] (.bool (a.less b)) := by
  refine Wp.ev ?_
  refine brn (x := a.to) (y := b.to) (by kernel_rfl) (fun h1 => ?_) (fun h1 => ?_)
  · refine rt (a := Res.mk Ex.ret [vb (decide (a.to < b.to))] []) (by kernel_rfl) ?_
    (congr 3; rw [Bool.eq_iff_iff, less_iff]; simp; omega)
  · refine brn (x := a.kind) (y := b.kind) (by kernel_rfl) (fun h2 => ?_) (fun h2 => ?_)
    · refine rt (a := Res.mk Ex.ret [vb (decide (a.kind < b.kind))] []) (by kernel_rfl) ?_
      (congr 3; rw [Bool.eq_iff_iff, less_iff]; simp; omega)
    · refine bre (x := a.kind) (y := 1) (by kernel_rfl) (fun h3 => ?_) (fun h3 => ?_)
      · refine rt (a := Res.mk Ex.ret [vb (decide (a.ent.id < b.ent.id))] []) (by kernel_rfl) ?_
        (congr 3; rw [Bool.eq_iff_iff, less_iff]; simp; omega)
      · refine brn (x := a.x) (y := b.x) (by kernel_rfl) (fun h4 => ?_) (fun h4 => ?_)
        · refine rt (a := Res.mk Ex.ret [vb (decide (a.x < b.x))] []) (by kernel_rfl) ?_
          (congr 3; rw [Bool.eq_iff_iff, less_iff]; simp; omega)
        · refine rt (a := Res.mk Ex.ret [vb (decide (a.y < b.y))] []) (by kernel_rfl) ?_
          (congr 3; rw [Bool.eq_iff_iff, less_iff]; simp; omega)
theorem f_cross_To_1 (c : Cross) (r : Int) : Fn cx 72 [c.enc, .ip 1 (ti r) 0] (.bool (c.to != r)) := by
  refine Wp.ev ?_
  exact ge
theorem f_cross_To (l : List Cross) (r : Int) (hl : small l) : Is cx (.call 36 [.t (.sl 15 (l.map Cross.enc)), .t (ti r)] []) ⟨.ret, [.all 0 none], [.arr 15 ((toL l r).map Cross.enc) none false]⟩ := by
  have h := f_slices_DeleteFunc_Cross l 72 [.ip 1 (ti r) 0] (fun c => c.to != r) (by kernel_rfl) hl (fun c _ => f_cross_To_1 c r)
  have e : (l.filter fun c => !(c.to != r)) = toL l r := by
    unfold toL
    congr 1
    funext c
    rw [bned]; simp
  rw [e] at h
  refine Wp.ev ?_
  refine gg [.a _ _, .s (T.clo 72 [T.ip 1 (ti r) 0]), .a _ _] ⟨o_a (f_slices_Clone_Cross l (by assumption)), o_a h, trivial⟩ ?_
  exact ge
theorem f_joustref05_To_loop (l : List Cross) (r : Int) (hn : small l) : ∀ (d i : Nat) (A : List Cross), i + d = l.length → A.length ≤ i →
    Is cx (.loop 42 [0, 1, 0, 1, 1] 0 [.t (.sl 15 (l.map Cross.enc)), vi r, .all 0 none, vi i] [.arr 15 (A.map Cross.enc) none false])
      ⟨.exit 0, [.t (.sl 15 (l.map Cross.enc)), vi r, .all 0 none, vi l.length], [.arr 15 ((A ++ toL (l.drop i) r).map Cross.enc) none false]⟩ := by
  unfold small at hn
  intro d
  induction d with
  | zero =>
    intro i A hi hA
    rw [drop_end (by omega)]
    refine Wp.ev ?_
    refine gg [.n (List.length (List.map Cross.enc l)) (List.length l), .b (decide ((↑i : Int) < (↑(List.length l) : Int))) false] ⟨o_n (by simp), fP, trivial⟩ ?_
    refine rt (a := Res.mk (Ex.exit 0) [V.t (T.sl 15 (List.map Cross.enc l)), vi r, V.all 0 none, vi (↑i : Int)] [Ob.arr 15 (List.map Cross.enc A) none false]) (by kernel_rfl) ?_
    ((have hq : i = l.length := by omega); subst hq; simp [toL])
  | succ d ih =>
    intro i A hi hA
    have hlt : i < l.length := by omega
    have ih1 := ih (i + 1) A (by omega) (by omega)
    have ih2 := ih (i + 1) (A ++ [gt l i]) (by omega) (by simp; omega)
    clear ih
    unfold toL at *
    rw [filter_gt _ hlt]
    refine Wp.ev ?_
    refine gg [.n (List.length (List.map Cross.enc l)) (List.length l), .b (decide ((↑i : Int) < (↑(List.length l) : Int))) true, .w ((0 : Int) ≤ (↑i : Int)), .n (Int.toNat (↑i : Int)) i, .g (List.map Cross.enc l) i (Cross.enc (gt l i))] ⟨o_n (by simp), tP, oW, o_n (by kernel_rfl), o_gt rfl (by assumption) (by intro h; cases h), trivial⟩ ?_
    refine bre (x := (gt l i).to) (y := r) (by kernel_rfl) (fun h1 => ?_) (fun h1 => ?_)
    · refine gg [.w ((0 : Int) ≤ (↑i : Int)), .n (Int.toNat (↑i : Int)) i, .g (List.map Cross.enc l) i (Cross.enc (gt l i)), .w ((0 : Nat) < (120 : Nat)), .t (T.sl 0 [Cross.enc (gt l i)]) (T.sl 0 (List.map Cross.enc [gt l i])), .t (T.sl 0 (List.map Cross.enc A ++ List.map Cross.enc [gt l i])) (T.sl 0 (List.map Cross.enc (A ++ [gt l i]))), .w (room (List.length (List.map Cross.enc (A ++ [gt l i]))) (120 : Nat)), .i IntKind.i64 ((↑i : Int) + 1) ((↑(i + 1) : Int)), .a _ _] ⟨oW, o_n (by kernel_rfl), o_gt rfl (by assumption) (by intro h; cases h), oW, o_l (nm_cons rfl nm_nil), o_l (nm_app rfl rfl), o_w (by (simp [room, appendMax]; omega)), o_i (w64 (by (simp [room, appendMax]; omega))), o_a ih2, trivial⟩ ?_
      refine rt (a := Res.mk (Ex.exit 0) [V.t (T.sl 15 (List.map Cross.enc l)), vi r, V.all 0 none, vi (↑(List.length l) : Int)] [Ob.arr 15 (List.map Cross.enc (A ++ [gt l i] ++ List.filter (fun (c : Cross) ↦ decide (c.to = r)) (List.drop (i + 1) l))) none false]) (by kernel_rfl) ?_
      simp_all
    · refine gg [.i IntKind.i64 ((↑i : Int) + 1) ((↑(i + 1) : Int)), .a _ _] ⟨o_i (w64 (by (simp [room, appendMax]; omega))), o_a ih1, trivial⟩ ?_
      refine rt (a := Res.mk (Ex.exit 0) [V.t (T.sl 15 (List.map Cross.enc l)), vi r, V.all 0 none, vi (↑(List.length l) : Int)] [Ob.arr 15 (List.map Cross.enc (A ++ List.filter (fun (c : Cross) ↦ decide (c.to = r)) (List.drop (i + 1) l))) none false]) (by kernel_rfl) ?_
      simp_all
theorem f_joustref05_To (l : List Cross) (r : Int) (hn : small l) : Fn cx 42 [.sl 15 (l.map Cross.enc), ti r] (.sl 15 ((toL l r).map Cross.enc)) := by
  have h := f_joustref05_To_loop l r hn l.length 0 [] (by omega) (by simp)
  rw [List.drop_zero, List.nil_append] at h
  refine Wp.ev ?_
  refine gg [.a _ _] ⟨o_a h, trivial⟩ ?_
  exact ge
end Go.Eva.S1

/- Eva, part 51: sorting that keeps what is alike in order; in plain lists. -/
namespace Go.Eva

/-- A strict weak order. -/
structure Swo {α : Type} (lt : α → α → Bool) : Prop where
  asymm : ∀ {x y}, lt x y = true → lt y x = false
  ntrans : ∀ {x y z}, lt x y = false → lt y z = false → lt x z = false

section
variable {α : Type} {lt : α → α → Bool}

abbrev Sd (lt : α → α → Bool) (l : List α) : Prop := l.Pairwise fun a b => lt b a = false
def eqv (lt : α → α → Bool) (x y : α) : Bool := !lt x y && !lt y x
/-- The same, as far as what is alike stays in order. -/
def StEq (lt : α → α → Bool) (s l : List α) : Prop := ∀ x, s.filter (eqv lt x) = l.filter (eqv lt x)

theorem Swo.irr (h : Swo lt) (x : α) : lt x x = false := by
  cases hx : lt x x with
  | false => rfl
  | true => exact absurd (h.asymm hx) (by rw [hx]; simp)
theorem Swo.trans (h : Swo lt) {x y z : α} (h1 : lt x y = true) (h2 : lt y z = true) : lt x z = true := by
  cases hx : lt x z with
  | true => rfl
  | false =>
    have := h.ntrans hx (h.asymm h2)
    rw [h1] at this
    contradiction
/-- lt x y, y ≤ z -/
theorem Swo.lt_le (h : Swo lt) {x y z : α} (h1 : lt x y = true) (h2 : lt z y = false) : lt x z = true := by
  cases hx : lt x z with
  | true => rfl
  | false => exact absurd (h.ntrans hx h2) (by rw [h1]; simp)
theorem Swo.le_lt (h : Swo lt) {x y z : α} (h1 : lt y x = false) (h2 : lt y z = true) : lt x z = true := by
  cases hx : lt x z with
  | true => rfl
  | false => exact absurd (h.ntrans h1 hx) (by rw [h2]; simp)
theorem eqv_self (h : Swo lt) (x : α) : eqv lt x x = true := by simp [eqv, h.irr x]

theorem StEq.refl (l : List α) : StEq lt l l := fun _ => rfl
theorem StEq.symm {s l : List α} (h : StEq lt s l) : StEq lt l s := fun x => (h x).symm
theorem StEq.trans {s l m : List α} (h : StEq lt s l) (k : StEq lt l m) : StEq lt s m := fun x => (h x).trans (k x)
theorem StEq.append {s l s' l' : List α} (h : StEq lt s l) (k : StEq lt s' l') : StEq lt (s ++ s') (l ++ l') := fun x => by rw [List.filter_append, List.filter_append, h x, k x]
theorem StEq.nil {s : List α} (hw : Swo lt) (h : StEq lt s []) : s = [] := by
  cases s with
  | nil => rfl
  | cons x s =>
    have := h x
    rw [List.filter_cons, if_pos (eqv_self hw x)] at this
    simp at this
theorem StEq.mem {s l : List α} (hw : Swo lt) (h : StEq lt s l) {x : α} (hx : x ∈ s) : x ∈ l := by
  have : x ∈ s.filter (eqv lt x) := List.mem_filter.2 ⟨hx, eqv_self hw x⟩
  rw [h x] at this
  exact (List.mem_filter.1 this).1

/-- What is sorted, and keeps what is alike in order, is one list. -/
theorem uniq (hw : Swo lt) : ∀ {s t : List α}, Sd lt s → Sd lt t → StEq lt s t → s = t
  | [], t, _, _, h => (h.symm.nil hw).symm
  | x :: s, [], _, _, h => h.nil hw
  | x :: s, y :: t, hs, ht, h => by
    have hx : x ∈ y :: t := h.mem hw (List.mem_cons_self ..)
    have hy : y ∈ x :: s := h.symm.mem hw (List.mem_cons_self ..)
    obtain ⟨h1, h2⟩ := List.pairwise_cons.1 hs
    obtain ⟨h3, h4⟩ := List.pairwise_cons.1 ht
    have e1 : lt x y = false := by
      rcases List.mem_cons.1 hx with rfl | hx
      · exact hw.irr _
      · exact h3 x hx
    have e2 : lt y x = false := by
      rcases List.mem_cons.1 hy with rfl | hy
      · exact hw.irr _
      · exact h1 y hy
    have e3 : eqv lt x y = true := by simp [eqv, e1, e2]
    have := h x
    rw [List.filter_cons, if_pos (eqv_self hw x), List.filter_cons, if_pos e3] at this
    obtain ⟨rfl, _⟩ := List.cons.inj this
    have h5 : StEq lt s t := by
      intro z
      have := h z
      rw [List.filter_cons, List.filter_cons] at this
      split at this
      · exact (List.cons.inj this).2
      · exact this
    rw [uniq hw h2 h4 h5]

/-- What is less moves ahead. -/
theorem StEq.swap (hw : Swo lt) {u v : List α} (h : ∀ x ∈ v, ∀ y ∈ u, lt x y = true) : StEq lt (u ++ v) (v ++ u) := by
  intro z
  rw [List.filter_append, List.filter_append]
  by_cases hu : ∃ y ∈ u, eqv lt z y = true
  · obtain ⟨y, hy, hzy⟩ := hu
    have : v.filter (eqv lt z) = [] := by
      rw [List.filter_eq_nil_iff]
      intro x hx hzx
      have hxy := h x hx y hy
      simp only [eqv, Bool.and_eq_true, Bool.not_eq_true'] at hzy hzx
      have := hw.ntrans hzx.2 hzy.1
      rw [hxy] at this
      contradiction
    rw [this]; simp
  · have : u.filter (eqv lt z) = [] := by
      rw [List.filter_eq_nil_iff]
      intro y hy hzy
      exact hu ⟨y, hy, hzy⟩
    rw [this]; simp

/-- One is put behind all that it is not less than. -/
def insS (lt : α → α → Bool) : List α → α → List α
  | [], x => [x]
  | y :: l, x => match lt x y with
    | true => x :: y :: l
    | false => y :: insS lt l x
def sortS (lt : α → α → Bool) (l : List α) : List α := l.foldl (insS lt) []

theorem insS_mem {x z : α} : ∀ {l : List α}, z ∈ insS lt l x ↔ z = x ∨ z ∈ l
  | [] => by simp [insS]
  | y :: l => by
    simp only [insS]
    cases lt x y with
    | true => simp
    | false =>
      simp only [List.mem_cons, insS_mem]
      constructor <;> (intro h; rcases h with h | h | h <;> simp [h])
theorem insS_sd (hw : Swo lt) {x : α} : ∀ {l : List α}, Sd lt l → Sd lt (insS lt l x)
  | [], _ => by simp [insS, Sd]
  | y :: l, h => by
    obtain ⟨h1, h2⟩ := List.pairwise_cons.1 h
    simp only [insS]
    cases hxy : lt x y with
    | true =>
      refine List.pairwise_cons.2 ⟨fun z hz => ?_, h⟩
      rcases List.mem_cons.1 hz with rfl | hz
      · exact hw.asymm hxy
      · exact hw.ntrans (h1 z hz) (hw.asymm hxy)
    | false =>
      refine List.pairwise_cons.2 ⟨fun z hz => ?_, insS_sd hw h2⟩
      rcases insS_mem.1 hz with rfl | hz
      · exact hxy
      · exact h1 z hz
theorem insS_st (hw : Swo lt) {x : α} : ∀ {l : List α}, Sd lt l → StEq lt (insS lt l x) (l ++ [x])
  | [], _ => .refl _
  | y :: l, h => by
    obtain ⟨h1, h2⟩ := List.pairwise_cons.1 h
    simp only [insS]
    cases hxy : lt x y with
    | true =>
      have : StEq lt ((y :: l) ++ [x]) ([x] ++ (y :: l)) := .swap hw fun a ha b hb => by
        simp at ha; subst ha
        rcases List.mem_cons.1 hb with rfl | hb
        · exact hxy
        · exact hw.lt_le hxy (h1 b hb)
      exact this.symm
    | false => exact StEq.append (s := [y]) (l := [y]) (.refl _) (insS_st hw h2)
theorem foldl_sd (hw : Swo lt) : ∀ {l acc : List α}, Sd lt acc → Sd lt (l.foldl (insS lt) acc) ∧ StEq lt (l.foldl (insS lt) acc) (acc ++ l)
  | [], acc, h => ⟨h, by simpa using StEq.refl acc⟩
  | x :: l, acc, h => by
    obtain ⟨h1, h2⟩ := foldl_sd hw (l := l) (insS_sd hw (x := x) h)
    refine ⟨h1, h2.trans ?_⟩
    have := StEq.append (insS_st hw (x := x) h) (StEq.refl (lt := lt) l)
    simpa using this
theorem sortS_sd (hw : Swo lt) (l : List α) : Sd lt (sortS lt l) := (foldl_sd hw (by simp [Sd])).1
theorem sortS_st (hw : Swo lt) (l : List α) : StEq lt (sortS lt l) l := by
  have := (foldl_sd hw (l := l) (acc := []) (by simp [Sd])).2
  simpa [sortS] using this
/-- What is sorted, and the same as a list, is that list sorted. -/
theorem sortS_eq (hw : Swo lt) {s l : List α} (h : Sd lt s) (k : StEq lt s l) : s = sortS lt l := uniq hw h (sortS_sd hw l) (k.trans (sortS_st hw l).symm)
theorem StEq.len (hw : Swo lt) : ∀ {s l : List α}, Sd lt s → StEq lt s l → s.length = l.length := by
  intro s l hs h
  rw [sortS_eq hw hs h]
  have : ∀ (l acc : List α), (l.foldl (insS lt) acc).length = acc.length + l.length := by
    intro l
    induction l with
    | nil => simp
    | cons x l ih =>
      intro acc
      have : ∀ acc : List α, (insS lt acc x).length = acc.length + 1 := by
        intro acc
        induction acc with
        | nil => rfl
        | cons y acc ih => simp only [insS]; cases lt x y <;> simp [ih]
      simp [ih, this]; omega
  simpa [sortS] using this l []
theorem sortS_len (hw : Swo lt) (l : List α) : (sortS lt l).length = l.length := StEq.len hw (sortS_sd hw l) (sortS_st hw l)
theorem sortS_self (hw : Swo lt) {l : List α} (h : Sd lt l) : sortS lt l = l := (sortS_eq hw h (.refl l)).symm
/-- Two sorted halves, parted rightly. -/
theorem sortS_parts (hw : Swo lt) {u1 u2 v1 v2 : List α} (h1 : ∀ x ∈ v1, ∀ y ∈ u2, lt x y = true) (h2 : ∀ x ∈ u1 ++ v1, ∀ y ∈ u2 ++ v2, lt y x = false) :
    sortS lt (u1 ++ v1) ++ sortS lt (u2 ++ v2) = sortS lt ((u1 ++ u2) ++ (v1 ++ v2)) := by
  refine sortS_eq hw ?_ ?_
  · refine List.pairwise_append.2 ⟨sortS_sd hw _, sortS_sd hw _, fun x hx y hy => ?_⟩
    exact h2 x ((sortS_st hw _).mem hw hx) y ((sortS_st hw _).mem hw hy)
  · refine ((sortS_st hw _).append (sortS_st hw _)).trans ?_
    have h3 : StEq lt (v1 ++ u2) (u2 ++ v1) := (StEq.swap hw h1).symm
    have := ((StEq.refl (lt := lt) u1).append h3).append (StEq.refl v2)
    simpa [List.append_assoc] using this
end
end Go.Eva

/- Eva, part 52: how rows are turned and searched; in plain lists. -/
namespace Go.Eva

theorem less_swo : Swo Cross.less := by
  refine ⟨fun {x y} h => ?_, fun {x y z} h k => ?_⟩
  · rw [less_iff] at h
    rw [← Bool.not_eq_true, less_iff]
    omega
  · rw [← Bool.not_eq_true, less_iff] at *
    omega

/-- The first place from 'i' on, below 'j', at which it does not hold. -/
def bs (P : Nat → Bool) : Nat → Nat → Nat → Nat
  | 0, i, _ => i
  | d + 1, i, j => if i < j then (match P ((i + j) / 2) with | true => bs P d ((i + j) / 2 + 1) j | false => bs P d i ((i + j) / 2)) else i

theorem bs_ok {P : Nat → Bool} : ∀ {d i j : Nat}, i ≤ j → j ≤ i + d → (∀ h h', i ≤ h → h ≤ h' → h' < j → P h' = true → P h = true) →
    i ≤ bs P d i j ∧ bs P d i j ≤ j ∧ (∀ h, i ≤ h → h < bs P d i j → P h = true) ∧ (∀ h, bs P d i j ≤ h → h < j → P h = false)
  | 0, i, j, h1, h2, _ => by
    simp only [bs]
    exact ⟨Nat.le_refl _, h1, fun h a b => by omega, fun h a b => by omega⟩
  | d + 1, i, j, h1, h2, hm => by
    simp only [bs]
    by_cases hij : i < j
    · rw [if_pos hij]
      have hh : i ≤ (i + j) / 2 ∧ (i + j) / 2 < j := by omega
      cases hp : P ((i + j) / 2) with
      | true =>
        simp only
        obtain ⟨k1, k2, k3, k4⟩ := bs_ok (P := P) (d := d) (i := (i + j) / 2 + 1) (j := j) (by omega) (by omega) (fun h h' a b c e => hm h h' (by omega) b c e)
        refine ⟨by omega, k2, fun h a b => ?_, k4⟩
        by_cases hc : h ≤ (i + j) / 2
        · exact hm h _ a hc hh.2 hp
        · exact k3 h (by omega) b
      | false =>
        simp only
        obtain ⟨k1, k2, k3, k4⟩ := bs_ok (P := P) (d := d) (i := i) (j := (i + j) / 2) (by omega) (by omega) (fun h h' a b c e => hm h h' a b (by omega) e)
        refine ⟨k1, by omega, k3, fun h a b => ?_⟩
        by_cases hc : h < (i + j) / 2
        · exact k4 h a hc
        · cases hq : P h with
          | false => rfl
          | true =>
            have := hm _ h hh.1 (by omega) b hq
            rw [hp] at this
            contradiction
    · rw [if_neg hij]
      exact ⟨Nat.le_refl _, h1, fun h a b => by omega, fun h a b => by omega⟩

section
variable {α : Type} [Inhabited α]

/-- Two members change places. -/
def sw (A : List α) (i j : Nat) : List α := (A.set i (gt A j)).set j (gt A i)

theorem sw_len (A : List α) (i j : Nat) : (sw A i j).length = A.length := by simp [sw]
theorem gt_set {A : List α} {i k : Nat} {x : α} (h : i < A.length) : gt (A.set i x) k = if k = i then x else gt A k := by
  unfold gt
  rw [List.getElem?_set]
  by_cases hk : i = k
  · subst hk; simp [h]
  · simp [hk, show ¬ k = i by omega]
theorem gt_sw {A : List α} {i j k : Nat} (hi : i < A.length) (hj : j < A.length) : gt (sw A i j) k = if k = j then gt A i else if k = i then gt A j else gt A k := by
  unfold sw
  rw [gt_set (by simpa using hj), gt_set hi]
theorem list_gt {A B : List α} (h : A.length = B.length) (k : ∀ i, i < A.length → gt A i = gt B i) : A = B := by
  apply List.ext_getElem h
  intro i h1 h2
  have := k i h1
  rwa [gt_eq h1, gt_eq h2] at this
theorem gt_app {A B : List α} {i : Nat} : gt (A ++ B) i = if i < A.length then gt A i else gt B (i - A.length) := by
  unfold gt
  rw [List.getElem?_append]
  split <;> rfl

/-- Members change places, 'n' of them. -/
def swR : Nat → List α → Nat → Nat → List α
  | 0, A, _, _ => A
  | n + 1, A, a, b => swR n (sw A a b) (a + 1) (b + 1)
theorem swR_len : ∀ (n : Nat) (A : List α) (a b : Nat), (swR n A a b).length = A.length
  | 0, _, _, _ => rfl
  | n + 1, A, a, b => by rw [swR, swR_len, sw_len]
theorem gt_swR : ∀ {n : Nat} {A : List α} {a b k : Nat}, a + n ≤ b → b + n ≤ A.length →
    gt (swR n A a b) k = if a ≤ k ∧ k < a + n then gt A (b + (k - a)) else if b ≤ k ∧ k < b + n then gt A (a + (k - b)) else gt A k
  | 0, A, a, b, k, _, _ => by
    simp only [swR]
    rw [if_neg (by omega), if_neg (by omega)]
  | n + 1, A, a, b, k, h1, h2 => by
    rw [swR, gt_swR (by omega) (by rw [sw_len]; omega)]
    have g := fun k => gt_sw (A := A) (i := a) (j := b) (k := k) (by omega) (by omega)
    rw [g, g, g]
    repeat' split
    all_goals first | omega | rfl | (congr 1 <;> omega)
theorem swR_eq {P X M Y Q : List α} (h : X.length = Y.length) : swR X.length (P ++ X ++ M ++ Y ++ Q) P.length (P.length + X.length + M.length) = P ++ Y ++ M ++ X ++ Q := by
  refine list_gt (by rw [swR_len]; simp; omega) fun k hk => ?_
  rw [gt_swR (by omega) (by simp; omega)]
  simp only [gt_app, List.length_append]
  repeat' split
  all_goals first | omega | rfl | (congr 1 <;> omega)

/-- One moves up to a place; down to a place. -/
def up : Nat → List α → Nat → List α
  | 0, A, _ => A
  | n + 1, A, k => up n (sw A k (k + 1)) (k + 1)
theorem up_len : ∀ (n : Nat) (A : List α) (k : Nat), (up n A k).length = A.length
  | 0, _, _ => rfl
  | n + 1, A, k => by rw [up, up_len, sw_len]
theorem up_eq {Q : List α} {x : α} : ∀ {V : List α} {P : List α}, up V.length (P ++ x :: V ++ Q) P.length = P ++ V ++ x :: Q
  | [], P => by simp [up]
  | y :: V, P => by
    rw [List.length_cons, up]
    have e : sw (P ++ x :: y :: V ++ Q) P.length (P.length + 1) = (P ++ [y]) ++ x :: V ++ Q := by
      refine list_gt (by rw [sw_len]; simp) fun k hk => ?_
      rw [gt_sw (by simp) (by simp)]
      have g0 : gt (P ++ x :: y :: V ++ Q) P.length = x := by unfold gt; simp
      have g1 : gt (P ++ x :: y :: V ++ Q) (P.length + 1) = y := by unfold gt; simp
      rw [g0, g1]
      unfold gt
      rcases Nat.lt_trichotomy k P.length with h | h | h
      · rw [if_neg (by omega), if_neg (by omega)]
        rw [List.append_assoc, List.append_assoc, List.append_assoc, List.getElem?_append_left h, List.getElem?_append_left h]
      · subst h; simp
      · by_cases h1 : k = P.length + 1
        · subst h1; simp
        · rw [if_neg h1, if_neg (by omega)]
          obtain ⟨j, rfl⟩ : ∃ j, k = P.length + (j + 2) := ⟨k - P.length - 2, by omega⟩
          simp [List.getElem?_append_right]
    rw [e]
    have := up_eq (Q := Q) (x := x) (V := V) (P := P ++ [y])
    simp only [List.length_append, List.length_cons, List.length_nil, Nat.zero_add] at this
    exact this.trans (by simp)
def down : Nat → List α → Nat → List α
  | 0, A, _ => A
  | n + 1, A, k => down n (sw A k (k - 1)) (k - 1)
theorem down_len : ∀ (n : Nat) (A : List α) (k : Nat), (down n A k).length = A.length
  | 0, _, _ => rfl
  | n + 1, A, k => by rw [down, down_len, sw_len]
end
end Go.Eva

/- Eva, part 53: what is put in, turned and merged in place; in plain lists. -/
namespace Go.Eva

set_option linter.unusedSectionVars false
section
variable {α : Type} [Inhabited α]

theorem gt_mid {P Q : List α} {x : α} {k : Nat} (h : k = P.length) : gt (P ++ x :: Q) k = x := by subst h; unfold gt; simp

theorem sw_two {P Q : List α} {x y : α} {i j : Nat} (hi : i = P.length + 1) (hj : j = P.length) : sw (P ++ x :: y :: Q) i j = P ++ y :: x :: Q := by
  subst hi hj
  have g0 : gt (P ++ x :: y :: Q) P.length = x := gt_mid rfl
  have g1 : gt (P ++ x :: y :: Q) (P.length + 1) = y := by unfold gt; simp
  unfold sw
  rw [g0, g1]
  have e1 : (P ++ x :: y :: Q).set (P.length + 1) x = P ++ x :: x :: Q := by
    rw [List.set_append, if_neg (by omega)]; simp
  rw [e1, List.set_append, if_neg (by omega)]; simp

theorem down_eq {Q : List α} {x : α} : ∀ {n : Nat} {V P : List α} {k : Nat}, n = V.length → k = P.length + V.length → down n (P ++ V ++ x :: Q) k = P ++ x :: V ++ Q := by
  intro n
  induction n generalizing Q with
  | zero =>
    intro V P k h1 h2
    have : V = [] := List.eq_nil_of_length_eq_zero h1.symm
    subst this
    simp [down]
  | succ n ih =>
    intro V P k h1 h2
    obtain ⟨V', y, rfl⟩ : ∃ V' y, V = V' ++ [y] := ⟨V.dropLast, V.getLast (by intro h; subst h; simp at h1), (List.dropLast_concat_getLast _).symm⟩
    simp only [List.length_append, List.length_cons, List.length_nil] at h1 h2
    rw [down]
    have e : sw (P ++ (V' ++ [y]) ++ x :: Q) k (k - 1) = P ++ V' ++ x :: (y :: Q) := by
      have := sw_two (P := P ++ V') (Q := Q) (x := y) (y := x) (i := k) (j := k - 1) (by simp; omega) (by simp; omega)
      simpa using this
    rw [e, ih (V := V') (P := P) (by omega) (by omega)]
    simp

variable (lt : α → α → Bool)

/-- The one at 'j' goes down while it is less, as far as 'a'. -/
def insIn (a : Nat) : Nat → List α → List α
  | 0, A => A
  | j + 1, A => if a < j + 1 then (match lt (gt A (j + 1)) (gt A j) with | true => insIn a j (sw A (j + 1) j) | false => A) else A
def insOut (a : Nat) : Nat → Nat → List α → List α
  | 0, _, A => A
  | d + 1, i, A => insOut a d (i + 1) (insIn lt a i A)

variable {lt}
theorem insIn_len (a : Nat) : ∀ (j : Nat) (A : List α), (insIn lt a j A).length = A.length
  | 0, _ => rfl
  | j + 1, A => by
    rw [insIn]
    split
    · split
      · rw [insIn_len, sw_len]
      · rfl
    · rfl
theorem sortS_snoc (S : List α) (x : α) : sortS lt (S ++ [x]) = insS lt (sortS lt S) x := by simp [sortS]
theorem insS_snoc1 {x y : α} (h : lt x y = true) : ∀ (S : List α), insS lt (S ++ [y]) x = insS lt S x ++ [y]
  | [] => by simp [insS, h]
  | z :: S => by
    simp only [List.cons_append, insS]
    cases lt x z with
    | true => simp
    | false => simp [insS_snoc1 h S]
theorem insS_end {x : α} : ∀ {S : List α}, (∀ z ∈ S, lt x z = false) → insS lt S x = S ++ [x]
  | [], _ => rfl
  | z :: S, h => by
    simp only [insS, h z (List.mem_cons_self ..), insS_end fun w hw => h w (List.mem_cons_of_mem _ hw), List.cons_append]
theorem insIn_eq (hw : Swo lt) {P : List α} {x : α} : ∀ {n : Nat} {S Q : List α} {j : Nat}, n = S.length → Sd lt S → j = P.length + S.length → insIn lt P.length j (P ++ S ++ x :: Q) = P ++ insS lt S x ++ Q := by
  intro n
  induction n with
  | zero =>
    intro S Q j h1 _ h2
    have : S = [] := List.eq_nil_of_length_eq_zero h1.symm
    subst this
    simp only [List.length_nil, Nat.add_zero] at h2
    subst h2
    have : ∀ A : List α, insIn lt P.length P.length A = A := by
      intro A
      cases hp : P.length with
      | zero => rfl
      | succ k => simp [insIn]
    rw [this]; simp [insS]
  | succ n ih =>
    intro S Q j h1 hs h2
    obtain ⟨S', y, rfl⟩ : ∃ S' y, S = S' ++ [y] := ⟨S.dropLast, S.getLast (by intro h; subst h; simp at h1), (List.dropLast_concat_getLast _).symm⟩
    simp only [List.length_append, List.length_cons, List.length_nil] at h1 h2
    obtain ⟨k, rfl⟩ : ∃ k, j = k + 1 := ⟨j - 1, by omega⟩
    obtain ⟨hs1, _, hs3⟩ := List.pairwise_append.1 hs
    rw [insIn, if_pos (by omega)]
    have g1 : gt (P ++ (S' ++ [y]) ++ x :: Q) (k + 1) = x := gt_mid (by simp; omega)
    have g0 : gt (P ++ (S' ++ [y]) ++ x :: Q) k = y := by
      have := gt_mid (P := P ++ S') (Q := x :: Q) (x := y) (k := k) (by simp; omega)
      simpa using this
    rw [g1, g0]
    cases h : lt x y with
    | true =>
      have e : sw (P ++ (S' ++ [y]) ++ x :: Q) (k + 1) k = P ++ S' ++ x :: (y :: Q) := by
        have := sw_two (P := P ++ S') (Q := Q) (x := y) (y := x) (i := k + 1) (j := k) (by simp; omega) (by simp; omega)
        simpa using this
      simp only
      rw [e, ih (by omega) hs1 (by omega), insS_snoc1 h]
      simp
    | false =>
      simp only
      rw [insS_end]
      · simp
      · intro z hz
        rcases List.mem_append.1 hz with hz | hz
        · exact hw.ntrans h (hs3 z hz y (by simp))
        · simp at hz; subst hz; exact h
theorem insOut_eq (hw : Swo lt) {P Q : List α} : ∀ {T S : List α} {d i : Nat}, d = T.length → i = P.length + S.length → insOut lt P.length d i (P ++ sortS lt S ++ (T ++ Q)) = P ++ sortS lt (S ++ T) ++ Q := by
  intro T
  induction T with
  | nil => intro S d i h1 _; subst h1; simp [insOut]
  | cons x T ih =>
    intro S d i h1 h2
    simp only [List.length_cons] at h1
    subst h1
    rw [insOut]
    have := insIn_eq hw (P := P) (x := x) (n := (sortS lt S).length) (S := sortS lt S) (Q := T ++ Q) (j := i) rfl (sortS_sd hw S) (by rw [sortS_len hw]; omega)
    rw [List.cons_append, this, ← sortS_snoc, ih rfl (by simp; omega)]
    simp

/-- The members from 'a' on, below 'b'. -/
abbrev seg (A : List α) (a b : Nat) : List α := (A.drop a).take (b - a)
def srt (lt : α → α → Bool) (A : List α) (a b : Nat) : List α := A.take a ++ sortS lt (seg A a b) ++ A.drop b
theorem seg_split {A : List α} {a b : Nat} (h : a ≤ b) : A = A.take a ++ seg A a b ++ A.drop b := by
  have : A.drop b = (A.drop a).drop (b - a) := by rw [List.drop_drop]; congr 1; omega
  rw [this, List.append_assoc, List.take_append_drop, List.take_append_drop]
theorem srt_app (P S Q : List α) {a b : Nat} (ha : a = P.length) (hb : b = P.length + S.length) : srt lt (P ++ S ++ Q) a b = P ++ sortS lt S ++ Q := by
  subst ha hb
  unfold srt seg
  simp
theorem srt_len (hw : Swo lt) {A : List α} {a b : Nat} (h : a ≤ b) : (srt lt A a b).length = A.length := by
  unfold srt
  rw [List.length_append, List.length_append, sortS_len hw]
  conv => rhs; rw [seg_split (A := A) h, List.length_append, List.length_append]
theorem srt_st (hw : Swo lt) {A : List α} {a b : Nat} (h : a ≤ b) : StEq lt (srt lt A a b) A := by
  conv => rhs; rw [seg_split (A := A) h]
  exact ((StEq.refl _).append (sortS_st hw _)).append (.refl _)
theorem srt_small (hw : Swo lt) {A : List α} {a b : Nat} (h : b ≤ a + 1) (h2 : a ≤ b) : srt lt A a b = A := by
  have e : sortS lt (seg A a b) = seg A a b := sortS_self hw (by
    have : (seg A a b).length ≤ 1 := by simp; omega
    match seg A a b, this with
    | [], _ => exact .nil
    | [x], _ => exact List.pairwise_singleton ..)
  unfold srt
  rw [e, ← seg_split h2]
theorem insOut_srt (hw : Swo lt) {A : List α} {a b : Nat} (h1 : a < b) (h2 : b ≤ A.length) : insOut lt a (b - a - 1) (a + 1) A = srt lt A a b := by
  have hs := seg_split (A := A) (a := a) (b := b) (by omega)
  have hp : (A.take a).length = a := by simp; omega
  have hl : (seg A a b).length = b - a := by simp; omega
  obtain ⟨x, T, hT⟩ : ∃ x T, seg A a b = x :: T := by
    cases h : seg A a b with
    | nil => rw [h] at hl; simp at hl; omega
    | cons x T => exact ⟨x, T, rfl⟩
  have hd : b - a - 1 = T.length := by rw [hT] at hl; simp at hl; omega
  have := insOut_eq hw (P := A.take a) (Q := A.drop b) (T := T) (S := [x]) (d := b - a - 1) (i := a + 1) hd (by rw [hp]; simp)
  rw [hp] at this
  unfold srt
  rw [hT]
  conv => lhs; rw [hs, hT]
  simpa [sortS, insS] using this

/-- A turn by changing places. -/
def rotL : Nat → List α → Nat → Nat → Nat → List α
  | 0, A, _, _, _ => A
  | d + 1, A, m, i, j => if i = j then swR i A (m - i) m else if j < i then rotL d (swR j A (m - i) m) m (i - j) j else rotL d (swR i A (m - i) (m + j - i)) m i (j - i)
theorem rotL_eq : ∀ {d : Nat} {P X Y Q : List α} {m i j : Nat}, i = X.length → j = Y.length → m = P.length + i → 0 < i → 0 < j → i + j ≤ d →
    rotL d (P ++ X ++ Y ++ Q) m i j = P ++ Y ++ X ++ Q := by
  intro d
  induction d with
  | zero => intros; omega
  | succ d ih =>
    intro P X Y Q m i j h1 h2 h3 h4 h5 h6
    rw [rotL]
    by_cases hij : i = j
    · rw [if_pos hij]
      have := swR_eq (P := P) (X := X) (M := []) (Y := Y) (Q := Q) (by omega)
      simp only [List.append_nil, List.length_nil, Nat.add_zero] at this
      rw [show m - i = P.length by omega, show m = P.length + X.length by omega, h1]
      exact this
    · rw [if_neg hij]
      by_cases hj : j < i
      · rw [if_pos hj]
        have hX : X = X.take j ++ X.drop j := (List.take_append_drop ..).symm
        have l1 : (X.take j).length = j := by simp; omega
        have l2 : (X.drop j).length = i - j := by simp; omega
        have := swR_eq (P := P) (X := X.take j) (M := X.drop j) (Y := Y) (Q := Q) (by omega)
        rw [l1, l2] at this
        have e : swR j (P ++ X ++ Y ++ Q) (m - i) m = (P ++ Y) ++ X.drop j ++ X.take j ++ Q := by
          rw [show m - i = P.length by omega, show m = P.length + j + (i - j) by omega]
          conv => lhs; rw [hX]
          rw [← this]
          simp
        rw [e, ih (by omega) (by omega) (by simp; omega) (by omega) h5 (by omega)]
        conv => rhs; rw [hX]
        simp
      · rw [if_neg hj]
        have hY : Y = Y.take (j - i) ++ Y.drop (j - i) := (List.take_append_drop ..).symm
        have l1 : (Y.take (j - i)).length = j - i := by simp; omega
        have l2 : (Y.drop (j - i)).length = i := by simp; omega
        have := swR_eq (P := P) (X := X) (M := Y.take (j - i)) (Y := Y.drop (j - i)) (Q := Q) (by omega)
        rw [l1, ← h1] at this
        have e : swR i (P ++ X ++ Y ++ Q) (m - i) (m + j - i) = P ++ Y.drop (j - i) ++ Y.take (j - i) ++ (X ++ Q) := by
          rw [show m - i = P.length by omega, show m + j - i = P.length + i + (j - i) by omega]
          conv => lhs; rw [hY]
          have := this.trans (b := _) rfl
          simp only [List.append_assoc] at this ⊢
          exact this
        rw [e, ih (by omega) (by omega) (by omega) h4 (by omega) (by omega)]
        conv => rhs; rw [hY]
        simp
theorem rotL_seg {A : List α} {a m b d : Nat} (h1 : a < m) (h2 : m < b) (h3 : b ≤ A.length) (h4 : b - a ≤ d) : rotL d A m (m - a) (b - m) = A.take a ++ seg A m b ++ seg A a m ++ A.drop b := by
  have hs : A = A.take a ++ seg A a m ++ seg A m b ++ A.drop b := by
    conv => lhs; rw [seg_split (A := A) (a := m) (b := b) (by omega)]
    congr 2
    have := seg_split (A := A.take m) (a := a) (b := m) (by omega)
    rw [List.take_take, Nat.min_eq_left (by omega)] at this
    rw [this]
    unfold seg
    simp [List.drop_take, List.take_take]
  have := rotL_eq (d := d) (P := A.take a) (X := seg A a m) (Y := seg A m b) (Q := A.drop b) (m := m) (i := m - a) (j := b - m) (by simp; omega) (by simp; omega) (by simp; omega) (by omega) (by omega) (by omega)
  rw [← this, ← hs]
end
end Go.Eva

/- Messages: members change places; put in from the left. -/
namespace Go.Eva.S1
theorem f_swapRange_loop (a b n : Nat) (h1 : a + n ≤ b) : ∀ (d i : Nat) (A : List Cross), i + d = n → b + n ≤ A.length → small A →
    Is cx (.loop 99 [0, 1] 1 [.all 0 none, vi a, vi b, vi n, vi i] [.arr 15 (A.map Cross.enc) none false])
      ⟨.exit 0, [.all 0 none, vi a, vi b, vi n, vi n], [.arr 15 ((swR d A (a + i) (b + i)).map Cross.enc) none false]⟩ := by
  intro d
  induction d with
  | zero =>
    intro i A hi h2 hn
    unfold small at hn
    refine Wp.ev ?_
    refine gg [.b (decide ((↑i : Int) < (↑n : Int))) false] ⟨fP, trivial⟩ ?_
    refine rt (a := Res.mk (Ex.exit 0) [V.all 0 none, vi (↑a : Int), vi (↑b : Int), vi (↑n : Int), vi (↑i : Int)] [Ob.arr 15 (List.map Cross.enc A) none false]) (by kernel_rfl) ?_
    ((have hq : i = n := by omega); subst hq; rfl)
  | succ d ih =>
    intro i A hi h2 hn
    have ih1 := ih (i + 1) (sw A (a + i) (b + i)) (by omega) (by rw [sw_len]; omega) (by unfold small; rw [sw_len]; exact hn)
    unfold small at hn
    clear ih
    unfold sw at ih1
    refine Wp.ev ?_
    refine gg [.b (decide ((↑i : Int) < (↑n : Int))) true, .i IntKind.i64 ((↑a : Int) + (↑i : Int)) ((↑(a + i) : Int)), .i IntKind.i64 ((↑b : Int) + (↑i : Int)) ((↑(b + i) : Int)), .i IntKind.i64 ((↑b : Int) + (↑i : Int)) ((↑(b + i) : Int)), .w ((0 : Int) ≤ (↑(b + i) : Int)), .n (Int.toNat (↑(b + i) : Int)) (b + i), .w (b + i < List.length (List.map Cross.enc A)), .i IntKind.i64 ((↑a : Int) + (↑i : Int)) ((↑(a + i) : Int)), .w ((0 : Int) ≤ (↑(a + i) : Int)), .n (Int.toNat (↑(a + i) : Int)) (a + i), .w (a + i < List.length (List.map Cross.enc A)), .g (List.map Cross.enc A) (b + i) (Cross.enc (gt A (b + i))), .g (List.map Cross.enc A) (a + i) (Cross.enc (gt A (a + i))), .w ((0 : Int) ≤ (↑(a + i) : Int)), .n (Int.toNat (↑(a + i) : Int)) (a + i), .w (a + i < List.length (List.map Cross.enc A))] ⟨tP, oI, oI, oI, oW, o_n (by kernel_rfl), o_w (by (simp; omega)), oI, oW, o_n (by kernel_rfl), o_w (by (simp; omega)), oT, oT, oW, o_n (by kernel_rfl), o_w (by (simp; omega)), trivial⟩ ?_
    refine gg [.w (a + i < List.length (List.map Cross.enc A)), .t (T.sl 0 (List.set (List.map Cross.enc A) (a + i) (Cross.enc (gt A (b + i))))) (T.sl 0 (List.map Cross.enc (List.set A (a + i) (gt A (b + i))))), .w ((0 : Int) ≤ (↑(b + i) : Int)), .n (Int.toNat (↑(b + i) : Int)) (b + i), .w (b + i < List.length (List.map Cross.enc (List.set A (a + i) (gt A (b + i))))), .w (b + i < List.length (List.map Cross.enc (List.set A (a + i) (gt A (b + i))))), .t (T.sl 0 (List.set (List.map Cross.enc (List.set A (a + i) (gt A (b + i)))) (b + i) (Cross.enc (gt A (a + i))))) (T.sl 0 (List.map Cross.enc (List.set (List.set A (a + i) (gt A (b + i))) (b + i) (gt A (a + i))))), .i IntKind.i64 ((↑i : Int) + 1) ((↑(i + 1) : Int)), .a _ _] ⟨o_w (by (simp; omega)), o_l (nm_set rfl rfl), oW, o_n (by kernel_rfl), o_w (by (simp; omega)), o_w (by (simp; omega)), o_l (nm_set rfl rfl), oI, o_a ih1, trivial⟩ ?_
    refine rt (a := Res.mk (Ex.exit 0) [V.all 0 none, vi (↑a : Int), vi (↑b : Int), vi (↑n : Int), vi (↑n : Int)] [Ob.arr 15 (List.map Cross.enc (swR d (List.set (List.set A (a + i) (gt A (b + i))) (b + i) (gt A (a + i))) (a + (i + 1)) (b + (i + 1)))) none false]) (by kernel_rfl) ?_
    (simp_all [swR, sw, Nat.add_assoc]; try omega)
theorem f_swapRange (A : List Cross) (a b n : Nat) (h1 : a + n ≤ b) (h2 : b + n ≤ A.length) (hn : small A) : Is cx (.call 99 [.all 0 none, vi a, vi b, vi n, .t (.clo 67 [])] [.arr 15 (A.map Cross.enc) none false])
   ⟨.ret, [], [.arr 15 ((swR n A a b).map Cross.enc) none false]⟩ := by
  have h := f_swapRange_loop a b n h1 n 0 A (by omega) h2 hn
  rw [Nat.add_zero, Nat.add_zero] at h
  unfold small at hn
  refine Wp.ev ?_
  refine gg [.a _ _] ⟨o_a h, trivial⟩ ?_
  exact ge
theorem f_insertion_inner (a b i : Nat) : ∀ (j : Nat) (A : List Cross), a ≤ j → j < A.length → small A → ∃ k : Nat,
    Is cx (.loop 93 [0, 1, 0, 0, 1, 0, 0, 1] 1 [.all 0 none, vi a, vi b, .t (.clo 67 []), vi i, vi j] [.arr 15 (A.map Cross.enc) none false])
      ⟨.exit 2, [.all 0 none, vi a, vi b, .t (.clo 67 []), vi i, vi k], [.arr 15 ((insIn Cross.less a j A).map Cross.enc) none false]⟩ := by
  intro j
  induction j with
  | zero =>
    intro A h1 h2 hn
    unfold small at hn
    refine ⟨0, ?_⟩
    refine Wp.ev ?_
    refine gg [.b (decide (0 > (↑a : Int))) false, .ff, .ff, .ff, .ff, .ff, .ff, .ff, .ff, .ff, .ff, .ff, .ff, .ff] ⟨o_b (by kernel_rfl), trivial⟩ ?_
    exact ge
  | succ j ih =>
    intro A h1 h2 hn
    by_cases hj : a < j + 1
    · cases hl : Cross.less (gt A (j + 1)) (gt A j) with
      | true =>
        obtain ⟨k, ih1⟩ := ih (sw A (j + 1) j) (by omega) (by rw [sw_len]; omega) (by unfold small; rw [sw_len]; exact hn)
        unfold small at hn
        clear ih
        refine ⟨k, ?_⟩
        have e : insIn Cross.less a (j + 1) A = insIn Cross.less a j (sw A (j + 1) j) := by rw [insIn, if_pos hj, hl]
        rw [e]
        unfold sw at *
        have ej : ((j + 1 : Nat) : Int) - 1 = (j : Nat) := by omega
        have hl : (gt A (j + 1)).cmp (gt A j) < 0 := by simpa [Cross.less] using hl
        refine Wp.ev ?_
        refine gg [.b (decide ((↑(j + 1) : Int) > (↑a : Int))) true, .tt, .tt, .tt, .w ((0 : Int) ≤ (↑(j + (1 : Nat)) : Int)), .n (Int.toNat (↑(j + 1) : Int)) (j + 1), .w (j + (1 : Nat) < List.length (List.map Cross.enc A)), .tt, .tt, .tt, .i IntKind.i64 ((↑(j + 1) : Int) - 1) (↑j : Int), .tt, .w ((0 : Int) ≤ (↑j : Int)), .n (Int.toNat (↑j : Int)) j, .w (j < List.length (List.map Cross.enc A)), .tt] ⟨tP, oW, o_n (by kernel_rfl), o_w (by (simp; omega)), oI, oW, o_n (by kernel_rfl), o_w (by (simp; omega)), trivial⟩ ?_
        refine gg [.g (List.map Cross.enc A) (j + 1) (Cross.enc (gt A (j + 1))), .tt, .g (List.map Cross.enc A) j (Cross.enc (gt A j)), .tt, .w (isFnB cx (67 : Nat) = true), .a _ _, .tt, .tt, .b (decide (Cross.cmp (gt A (j + 1)) (gt A j) < 0)) true, .i IntKind.i64 ((↑(j + 1) : Int) - 1) (↑j : Int), .i IntKind.i64 ((↑(j + 1) : Int) - 1) (↑j : Int), .w ((0 : Int) ≤ (↑j : Int)), .n (Int.toNat (↑j : Int)) j, .w (j < List.length (List.map Cross.enc A)), .w ((0 : Int) ≤ (↑(j + (1 : Nat)) : Int)), .n (Int.toNat (↑(j + 1) : Int)) (j + 1)] ⟨o_gt rfl (by assumption) (by intro h; cases h), oT, o_w (by kernel_rfl), o_a (f_cross_compare (gt A (j + 1)) (gt A j)), t_brp (by assumption), oI, oI, oW, o_n (by kernel_rfl), o_w (by (simp; omega)), oW, o_n (by kernel_rfl), trivial⟩ ?_
        refine gg [.w (j + (1 : Nat) < List.length (List.map Cross.enc A)), .g (List.map Cross.enc A) j (Cross.enc (gt A j)), .g (List.map Cross.enc A) (j + 1) (Cross.enc (gt A (j + 1))), .w ((0 : Int) ≤ (↑(j + (1 : Nat)) : Int)), .n (Int.toNat (↑(j + 1) : Int)) (j + 1), .w (j + (1 : Nat) < List.length (List.map Cross.enc A)), .w (j + (1 : Nat) < List.length (List.map Cross.enc A)), .t (T.sl 0 (List.set (List.map Cross.enc A) (j + 1) (Cross.enc (gt A j)))) (T.sl 0 (List.map Cross.enc (List.set A (j + 1) (gt A j)))), .w ((0 : Int) ≤ (↑j : Int)), .n (Int.toNat (↑j : Int)) j, .w (j < List.length (List.map Cross.enc (List.set A (j + (1 : Nat)) (gt A j)))), .w (j < List.length (List.map Cross.enc (List.set A (j + (1 : Nat)) (gt A j)))), .t (T.sl 0 (List.set (List.map Cross.enc (List.set A (j + 1) (gt A j))) j (Cross.enc (gt A (j + 1))))) (T.sl 0 (List.map Cross.enc (List.set (List.set A (j + 1) (gt A j)) j (gt A (j + 1))))), .i IntKind.i64 ((↑(j + 1) : Int) - 1) (↑j : Int), .a _ _] ⟨o_w (by (simp; omega)), oT, o_gt rfl (by assumption) (by intro h; cases h), oW, o_n (by kernel_rfl), o_w (by (simp; omega)), o_w (by (simp; omega)), o_l (nm_set rfl rfl), oW, o_n (by kernel_rfl), o_w (by (simp; omega)), o_w (by (simp; omega)), o_l (nm_set rfl rfl), oI, o_a ih1, trivial⟩ ?_
        refine rt (a := Res.mk (Ex.exit 2) [V.all 0 none, vi (↑a : Int), vi (↑b : Int), V.t (T.clo 67 []), vi (↑i : Int), vi (↑k : Int)] [Ob.arr 15 (List.map Cross.enc (insIn Cross.less a j (List.set (List.set A (j + 1) (gt A j)) j (gt A (j + 1))))) none false]) (by kernel_rfl) ?_
        simp_all
      | false =>
        unfold small at hn
        clear ih
        refine ⟨j + 1, ?_⟩
        have e : insIn Cross.less a (j + 1) A = A := by rw [insIn, if_pos hj, hl]
        rw [e]
        have hl : ¬ (gt A (j + 1)).cmp (gt A j) < 0 := by simpa [Cross.less] using hl
        refine Wp.ev ?_
        refine gg [.b (decide ((↑(j + 1) : Int) > (↑a : Int))) true, .tt, .tt, .tt, .w ((0 : Int) ≤ (↑(j + (1 : Nat)) : Int)), .n (Int.toNat (↑(j + 1) : Int)) (j + 1), .w (j + (1 : Nat) < List.length (List.map Cross.enc A)), .tt, .tt, .tt, .i IntKind.i64 ((↑(j + 1) : Int) - 1) ((↑(j + 1) : Int) - 1), .tt, .w ((0 : Int) ≤ (↑(j + (1 : Nat)) : Int) - (1 : Int)), .n (Int.toNat ((↑(j + 1) : Int) - 1)) j, .w (j < List.length (List.map Cross.enc A)), .tt] ⟨tP, oW, o_n (by kernel_rfl), o_w (by (simp; omega)), oI, oW, oN, o_w (by (simp; omega)), trivial⟩ ?_
        refine gg [.g (List.map Cross.enc A) (j + 1) (Cross.enc (gt A (j + 1))), .tt, .g (List.map Cross.enc A) j (Cross.enc (gt A j)), .tt, .w (isFnB cx (67 : Nat) = true), .a _ _, .tt, .tt, .b (decide (Cross.cmp (gt A (j + 1)) (gt A j) < 0)) false] ⟨o_gt rfl (by assumption) (by intro h; cases h), oT, o_w (by kernel_rfl), o_a (f_cross_compare (gt A (j + 1)) (gt A j)), f_brp (by assumption), trivial⟩ ?_
        refine rt (a := Res.mk (Ex.exit 2) [V.all 0 none, vi (↑a : Int), vi (↑b : Int), V.t (T.clo 67 []), vi (↑i : Int), vi (↑(j + 1) : Int)] [Ob.arr 15 (List.map Cross.enc A) none false]) (by kernel_rfl) ?_
        simp_all
    · unfold small at hn
      clear ih
      refine ⟨j + 1, ?_⟩
      have e : insIn Cross.less a (j + 1) A = A := by rw [insIn, if_neg hj]
      rw [e]
      refine Wp.ev ?_
      refine gg [.b (decide ((↑(j + 1) : Int) > (↑a : Int))) false, .ff, .ff, .ff, .ff, .ff, .ff, .ff, .ff, .ff, .ff, .ff, .ff, .ff] ⟨fP, trivial⟩ ?_
      refine rt (a := Res.mk (Ex.exit 2) [V.all 0 none, vi (↑a : Int), vi (↑b : Int), V.t (T.clo 67 []), vi (↑i : Int), vi (↑(j + 1) : Int)] [Ob.arr 15 (List.map Cross.enc A) none false]) (by kernel_rfl) ?_
      simp_all
theorem f_insertion_outer (a b : Nat) : ∀ (d i : Nat) (A : List Cross), i + d = b → a ≤ i → b ≤ A.length → small A → ∃ k : Nat,
    Is cx (.loop 93 [0, 1] 1 [.all 0 none, vi a, vi b, .t (.clo 67 []), vi i] [.arr 15 (A.map Cross.enc) none false])
      ⟨.exit 0, [.all 0 none, vi a, vi b, .t (.clo 67 []), vi k], [.arr 15 ((insOut Cross.less a d i A).map Cross.enc) none false]⟩ := by
  intro d
  induction d with
  | zero =>
    intro i A hi h1 h2 hn
    unfold small at hn
    refine ⟨i, ?_⟩
    refine Wp.ev ?_
    refine gg [.b (decide ((↑i : Int) < (↑b : Int))) false] ⟨fP, trivial⟩ ?_
    exact ge
  | succ d ih =>
    intro i A hi h1 h2 hn
    obtain ⟨k0, h0⟩ := f_insertion_inner a b i i A h1 (by omega) hn
    obtain ⟨k, ih1⟩ := ih (i + 1) (insIn Cross.less a i A) (by omega) (by omega) (by rw [insIn_len]; omega) (by unfold small; rw [insIn_len]; exact hn)
    unfold small at hn
    clear ih
    refine ⟨k, ?_⟩
    have hlen : (insIn Cross.less a i A).length = A.length := insIn_len ..
    rw [insOut]
    refine Wp.ev ?_
    refine gg [.b (decide ((↑i : Int) < (↑b : Int))) true, .a _ _, .i IntKind.i64 ((↑i : Int) + 1) ((↑(i + 1) : Int)), .a _ _] ⟨tP, o_a h0, oI, o_a ih1, trivial⟩ ?_
    exact ge
theorem f_insertionSort (A : List Cross) (a b : Nat) (h1 : a ≤ b) (h2 : b ≤ A.length) (hn : small A) : Is cx (.call 93 [.all 0 none, vi a, vi b, .t (.clo 67 [])] [.arr 15 (A.map Cross.enc) none false])
   ⟨.ret, [], [.arr 15 ((srt Cross.less A a b).map Cross.enc) none false]⟩ := by
  by_cases hab : a < b
  · rw [← insOut_srt less_swo hab h2]
    obtain ⟨k, h⟩ := f_insertion_outer a b (b - a - 1) (a + 1) A (by omega) (by omega) h2 hn
    unfold small at hn
    refine Wp.ev ?_
    refine gg [.i IntKind.i64 ((↑a : Int) + 1) ((↑(a + 1) : Int)), .a _ _] ⟨oI, o_a h, trivial⟩ ?_
    exact ge
  · obtain rfl : a = b := by omega
    rw [srt_small less_swo (by omega) (by omega)]
    unfold small at hn
    have h : Is cx (.loop 93 [0, 1] 1 [.all 0 none, vi a, vi a, .t (.clo 67 []), vi (a + 1 : Nat)] [.arr 15 (A.map Cross.enc) none false])
      ⟨.exit 0, [.all 0 none, vi a, vi a, .t (.clo 67 []), vi (a + 1 : Nat)], [.arr 15 (A.map Cross.enc) none false]⟩ := by
      refine Wp.ev ?_
      refine gg [.b (decide ((↑(a + 1) : Int) < (↑a : Int))) false] ⟨fP, trivial⟩ ?_
      exact ge
    refine Wp.ev ?_
    refine gg [.i IntKind.i64 ((↑a : Int) + 1) ((↑(a + 1) : Int)), .a _ _] ⟨oI, o_a h, trivial⟩ ?_
    exact ge
theorem f_rotate_loop (m : Nat) : ∀ (d i j : Nat) (A : List Cross), i + j ≤ d → 0 < i → 0 < j → i ≤ m → m + j ≤ A.length → small A → ∃ (k : Nat) (B : List Cross),
    Is cx (.loop 98 [0, 0, 1, 1] 1 [.all 0 none, vi m, .t (.clo 67 []), vi i, vi j] [.arr 15 (A.map Cross.enc) none false])
      ⟨.exit 0, [.all 0 none, vi m, .t (.clo 67 []), vi k, vi k], [.arr 15 (B.map Cross.enc) none false]⟩ ∧ k ≤ m ∧ m + k ≤ A.length ∧ B.length = A.length ∧ swR k B (m - k) m = rotL d A m i j := by
  intro d
  induction d with
  | zero => intros; omega
  | succ d ih =>
    intro i j A hd h1 h2 h3 h4 hn
    by_cases hij : i = j
    · subst hij
      refine ⟨i, A, ?_, h3, h4, rfl, by rw [rotL, if_pos rfl]⟩
      unfold small at hn
      refine Wp.ev ?_
      refine gg [.b ((↑i : Int) != (↑i : Int)) false] ⟨f_brn (by kernel_rfl), trivial⟩ ?_
      exact ge
    · by_cases hj : j < i
      · obtain ⟨k, B, ih1, k1, k2, k3, k4⟩ := ih (i - j) j (swR j A (m - i) m) (by omega) (by omega) h2 (by omega) (by rw [swR_len]; omega) (by unfold small; rw [swR_len]; exact hn)
        rw [swR_len] at k2 k3
        refine ⟨k, B, ?_, k1, k2, k3, by rw [rotL, if_neg hij, if_pos hj, k4]⟩
        have h0 := f_swapRange A (m - i) m j (by omega) (by omega) hn
        have hlen : (swR j A (m - i) m).length = A.length := swR_len ..
        unfold small at hn
        clear ih
        have e1 : (m : Int) - i = (m - i : Nat) := by omega
        have e2 : (i : Int) - j = (i - j : Nat) := by omega
        refine Wp.ev ?_
        refine gg [.b ((↑i : Int) != (↑j : Int)) true, .b (decide ((↑i : Int) > (↑j : Int))) true, .i IntKind.i64 ((↑m : Int) - (↑i : Int)) ((↑(m - i) : Int)), .a _ _, .i IntKind.i64 ((↑i : Int) - (↑j : Int)) ((↑(i - j) : Int)), .a _ _] ⟨tN, tP, oI, o_a h0, oI, o_a ih1, trivial⟩ ?_
        exact ge
      · obtain ⟨k, B, ih1, k1, k2, k3, k4⟩ := ih i (j - i) (swR i A (m - i) (m + j - i)) (by omega) h1 (by omega) h3 (by rw [swR_len]; omega) (by unfold small; rw [swR_len]; exact hn)
        rw [swR_len] at k2 k3
        refine ⟨k, B, ?_, k1, k2, k3, by rw [rotL, if_neg hij, if_neg hj, k4]⟩
        have h0 := f_swapRange A (m - i) (m + j - i) i (by omega) (by omega) hn
        have hlen : (swR i A (m - i) (m + j - i)).length = A.length := swR_len ..
        unfold small at hn
        clear ih
        have e1 : (m : Int) - i = (m - i : Nat) := by omega
        have e2 : (j : Int) - i = (j - i : Nat) := by omega
        have e3 : (m + j : Nat) - (i : Int) = (m + j - i : Nat) := by omega
        refine Wp.ev ?_
        refine gg [.b ((↑i : Int) != (↑j : Int)) true, .b (decide ((↑i : Int) > (↑j : Int))) false, .i IntKind.i64 ((↑m : Int) - (↑i : Int)) ((↑(m - i) : Int)), .i IntKind.i64 ((↑m : Int) + (↑j : Int)) ((↑(m + j) : Int)), .i IntKind.i64 ((↑(m + j) : Int) - (↑i : Int)) ((↑(m + j - i) : Int)), .a _ _, .i IntKind.i64 ((↑j : Int) - (↑i : Int)) ((↑(j - i) : Int)), .a _ _] ⟨tN, fP, oI, oI, oI, o_a h0, oI, o_a ih1, trivial⟩ ?_
        exact ge
theorem f_rotate (A : List Cross) (a m b : Nat) (h1 : a < m) (h2 : m < b) (h3 : b ≤ A.length) (hn : small A) : Is cx (.call 98 [.all 0 none, vi a, vi m, vi b, .t (.clo 67 [])] [.arr 15 (A.map Cross.enc) none false])
   ⟨.ret, [], [.arr 15 ((A.take a ++ seg A m b ++ seg A a m ++ A.drop b).map Cross.enc) none false]⟩ := by
  rw [← rotL_seg h1 h2 h3 (Nat.le_refl _)]
  obtain ⟨k, B, h, k1, k2, k3, k4⟩ := f_rotate_loop m (b - a) (m - a) (b - m) A (by omega) (by omega) (by omega) (by omega) (by omega) hn
  rw [← k4]
  have h0 := f_swapRange B (m - k) m k (by omega) (by omega) (by unfold small; rw [k3]; exact hn)
  unfold small at hn
  have e1 : (m : Int) - a = (m - a : Nat) := by omega
  have e2 : (b : Int) - m = (b - m : Nat) := by omega
  have e3 : (m : Int) - k = (m - k : Nat) := by omega
  refine Wp.ev ?_
  refine gg [.i IntKind.i64 ((↑m : Int) - (↑a : Int)) ((↑(m - a) : Int)), .i IntKind.i64 ((↑b : Int) - (↑m : Int)) ((↑(b - m) : Int)), .a _ _, .i IntKind.i64 ((↑m : Int) - (↑k : Int)) ((↑(m - k) : Int)), .a _ _] ⟨oI, oI, o_a h, oI, o_a h0, trivial⟩ ?_
  exact ge
end Go.Eva.S1

/- Eva, part 54: merging in place; in plain lists. -/
namespace Go.Eva
set_option linter.unusedSectionVars false
theorem bs_t {P : Nat → Bool} {d i j h : Nat} (h1 : i < j) (h2 : (i + j) / 2 = h) (h3 : P h = true) : bs P (d + 1) i j = bs P d (h + 1) j := by rw [bs, if_pos h1, h2, h3]
theorem bs_f {P : Nat → Bool} {d i j h : Nat} (h1 : i < j) (h2 : (i + j) / 2 = h) (h3 : P h = false) : bs P (d + 1) i j = bs P d i h := by rw [bs, if_pos h1, h2, h3]
section
variable {α : Type} [Inhabited α] {lt : α → α → Bool}

theorem merge_parts (hw : Swo lt) {U1 U2 V1 V2 : List α} (hU : Sd lt (U1 ++ U2)) (hV : Sd lt (V1 ++ V2)) (h1 : ∀ x ∈ V1, ∀ y ∈ U2, lt x y = true) (h2 : ∀ x ∈ U1, ∀ y ∈ V2, lt y x = false) :
    sortS lt (U1 ++ V1) ++ sortS lt (U2 ++ V2) = sortS lt ((U1 ++ U2) ++ (V1 ++ V2)) := by
  refine sortS_parts hw h1 fun x hx y hy => ?_
  rcases List.mem_append.1 hx with hx | hx <;> rcases List.mem_append.1 hy with hy | hy
  · exact (List.pairwise_append.1 hU).2.2 x hx y hy
  · exact h2 x hx y hy
  · exact hw.asymm (h1 x hx y hy)
  · exact (List.pairwise_append.1 hV).2.2 x hx y hy
theorem sd_gt {P U Q : List α} (hU : Sd lt U) (hw : Swo lt) {p q : Nat} (h1 : P.length ≤ p) (h2 : p ≤ q) (h3 : q < P.length + U.length) : lt (gt (P ++ U ++ Q) q) (gt (P ++ U ++ Q) p) = false := by
  by_cases hpq : p = q
  · subst hpq; exact hw.irr _
  · have e : ∀ k, P.length ≤ k → k < P.length + U.length → ∃ h : k - P.length < U.length, gt (P ++ U ++ Q) k = U[k - P.length] := by
      intro k h h'
      refine ⟨by omega, ?_⟩
      rw [List.append_assoc, gt_app, if_neg (by omega), gt_app, if_pos (by omega), gt_eq (by omega)]
    obtain ⟨b1, e1⟩ := e p h1 (by omega)
    obtain ⟨b2, e2⟩ := e q (by omega) h3
    rw [e1, e2]
    exact List.pairwise_iff_getElem.1 hU _ _ b1 b2 (by omega)
/-- In what is sorted, all ahead of one are not behind it. -/
theorem sd_last {U : List α} {x y : α} (hU : Sd lt (U ++ [y])) (hw : Swo lt) (hx : x ∈ U ++ [y]) : lt y x = false := by
  rcases List.mem_append.1 hx with h | h
  · exact (List.pairwise_append.1 hU).2.2 x h y (by simp)
  · simp at h; subst h; exact hw.irr _
theorem sd_head {U : List α} {x y : α} (hU : Sd lt (y :: U)) (hw : Swo lt) (hx : x ∈ y :: U) : lt x y = false := by
  rcases List.mem_cons.1 hx with h | h
  · subst h; exact hw.irr _
  · exact (List.pairwise_cons.1 hU).1 x h
theorem snoc_of {U : List α} (h : U ≠ []) : ∃ U' y, U = U' ++ [y] := ⟨U.dropLast, U.getLast h, (List.dropLast_concat_getLast _).symm⟩
theorem cross1 (hw : Swo lt) {V1 U2 : List α} (hV : Sd lt V1) (hU : Sd lt U2) (h : V1 ≠ [] → U2 ≠ [] → lt (gt V1 (V1.length - 1)) (gt U2 0) = true) : ∀ x ∈ V1, ∀ y ∈ U2, lt x y = true := by
  intro x hx y hy
  have hV1 : V1 ≠ [] := by intro e; subst e; simp at hx
  have hU2 : U2 ≠ [] := by intro e; subst e; simp at hy
  have h := h hV1 hU2
  obtain ⟨V', v, rfl⟩ := snoc_of hV1
  obtain ⟨u, U', rfl⟩ : ∃ u U', U2 = u :: U' := by
    cases U2 with
    | nil => exact absurd rfl hU2
    | cons u U' => exact ⟨u, U', rfl⟩
  have g1 : gt (V' ++ [v]) ((V' ++ [v]).length - 1) = v := gt_mid (Q := []) (by simp)
  have g2 : gt (u :: U') 0 = u := rfl
  rw [g1, g2] at h
  exact hw.le_lt (sd_last hV hw hx) (hw.lt_le h (sd_head hU hw hy))
theorem cross2 (hw : Swo lt) {U1 V2 : List α} (hU : Sd lt U1) (hV : Sd lt V2) (h : U1 ≠ [] → V2 ≠ [] → lt (gt V2 0) (gt U1 (U1.length - 1)) = false) : ∀ x ∈ U1, ∀ y ∈ V2, lt y x = false := by
  intro x hx y hy
  have hU1 : U1 ≠ [] := by intro e; subst e; simp at hx
  have hV2 : V2 ≠ [] := by intro e; subst e; simp at hy
  have h := h hU1 hV2
  obtain ⟨U', u, rfl⟩ := snoc_of hU1
  obtain ⟨v, V', rfl⟩ : ∃ v V', V2 = v :: V' := by
    cases V2 with
    | nil => exact absurd rfl hV2
    | cons v V' => exact ⟨v, V', rfl⟩
  have g1 : gt (U' ++ [u]) ((U' ++ [u]).length - 1) = u := gt_mid (Q := []) (by simp)
  have g2 : gt (v :: V') 0 = v := rfl
  rw [g1, g2] at h
  exact hw.ntrans (sd_head hV hw hy) (hw.ntrans h (sd_last hU hw hx))
end
end Go.Eva
