/- A reading of the program, proved sound against the model, and what its functions answer by it: part 3. -/
import Derived.Test.YtdlmgaiiheeigaaGreatEva2
set_option linter.unusedSimpArgs false
set_option linter.unusedVariables false
/- Regions that are near, by the reference; which messages are right. -/
namespace Go.Eva.S3
theorem f_joustref03_Near_loop (c : Config) (r q p : Int) (hr : c.right = true) (his : c.is r = true) (hq : r.tmod c.cols = q) (hp : r.tdiv c.cols = p) (hq1 : 0 ≤ q ∧ q ≤ 3) (hp1 : 0 ≤ p ∧ p ≤ 3) :
    ∀ (d : Nat) (n : Int) (A : List Int), 0 ≤ n → n + d = c.regions → A.length + d ≤ 1000 →
    Is cx (.loop 27 [0, 1, 0, 1, 1] 0 [vi r, .ptr 0 0 0, .all 1 none, vi n] [.one 5 (.t c.enc) false, .arr 1 (A.map ti) none false])
      ⟨.exit 0, [vi r, .ptr 0 0 0, .all 1 none, vi c.regions], [.one 5 (.t c.enc) false, .arr 1 ((A ++ nearR c.cols r n d).map ti) none false]⟩ := by
  obtain ⟨hc, hrr, _⟩ := Config.right_iff.1 hr
  have hml := @Config.regions_le c
  have hrg : c.regions = c.cols * c.rows := by simp [Config.regions, hr]
  intro d
  induction d with
  | zero =>
    intro n A h0 h1 h2
    refine Wp.ev ?_
    refine gg [.a _ _, .b (decide (n < Config.regions c)) false, .ff, .ff, .ff, .ff] ⟨o_a (f_joustref03_Regions c), fP, trivial⟩ ?_
    refine rt (a := Res.mk (Ex.exit 0) [vi r, V.ptr 0 0 0, V.all 1 none, vi n] [Ob.one 5 (V.t (Config.enc c)) false, Ob.arr 1 (List.map ti A) none false]) (by kernel_rfl) ?_
    ((have e : n = c.regions := by omega); subst e; simp [nearR])
  | succ d ih =>
    intro n A h0 h1 h2
    have ih1 := ih (n + 1) A (by omega) (by omega) (by omega)
    have ih2 := ih (n + 1) (A ++ [n]) (by omega) (by omega) (by simp; omega)
    clear ih
    have k1 := tdiv_le (v := n) (k := c.cols) (m := c.rows) (by omega) h0 (by omega)
    have k2 := tmod_le (v := n) (k := c.cols) (by omega) h0
    cases hn : isNear c.cols r n with
    | true =>
      have hn' : -1 ≤ n.tmod c.cols - q ∧ n.tmod c.cols - q ≤ 1 ∧ -1 ≤ n.tdiv c.cols - p ∧ n.tdiv c.cols - p ≤ 1 := by rw [← hq, ← hp]; simpa [isNear] using hn
      refine Wp.ev ?_
      refine gg [.a _ _, .b (decide (n < Config.regions c)) true, .tt, .tt, .a _ _, .tt, .b (Config.is c r) true, .w (c.cols ≠ (0 : Int)), .s (ti (Int.tmod n c.cols)), .w (c.cols ≠ (0 : Int)), .t (ti (Int.tmod r c.cols)) (ti q), .i IntKind.i64 (Int.tmod n c.cols - q) (Int.tmod n c.cols - q), .w (c.cols ≠ (0 : Int)), .i IntKind.i64 (Int.tdiv n c.cols) (Int.tdiv n c.cols), .w (c.cols ≠ (0 : Int)), .i IntKind.i64 (Int.tdiv r c.cols) p] ⟨o_a (f_joustref03_Regions c), tP, o_a (f_joustref03_Is c r), tB, o_w (by (simp [room, appendMax]; omega)), o_w (by (simp [room, appendMax]; omega)), o_t (by rw [hq]), o_i (w64 (by (simp [room, appendMax]; omega))), o_w (by (simp [room, appendMax]; omega)), o_i (w64 (by (simp [room, appendMax]; omega))), o_w (by (simp [room, appendMax]; omega)), oI, trivial⟩ ?_
      refine gg [.i IntKind.i64 (Int.tdiv n c.cols - p) (Int.tdiv n c.cols - p), .b (decide (Int.tmod n c.cols - q ≥ -1)) true, .tt, .tt, .b (decide (Int.tmod n c.cols - q ≤ 1)) true, .tt, .tt, .b (decide (Int.tdiv n c.cols - p ≥ -1)) true, .tt, .tt, .b (decide (Int.tdiv n c.cols - p ≤ 1)) true, .w ((0 : Nat) < (8 : Nat)), .t (T.sl 0 [ti n]) (T.sl 0 (List.map (T.int IntKind.i64) [n])), .t (T.sl 0 (List.map ti A ++ List.map (T.int IntKind.i64) [n])) (T.sl 0 (List.map ti (A ++ [n]))), .w (room (List.length (List.map ti (A ++ [n]))) (8 : Nat)), .i IntKind.i64 (n + 1) (n + 1)] ⟨o_i (w64 (by (simp [room, appendMax]; omega))), tP, tP, tP, tP, oW, o_l (nm_cons rfl nm_nil), o_l (nm_app rfl rfl), o_w (by (simp [room, appendMax]; omega)), o_i (w64 (by (simp [room, appendMax]; omega))), trivial⟩ ?_
      refine gg [.a _ _] ⟨o_a ih2, trivial⟩ ?_
      refine rt (a := Res.mk (Ex.exit 0) [vi r, V.ptr 0 0 0, V.all 1 none, vi (Config.regions c)] [Ob.one 5 (V.t (Config.enc c)) false, Ob.arr 1 (List.map ti (A ++ [n] ++ nearR c.cols r (n + 1) d)) none false]) (by kernel_rfl) ?_
      simp [nearR, hn]
    | false =>
      have hn' : ¬ (-1 ≤ n.tmod c.cols - q ∧ n.tmod c.cols - q ≤ 1 ∧ -1 ≤ n.tdiv c.cols - p ∧ n.tdiv c.cols - p ≤ 1) := by rw [← hq, ← hp]; simpa [isNear] using hn
      refine Wp.ev ?_
      refine gg [.a _ _, .b (decide (n < Config.regions c)) true, .tt, .tt, .a _ _, .tt, .b (Config.is c r) true, .w (c.cols ≠ (0 : Int)), .s (ti (Int.tmod n c.cols)), .w (c.cols ≠ (0 : Int)), .t (ti (Int.tmod r c.cols)) (ti q), .i IntKind.i64 (Int.tmod n c.cols - q) (Int.tmod n c.cols - q), .w (c.cols ≠ (0 : Int)), .i IntKind.i64 (Int.tdiv n c.cols) (Int.tdiv n c.cols), .w (c.cols ≠ (0 : Int)), .i IntKind.i64 (Int.tdiv r c.cols) p] ⟨o_a (f_joustref03_Regions c), tP, o_a (f_joustref03_Is c r), tB, o_w (by (simp [room, appendMax]; omega)), o_w (by (simp [room, appendMax]; omega)), o_t (by rw [hq]), o_i (w64 (by (simp [room, appendMax]; omega))), o_w (by (simp [room, appendMax]; omega)), o_i (w64 (by (simp [room, appendMax]; omega))), o_w (by (simp [room, appendMax]; omega)), oI, trivial⟩ ?_
      refine gg [.i IntKind.i64 (Int.tdiv n c.cols - p) (Int.tdiv n c.cols - p)] ⟨o_i (w64 (by (simp [room, appendMax]; omega))), trivial⟩ ?_
      refine brp (p := Int.tmod n c.cols - q ≥ -1) (by kernel_rfl) (fun h1 => ?_) (fun h1 => ?_)
      · refine gg [.tt, .tt] trivial ?_
        refine brp (p := Int.tmod n c.cols - q ≤ 1) (by kernel_rfl) (fun h2 => ?_) (fun h2 => ?_)
        · refine gg [.tt, .tt] trivial ?_
          refine brp (p := Int.tdiv n c.cols - p ≥ -1) (by kernel_rfl) (fun h3 => ?_) (fun h3 => ?_)
          · refine gg [.tt, .tt, .b (decide (Int.tdiv n c.cols - p ≤ 1)) false, .i IntKind.i64 (n + 1) (n + 1), .a _ _] ⟨fP, o_i (w64 (by (simp [room, appendMax]; omega))), o_a ih1, trivial⟩ ?_
            refine rt (a := Res.mk (Ex.exit 0) [vi r, V.ptr 0 0 0, V.all 1 none, vi (Config.regions c)] [Ob.one 5 (V.t (Config.enc c)) false, Ob.arr 1 (List.map ti (A ++ nearR c.cols r (n + 1) d)) none false]) (by kernel_rfl) ?_
            simp [nearR, hn]
          · refine gg [.ff, .ff, .ff, .i IntKind.i64 (n + 1) (n + 1), .a _ _] ⟨o_i (w64 (by (simp [room, appendMax]; omega))), o_a ih1, trivial⟩ ?_
            refine rt (a := Res.mk (Ex.exit 0) [vi r, V.ptr 0 0 0, V.all 1 none, vi (Config.regions c)] [Ob.one 5 (V.t (Config.enc c)) false, Ob.arr 1 (List.map ti (A ++ nearR c.cols r (n + 1) d)) none false]) (by kernel_rfl) ?_
            simp [nearR, hn]
        · refine gg [.ff, .ff, .ff, .ff, .ff, .ff, .i IntKind.i64 (n + 1) (n + 1), .a _ _] ⟨o_i (w64 (by (simp [room, appendMax]; omega))), o_a ih1, trivial⟩ ?_
          refine rt (a := Res.mk (Ex.exit 0) [vi r, V.ptr 0 0 0, V.all 1 none, vi (Config.regions c)] [Ob.one 5 (V.t (Config.enc c)) false, Ob.arr 1 (List.map ti (A ++ nearR c.cols r (n + 1) d)) none false]) (by kernel_rfl) ?_
          simp [nearR, hn]
      · refine gg [.ff, .ff, .ff, .ff, .ff, .ff, .ff, .ff, .ff, .i IntKind.i64 (n + 1) (n + 1), .a _ _] ⟨o_i (w64 (by (simp [room, appendMax]; omega))), o_a ih1, trivial⟩ ?_
        refine rt (a := Res.mk (Ex.exit 0) [vi r, V.ptr 0 0 0, V.all 1 none, vi (Config.regions c)] [Ob.one 5 (V.t (Config.enc c)) false, Ob.arr 1 (List.map ti (A ++ nearR c.cols r (n + 1) d)) none false]) (by kernel_rfl) ?_
        simp [nearR, hn]
theorem f_joustref03_Near (c : Config) (r : Int) : Fn cx 27 [c.enc, ti r] (.sl 1 ((c.near r).map ti)) := by
  cases h : c.is r with
  | false =>
    have hN : c.near r = [] := by simp [Config.near, h]
    rw [hN]
    have hl : Is cx (.loop 27 [0, 1, 0, 1, 1] 0 [vi r, .ptr 0 0 0, .all 1 none, vi 0] [.one 5 (.t c.enc) false, .arr 1 [] none false]) ⟨.exit 0, [vi r, .ptr 0 0 0, .all 1 none, vi 0], [.one 5 (.t c.enc) false, .arr 1 [] none false]⟩ := by
      refine Wp.ev ?_
      refine gg [.a _ _] ⟨o_a (f_joustref03_Regions c), trivial⟩ ?_
      refine brp (p := 0 < Config.regions c) (by kernel_rfl) (fun h1 => ?_) (fun h1 => ?_)
      · refine gg [.tt, .tt, .a _ _, .tt, .b (Config.is c r) false] ⟨o_a (f_joustref03_Is c r), fB, trivial⟩ ?_
        exact ge
      · refine gg [.ff, .ff, .ff, .ff] trivial ?_
        exact ge
    refine Wp.ev ?_
    refine gg [.a _ _] ⟨o_a hl, trivial⟩ ?_
    exact ge
  | true =>
    have hr := Config.is_right h
    have hi := (Config.is_iff hr).1 h
    obtain ⟨hc, hrr, _⟩ := Config.right_iff.1 hr
    have hml := Config.mul_le hr
    have hrg : c.regions = c.cols * c.rows := by simp [Config.regions, hr]
    have k1 := tdiv_le (v := r) (k := c.cols) (m := c.rows) (by omega) (by omega) (by omega)
    have k2 := tmod_le (v := r) (k := c.cols) (by omega) (by omega)
    have hN : c.near r = nearR c.cols r 0 (c.cols * c.rows).toNat := by rw [near_eq hc hrr hi]; simp [Config.near, h]
    rw [hN]
    have hL := f_joustref03_Near_loop c r _ _ hr h rfl rfl (by omega) (by omega) (c.cols * c.rows).toNat 0 [] (by omega) (by omega) (by simp; omega)
    rw [List.nil_append] at hL
    refine Wp.ev ?_
    refine gg [.a _ _] ⟨o_a hL, trivial⟩ ?_
    exact ge
theorem f_cross_Right (c : Config) (m : Cross) : Fn cx 107 [c.enc, m.enc] (.bool (m.right c)) := by
  have hn := @near_small c m.frm
  have hs : small (c.near m.frm) := by unfold small; omega
  refine Wp.ev ?_
  refine gg [.a _ _, .a _ _] ⟨o_a (f_grid_Near c m.frm), o_a (f_slices_Contains_int (Config.near c m.frm) m.to (by assumption)), trivial⟩ ?_
  refine brnot (b := has (Config.near c m.frm) m.to) (by kernel_rfl) (fun h1 => ?_) (fun h1 => ?_)
  · refine gg [.tt, .tt, .tt, .tt, .tt, .tt, .tt, .tt] trivial ?_
    refine rt (a := Res.mk Ex.ret [vb false] []) (by kernel_rfl) ?_
    (simp_all [Cross.right, within, beqd, bned, teq_zero, teq_zero']; try omega)
  · refine gg [.ff, .ff, .ff] trivial ?_
    refine brp (p := m.frame < 0) (by kernel_rfl) (fun h2 => ?_) (fun h2 => ?_)
    · refine gg [.tt, .tt, .tt, .tt] trivial ?_
      refine rt (a := Res.mk Ex.ret [vb false] []) (by kernel_rfl) ?_
      (simp_all [Cross.right, within, beqd, bned, teq_zero, teq_zero']; try omega)
    · refine gg [.ff, .ff, .ff] trivial ?_
      refine brp (p := m.frame ≥ 10000) (by kernel_rfl) (fun h3 => ?_) (fun h3 => ?_)
      · refine rt (a := Res.mk Ex.ret [vb false] []) (by kernel_rfl) ?_
        (simp_all [Cross.right, within, beqd, bned, teq_zero, teq_zero']; try omega)
      · refine bre (x := m.kind) (y := 1) (by kernel_rfl) (fun h4 => ?_) (fun h4 => ?_)
        · refine gg [.a _ _] ⟨o_a (f_entity_Right c m.ent), trivial⟩ ?_
          refine br (b := Entity.right c m.ent) (by kernel_rfl) (fun h5 => ?_) (fun h5 => ?_)
          · refine gg [.tt, .tt, .tt, .tt, .tt, .tt, .tt, .tt, .tt, .a _ _, .tt, .tt] ⟨o_a (f_grid_Of c m.ent.x m.ent.y), trivial⟩ ?_
            refine bre (x := Config.of c m.ent.x m.ent.y) (y := m.to) (by kernel_rfl) (fun h6 => ?_) (fun h6 => ?_)
            · refine gg [.tt, .tt, .tt] trivial ?_
              refine bre (x := m.x) (y := 0) (by kernel_rfl) (fun h7 => ?_) (fun h7 => ?_)
              · refine gg [.tt, .tt, .tt] trivial ?_
                refine bre (x := m.y) (y := 0) (by kernel_rfl) (fun h8 => ?_) (fun h8 => ?_)
                · refine gg [.tt, .tt, .tt, .tt, .tt] trivial ?_
                  refine rt (a := Res.mk Ex.ret [vb (m.to != m.frm)] []) (by kernel_rfl) ?_
                  (simp_all [Cross.right, within, beqd, bned, teq_zero, teq_zero']; try omega)
                · refine gg [.ff, .ff, .ff, .ff, .ff] trivial ?_
                  refine rt (a := Res.mk Ex.ret [vb false] []) (by kernel_rfl) ?_
                  (simp_all [Cross.right, within, beqd, bned, teq_zero, teq_zero']; try omega)
              · refine gg [.ff, .ff, .ff, .ff, .ff, .ff, .ff, .ff, .ff] trivial ?_
                refine rt (a := Res.mk Ex.ret [vb false] []) (by kernel_rfl) ?_
                (simp_all [Cross.right, within, beqd, bned, teq_zero, teq_zero']; try omega)
            · refine gg [.ff, .ff, .ff, .ff, .ff, .ff, .ff, .ff, .ff, .ff, .ff, .ff, .ff] trivial ?_
              refine rt (a := Res.mk Ex.ret [vb false] []) (by kernel_rfl) ?_
              (simp_all [Cross.right, within, beqd, bned, teq_zero, teq_zero']; try omega)
          · refine gg [.ff, .ff, .ff, .ff, .ff, .ff, .ff, .ff, .ff, .ff, .ff, .ff, .ff, .ff, .ff, .ff] trivial ?_
            refine gg [.ff, .ff, .ff, .ff, .ff, .ff, .ff, .ff, .ff] trivial ?_
            refine rt (a := Res.mk Ex.ret [vb false] []) (by kernel_rfl) ?_
            (simp_all [Cross.right, within, beqd, bned, teq_zero, teq_zero']; try omega)
        · refine bre (x := m.kind) (y := 2) (by kernel_rfl) (fun h5 => ?_) (fun h5 => ?_)
          · refine gg [.a _ _] ⟨o_a (f_grid_Inside c m.x m.y), trivial⟩ ?_
            refine br (b := Config.inside c m.x m.y) (by kernel_rfl) (fun h6 => ?_) (fun h6 => ?_)
            · refine gg [.tt, .tt, .tt, .w (conform cx (40 : Nat) (48 : Nat) (T.agg [ti m.ent.id, ti m.ent.kind, ti m.ent.x, ti m.ent.y, ti m.ent.vx, ti m.ent.vy, ti m.ent.health, ti m.ent.age, ti m.ent.owner]) = true ∧ conform cx (40 : Nat) (48 : Nat) (T.agg [ti (0 : Int), ti (0 : Int), ti (0 : Int), ti (0 : Int), ti (0 : Int), ti (0 : Int), ti (0 : Int), ti (0 : Int), ti (0 : Int)]) = true), .tt] ⟨o_w ⟨(by kernel_rfl), (by kernel_rfl)⟩, trivial⟩ ?_
              refine rt (a := Res.mk Ex.ret [vb (teq (T.agg [ti m.ent.id, ti m.ent.kind, ti m.ent.x, ti m.ent.y, ti m.ent.vx, ti m.ent.vy, ti m.ent.health, ti m.ent.age, ti m.ent.owner]) (T.agg [ti 0, ti 0, ti 0, ti 0, ti 0, ti 0, ti 0, ti 0, ti 0]))] []) (by kernel_rfl) ?_
              (simp_all [Cross.right, within, beqd, bned, teq_zero, teq_zero']; try omega)
            · refine gg [.ff, .ff, .ff, .ff] trivial ?_
              refine rt (a := Res.mk Ex.ret [vb false] []) (by kernel_rfl) ?_
              (simp_all [Cross.right, within, beqd, bned, teq_zero, teq_zero']; try omega)
          · refine rt (a := Res.mk Ex.ret [vb false] []) (by kernel_rfl) ?_
            (simp_all [Cross.right, within, beqd, bned, teq_zero, teq_zero']; try omega)
theorem f_joustref05_Cross (c : Config) (m : Cross) : Fn cx 25 [c.enc, m.enc] (.bool (m.right c)) := by
  have hn := @near_small c m.frm
  have hs : small (c.near m.frm) := by unfold small; omega
  refine Wp.ev ?_
  refine gg [.a _ _] ⟨o_a (f_joustref03_Is c m.frm), trivial⟩ ?_
  refine brnot (b := Config.is c m.frm) (by kernel_rfl) (fun h1 => ?_) (fun h1 => ?_)
  · refine gg [.tt, .tt, .tt, .tt, .tt, .tt, .tt, .tt, .tt, .tt, .tt, .tt, .tt, .tt] trivial ?_
    refine rt (a := Res.mk Ex.ret [vb false] []) (by kernel_rfl) ?_
    (first | ((have hnn : c.near m.frm = [] := by simp [Config.near, h1]); simp [Cross.right, hnn, has]; done) | (simp_all [Cross.right, within, beqd, bned, teq_zero, teq_zero']; try omega))
  · refine gg [.ff, .ff, .ff, .ff, .ff, .a _ _, .ff, .a _ _, .ff, .ff] ⟨o_a (f_joustref03_Near c m.frm), o_a (f_jousthelp_In_int (Config.near c m.frm) m.to (by assumption)), trivial⟩ ?_
    refine brnot (b := has (Config.near c m.frm) m.to) (by kernel_rfl) (fun h2 => ?_) (fun h2 => ?_)
    · refine gg [.tt, .tt, .tt, .tt, .tt] trivial ?_
      refine rt (a := Res.mk Ex.ret [vb false] []) (by kernel_rfl) ?_
      (first | ((have hnn : c.near m.frm = [] := by simp [Config.near, h1]); simp [Cross.right, hnn, has]; done) | (simp_all [Cross.right, within, beqd, bned, teq_zero, teq_zero']; try omega))
    · refine gg [.ff, .ff, .a _ _, .ff, .ff] ⟨o_a (f_joustref05_within m.frame 0 9999), trivial⟩ ?_
      refine brnot (b := within m.frame 0 9999) (by kernel_rfl) (fun h3 => ?_) (fun h3 => ?_)
      · refine rt (a := Res.mk Ex.ret [vb false] []) (by kernel_rfl) ?_
        (first | ((have hnn : c.near m.frm = [] := by simp [Config.near, h1]); simp [Cross.right, hnn, has]; done) | (simp_all [Cross.right, within, beqd, bned, teq_zero, teq_zero']; try omega))
      · refine bre (x := m.kind) (y := 1) (by kernel_rfl) (fun h4 => ?_) (fun h4 => ?_)
        · refine gg [.a _ _] ⟨o_a (f_joustref05_Right c m.ent), trivial⟩ ?_
          refine br (b := Entity.right c m.ent) (by kernel_rfl) (fun h5 => ?_) (fun h5 => ?_)
          · refine gg [.tt, .tt, .tt, .tt, .tt, .tt, .tt, .tt, .tt, .a _ _, .tt, .tt] ⟨o_a (f_joustref03_Of c m.ent.x m.ent.y), trivial⟩ ?_
            refine bre (x := Config.of c m.ent.x m.ent.y) (y := m.to) (by kernel_rfl) (fun h6 => ?_) (fun h6 => ?_)
            · refine gg [.tt, .tt, .tt] trivial ?_
              refine bre (x := m.x) (y := 0) (by kernel_rfl) (fun h7 => ?_) (fun h7 => ?_)
              · refine gg [.tt, .tt, .tt] trivial ?_
                refine bre (x := m.y) (y := 0) (by kernel_rfl) (fun h8 => ?_) (fun h8 => ?_)
                · refine gg [.tt, .tt, .tt, .tt, .tt] trivial ?_
                  refine rt (a := Res.mk Ex.ret [vb (m.to != m.frm)] []) (by kernel_rfl) ?_
                  (first | ((have hnn : c.near m.frm = [] := by simp [Config.near, h1]); simp [Cross.right, hnn, has]; done) | (simp_all [Cross.right, within, beqd, bned, teq_zero, teq_zero']; try omega))
                · refine gg [.ff, .ff, .ff, .ff, .ff] trivial ?_
                  refine rt (a := Res.mk Ex.ret [vb false] []) (by kernel_rfl) ?_
                  (first | ((have hnn : c.near m.frm = [] := by simp [Config.near, h1]); simp [Cross.right, hnn, has]; done) | (simp_all [Cross.right, within, beqd, bned, teq_zero, teq_zero']; try omega))
              · refine gg [.ff, .ff, .ff, .ff, .ff, .ff, .ff, .ff, .ff] trivial ?_
                refine rt (a := Res.mk Ex.ret [vb false] []) (by kernel_rfl) ?_
                (first | ((have hnn : c.near m.frm = [] := by simp [Config.near, h1]); simp [Cross.right, hnn, has]; done) | (simp_all [Cross.right, within, beqd, bned, teq_zero, teq_zero']; try omega))
            · refine gg [.ff, .ff, .ff, .ff, .ff, .ff, .ff, .ff, .ff, .ff, .ff, .ff, .ff] trivial ?_
              refine rt (a := Res.mk Ex.ret [vb false] []) (by kernel_rfl) ?_
              (first | ((have hnn : c.near m.frm = [] := by simp [Config.near, h1]); simp [Cross.right, hnn, has]; done) | (simp_all [Cross.right, within, beqd, bned, teq_zero, teq_zero']; try omega))
          · refine gg [.ff, .ff, .ff, .ff, .ff, .ff, .ff, .ff, .ff, .ff, .ff, .ff, .ff, .ff, .ff, .ff] trivial ?_
            refine gg [.ff, .ff, .ff, .ff, .ff, .ff, .ff, .ff, .ff] trivial ?_
            refine rt (a := Res.mk Ex.ret [vb false] []) (by kernel_rfl) ?_
            (first | ((have hnn : c.near m.frm = [] := by simp [Config.near, h1]); simp [Cross.right, hnn, has]; done) | (simp_all [Cross.right, within, beqd, bned, teq_zero, teq_zero']; try omega))
        · refine bre (x := m.kind) (y := 2) (by kernel_rfl) (fun h5 => ?_) (fun h5 => ?_)
          · refine gg [.a _ _] ⟨o_a (f_joustref03_Inside c m.x m.y), trivial⟩ ?_
            refine br (b := Config.inside c m.x m.y) (by kernel_rfl) (fun h6 => ?_) (fun h6 => ?_)
            · refine gg [.tt, .tt, .tt, .w (conform cx (40 : Nat) (48 : Nat) (T.agg [ti m.ent.id, ti m.ent.kind, ti m.ent.x, ti m.ent.y, ti m.ent.vx, ti m.ent.vy, ti m.ent.health, ti m.ent.age, ti m.ent.owner]) = true ∧ conform cx (40 : Nat) (48 : Nat) (T.agg [ti (0 : Int), ti (0 : Int), ti (0 : Int), ti (0 : Int), ti (0 : Int), ti (0 : Int), ti (0 : Int), ti (0 : Int), ti (0 : Int)]) = true), .tt] ⟨o_w ⟨(by kernel_rfl), (by kernel_rfl)⟩, trivial⟩ ?_
              refine rt (a := Res.mk Ex.ret [vb (teq (T.agg [ti m.ent.id, ti m.ent.kind, ti m.ent.x, ti m.ent.y, ti m.ent.vx, ti m.ent.vy, ti m.ent.health, ti m.ent.age, ti m.ent.owner]) (T.agg [ti 0, ti 0, ti 0, ti 0, ti 0, ti 0, ti 0, ti 0, ti 0]))] []) (by kernel_rfl) ?_
              (first | ((have hnn : c.near m.frm = [] := by simp [Config.near, h1]); simp [Cross.right, hnn, has]; done) | (simp_all [Cross.right, within, beqd, bned, teq_zero, teq_zero']; try omega))
            · refine gg [.ff, .ff, .ff, .ff] trivial ?_
              refine rt (a := Res.mk Ex.ret [vb false] []) (by kernel_rfl) ?_
              (first | ((have hnn : c.near m.frm = [] := by simp [Config.near, h1]); simp [Cross.right, hnn, has]; done) | (simp_all [Cross.right, within, beqd, bned, teq_zero, teq_zero']; try omega))
          · refine rt (a := Res.mk Ex.ret [vb false] []) (by kernel_rfl) ?_
            (first | ((have hnn : c.near m.frm = [] := by simp [Config.near, h1]); simp [Cross.right, hnn, has]; done) | (simp_all [Cross.right, within, beqd, bned, teq_zero, teq_zero']; try omega))
end Go.Eva.S3

/- Eva, part 59: chance, held numbers, how things move; in plain words. -/
namespace Go.Eva

abbrev w64u (n : Int) : Int := IntKind.u64.wrap n
def x33 (x : Int) : Int := w64u ((BitVec.ofInt 64 x ^^^ BitVec.ofInt 64 (x.fdiv 8589934592)).toNat : Nat)
def mix (x : Int) : Int := x33 (w64u (x33 (w64u (x33 x * 18397679294719823053)) * 14181476777654086739))
def atStep (h v : Int) : Int := mix (w64u (w64u (h + w64u v) + 11400714819323198485))
def chanceAt (seed : Int) (l : List Int) : Int := l.foldl atStep (mix seed)
def below (n seed : Int) (l : List Int) : Int := if n < 1 then 0 else (chanceAt seed l).tmod n
theorem x33_le {x : Int} : 0 ≤ x33 x ∧ x33 x ≤ 18446744073709551615 := by
  unfold x33 w64u
  simp [IntKind.wrap, IntKind.bits, IntKind.signed]; omega
theorem mix_le {x : Int} : 0 ≤ mix x ∧ mix x ≤ 18446744073709551615 := x33_le
theorem at_le {seed : Int} {l : List Int} : 0 ≤ chanceAt seed l ∧ chanceAt seed l ≤ 18446744073709551615 := by
  unfold chanceAt
  rcases List.eq_nil_or_concat l with rfl | ⟨l', v, rfl⟩
  · exact mix_le
  · rw [List.concat_eq_append, List.foldl_append]; exact mix_le
theorem below_le {n seed : Int} {l : List Int} (h : 1 ≤ n) : 0 ≤ below n seed l ∧ below n seed l < n := by
  unfold below
  rw [if_neg (by omega)]
  exact tmod_le (by omega) at_le.1

def held (v : Int) : Int := clamp v (-2147483647) 2147483647
def subH (a b : Int) : Int := held (held a - held b)
def sumStep (s v : Int) : Int := held (s + held v)
def sumH (l : List Int) : Int := l.foldl sumStep 0
def sizeI (v : Int) : Int := maxI v (0 - v)
def farI (ax ay bx y : Int) : Int := maxI (sizeI (subH ax bx)) (sizeI (subH ay y))
theorem held_le {v : Int} : -2147483647 ≤ held v ∧ held v ≤ 2147483647 := clamp_le (by decide)
theorem held_eq {v : Int} (h : -2147483647 ≤ v ∧ v ≤ 2147483647) : held v = v := by unfold held clamp; rw [if_neg (by omega), if_neg (by omega)]
theorem add_two {x v : Int} (hx : -1000000000 ≤ x ∧ x ≤ 1000000000) (hv : -1000000000 ≤ v ∧ v ≤ 1000000000) : sumH [x, v] = x + v := by
  simp only [sumH, sumStep, List.foldl_cons, List.foldl_nil]
  rw [held_eq (v := x) (by omega), held_eq (v := v) (by omega), held_eq (v := 0 + x) (by omega), held_eq (by omega)]
  omega

def Input.right (i : Input) : Bool := within i.dx (-2) 2 && within i.dy (-2) 2
def Input.zero : Input := ⟨0, 0, false⟩
/-- A player steers; does it shoot? -/
def steerE (e : Entity) (i : Input) : Entity × Bool :=
  if e.kind ≠ 1 ∨ i.right = false then (e, false)
  else if i.fire = true ∧ e.age = 0 then ({ e with vx := i.dx * 32, vy := i.dy * 32, age := 6 }, true)
  else ({ e with vx := i.dx * 32, vy := i.dy * 32, age := maxI e.age 1 - 1 }, false)
def paceD (d : Int) : Int := clamp d (-1) 1 * 160
def shootE (e : Entity) (i : Input) (id : Int) : Entity := ⟨id, 2, e.x, e.y, if paceD i.dx = 0 ∧ paceD i.dy = 0 then 160 else paceD i.dx, paceD i.dy, 1, 0, e.id⟩
/-- One goes on; false: it is gone. -/
def goE (c : Config) (e : Entity) : Entity × Bool :=
  if e.right c = false then (Entity.zero, false)
  else if e.kind = 2 then
    (if e.age + 1 > 12 ∨ c.inside (sumH [e.x, e.vx]) (sumH [e.y, e.vy]) = false then (Entity.zero, false)
     else ({ e with x := clamp (sumH [e.x, e.vx]) 0 (c.width - 1), y := clamp (sumH [e.y, e.vy]) 0 (c.height - 1), age := e.age + 1 }, true))
  else ({ e with x := clamp (sumH [e.x, e.vx]) 0 (c.width - 1), y := clamp (sumH [e.y, e.vy]) 0 (c.height - 1) }, true)

def nearE (e : Entity) (x y far : Int) : Bool := decide (farI e.x e.y x y ≤ far)
section
variable (kind far : Int) (other : Entity → Entity → Bool) (turn : Int → Int)
def meetP (t p : Entity) : Bool := decide (p.kind = 1) && (other t p && nearE p t.x t.y far)
/-- One thing meets the first player that is near. -/
def meet1 (out : List Entity) (gone : List Bool) (i : Nat) : List Entity × List Bool :=
  if (gt out i).kind = kind then (match out.findIdx? (meetP far other (gt out i)) with
    | some k => (out.set k { gt out k with health := turn (gt out k).health }, gone.set i true)
    | none => (out, gone))
  else (out, gone)
def meetN : Nat → Nat → List Entity → List Bool → List Entity × List Bool
  | 0, _, out, gone => (out, gone)
  | d + 1, i, out, gone => meetN d (i + 1) (meet1 kind far other turn out gone i).1 (meet1 kind far other turn out gone i).2
end
def keepL : List Entity → List Bool → List Entity
  | e :: l, b :: g => (if b = true then [] else [e]) ++ keepL l g
  | _, _ => []
def meetL (kind far : Int) (other : Entity → Entity → Bool) (turn : Int → Int) (l : List Entity) : List Entity :=
  keepL (meetN kind far other turn l.length 0 l (List.replicate l.length false)).1 (meetN kind far other turn l.length 0 l (List.replicate l.length false)).2
def shotsL (l : List Entity) : List Entity := meetL 2 24 (fun s p => decide (p.id ≠ s.owner)) (fun h => subH h 20) l
def gemsL (l : List Entity) : List Entity := meetL 3 32 (fun _ _ => true) (fun h => minI (sumH [h, 25]) 100) l
def hurtE (b : Cross) (e : Entity) : Entity := if b.kind = 2 ∧ e.kind = 1 ∧ nearE e b.x b.y 128 = true then { e with health := subH e.health 10 } else e
def blastsL (l : List Entity) (bs : List Cross) : List Entity := bs.foldl (fun l b => l.map (hurtE b)) l
def fallenP (e : Entity) : Bool := decide (e.kind = 1) && decide (e.health ≤ 0)
def fallenL (l : List Entity) : List Int := (l.filter fallenP).map Entity.id

/-- Which regions are right. -/
def regionRight (c : Config) (r : Int) (s : Region) : Bool :=
  c.is r && within s.frame 0 10000 && sortedL s.ents && decide (things s.ents ≤ 24) && s.ents.all fun e => e.right c && decide (c.of e.x e.y = r)
def arrive1 (l : List Entity) (m : Cross) : List Entity := if m.kind = 1 ∧ (m.ent.kind = 1 ∨ things l < 24) then put1 l m.ent else l
def arriveL (l : List Entity) (inbox : List Cross) : List Entity := inbox.foldl arrive1 l
def presentL (l : List Entity) (inbox : List Cross) : List Int := ((arriveL l inbox).filter fun e => decide (e.kind = 1)).map Entity.id
def askedE (c : Config) (r : Int) (s : Region) (ins : List Input) (inbox : List Cross) : Int :=
  if c.is r = false then 13
  else if regionRight c r s = false then 4
  else if (ins.length : Int) ≠ c.players ∨ (ins.any fun i => !i.right) = true then 11
  else if (inbox.any fun m => !(m.right c && decide (m.to = r) && decide (m.frame = s.frame - 1))) = true then 1
  else if s.frame = 10000 then 16
  else 0
end Go.Eva

/- Eva, part 53: what is put in, turned and merged in place; in plain lists. -/
namespace Go.Eva

set_option linter.unusedSectionVars false
section
variable {α : Type} [Inhabited α]

theorem gt_mid {P Q : List α} {x : α} {k : Nat} (h : k = P.length) : gt (P ++ x :: Q) k = x := by subst h; unfold gt; simp

theorem sw_two {P Q : List α} {x y : α} {i j : Nat} (hi : i = P.length + 1) (hj : j = P.length) : sw (P ++ x :: y :: Q) i j = P ++ y :: x :: Q := by
  subst hi hj
  have g0 : gt (P ++ x :: y :: Q) P.length = x := gt_mid rfl
  have g1 : gt (P ++ x :: y :: Q) (P.length + 1) = y := by unfold gt; simp
  unfold sw
  rw [g0, g1]
  have e1 : (P ++ x :: y :: Q).set (P.length + 1) x = P ++ x :: x :: Q := by
    rw [List.set_append, if_neg (by omega)]; simp
  rw [e1, List.set_append, if_neg (by omega)]; simp

theorem down_eq {Q : List α} {x : α} : ∀ {n : Nat} {V P : List α} {k : Nat}, n = V.length → k = P.length + V.length → down n (P ++ V ++ x :: Q) k = P ++ x :: V ++ Q := by
  intro n
  induction n generalizing Q with
  | zero =>
    intro V P k h1 h2
    have : V = [] := List.eq_nil_of_length_eq_zero h1.symm
    subst this
    simp [down]
  | succ n ih =>
    intro V P k h1 h2
    obtain ⟨V', y, rfl⟩ : ∃ V' y, V = V' ++ [y] := ⟨V.dropLast, V.getLast (by intro h; subst h; simp at h1), (List.dropLast_concat_getLast _).symm⟩
    simp only [List.length_append, List.length_cons, List.length_nil] at h1 h2
    rw [down]
    have e : sw (P ++ (V' ++ [y]) ++ x :: Q) k (k - 1) = P ++ V' ++ x :: (y :: Q) := by
      have := sw_two (P := P ++ V') (Q := Q) (x := y) (y := x) (i := k) (j := k - 1) (by simp; omega) (by simp; omega)
      simpa using this
    rw [e, ih (V := V') (P := P) (by omega) (by omega)]
    simp

variable (lt : α → α → Bool)

/-- The one at 'j' goes down while it is less, as far as 'a'. -/
def insIn (a : Nat) : Nat → List α → List α
  | 0, A => A
  | j + 1, A => if a < j + 1 then (match lt (gt A (j + 1)) (gt A j) with | true => insIn a j (sw A (j + 1) j) | false => A) else A
def insOut (a : Nat) : Nat → Nat → List α → List α
  | 0, _, A => A
  | d + 1, i, A => insOut a d (i + 1) (insIn lt a i A)

variable {lt}
theorem insIn_len (a : Nat) : ∀ (j : Nat) (A : List α), (insIn lt a j A).length = A.length
  | 0, _ => rfl
  | j + 1, A => by
    rw [insIn]
    split
    · split
      · rw [insIn_len, sw_len]
      · rfl
    · rfl
theorem sortS_snoc (S : List α) (x : α) : sortS lt (S ++ [x]) = insS lt (sortS lt S) x := by simp [sortS]
theorem insS_snoc1 {x y : α} (h : lt x y = true) : ∀ (S : List α), insS lt (S ++ [y]) x = insS lt S x ++ [y]
  | [] => by simp [insS, h]
  | z :: S => by
    simp only [List.cons_append, insS]
    cases lt x z with
    | true => simp
    | false => simp [insS_snoc1 h S]
theorem insS_end {x : α} : ∀ {S : List α}, (∀ z ∈ S, lt x z = false) → insS lt S x = S ++ [x]
  | [], _ => rfl
  | z :: S, h => by
    simp only [insS, h z (List.mem_cons_self ..), insS_end fun w hw => h w (List.mem_cons_of_mem _ hw), List.cons_append]
theorem insIn_eq (hw : Swo lt) {P : List α} {x : α} : ∀ {n : Nat} {S Q : List α} {j : Nat}, n = S.length → Sd lt S → j = P.length + S.length → insIn lt P.length j (P ++ S ++ x :: Q) = P ++ insS lt S x ++ Q := by
  intro n
  induction n with
  | zero =>
    intro S Q j h1 _ h2
    have : S = [] := List.eq_nil_of_length_eq_zero h1.symm
    subst this
    simp only [List.length_nil, Nat.add_zero] at h2
    subst h2
    have : ∀ A : List α, insIn lt P.length P.length A = A := by
      intro A
      cases hp : P.length with
      | zero => rfl
      | succ k => simp [insIn]
    rw [this]; simp [insS]
  | succ n ih =>
    intro S Q j h1 hs h2
    obtain ⟨S', y, rfl⟩ : ∃ S' y, S = S' ++ [y] := ⟨S.dropLast, S.getLast (by intro h; subst h; simp at h1), (List.dropLast_concat_getLast _).symm⟩
    simp only [List.length_append, List.length_cons, List.length_nil] at h1 h2
    obtain ⟨k, rfl⟩ : ∃ k, j = k + 1 := ⟨j - 1, by omega⟩
    obtain ⟨hs1, _, hs3⟩ := List.pairwise_append.1 hs
    rw [insIn, if_pos (by omega)]
    have g1 : gt (P ++ (S' ++ [y]) ++ x :: Q) (k + 1) = x := gt_mid (by simp; omega)
    have g0 : gt (P ++ (S' ++ [y]) ++ x :: Q) k = y := by
      have := gt_mid (P := P ++ S') (Q := x :: Q) (x := y) (k := k) (by simp; omega)
      simpa using this
    rw [g1, g0]
    cases h : lt x y with
    | true =>
      have e : sw (P ++ (S' ++ [y]) ++ x :: Q) (k + 1) k = P ++ S' ++ x :: (y :: Q) := by
        have := sw_two (P := P ++ S') (Q := Q) (x := y) (y := x) (i := k + 1) (j := k) (by simp; omega) (by simp; omega)
        simpa using this
      simp only
      rw [e, ih (by omega) hs1 (by omega), insS_snoc1 h]
      simp
    | false =>
      simp only
      rw [insS_end]
      · simp
      · intro z hz
        rcases List.mem_append.1 hz with hz | hz
        · exact hw.ntrans h (hs3 z hz y (by simp))
        · simp at hz; subst hz; exact h
theorem insOut_eq (hw : Swo lt) {P Q : List α} : ∀ {T S : List α} {d i : Nat}, d = T.length → i = P.length + S.length → insOut lt P.length d i (P ++ sortS lt S ++ (T ++ Q)) = P ++ sortS lt (S ++ T) ++ Q := by
  intro T
  induction T with
  | nil => intro S d i h1 _; subst h1; simp [insOut]
  | cons x T ih =>
    intro S d i h1 h2
    simp only [List.length_cons] at h1
    subst h1
    rw [insOut]
    have := insIn_eq hw (P := P) (x := x) (n := (sortS lt S).length) (S := sortS lt S) (Q := T ++ Q) (j := i) rfl (sortS_sd hw S) (by rw [sortS_len hw]; omega)
    rw [List.cons_append, this, ← sortS_snoc, ih rfl (by simp; omega)]
    simp

/-- The members from 'a' on, below 'b'. -/
abbrev seg (A : List α) (a b : Nat) : List α := (A.drop a).take (b - a)
def srt (lt : α → α → Bool) (A : List α) (a b : Nat) : List α := A.take a ++ sortS lt (seg A a b) ++ A.drop b
theorem seg_split {A : List α} {a b : Nat} (h : a ≤ b) : A = A.take a ++ seg A a b ++ A.drop b := by
  have : A.drop b = (A.drop a).drop (b - a) := by rw [List.drop_drop]; congr 1; omega
  rw [this, List.append_assoc, List.take_append_drop, List.take_append_drop]
theorem srt_app (P S Q : List α) {a b : Nat} (ha : a = P.length) (hb : b = P.length + S.length) : srt lt (P ++ S ++ Q) a b = P ++ sortS lt S ++ Q := by
  subst ha hb
  unfold srt seg
  simp
theorem srt_small (hw : Swo lt) {A : List α} {a b : Nat} (h : b ≤ a + 1) (h2 : a ≤ b) : srt lt A a b = A := by
  have e : sortS lt (seg A a b) = seg A a b := sortS_self hw (by
    have : (seg A a b).length ≤ 1 := by simp; omega
    match seg A a b, this with
    | [], _ => exact .nil
    | [x], _ => exact List.pairwise_singleton ..)
  unfold srt
  rw [e, ← seg_split h2]
theorem insOut_srt (hw : Swo lt) {A : List α} {a b : Nat} (h1 : a < b) (h2 : b ≤ A.length) : insOut lt a (b - a - 1) (a + 1) A = srt lt A a b := by
  have hs := seg_split (A := A) (a := a) (b := b) (by omega)
  have hp : (A.take a).length = a := by simp; omega
  have hl : (seg A a b).length = b - a := by simp; omega
  obtain ⟨x, T, hT⟩ : ∃ x T, seg A a b = x :: T := by
    cases h : seg A a b with
    | nil => rw [h] at hl; simp at hl; omega
    | cons x T => exact ⟨x, T, rfl⟩
  have hd : b - a - 1 = T.length := by rw [hT] at hl; simp at hl; omega
  have := insOut_eq hw (P := A.take a) (Q := A.drop b) (T := T) (S := [x]) (d := b - a - 1) (i := a + 1) hd (by rw [hp]; simp)
  rw [hp] at this
  unfold srt
  rw [hT]
  conv => lhs; rw [hs, hT]
  simpa [sortS, insS] using this

/-- A turn by changing places. -/
def rotL : Nat → List α → Nat → Nat → Nat → List α
  | 0, A, _, _, _ => A
  | d + 1, A, m, i, j => if i = j then swR i A (m - i) m else if j < i then rotL d (swR j A (m - i) m) m (i - j) j else rotL d (swR i A (m - i) (m + j - i)) m i (j - i)
theorem rotL_eq : ∀ {d : Nat} {P X Y Q : List α} {m i j : Nat}, i = X.length → j = Y.length → m = P.length + i → 0 < i → 0 < j → i + j ≤ d →
    rotL d (P ++ X ++ Y ++ Q) m i j = P ++ Y ++ X ++ Q := by
  intro d
  induction d with
  | zero => intros; omega
  | succ d ih =>
    intro P X Y Q m i j h1 h2 h3 h4 h5 h6
    rw [rotL]
    by_cases hij : i = j
    · rw [if_pos hij]
      have := swR_eq (P := P) (X := X) (M := []) (Y := Y) (Q := Q) (by omega)
      simp only [List.append_nil, List.length_nil, Nat.add_zero] at this
      rw [show m - i = P.length by omega, show m = P.length + X.length by omega, h1]
      exact this
    · rw [if_neg hij]
      by_cases hj : j < i
      · rw [if_pos hj]
        have hX : X = X.take j ++ X.drop j := (List.take_append_drop ..).symm
        have l1 : (X.take j).length = j := by simp; omega
        have l2 : (X.drop j).length = i - j := by simp; omega
        have := swR_eq (P := P) (X := X.take j) (M := X.drop j) (Y := Y) (Q := Q) (by omega)
        rw [l1, l2] at this
        have e : swR j (P ++ X ++ Y ++ Q) (m - i) m = (P ++ Y) ++ X.drop j ++ X.take j ++ Q := by
          rw [show m - i = P.length by omega, show m = P.length + j + (i - j) by omega]
          conv => lhs; rw [hX]
          rw [← this]
          simp
        rw [e, ih (by omega) (by omega) (by simp; omega) (by omega) h5 (by omega)]
        conv => rhs; rw [hX]
        simp
      · rw [if_neg hj]
        have hY : Y = Y.take (j - i) ++ Y.drop (j - i) := (List.take_append_drop ..).symm
        have l1 : (Y.take (j - i)).length = j - i := by simp; omega
        have l2 : (Y.drop (j - i)).length = i := by simp; omega
        have := swR_eq (P := P) (X := X) (M := Y.take (j - i)) (Y := Y.drop (j - i)) (Q := Q) (by omega)
        rw [l1, ← h1] at this
        have e : swR i (P ++ X ++ Y ++ Q) (m - i) (m + j - i) = P ++ Y.drop (j - i) ++ Y.take (j - i) ++ (X ++ Q) := by
          rw [show m - i = P.length by omega, show m + j - i = P.length + i + (j - i) by omega]
          conv => lhs; rw [hY]
          have := this.trans (b := _) rfl
          simp only [List.append_assoc] at this ⊢
          exact this
        rw [e, ih (by omega) (by omega) (by omega) h4 (by omega) (by omega)]
        conv => rhs; rw [hY]
        simp
theorem rotL_seg {A : List α} {a m b d : Nat} (h1 : a < m) (h2 : m < b) (h3 : b ≤ A.length) (h4 : b - a ≤ d) : rotL d A m (m - a) (b - m) = A.take a ++ seg A m b ++ seg A a m ++ A.drop b := by
  have hs : A = A.take a ++ seg A a m ++ seg A m b ++ A.drop b := by
    conv => lhs; rw [seg_split (A := A) (a := m) (b := b) (by omega)]
    congr 2
    have := seg_split (A := A.take m) (a := a) (b := m) (by omega)
    rw [List.take_take, Nat.min_eq_left (by omega)] at this
    rw [this]
    unfold seg
    simp [List.drop_take, List.take_take]
  have := rotL_eq (d := d) (P := A.take a) (X := seg A a m) (Y := seg A m b) (Q := A.drop b) (m := m) (i := m - a) (j := b - m) (by simp; omega) (by simp; omega) (by simp; omega) (by omega) (by omega) (by omega)
  rw [← this, ← hs]
end
end Go.Eva

/- Eva, part 54: merging in place; in plain lists. -/
namespace Go.Eva
set_option linter.unusedSectionVars false
theorem bs_t {P : Nat → Bool} {d i j h : Nat} (h1 : i < j) (h2 : (i + j) / 2 = h) (h3 : P h = true) : bs P (d + 1) i j = bs P d (h + 1) j := by rw [bs, if_pos h1, h2, h3]
theorem bs_f {P : Nat → Bool} {d i j h : Nat} (h1 : i < j) (h2 : (i + j) / 2 = h) (h3 : P h = false) : bs P (d + 1) i j = bs P d i h := by rw [bs, if_pos h1, h2, h3]
section
variable {α : Type} [Inhabited α] {lt : α → α → Bool}

theorem merge_parts (hw : Swo lt) {U1 U2 V1 V2 : List α} (hU : Sd lt (U1 ++ U2)) (hV : Sd lt (V1 ++ V2)) (h1 : ∀ x ∈ V1, ∀ y ∈ U2, lt x y = true) (h2 : ∀ x ∈ U1, ∀ y ∈ V2, lt y x = false) :
    sortS lt (U1 ++ V1) ++ sortS lt (U2 ++ V2) = sortS lt ((U1 ++ U2) ++ (V1 ++ V2)) := by
  refine sortS_parts hw h1 fun x hx y hy => ?_
  rcases List.mem_append.1 hx with hx | hx <;> rcases List.mem_append.1 hy with hy | hy
  · exact (List.pairwise_append.1 hU).2.2 x hx y hy
  · exact h2 x hx y hy
  · exact hw.asymm (h1 x hx y hy)
  · exact (List.pairwise_append.1 hV).2.2 x hx y hy
theorem sd_gt {P U Q : List α} (hU : Sd lt U) (hw : Swo lt) {p q : Nat} (h1 : P.length ≤ p) (h2 : p ≤ q) (h3 : q < P.length + U.length) : lt (gt (P ++ U ++ Q) q) (gt (P ++ U ++ Q) p) = false := by
  by_cases hpq : p = q
  · subst hpq; exact hw.irr _
  · have e : ∀ k, P.length ≤ k → k < P.length + U.length → ∃ h : k - P.length < U.length, gt (P ++ U ++ Q) k = U[k - P.length] := by
      intro k h h'
      refine ⟨by omega, ?_⟩
      rw [List.append_assoc, gt_app, if_neg (by omega), gt_app, if_pos (by omega), gt_eq (by omega)]
    obtain ⟨b1, e1⟩ := e p h1 (by omega)
    obtain ⟨b2, e2⟩ := e q (by omega) h3
    rw [e1, e2]
    exact List.pairwise_iff_getElem.1 hU _ _ b1 b2 (by omega)
/-- In what is sorted, all ahead of one are not behind it. -/
theorem sd_last {U : List α} {x y : α} (hU : Sd lt (U ++ [y])) (hw : Swo lt) (hx : x ∈ U ++ [y]) : lt y x = false := by
  rcases List.mem_append.1 hx with h | h
  · exact (List.pairwise_append.1 hU).2.2 x h y (by simp)
  · simp at h; subst h; exact hw.irr _
theorem sd_head {U : List α} {x y : α} (hU : Sd lt (y :: U)) (hw : Swo lt) (hx : x ∈ y :: U) : lt x y = false := by
  rcases List.mem_cons.1 hx with h | h
  · subst h; exact hw.irr _
  · exact (List.pairwise_cons.1 hU).1 x h
theorem snoc_of {U : List α} (h : U ≠ []) : ∃ U' y, U = U' ++ [y] := ⟨U.dropLast, U.getLast h, (List.dropLast_concat_getLast _).symm⟩
theorem cross1 (hw : Swo lt) {V1 U2 : List α} (hV : Sd lt V1) (hU : Sd lt U2) (h : V1 ≠ [] → U2 ≠ [] → lt (gt V1 (V1.length - 1)) (gt U2 0) = true) : ∀ x ∈ V1, ∀ y ∈ U2, lt x y = true := by
  intro x hx y hy
  have hV1 : V1 ≠ [] := by intro e; subst e; simp at hx
  have hU2 : U2 ≠ [] := by intro e; subst e; simp at hy
  have h := h hV1 hU2
  obtain ⟨V', v, rfl⟩ := snoc_of hV1
  obtain ⟨u, U', rfl⟩ : ∃ u U', U2 = u :: U' := by
    cases U2 with
    | nil => exact absurd rfl hU2
    | cons u U' => exact ⟨u, U', rfl⟩
  have g1 : gt (V' ++ [v]) ((V' ++ [v]).length - 1) = v := gt_mid (Q := []) (by simp)
  have g2 : gt (u :: U') 0 = u := rfl
  rw [g1, g2] at h
  exact hw.le_lt (sd_last hV hw hx) (hw.lt_le h (sd_head hU hw hy))
theorem cross2 (hw : Swo lt) {U1 V2 : List α} (hU : Sd lt U1) (hV : Sd lt V2) (h : U1 ≠ [] → V2 ≠ [] → lt (gt V2 0) (gt U1 (U1.length - 1)) = false) : ∀ x ∈ U1, ∀ y ∈ V2, lt y x = false := by
  intro x hx y hy
  have hU1 : U1 ≠ [] := by intro e; subst e; simp at hx
  have hV2 : V2 ≠ [] := by intro e; subst e; simp at hy
  have h := h hU1 hV2
  obtain ⟨U', u, rfl⟩ := snoc_of hU1
  obtain ⟨v, V', rfl⟩ : ∃ v V', V2 = v :: V' := by
    cases V2 with
    | nil => exact absurd rfl hV2
    | cons v V' => exact ⟨v, V', rfl⟩
  have g1 : gt (U' ++ [u]) ((U' ++ [u]).length - 1) = u := gt_mid (Q := []) (by simp)
  have g2 : gt (v :: V') 0 = v := rfl
  rw [g1, g2] at h
  exact hw.ntrans (sd_head hV hw hy) (hw.ntrans h (sd_last hU hw hx))
end
end Go.Eva

/- Eva, part 55: merging in place, the steps; in plain lists. -/
namespace Go.Eva
set_option linter.unusedSectionVars false
section
variable {α : Type} [Inhabited α] {lt : α → α → Bool}

theorem gt_in {P U Q : List α} {k : Nat} (h : P.length ≤ k) (h' : k < P.length + U.length) : gt (P ++ U ++ Q) k = gt U (k - P.length) := by
  rw [List.append_assoc, gt_app, if_neg (by omega), gt_app, if_pos (by omega)]
theorem merge_first (hw : Swo lt) {P V Q : List α} {x : α} {a m b d s : Nat} (ha : a = P.length) (hm : m = a + 1) (hb : b = m + V.length) (hd : b ≤ m + d) (hV : Sd lt V)
    (hs : s = bs (fun h => lt (gt (P ++ [x] ++ V ++ Q) h) (gt (P ++ [x] ++ V ++ Q) a)) d m b) :
    m ≤ s ∧ s ≤ b ∧ up (s - 1 - a) (P ++ [x] ++ V ++ Q) a = P ++ sortS lt ([x] ++ V) ++ Q := by
  have ga : gt (P ++ [x] ++ V ++ Q) a = x := by
    have := gt_mid (P := P) (Q := V ++ Q) (x := x) (k := a) ha
    simpa using this
  rw [ga] at hs
  have hg : ∀ h, m ≤ h → h < b → gt (P ++ [x] ++ V ++ Q) h = gt V (h - m) := by
    intro h h1 h2
    rw [gt_in (P := P ++ [x]) (U := V) (by simp; omega) (by simp; omega)]
    congr 1; simp; omega
  have hsd : ∀ h h', m ≤ h → h ≤ h' → h' < b → lt (gt (P ++ [x] ++ V ++ Q) h') (gt (P ++ [x] ++ V ++ Q) h) = false := by
    intro h h' h1 h2 h3
    exact sd_gt (P := P ++ [x]) hV hw (by simp; omega) h2 (by simp; omega)
  obtain ⟨k1, k2, k3, k4⟩ := bs_ok (P := fun h => lt (gt (P ++ [x] ++ V ++ Q) h) x) (d := d) (i := m) (j := b) (by omega) (by omega)
    (fun h h' c1 c2 c3 c4 => hw.le_lt (hsd h h' c1 c2 c3) c4)
  rw [← hs] at k1 k2 k3 k4
  refine ⟨k1, k2, ?_⟩
  have hVs : V = V.take (s - m) ++ V.drop (s - m) := (List.take_append_drop ..).symm
  have l1 : (V.take (s - m)).length = s - m := by simp; omega
  have hV' := hV
  rw [hVs] at hV'
  have c1 : ∀ y ∈ V.take (s - m), lt y x = true := by
    intro y hy
    obtain ⟨i, hi, rfl⟩ := List.getElem_of_mem hy
    have := k3 (m + i) (by omega) (by omega)
    rw [hg _ (by omega) (by omega), Nat.add_sub_cancel_left] at this
    rw [List.getElem_take, ← gt_eq]; exact this
  have c2 : ∀ y ∈ V.drop (s - m), lt y x = false := by
    intro y hy
    obtain ⟨i, hi, rfl⟩ := List.getElem_of_mem hy
    rw [List.length_drop] at hi
    have := k4 (s + i) (by omega) (by omega)
    rw [hg _ (by omega) (by omega)] at this
    rw [List.getElem_drop, ← gt_eq, show s - m + i = s + i - m by omega]; exact this
  have hxV : Sd lt (x :: V.drop (s - m)) := List.pairwise_cons.2 ⟨c2, (List.pairwise_append.1 hV').2.1⟩
  have e := merge_parts hw (U1 := []) (U2 := [x]) (V1 := V.take (s - m)) (V2 := V.drop (s - m)) (by simp [Sd]) hV' (fun y hy z hz => by simp at hz; subst hz; exact c1 y hy) (fun _ h => by simp at h)
  rw [List.take_append_drop, List.nil_append, List.nil_append, sortS_self hw (List.pairwise_append.1 hV').1, List.singleton_append, sortS_self hw hxV] at e
  rw [← e]
  have := up_eq (Q := V.drop (s - m) ++ Q) (x := x) (V := V.take (s - m)) (P := P)
  rw [l1, ← ha] at this
  rw [show s - 1 - a = s - m by omega]
  have e2 : P ++ [x] ++ V ++ Q = P ++ x :: V.take (s - m) ++ (V.drop (s - m) ++ Q) := by
    simp only [List.append_assoc, List.cons_append, List.nil_append]
    rw [← List.append_assoc (V.take _), List.take_append_drop]
  rw [e2, this]
  simp
theorem merge_last (hw : Swo lt) {P U Q : List α} {y : α} {a m d s : Nat} (ha : a = P.length) (hm : m = a + U.length) (hd : m ≤ a + d) (hU : Sd lt U)
    (hs : s = bs (fun h => !lt (gt (P ++ U ++ [y] ++ Q) m) (gt (P ++ U ++ [y] ++ Q) h)) d a m) :
    a ≤ s ∧ s ≤ m ∧ down (m - s) (P ++ U ++ [y] ++ Q) m = P ++ sortS lt (U ++ [y]) ++ Q := by
  have gm : gt (P ++ U ++ [y] ++ Q) m = y := by
    have := gt_mid (P := P ++ U) (Q := Q) (x := y) (k := m) (by simp; omega)
    simpa using this
  rw [gm] at hs
  have hg : ∀ h, a ≤ h → h < m → gt (P ++ U ++ [y] ++ Q) h = gt U (h - a) := by
    intro h h1 h2
    rw [List.append_assoc (P ++ U), gt_in (by omega) (by omega), ha]
  have hsd : ∀ h h', a ≤ h → h ≤ h' → h' < m → lt (gt (P ++ U ++ [y] ++ Q) h') (gt (P ++ U ++ [y] ++ Q) h) = false := by
    intro h h' h1 h2 h3
    rw [List.append_assoc (P ++ U)]
    exact sd_gt hU hw (by omega) h2 (by omega)
  obtain ⟨k1, k2, k3, k4⟩ := bs_ok (P := fun h => !lt y (gt (P ++ U ++ [y] ++ Q) h)) (d := d) (i := a) (j := m) (by omega) (by omega)
    (fun h h' c1 c2 c3 c4 => by
      simp only [Bool.not_eq_true'] at c4 ⊢
      exact hw.ntrans c4 (hsd h h' c1 c2 c3))
  rw [← hs] at k1 k2 k3 k4
  refine ⟨k1, k2, ?_⟩
  have hUs : U = U.take (s - a) ++ U.drop (s - a) := (List.take_append_drop ..).symm
  have l1 : (U.take (s - a)).length = s - a := by simp; omega
  have l2 : (U.drop (s - a)).length = m - s := by simp; omega
  have hU' := hU
  rw [hUs] at hU'
  have c1 : ∀ z ∈ U.take (s - a), lt y z = false := by
    intro z hz
    obtain ⟨i, hi, rfl⟩ := List.getElem_of_mem hz
    have := k3 (a + i) (by omega) (by omega)
    rw [hg _ (by omega) (by omega), Nat.add_sub_cancel_left] at this
    rw [List.getElem_take, ← gt_eq]; simpa using this
  have c2 : ∀ z ∈ U.drop (s - a), lt y z = true := by
    intro z hz
    obtain ⟨i, hi, rfl⟩ := List.getElem_of_mem hz
    rw [List.length_drop] at hi
    have := k4 (s + i) (by omega) (by omega)
    rw [hg _ (by omega) (by omega)] at this
    rw [List.getElem_drop, ← gt_eq, show s - a + i = s + i - a by omega]; simpa using this
  have hUy : Sd lt (U.take (s - a) ++ [y]) := List.pairwise_append.2 ⟨(List.pairwise_append.1 hU').1, by simp, fun z hz w hw' => by simp at hw'; subst hw'; exact c1 z hz⟩
  have e := merge_parts hw (U1 := U.take (s - a)) (U2 := U.drop (s - a)) (V1 := [y]) (V2 := []) hU' (by simp [Sd]) (fun w hw' z hz => by simp at hw'; subst hw'; exact c2 z hz) (fun _ _ _ h => by simp at h)
  rw [List.take_append_drop, List.append_nil, List.append_nil, sortS_self hw (List.pairwise_append.1 hU').2.1, sortS_self hw hUy] at e
  rw [← e]
  have := down_eq (Q := Q) (x := y) (n := m - s) (V := U.drop (s - a)) (P := P ++ U.take (s - a)) (k := m) (by omega) (by simp; omega)
  have e2 : P ++ U ++ [y] ++ Q = P ++ U.take (s - a) ++ U.drop (s - a) ++ y :: Q := by
    simp only [List.append_assoc, List.cons_append, List.nil_append]
    rw [← List.append_assoc (U.take _), List.take_append_drop]
  rw [e2, this]
  simp
end
end Go.Eva

/- Eva, part 56: merging in place, the step of the middle; in plain lists. -/
namespace Go.Eva
set_option linter.unusedSectionVars false
section
variable {α : Type} [Inhabited α] {lt : α → α → Bool}

theorem merge_gen (hw : Swo lt) {P U V Q : List α} {a m b mid s0 r0 d s : Nat} (ha : a = P.length) (hm : m = a + U.length) (hb : b = m + V.length) (hU : Sd lt U) (hV : Sd lt V)
    (h1 : 0 < U.length) (h2 : 0 < V.length) (hmid : (a + b) / 2 = mid) (hs0 : m ≤ mid ∧ s0 = a ∧ r0 = m ∨ mid < m ∧ s0 = mid + m - b ∧ r0 = mid) (hd : r0 ≤ s0 + d)
    (hs : s = bs (fun c => !lt (gt (P ++ U ++ V ++ Q) (mid + m - 1 - c)) (gt (P ++ U ++ V ++ Q) c)) d s0 r0) :
    s0 ≤ s ∧ s ≤ r0 ∧ ∃ U1 U2 V1 V2, U = U1 ++ U2 ∧ V = V1 ++ V2 ∧ U1.length = s - a ∧ V1.length = mid - s ∧ sortS lt (U1 ++ V1) ++ sortS lt (U2 ++ V2) = sortS lt (U ++ V) ∧
      Sd lt U1 ∧ Sd lt U2 ∧ Sd lt V1 ∧ Sd lt V2 := by
  have hgU : ∀ h, a ≤ h → h < m → gt (P ++ U ++ V ++ Q) h = gt U (h - a) := by
    intro h c1 c2
    rw [List.append_assoc (P ++ U), gt_in (by omega) (by omega), ha]
  have hgV : ∀ h, m ≤ h → h < b → gt (P ++ U ++ V ++ Q) h = gt V (h - m) := by
    intro h c1 c2
    rw [gt_in (P := P ++ U) (U := V) (by simp; omega) (by simp; omega)]
    congr 1; simp; omega
  have hsU : ∀ h h', a ≤ h → h ≤ h' → h' < m → lt (gt (P ++ U ++ V ++ Q) h') (gt (P ++ U ++ V ++ Q) h) = false := by
    intro h h' c1 c2 c3
    rw [List.append_assoc (P ++ U)]
    exact sd_gt hU hw (by omega) c2 (by omega)
  have hsV : ∀ h h', m ≤ h → h ≤ h' → h' < b → lt (gt (P ++ U ++ V ++ Q) h') (gt (P ++ U ++ V ++ Q) h) = false := by
    intro h h' c1 c2 c3
    exact sd_gt (P := P ++ U) hV hw (by simp; omega) c2 (by simp; omega)
  obtain ⟨k1, k2, k3, k4⟩ := bs_ok (P := fun c => !lt (gt (P ++ U ++ V ++ Q) (mid + m - 1 - c)) (gt (P ++ U ++ V ++ Q) c)) (d := d) (i := s0) (j := r0) (by omega) (by omega)
    (fun h h' c1 c2 c3 c4 => by
      simp only [Bool.not_eq_true'] at c4 ⊢
      exact hw.ntrans (hw.ntrans (hsV (mid + m - 1 - h') (mid + m - 1 - h) (by omega) (by omega) (by omega)) c4) (hsU h h' (by omega) c2 (by omega)))
  rw [← hs] at k1 k2 k3 k4
  refine ⟨k1, k2, U.take (s - a), U.drop (s - a), V.take (mid - s), V.drop (mid - s), (List.take_append_drop ..).symm, (List.take_append_drop ..).symm, by simp; omega, by simp; omega, ?_⟩
  have hUs : U = U.take (s - a) ++ U.drop (s - a) := (List.take_append_drop ..).symm
  have hVs : V = V.take (mid - s) ++ V.drop (mid - s) := (List.take_append_drop ..).symm
  have hU' := hU
  rw [hUs] at hU'
  have hV' := hV
  rw [hVs] at hV'
  obtain ⟨u1, u2, _⟩ := List.pairwise_append.1 hU'
  obtain ⟨v1, v2, _⟩ := List.pairwise_append.1 hV'
  refine ⟨?_, u1, u2, v1, v2⟩
  have lu1 : (U.take (s - a)).length = s - a := by simp; omega
  have lu2 : (U.drop (s - a)).length = m - s := by simp; omega
  have lv1 : (V.take (mid - s)).length = mid - s := by simp; omega
  have lv2 : (V.drop (mid - s)).length = b - (mid + m - s) := by simp; omega
  have gtk : ∀ {L : List α} {n i : Nat}, i < n → gt (L.take n) i = gt L i := by
    intro L n i h
    unfold gt
    rw [List.getElem?_take, if_pos h]
  have gdr : ∀ {L : List α} {n i : Nat}, gt (L.drop n) i = gt L (n + i) := by
    intro L n i
    unfold gt
    rw [List.getElem?_drop]
  have := merge_parts hw hU' hV' (cross1 hw v1 u2 fun c1 c2 => ?_) (cross2 hw u1 v2 fun c1 c2 => ?_)
  · rw [List.take_append_drop, List.take_append_drop] at this
    exact this
  · have n1 : 0 < mid - s := by rw [← lv1]; exact List.length_pos_iff.2 c1
    have n2 : 0 < m - s := by rw [← lu2]; exact List.length_pos_iff.2 c2
    have := k4 s (Nat.le_refl _) (by omega)
    simp only [Bool.not_eq_false'] at this
    rw [hgV _ (by omega) (by omega), hgU _ (by omega) (by omega)] at this
    rw [gtk (by omega), gdr, lv1, show mid - s - 1 = mid + m - 1 - s - m by omega]
    exact this
  · have n1 : 0 < s - a := by rw [← lu1]; exact List.length_pos_iff.2 c1
    have n2 : 0 < b - (mid + m - s) := by rw [← lv2]; exact List.length_pos_iff.2 c2
    have := k3 (s - 1) (by omega) (by omega)
    simp only [Bool.not_eq_true'] at this
    rw [hgV _ (by omega) (by omega), hgU _ (by omega) (by omega)] at this
    rw [gtk (by omega), gdr, lu1, show mid - s + 0 = mid + m - 1 - (s - 1) - m by omega, show s - a - 1 = s - 1 - a by omega]
    exact this
end
end Go.Eva

/- Eva, part 57: rows of sorted blocks; in plain lists. -/
namespace Go.Eva
set_option linter.unusedSectionVars false
section
variable {α : Type} [Inhabited α] {lt : α → α → Bool}

/-- Sorted blocks of one length, the last one shorter maybe. -/
inductive Blks (lt : α → α → Bool) (n : Nat) : List α → Prop
  | last {R : List α} : R.length ≤ n → Sd lt R → Blks lt n R
  | cons {S R : List α} : S.length = n → Sd lt S → Blks lt n R → Blks lt n (S ++ R)
/-- Sorted blocks of one length. -/
inductive Full (lt : α → α → Bool) (n : Nat) : List α → Prop
  | nil : Full lt n []
  | snoc {P S : List α} : Full lt n P → S.length = n → Sd lt S → Full lt n (P ++ S)

theorem Full.blks {n : Nat} {P : List α} (h : Full lt n P) : ∀ {R : List α}, Blks lt n R → Blks lt n (P ++ R) := by
  induction h with
  | nil => intro R h; exact h
  | snoc _ h2 h3 ih => intro R h; rw [List.append_assoc]; exact ih (.cons h2 h3 h)
theorem Blks.more {n : Nat} {R : List α} (h : Blks lt n R) (hl : n < R.length) : ∃ S R', R = S ++ R' ∧ S.length = n ∧ Sd lt S ∧ Blks lt n R' := by
  cases h with
  | last h _ => omega
  | cons h1 h2 h3 => exact ⟨_, _, rfl, h1, h2, h3⟩
theorem Blks.more' {n : Nat} {R : List α} (h : Blks lt n R) (hl : n ≤ R.length) : ∃ S R', R = S ++ R' ∧ S.length = n ∧ Sd lt S ∧ Blks lt n R' := by
  by_cases hx : n < R.length
  · exact h.more hx
  · cases h with
    | last h2 h3 => exact ⟨R, [], by simp, by omega, h3, .last (by simp) (by simp [Sd])⟩
    | cons h1 h2 h3 => exact ⟨_, _, rfl, h1, h2, h3⟩
theorem Blks.sd {n : Nat} {R : List α} (h : Blks lt n R) (hl : R.length ≤ n) : Sd lt R := by
  cases h with
  | last _ h => exact h
  | @cons S R' h1 h2 h3 =>
    have : R' = [] := by
      rw [List.length_append] at hl
      exact List.eq_nil_of_length_eq_zero (by omega)
    subst this
    simpa using h2
/-- Two blocks ahead. -/
theorem Blks.two {n : Nat} {R : List α} (h : Blks lt n R) (hn : 0 < n) (hl : 2 * n ≤ R.length) : ∃ S1 S2 R', R = S1 ++ S2 ++ R' ∧ S1.length = n ∧ S2.length = n ∧ Sd lt S1 ∧ Sd lt S2 ∧ Blks lt n R' := by
  obtain ⟨S1, R1, rfl, h1, h2, h3⟩ := h.more (by omega)
  rw [List.length_append] at hl
  obtain ⟨S2, R2, rfl, h4, h5, h6⟩ := h3.more' (by omega)
  exact ⟨S1, S2, R2, by simp, h1, h4, h2, h5, h6⟩
/-- One, and a rest. -/
theorem Blks.one {n : Nat} {R : List α} (h : Blks lt n R) (hl : n < R.length) (h2 : R.length < 2 * n) : ∃ S1 S2, R = S1 ++ S2 ∧ S1.length = n ∧ Sd lt S1 ∧ Sd lt S2 ∧ 0 < S2.length := by
  obtain ⟨S1, R1, rfl, h3, h4, h5⟩ := h.more hl
  rw [List.length_append] at hl h2
  exact ⟨S1, R1, rfl, h3, h4, h5.sd (by omega), by omega⟩
theorem StEq.mid {P S S' Q : List α} (h : StEq lt S' S) : StEq lt (P ++ S' ++ Q) (P ++ S ++ Q) := ((StEq.refl _).append h).append (.refl _)
theorem split_at (R : List α) {n : Nat} (h : n ≤ R.length) : ∃ S R', R = S ++ R' ∧ S.length = n := ⟨R.take n, R.drop n, (List.take_append_drop ..).symm, by simp; omega⟩

end
end Go.Eva

/- Eva, part 58: lists of messages, sorted and parted, in plain words. -/
namespace Go.Eva

/-- How many there are in all. -/
def total (ls : List (List Cross)) : Nat := (ls.map List.length).sum
theorem total_gt {ls : List (List Cross)} {i : Nat} (h : i < ls.length) : total (ls.drop i) = (gt ls i).length + total (ls.drop (i + 1)) := by
  unfold total; rw [drop_gt h]; simp
theorem total_end {ls : List (List Cross)} {i : Nat} (h : ls.length ≤ i) : total (ls.drop i) = 0 := by
  unfold total; rw [drop_end h]; rfl
theorem flat_gt {ls : List (List Cross)} {i : Nat} (h : i < ls.length) : (ls.drop i).flatten = gt ls i ++ (ls.drop (i + 1)).flatten := by
  rw [drop_gt h]; simp
theorem flat_len {ls : List (List Cross)} : ls.flatten.length = total ls := by
  unfold total; simp [List.length_flatten]
/-- What goes to some regions, one behind the other. -/
def parts (s : List Cross) (r : Int) : Nat → List Cross
  | 0 => []
  | d + 1 => toL s r ++ parts s (r + 1) d
/-- Messages alike, but where they come from and when. -/
def alike (l : List Cross) (x : Cross) : Nat → List Cross
  | 0 => []
  | d + 1 => alike l x d ++ [{ x with frame := (d : Int), frm := (gt l d).frm }]
end Go.Eva

/- Eva, part 60: a region's step, in plain words. -/
namespace Go.Eva

/-- A step under way: who is there, how many things were made, what goes out. -/
structure Stg where
  l : List Entity
  made : Int
  out : List Cross
def Stg.room (s : Stg) : Bool := decide (s.made < 8) && decide (things s.l < 24)
section
variable (c : Config) (r f : Int)
/-- The number of the next thing. -/
def numI (made : Int) : Int := 1000 + (f * c.regions + r) * 8 + (made + 1) - 1
def placeX (a o : Int) : Int := c.cornerX r + below 1024 c.seed [a, f, o]
def placeY (b o : Int) : Int := c.cornerY r + below 1024 c.seed [b, f, o]
def setId (l : List Entity) (id : Int) (e : Entity) : List Entity := l.set (find l id).toNat e
def inAt (ins : List Input) (id : Int) : Input := gt ins (id - 1).toNat
def steer1 (ins : List Input) (s : Stg) (p : Entity) : Stg :=
  if p.kind ≠ 1 then s
  else if (steerE p (inAt ins p.id)).2 = true then
    (if s.room = true then { s with l := setId (put1 s.l (shootE (steerE p (inAt ins p.id)).1 (inAt ins p.id) (numI c r f s.made))) p.id (steerE p (inAt ins p.id)).1, made := s.made + 1 }
     else { s with l := setId s.l p.id { (steerE p (inAt ins p.id)).1 with age := 0 } })
  else { s with l := setId s.l p.id (steerE p (inAt ins p.id)).1 }
def steerS (ins : List Input) (s : Stg) : Stg := s.l.foldl (steer1 c r f ins) s
def moveL (l : List Entity) : List Entity := (l.filter fun e => (goE c e).2).map fun e => (goE c e).1
def blastsAt (e : Entity) : List Cross := (c.near r).map fun q => ⟨2, r, q, f, Entity.zero, e.x, e.y⟩
def anewE (id : Int) (e : Entity) : Entity := { e with health := 100, vx := 0, vy := 0, age := 0, x := placeX c r f 1 id, y := placeY c r f 2 id }
def fall1 (s : Stg) (id : Int) : Stg := { s with l := s.l.set (find s.l id).toNat (anewE c r f id (gt s.l (find s.l id).toNat)), out := s.out ++ blastsAt c r f (gt s.l (find s.l id).toNat) }
def fallS (s : Stg) : Stg := (fallenL s.l).foldl (fall1 c r f) s
def gemE (made : Int) : Entity := ⟨numI c r f made, 3, placeX c r f 4 r, placeY c r f 5 r, 0, 0, 1, 0, 0⟩
def growS (s : Stg) : Stg :=
  if below 8 c.seed [3, f, r] ≠ 0 ∨ 3 ≤ (s.l.countP fun e => e.kind == 3) ∨ s.room = false then s
  else { s with l := put1 s.l (gemE c r f s.made), made := s.made + 1 }
def handE (e : Entity) : Cross := ⟨1, r, c.of e.x e.y, f, e, 0, 0⟩
def leaveS (s : Stg) : Stg := { s with l := s.l.filter fun e => decide (c.of e.x e.y = r), out := s.out ++ (s.l.filter fun e => !decide (c.of e.x e.y = r)).map (handE c r f) }
def restS (inbox : List Cross) (s : Stg) : Stg := leaveS c r f (growS c r f (fallS c r f { s with l := blastsL (gemsL (shotsL (moveL c s.l))) inbox }))
end
def stepS (c : Config) (r : Int) (s : Region) (ins : List Input) (inbox : List Cross) : Stg :=
  restS c r s.frame inbox (steerS c r s.frame ins ⟨arriveL s.ents inbox, 0, []⟩)
def Region.zero : Region := ⟨0, []⟩
end Go.Eva

/- Eva, part 61: what stays so in a region's step; in plain words. -/
namespace Go.Eva

/-- Ids keep where one is written over by one of the same id. -/
theorem find_lt {l : List Entity} {id : Int} (h : ∃ x ∈ l, x.id = id) : ∃ k : Nat, find l id = k ∧ k < l.length ∧ (gt l k).id = id := by
  obtain ⟨k, hk⟩ := has_find h
  obtain ⟨h1, h2, _⟩ := an_id hk
  exact ⟨k, pos_some hk, h1, h2⟩
theorem map_id_set {l : List Entity} {k : Nat} {e : Entity} (hk : k < l.length) (h : (gt l k).id = e.id) : (l.set k e).map Entity.id = l.map Entity.id := by
  rw [List.map_set]
  apply List.ext_getElem?
  intro i
  rw [List.getElem?_set]
  split
  · rename_i hik
    subst hik
    rw [List.length_map, if_pos hk, List.getElem?_map, get_gt hk, Option.map_some, h]
  · rfl
theorem setId_ids {l : List Entity} {e : Entity} (h : ∃ x ∈ l, x.id = e.id) : (setId l e.id e).map Entity.id = l.map Entity.id := by
  obtain ⟨k, h1, h2, h3⟩ := find_lt h
  unfold setId
  rw [h1]
  exact map_id_set h2 h3
theorem setId_len {l : List Entity} {id : Int} {e : Entity} : (setId l id e).length = l.length := by simp [setId]
theorem srt_ids {l m : List Entity} (h : l.map Entity.id = m.map Entity.id) (hs : Srt l) : Srt m := by
  have : (l.map Entity.id).Pairwise (· < ·) := List.pairwise_map.2 hs
  rw [h] at this
  exact List.pairwise_map.1 this
theorem mem_ids {l m : List Entity} (h : l.map Entity.id = m.map Entity.id) {id : Int} (hx : ∃ x ∈ l, x.id = id) : ∃ x ∈ m, x.id = id := by
  obtain ⟨x, h1, h2⟩ := hx
  have : id ∈ l.map Entity.id := List.mem_map.2 ⟨x, h1, h2⟩
  rw [h] at this
  obtain ⟨y, h3, h4⟩ := List.mem_map.1 this
  exact ⟨y, h3, h4⟩
theorem set_mem {α : Type} {l : List α} {k : Nat} {e x : α} (h : x ∈ l.set k e) : x = e ∨ x ∈ l := by
  rcases List.mem_or_eq_of_mem_set h with h | h
  · exact .inr h
  · exact .inl h
theorem setId_mem {l : List Entity} {id : Int} {e x : Entity} (h : x ∈ setId l id e) : x = e ∨ x ∈ l := set_mem h
theorem put1_mem_iff {l : List Entity} {e x : Entity} (h : x ∈ put1 l e) : x = e ∨ x ∈ l := by
  unfold put1 at h
  split at h
  · exact .inr h
  · exact ins_mem.1 h

/-- Strictly rising numbers within bounds are no more than there is room for. -/
theorem ids_len {l : List Entity} : ∀ {a b : Int}, Srt l → (∀ x ∈ l, a ≤ x.id ∧ x.id ≤ b) → (l.length : Int) ≤ max 0 (b - a + 1) := by
  induction l with
  | nil => intro a b _ _; simp; omega
  | cons e l ih =>
    intro a b hs h
    obtain ⟨h1, h2⟩ := List.pairwise_cons.1 hs
    have := ih (a := a + 1) (b := b) h2 fun x hx => by
      have k1 := h1 x hx
      have k2 := h e (List.mem_cons_self ..)
      have k3 := h x (List.mem_cons_of_mem _ hx)
      omega
    have k2 := h e (List.mem_cons_self ..)
    simp only [List.length_cons]
    omega
theorem srt_filter {l : List Entity} {p : Entity → Bool} (h : Srt l) : Srt (l.filter p) := List.Pairwise.filter _ h
theorem players_le {l : List Entity} {n : Int} (hs : Srt l) (h : ∀ x ∈ l, x.kind = 1 → 1 ≤ x.id ∧ x.id ≤ n) (hn : 0 ≤ n) : ((l.countP fun e => e.kind == 1 : Nat) : Int) ≤ n := by
  rw [List.countP_eq_length_filter]
  have := ids_len (a := 1) (b := n) (srt_filter (p := fun e => e.kind == 1) hs) fun x hx => by
    obtain ⟨h1, h2⟩ := List.mem_filter.1 hx
    exact h x h1 (by simpa using h2)
  omega
theorem len_le {l : List Entity} {n : Int} (hs : Srt l) (h : ∀ x ∈ l, x.kind = 1 → 1 ≤ x.id ∧ x.id ≤ n) (hn : 0 ≤ n) : (l.length : Int) ≤ things l + n := by
  have h1 := players_le hs h hn
  have h2 := @things_players l
  unfold things
  omega

theorem Entity.right_player {c : Config} {e : Entity} (h : e.right c = true) (hk : e.kind = 1) : 1 ≤ e.id ∧ e.id ≤ c.players := by
  simp only [Entity.right, hk, if_true, Bool.and_eq_true, within_iff] at h
  omega
theorem regionRight_iff {c : Config} {r : Int} {s : Region} : regionRight c r s = true ↔ c.is r = true ∧ (0 ≤ s.frame ∧ s.frame ≤ 10000) ∧ Srt s.ents ∧ things s.ents ≤ 24 ∧ ∀ e ∈ s.ents, e.right c = true ∧ c.of e.x e.y = r := by
  simp only [regionRight, Bool.and_eq_true, within_iff, sorted_iff, decide_eq_true_eq, List.all_eq_true]
  constructor
  · rintro ⟨⟨⟨⟨h1, h2⟩, h3⟩, h4⟩, h5⟩; exact ⟨h1, h2, h3, h4, h5⟩
  · rintro ⟨h1, h2, h3, h4, h5⟩; exact ⟨⟨⟨⟨h1, h2⟩, h3⟩, h4⟩, h5⟩

/-- What is known where a step may be. -/
structure Fine (c : Config) (r : Int) (s : Region) (ins : List Input) (inbox : List Cross) : Prop where
  is : c.is r = true
  frame : 0 ≤ s.frame ∧ s.frame < 10000
  srt : Srt s.ents
  things : things s.ents ≤ 24
  ents : ∀ e ∈ s.ents, e.right c = true ∧ c.of e.x e.y = r
  len : (ins.length : Int) = c.players
  ins : ∀ i ∈ ins, i.right = true
  box : ∀ m ∈ inbox, m.right c = true ∧ m.to = r ∧ m.frame = s.frame - 1

theorem asked_fine {c : Config} {r : Int} {s : Region} {ins : List Input} {inbox : List Cross} (h : askedE c r s ins inbox = 0) : Fine c r s ins inbox := by
  unfold askedE at h
  split at h
  · omega
  · rename_i h1
    split at h
    · omega
    · rename_i h2
      split at h
      · omega
      · rename_i h3
        split at h
        · omega
        · rename_i h4
          split at h
          · omega
          · rename_i h5
            obtain ⟨k1, k2, k3, k4, k5⟩ := regionRight_iff.1 (by simpa using h2)
            refine ⟨k1, by omega, k3, k4, k5, by omega, fun i hi => ?_, fun m hm => ?_⟩
            · have h3 : ¬ (ins.any fun i => !i.right) = true := fun e => h3 (.inr e)
              cases hr : i.right with
              | true => rfl
              | false => exact absurd (List.any_eq_true.2 ⟨i, hi, by simp [hr]⟩) h3
            · have : (m.right c && decide (m.to = r) && decide (m.frame = s.frame - 1)) = true := by
                cases hr : (m.right c && decide (m.to = r) && decide (m.frame = s.frame - 1)) with
                | true => rfl
                | false => exact absurd (List.any_eq_true.2 ⟨m, hm, by simp [hr]⟩) h4
              simp only [Bool.and_eq_true, decide_eq_true_eq] at this
              exact ⟨this.1.1, this.1.2, this.2⟩
theorem fine_asked {c : Config} {r : Int} {s : Region} {ins : List Input} {inbox : List Cross} (h : Fine c r s ins inbox) : askedE c r s ins inbox = 0 := by
  have h1 : regionRight c r s = true := regionRight_iff.2 ⟨h.is, by have := h.frame; omega, h.srt, h.things, h.ents⟩
  have h2 : (ins.any fun i => !i.right) = false := by rw [List.any_eq_false]; intro i hi; simp [h.ins i hi]
  have h3 : (inbox.any fun m => !(m.right c && decide (m.to = r) && decide (m.frame = s.frame - 1))) = false := by
    rw [List.any_eq_false]; intro m hm
    obtain ⟨k1, k2, k3⟩ := h.box m hm
    simp [k1, k2, k3]
  have h4 := h.frame
  unfold askedE
  rw [if_neg (by simp [h.is]), if_neg (by simp [h1]), if_neg (by simp [h.len, h2]), if_neg (by rw [h3]; simp), if_neg (by omega)]

/-- What is known of entities in a region at any time: by rising numbers, of players' numbers and places. -/
structure Sane (c : Config) (r : Int) (l : List Entity) : Prop where
  srt : Srt l
  things : things l ≤ 24
  ents : ∀ e ∈ l, e.right c = true ∧ c.of e.x e.y = r

theorem put1_things {l : List Entity} {e : Entity} : things (put1 l e) ≤ things l + (if e.kind = 1 then 0 else 1) := by
  have ins_things : ∀ l : List Entity, things (ins l e) = things l + (if e.kind = 1 then 0 else 1) := by
    intro l
    unfold ins things
    split
    · rename_i k hk
      have : (l.take k ++ e :: l.drop k).countP (fun e => e.kind != 1) = l.countP (fun e => e.kind != 1) + (if e.kind = 1 then 0 else 1) := by
        rw [List.countP_append, List.countP_cons]
        conv => rhs; rw [← List.take_append_drop k l, List.countP_append]
        by_cases h : e.kind = 1 <;> simp [h] <;> omega
      rw [this]
      split <;> simp
    · rw [List.countP_append, List.countP_cons, List.countP_nil]
      by_cases h : e.kind = 1 <;> simp [h]
  unfold put1
  split
  · split <;> omega
  · rw [ins_things]; omega
theorem arrive1_sane {c : Config} {r : Int} {l : List Entity} {m : Cross} (h : Sane c r l) (hm : m.right c = true) (ht : m.to = r) : Sane c r (arrive1 l m) := by
  unfold arrive1
  split
  · rename_i hk
    have hp := @put1_things l m.ent
    have ht2 := h.things
    simp only [Cross.right, hk.1, if_true, Bool.and_eq_true, decide_eq_true_eq] at hm
    refine ⟨put1_sorted h.srt, by split at hp <;> omega, fun e he => ?_⟩
    rcases put1_mem_iff he with rfl | he
    · exact ⟨hm.2.1.1.1.1, by omega⟩
    · exact h.ents e he
  · exact h
theorem arrive_sane {c : Config} {r : Int} {inbox : List Cross} : ∀ {l : List Entity}, Sane c r l → (∀ m ∈ inbox, m.right c = true ∧ m.to = r) → Sane c r (arriveL l inbox) := by
  induction inbox with
  | nil => intro l h _; exact h
  | cons m inbox ih =>
    intro l h hm
    have h1 := hm m (List.mem_cons_self ..)
    exact ih (arrive1_sane h h1.1 h1.2) fun x hx => hm x (List.mem_cons_of_mem _ hx)
theorem Fine.sane {c : Config} {r : Int} {s : Region} {ins : List Input} {inbox : List Cross} (h : Fine c r s ins inbox) : Sane c r (arriveL s.ents inbox) :=
  arrive_sane ⟨h.srt, h.things, h.ents⟩ fun m hm => ⟨(h.box m hm).1, (h.box m hm).2.1⟩
theorem Sane.len {c : Config} {r : Int} {l : List Entity} (h : Sane c r l) (hc : c.right = true) : l.length ≤ 30 := by
  have h1 := len_le (n := c.players) h.srt (fun x hx hk => Entity.right_player (h.ents x hx).1 hk) (by have := Config.right_iff.1 hc; omega)
  have h2 := h.things
  have h3 := Config.right_iff.1 hc
  omega
end Go.Eva

/- Eva, part 62: what stays so where players steer; in plain words. -/
namespace Go.Eva

theorem uniq_id {l : List Entity} (h : Srt l) : ∀ {x y : Entity}, x ∈ l → y ∈ l → x.id = y.id → x = y := by
  induction l with
  | nil => intro x y hx; simp at hx
  | cons a l ih =>
    intro x y hx hy e
    obtain ⟨h1, h2⟩ := List.pairwise_cons.1 h
    rcases List.mem_cons.1 hx with kx | kx <;> rcases List.mem_cons.1 hy with ky | ky
    · rw [kx, ky]
    · have := h1 y ky; rw [kx] at e; omega
    · have := h1 x kx; rw [ky] at e; omega
    · exact ih h2 kx ky e
theorem find_of {l : List Entity} {p : Entity} (hs : Srt l) (h : p ∈ l) : ∃ k : Nat, find l p.id = k ∧ k < l.length ∧ gt l k = p := by
  obtain ⟨k, h1, h2, h3⟩ := find_lt (l := l) (id := p.id) ⟨p, h, rfl⟩
  exact ⟨k, h1, h2, uniq_id hs (gt_mem h2) h h3⟩
theorem setId_srt {l : List Entity} {p e : Entity} (hs : Srt l) (h : p ∈ l) (he : e.id = p.id) : Srt (setId l p.id e) := by
  rw [← he]
  exact srt_ids (setId_ids ⟨p, h, he.symm⟩).symm hs
theorem setId_things {l : List Entity} {p e : Entity} (hs : Srt l) (h : p ∈ l) (hk : e.kind = p.kind) : things (setId l p.id e) = things l := by
  obtain ⟨k, h1, h2, h3⟩ := find_of hs h
  unfold setId things
  rw [h1, Int.toNat_natCast, List.countP_set h2, hk]
  rw [gt_eq h2] at h3
  rw [h3]
  have : (if (p.kind != 1) = true then 1 else 0) ≤ l.countP fun e => e.kind != 1 := by
    split
    · rename_i hp
      exact List.countP_pos_iff.2 ⟨p, h, hp⟩
    · omega
  omega
theorem setId_keep {l : List Entity} {p e x : Entity} (hs : Srt l) (h : p ∈ l) (hx : x ∈ l) (hne : x.id ≠ p.id) : x ∈ setId l p.id e := by
  obtain ⟨k, h1, h2, h3⟩ := find_of hs h
  obtain ⟨j, j1, j2, j3⟩ := find_of hs hx
  unfold setId
  rw [h1, Int.toNat_natCast]
  have hjk : j ≠ k := fun e => hne (by rw [← j3, ← h3, e])
  rw [List.mem_iff_getElem?]
  refine ⟨j, ?_⟩
  rw [List.getElem?_set_ne (by omega), get_gt j2, j3]
theorem steerE_id {p : Entity} {i : Input} : (steerE p i).1.id = p.id ∧ (steerE p i).1.kind = p.kind ∧ (steerE p i).1.x = p.x ∧ (steerE p i).1.y = p.y ∧ (steerE p i).1.health = p.health := by
  unfold steerE
  split
  · simp
  · split <;> simp
theorem maxI_le {a b : Int} : a ≤ maxI a b ∧ b ≤ maxI a b ∧ (maxI a b = a ∨ maxI a b = b) := by unfold maxI; split <;> omega
theorem steerE_right {c : Config} {p : Entity} {i : Input} (h : p.right c = true) (hk : p.kind = 1) (hi : i.right = true) : (steerE p i).1.right c = true ∧ ({ (steerE p i).1 with age := 0 } : Entity).right c = true := by
  simp only [Input.right, Bool.and_eq_true, within_iff] at hi
  simp only [Entity.right, hk, if_true, Bool.and_eq_true, within_iff, decide_eq_true_eq] at h
  have hm := @maxI_le p.age 1
  unfold steerE
  split
  · simp only [Entity.right, hk, if_true, Bool.and_eq_true, within_iff, decide_eq_true_eq]
    refine ⟨⟨h.1, ?_⟩, ⟨h.1, ?_⟩⟩ <;> omega
  · split
    · simp only [Entity.right, hk, if_true, Bool.and_eq_true, within_iff, decide_eq_true_eq]
      refine ⟨⟨h.1, ?_⟩, ⟨h.1, ?_⟩⟩ <;> omega
    · simp only [Entity.right, hk, if_true, Bool.and_eq_true, within_iff, decide_eq_true_eq]
      refine ⟨⟨h.1, ?_⟩, ⟨h.1, ?_⟩⟩ <;> omega
theorem clamp_one (d : Int) : clamp d (-1) 1 = -1 ∨ clamp d (-1) 1 = 0 ∨ clamp d (-1) 1 = 1 := by unfold clamp; split <;> (try split) <;> omega
theorem shootE_right {c : Config} {p : Entity} {i : Input} {id : Int} (h : p.right c = true) (hk : p.kind = 1) (hid : 1000 ≤ id ∧ id ≤ 2147483647) : (shootE p i id).right c = true := by
  have hp := Entity.right_player h hk
  simp only [Entity.right, Bool.and_eq_true] at h
  have h1 := clamp_one i.dx
  have h2 := clamp_one i.dy
  have hh : within id 1000 2147483647 = true := within_iff.2 hid
  have ho : within p.id 1 c.players = true := within_iff.2 hp
  have h0 : within 0 0 12 = true := by decide
  unfold shootE paceD
  simp only [Entity.right, h.1, hh, ho, h0, pace]
  rcases h1 with h1 | h1 | h1 <;> rcases h2 with h2 | h2 | h2 <;> simp [h1, h2]

/-- What holds while players steer. -/
structure Steer (c : Config) (r : Int) (s : Stg) : Prop where
  sane : Sane c r s.l
  made : 0 ≤ s.made ∧ s.made ≤ 8
theorem num_le {c : Config} {r f made : Int} (hr : 0 ≤ r ∧ r < c.regions) (hf : 0 ≤ f ∧ f < 10000) (hm : 0 ≤ made ∧ made ≤ 8) : 1000 ≤ numI c r f made ∧ numI c r f made ≤ 2147483647 := by
  have h := @Config.regions_le c
  have h1 : 0 ≤ f * c.regions := Int.mul_nonneg hf.1 h.1
  have h2 : f * c.regions ≤ 10000 * 16 := Int.mul_le_mul (by omega) h.2 h.1 (by omega)
  unfold numI
  omega
theorem Config.is_le {c : Config} {r : Int} (h : c.is r = true) : 0 ≤ r ∧ r < c.regions := by
  simp only [Config.is, within_iff] at h; omega
theorem Stg.room_iff {s : Stg} : s.room = true ↔ s.made < 8 ∧ things s.l < 24 := by simp [Stg.room]
theorem steer1_ok {c : Config} {r f : Int} {ins : List Input} {s : Stg} {p : Entity} (hs : Steer c r s) (hr : c.is r = true) (hf : 0 ≤ f ∧ f < 10000) (hp : p ∈ s.l) (hi : p.kind = 1 → (inAt ins p.id).right = true) :
    Steer c r (steer1 c r f ins s p) ∧ (∀ x ∈ s.l, x.id ≠ p.id → x ∈ (steer1 c r f ins s p).l) ∧ (steer1 c r f ins s p).out = s.out := by
  unfold steer1
  split
  · exact ⟨hs, fun x hx _ => hx, rfl⟩
  · rename_i hk
    have hk : p.kind = 1 := by omega
    obtain ⟨hpr, hpo⟩ := hs.sane.ents p hp
    have hi := hi hk
    obtain ⟨e1, e2⟩ := steerE_right hpr hk hi
    obtain ⟨i1, i2, i3, i4, i5⟩ := @steerE_id p (inAt ins p.id)
    split
    · split
      · rename_i hroom
        have hroom := Stg.room_iff.1 hroom
        have hn := num_le (made := s.made) (Config.is_le hr) hf hs.made
        have hsh := shootE_right (i := inAt ins p.id) e1 (by omega) hn
        have hs1 : Srt (put1 s.l (shootE (steerE p (inAt ins p.id)).1 (inAt ins p.id) (numI c r f s.made))) := put1_sorted hs.sane.srt
        have hp1 : p ∈ put1 s.l (shootE (steerE p (inAt ins p.id)).1 (inAt ins p.id) (numI c r f s.made)) := put1_sub p hp
        have ht := @put1_things s.l (shootE (steerE p (inAt ins p.id)).1 (inAt ins p.id) (numI c r f s.made))
        refine ⟨⟨⟨setId_srt hs1 hp1 i1, ?_, fun e he => ?_⟩, by have := hs.made; simp only; omega⟩, fun x hx hne => setId_keep hs1 hp1 (put1_sub x hx) hne, rfl⟩
        · simp only
          rw [setId_things hs1 hp1 i2]
          have := hs.sane.things
          split at ht <;> omega
        · rcases setId_mem he with rfl | he
          · exact ⟨e1, by rw [i3, i4]; exact hpo⟩
          · rcases put1_mem_iff he with rfl | he
            · refine ⟨hsh, ?_⟩
              show c.of (steerE p (inAt ins p.id)).1.x (steerE p (inAt ins p.id)).1.y = r
              rw [i3, i4]; exact hpo
            · exact hs.sane.ents e he
      · refine ⟨⟨⟨setId_srt hs.sane.srt hp i1, ?_, fun e he => ?_⟩, hs.made⟩, fun x hx hne => setId_keep hs.sane.srt hp hx hne, rfl⟩
        · simp only
          rw [setId_things hs.sane.srt hp (by exact i2)]
          exact hs.sane.things
        · rcases setId_mem he with rfl | he
          · refine ⟨e2, ?_⟩
            show c.of (steerE p (inAt ins p.id)).1.x (steerE p (inAt ins p.id)).1.y = r
            rw [i3, i4]; exact hpo
          · exact hs.sane.ents e he
    · refine ⟨⟨⟨setId_srt hs.sane.srt hp i1, ?_, fun e he => ?_⟩, hs.made⟩, fun x hx hne => setId_keep hs.sane.srt hp hx hne, rfl⟩
      · simp only
        rw [setId_things hs.sane.srt hp i2]
        exact hs.sane.things
      · rcases setId_mem he with rfl | he
        · exact ⟨e1, by rw [i3, i4]; exact hpo⟩
        · exact hs.sane.ents e he
theorem steer_fold {c : Config} {r f : Int} {ins : List Input} (hr : c.is r = true) (hf : 0 ≤ f ∧ f < 10000) (hins : (ins.length : Int) = c.players) (hi : ∀ i ∈ ins, i.right = true) : ∀ {R : List Entity} {s : Stg}, Steer c r s → Srt R → (∀ p ∈ R, p ∈ s.l) →
    Steer c r (R.foldl (steer1 c r f ins) s) ∧ (R.foldl (steer1 c r f ins) s).out = s.out := by
  intro R
  induction R with
  | nil => intro s h _ _; exact ⟨h, rfl⟩
  | cons p R ih =>
    intro s h hR hm
    have hp := hm p (List.mem_cons_self ..)
    obtain ⟨h1, h2, h3⟩ := steer1_ok (f := f) (ins := ins) h hr hf hp fun hk => by
      have := Entity.right_player (h.sane.ents p hp).1 hk
      unfold inAt
      exact hi _ (gt_mem (by omega))
    obtain ⟨hR1, hR2⟩ := List.pairwise_cons.1 hR
    have := ih h1 hR2 fun q hq => h2 q (hm q (List.mem_cons_of_mem _ hq)) (by have := hR1 q hq; omega)
    exact ⟨this.1, by rw [List.foldl_cons, this.2, h3]⟩
theorem steer_ok {c : Config} {r : Int} {s : Region} {ins : List Input} {inbox : List Cross} (h : Fine c r s ins inbox) :
    Steer c r (steerS c r s.frame ins ⟨arriveL s.ents inbox, 0, []⟩) ∧ (steerS c r s.frame ins ⟨arriveL s.ents inbox, 0, []⟩).out = [] :=
  steer_fold (ins := ins) h.is h.frame h.len h.ins ⟨h.sane, by simp⟩ h.sane.srt fun p hp => hp
end Go.Eva

/- Chance, numbers that are held, how things move. -/
namespace Go.Eva.S3
theorem f_chance_Mix (x : Int) : Fn cx 185 [.int .u64 x] (.int .u64 (mix x)) := by
  refine Wp.ev ?_
  refine gg [.w ((0 : Int) ≤ (33 : Int)), .s (T.int IntKind.u64 (Int.fdiv x 8589934592)), .i IntKind.u64 ((↑(BitVec.toNat (BitVec.ofInt 64 x ^^^ BitVec.ofInt 64 (Int.fdiv x 8589934592))) : Int)) (IntKind.wrap IntKind.u64 (↑(BitVec.toNat (BitVec.ofInt 64 x ^^^ BitVec.ofInt 64 (Int.fdiv x 8589934592))) : Int)), .i IntKind.u64 (IntKind.wrap IntKind.u64 (↑(BitVec.toNat (BitVec.ofInt 64 x ^^^ BitVec.ofInt 64 (Int.fdiv x 8589934592))) : Int) * 18397679294719823053) (IntKind.wrap IntKind.u64 (IntKind.wrap IntKind.u64 (↑(BitVec.toNat (BitVec.ofInt 64 x ^^^ BitVec.ofInt 64 (Int.fdiv x 8589934592))) : Int) * 18397679294719823053)), .w ((0 : Int) ≤ (33 : Int)), .s (T.int IntKind.u64 (Int.fdiv (IntKind.wrap IntKind.u64 (IntKind.wrap IntKind.u64 (↑(BitVec.toNat (BitVec.ofInt 64 x ^^^ BitVec.ofInt 64 (Int.fdiv x 8589934592))) : Int) * 18397679294719823053)) 8589934592)), .i IntKind.u64 ((↑(BitVec.toNat (BitVec.ofInt 64 (IntKind.wrap IntKind.u64 (IntKind.wrap IntKind.u64 (↑(BitVec.toNat (BitVec.ofInt 64 x ^^^ BitVec.ofInt 64 (Int.fdiv x 8589934592))) : Int) * 18397679294719823053)) ^^^ BitVec.ofInt 64 (Int.fdiv (IntKind.wrap IntKind.u64 (IntKind.wrap IntKind.u64 (↑(BitVec.toNat (BitVec.ofInt 64 x ^^^ BitVec.ofInt 64 (Int.fdiv x 8589934592))) : Int) * 18397679294719823053)) 8589934592))) : Int)) (IntKind.wrap IntKind.u64 (↑(BitVec.toNat (BitVec.ofInt 64 (IntKind.wrap IntKind.u64 (IntKind.wrap IntKind.u64 (↑(BitVec.toNat (BitVec.ofInt 64 x ^^^ BitVec.ofInt 64 (Int.fdiv x 8589934592))) : Int) * 18397679294719823053)) ^^^ BitVec.ofInt 64 (Int.fdiv (IntKind.wrap IntKind.u64 (IntKind.wrap IntKind.u64 (↑(BitVec.toNat (BitVec.ofInt 64 x ^^^ BitVec.ofInt 64 (Int.fdiv x 8589934592))) : Int) * 18397679294719823053)) 8589934592))) : Int)), .i IntKind.u64 (IntKind.wrap IntKind.u64 (↑(BitVec.toNat (BitVec.ofInt 64 (IntKind.wrap IntKind.u64 (IntKind.wrap IntKind.u64 (↑(BitVec.toNat (BitVec.ofInt 64 x ^^^ BitVec.ofInt 64 (Int.fdiv x 8589934592))) : Int) * 18397679294719823053)) ^^^ BitVec.ofInt 64 (Int.fdiv (IntKind.wrap IntKind.u64 (IntKind.wrap IntKind.u64 (↑(BitVec.toNat (BitVec.ofInt 64 x ^^^ BitVec.ofInt 64 (Int.fdiv x 8589934592))) : Int) * 18397679294719823053)) 8589934592))) : Int) * 14181476777654086739) (IntKind.wrap IntKind.u64 (IntKind.wrap IntKind.u64 (↑(BitVec.toNat (BitVec.ofInt 64 (IntKind.wrap IntKind.u64 (IntKind.wrap IntKind.u64 (↑(BitVec.toNat (BitVec.ofInt 64 x ^^^ BitVec.ofInt 64 (Int.fdiv x 8589934592))) : Int) * 18397679294719823053)) ^^^ BitVec.ofInt 64 (Int.fdiv (IntKind.wrap IntKind.u64 (IntKind.wrap IntKind.u64 (↑(BitVec.toNat (BitVec.ofInt 64 x ^^^ BitVec.ofInt 64 (Int.fdiv x 8589934592))) : Int) * 18397679294719823053)) 8589934592))) : Int) * 14181476777654086739)), .w ((0 : Int) ≤ (33 : Int)), .s (T.int IntKind.u64 (Int.fdiv (IntKind.wrap IntKind.u64 (IntKind.wrap IntKind.u64 (↑(BitVec.toNat (BitVec.ofInt 64 (IntKind.wrap IntKind.u64 (IntKind.wrap IntKind.u64 (↑(BitVec.toNat (BitVec.ofInt 64 x ^^^ BitVec.ofInt 64 (Int.fdiv x 8589934592))) : Int) * 18397679294719823053)) ^^^ BitVec.ofInt 64 (Int.fdiv (IntKind.wrap IntKind.u64 (IntKind.wrap IntKind.u64 (↑(BitVec.toNat (BitVec.ofInt 64 x ^^^ BitVec.ofInt 64 (Int.fdiv x 8589934592))) : Int) * 18397679294719823053)) 8589934592))) : Int) * 14181476777654086739)) 8589934592))] ⟨oW, o_i rfl, o_i rfl, oW, o_i rfl, o_i rfl, oW, trivial⟩ ?_
  refine gg [.i IntKind.u64 ((↑(BitVec.toNat (BitVec.ofInt 64 (IntKind.wrap IntKind.u64 (IntKind.wrap IntKind.u64 (↑(BitVec.toNat (BitVec.ofInt 64 (IntKind.wrap IntKind.u64 (IntKind.wrap IntKind.u64 (↑(BitVec.toNat (BitVec.ofInt 64 x ^^^ BitVec.ofInt 64 (Int.fdiv x 8589934592))) : Int) * 18397679294719823053)) ^^^ BitVec.ofInt 64 (Int.fdiv (IntKind.wrap IntKind.u64 (IntKind.wrap IntKind.u64 (↑(BitVec.toNat (BitVec.ofInt 64 x ^^^ BitVec.ofInt 64 (Int.fdiv x 8589934592))) : Int) * 18397679294719823053)) 8589934592))) : Int) * 14181476777654086739)) ^^^ BitVec.ofInt 64 (Int.fdiv (IntKind.wrap IntKind.u64 (IntKind.wrap IntKind.u64 (↑(BitVec.toNat (BitVec.ofInt 64 (IntKind.wrap IntKind.u64 (IntKind.wrap IntKind.u64 (↑(BitVec.toNat (BitVec.ofInt 64 x ^^^ BitVec.ofInt 64 (Int.fdiv x 8589934592))) : Int) * 18397679294719823053)) ^^^ BitVec.ofInt 64 (Int.fdiv (IntKind.wrap IntKind.u64 (IntKind.wrap IntKind.u64 (↑(BitVec.toNat (BitVec.ofInt 64 x ^^^ BitVec.ofInt 64 (Int.fdiv x 8589934592))) : Int) * 18397679294719823053)) 8589934592))) : Int) * 14181476777654086739)) 8589934592))) : Int)) (IntKind.wrap IntKind.u64 (↑(BitVec.toNat (BitVec.ofInt 64 (IntKind.wrap IntKind.u64 (IntKind.wrap IntKind.u64 (↑(BitVec.toNat (BitVec.ofInt 64 (IntKind.wrap IntKind.u64 (IntKind.wrap IntKind.u64 (↑(BitVec.toNat (BitVec.ofInt 64 x ^^^ BitVec.ofInt 64 (Int.fdiv x 8589934592))) : Int) * 18397679294719823053)) ^^^ BitVec.ofInt 64 (Int.fdiv (IntKind.wrap IntKind.u64 (IntKind.wrap IntKind.u64 (↑(BitVec.toNat (BitVec.ofInt 64 x ^^^ BitVec.ofInt 64 (Int.fdiv x 8589934592))) : Int) * 18397679294719823053)) 8589934592))) : Int) * 14181476777654086739)) ^^^ BitVec.ofInt 64 (Int.fdiv (IntKind.wrap IntKind.u64 (IntKind.wrap IntKind.u64 (↑(BitVec.toNat (BitVec.ofInt 64 (IntKind.wrap IntKind.u64 (IntKind.wrap IntKind.u64 (↑(BitVec.toNat (BitVec.ofInt 64 x ^^^ BitVec.ofInt 64 (Int.fdiv x 8589934592))) : Int) * 18397679294719823053)) ^^^ BitVec.ofInt 64 (Int.fdiv (IntKind.wrap IntKind.u64 (IntKind.wrap IntKind.u64 (↑(BitVec.toNat (BitVec.ofInt 64 x ^^^ BitVec.ofInt 64 (Int.fdiv x 8589934592))) : Int) * 18397679294719823053)) 8589934592))) : Int) * 14181476777654086739)) 8589934592))) : Int))] ⟨o_i rfl, trivial⟩ ?_
  exact ge
theorem f_chance_At_loop (l : List Int) (hn : small l) : ∀ (d i : Nat) (h : Int), i + d = l.length →
    Is cx (.loop 170 [0, 1, 0, 1, 1] 0 [.t (.int .u64 h), .t (.sl 1 (l.map ti)), vi l.length, vi i] [])
      ⟨.exit 0, [.t (.int .u64 ((l.drop i).foldl atStep h)), .t (.sl 1 (l.map ti)), vi l.length, vi l.length], []⟩ := by
  unfold small at hn
  intro d
  induction d with
  | zero =>
    intro i h hi
    rw [drop_end (by omega)]
    refine Wp.ev ?_
    refine gg [.b (decide ((↑i : Int) < (↑(List.length l) : Int))) false] ⟨fP, trivial⟩ ?_
    refine rt (a := Res.mk (Ex.exit 0) [V.t (T.int IntKind.u64 h), V.t (T.sl 1 (List.map ti l)), vi (↑(List.length l) : Int), vi (↑i : Int)] []) (by kernel_rfl) ?_
    ((have hq : i = l.length := by omega); subst hq; rfl)
  | succ d ih =>
    intro i h hi
    have hlt : i < l.length := by omega
    have ih1 := ih (i + 1) (atStep h (gt l i)) (by omega)
    clear ih
    rw [drop_gt hlt, List.foldl_cons]
    unfold atStep at ih1 ⊢
    refine Wp.ev ?_
    refine gg [.b (decide ((↑i : Int) < (↑(List.length l) : Int))) true, .w ((0 : Int) ≤ (↑i : Int)), .n (Int.toNat (↑i : Int)) i, .g (List.map ti l) i (ti (gt l i)), .i IntKind.u64 (gt l i) (IntKind.wrap IntKind.u64 (gt l i)), .i IntKind.u64 (h + IntKind.wrap IntKind.u64 (gt l i)) (IntKind.wrap IntKind.u64 (h + IntKind.wrap IntKind.u64 (gt l i))), .i IntKind.u64 (IntKind.wrap IntKind.u64 (h + IntKind.wrap IntKind.u64 (gt l i)) + 11400714819323198485) (IntKind.wrap IntKind.u64 (IntKind.wrap IntKind.u64 (h + IntKind.wrap IntKind.u64 (gt l i)) + 11400714819323198485)), .a _ _, .i IntKind.i64 ((↑i : Int) + 1) ((↑(i + 1) : Int)), .a _ _] ⟨tP, oW, o_n (by kernel_rfl), o_gt rfl (by assumption) (by intro h; cases h), o_i rfl, o_i rfl, o_i rfl, o_a (f_chance_Mix (IntKind.wrap IntKind.u64 (IntKind.wrap IntKind.u64 (h + IntKind.wrap IntKind.u64 (gt l i)) + 11400714819323198485))), oI, o_a ih1, trivial⟩ ?_
    exact ge
theorem f_chance_At (seed : Int) (l : List Int) (hn : small l) : Fn cx 170 [.int .u64 seed, .sl 1 (l.map ti)] (.int .u64 (chanceAt seed l)) := by
  have h := f_chance_At_loop l hn l.length 0 (mix seed) (by omega)
  rw [List.drop_zero] at h
  refine Wp.ev ?_
  refine gg [.a _ _, .n (List.length (List.map ti l)) (List.length l), .a _ _] ⟨o_a (f_chance_Mix seed), o_n (by simp), o_a h, trivial⟩ ?_
  exact ge
theorem f_chance_Below (n seed : Int) (l : List Int) (hn : n ≤ 1000000) (hl : small l) : Fn cx 126 [ti n, .int .u64 seed, .sl 1 (l.map ti)] (ti (below n seed l)) := by
  by_cases h : n < 1
  · have e : below n seed l = 0 := by simp [below, h]
    rw [e]
    refine Wp.ev ?_
    refine gg [.b (decide (n < 1)) true] ⟨t_brp (by assumption), trivial⟩ ?_
    exact ge
  · have e : below n seed l = (chanceAt seed l).tmod n := by simp [below, h]
    have hle := @below_le n seed l (by omega)
    rw [e] at hle ⊢
    refine Wp.ev ?_
    refine gg [.b (decide (n < 1)) false, .a _ _, .i IntKind.u64 n n, .w (n ≠ (0 : Int)), .s (T.int IntKind.u64 (Int.tmod (chanceAt seed l) n)), .i IntKind.i64 (Int.tmod (chanceAt seed l) n) (Int.tmod (chanceAt seed l) n)] ⟨f_brp (by assumption), o_a (f_chance_At seed l (by assumption)), oU, oW, oI, trivial⟩ ?_
    exact ge
theorem f_fixed_Held (v : Int) : Fn cx 168 [ti v] (ti (held v)) := by
  refine Wp.ev ?_
  refine gg [.a _ _] ⟨o_a (f_fixed_Clamp v (-2147483647) 2147483647), trivial⟩ ?_
  exact ge
theorem f_fixed_Sub (a b : Int) : Fn cx 116 [ti a, ti b] (ti (subH a b)) := by
  have h1 := @held_le a
  have h2 := @held_le b
  refine Wp.ev ?_
  refine gg [.a _ _, .a _ _, .i IntKind.i64 (held a - held b) (held a - held b), .a _ _] ⟨o_a (f_fixed_Held a), o_a (f_fixed_Held b), oI, o_a (f_fixed_Held (held a - held b)), trivial⟩ ?_
  exact ge
theorem f_fixed_size (v : Int) (h : -2147483647 ≤ v ∧ v ≤ 2147483647) : Fn cx 184 [ti v] (ti (sizeI v)) := by
  refine Wp.ev ?_
  refine gg [.i IntKind.i64 (0 - v) (0 - v), .s (ti (maxI v (0 - v)))] ⟨oI, trivial⟩ ?_
  exact ge
theorem f_fixed_Far (ax ay bx y : Int) : Fn cx 167 [ti ax, ti ay, ti bx, ti y] (ti (farI ax ay bx y)) := by
  have h1 : -2147483647 ≤ subH ax bx ∧ subH ax bx ≤ 2147483647 := held_le
  have h2 : -2147483647 ≤ subH ay y ∧ subH ay y ≤ 2147483647 := held_le
  refine Wp.ev ?_
  refine gg [.a _ _, .a _ _, .a _ _, .a _ _, .s (ti (maxI (sizeI (subH ax bx)) (sizeI (subH ay y))))] ⟨o_a (f_fixed_Sub ax bx), o_a (f_fixed_size (subH ax bx) ⟨(by omega), (by omega)⟩), o_a (f_fixed_Sub ay y), o_a (f_fixed_size (subH ay y) ⟨(by omega), (by omega)⟩), trivial⟩ ?_
  exact ge
theorem f_fixed_Add_loop (l : List Int) (hn : small l) : ∀ (d i : Nat) (s : Int), i + d = l.length → -2147483647 ≤ s ∧ s ≤ 2147483647 →
    Is cx (.loop 120 [0, 1, 0, 1, 1] 0 [vi s, .t (.sl 1 (l.map ti)), vi l.length, vi i] [])
      ⟨.exit 0, [vi ((l.drop i).foldl sumStep s), .t (.sl 1 (l.map ti)), vi l.length, vi l.length], []⟩ := by
  unfold small at hn
  intro d
  induction d with
  | zero =>
    intro i s hi hs
    rw [drop_end (by omega)]
    refine Wp.ev ?_
    refine gg [.b (decide ((↑i : Int) < (↑(List.length l) : Int))) false] ⟨fP, trivial⟩ ?_
    refine rt (a := Res.mk (Ex.exit 0) [vi s, V.t (T.sl 1 (List.map ti l)), vi (↑(List.length l) : Int), vi (↑i : Int)] []) (by kernel_rfl) ?_
    ((have hq : i = l.length := by omega); subst hq; rfl)
  | succ d ih =>
    intro i s hi hs
    have hlt : i < l.length := by omega
    have ih1 := ih (i + 1) (sumStep s (gt l i)) (by omega) held_le
    clear ih
    rw [drop_gt hlt, List.foldl_cons]
    unfold sumStep at ih1 ⊢
    have h2 := @held_le (gt l i)
    refine Wp.ev ?_
    refine gg [.b (decide ((↑i : Int) < (↑(List.length l) : Int))) true, .w ((0 : Int) ≤ (↑i : Int)), .n (Int.toNat (↑i : Int)) i, .g (List.map ti l) i (ti (gt l i)), .a _ _, .i IntKind.i64 (s + held (gt l i)) (s + held (gt l i)), .a _ _, .i IntKind.i64 ((↑i : Int) + 1) ((↑(i + 1) : Int)), .a _ _] ⟨tP, oW, o_n (by kernel_rfl), o_gt rfl (by assumption) (by intro h; cases h), o_a (f_fixed_Held (gt l i)), oI, o_a (f_fixed_Held (s + held (gt l i))), oI, o_a ih1, trivial⟩ ?_
    exact ge
theorem f_fixed_Add (l : List Int) (hn : small l) : Fn cx 120 [.sl 1 (l.map ti)] (ti (sumH l)) := by
  have h := f_fixed_Add_loop l hn l.length 0 0 (by omega) (by omega)
  rw [List.drop_zero] at h
  refine Wp.ev ?_
  refine gg [.n (List.length (List.map ti l)) (List.length l), .a _ _] ⟨o_n (by simp), o_a h, trivial⟩ ?_
  exact ge
theorem f_input_Right (i : Input) : Fn cx 104 [i.enc] (.bool i.right) := by
  refine Wp.ev ?_
  refine brp (p := i.dx ≥ -2) (by kernel_rfl) (fun h1 => ?_) (fun h1 => ?_)
  · refine gg [.tt, .tt, .tt] trivial ?_
    refine brp (p := i.dx ≤ 2) (by kernel_rfl) (fun h2 => ?_) (fun h2 => ?_)
    · refine gg [.tt, .tt, .tt] trivial ?_
      refine brp (p := i.dy ≥ -2) (by kernel_rfl) (fun h3 => ?_) (fun h3 => ?_)
      · refine gg [.tt, .tt, .tt] trivial ?_
        refine rt (a := Res.mk Ex.ret [vb (decide (i.dy ≤ 2))] []) (by kernel_rfl) ?_
        (simp_all [Input.right, within]; (try (rw [Bool.eq_iff_iff]; simp only [decide_eq_true_eq, Bool.and_eq_true]; omega)); (try (intros; omega)))
      · refine gg [.ff, .ff, .ff] trivial ?_
        refine rt (a := Res.mk Ex.ret [vb false] []) (by kernel_rfl) ?_
        (simp_all [Input.right, within]; (try (rw [Bool.eq_iff_iff]; simp only [decide_eq_true_eq, Bool.and_eq_true]; omega)); (try (intros; omega)))
    · refine gg [.ff, .ff, .ff, .ff, .ff, .ff, .ff] trivial ?_
      refine rt (a := Res.mk Ex.ret [vb false] []) (by kernel_rfl) ?_
      (simp_all [Input.right, within]; (try (rw [Bool.eq_iff_iff]; simp only [decide_eq_true_eq, Bool.and_eq_true]; omega)); (try (intros; omega)))
  · refine gg [.ff, .ff, .ff, .ff, .ff, .ff, .ff, .ff, .ff, .ff, .ff] trivial ?_
    refine rt (a := Res.mk Ex.ret [vb false] []) (by kernel_rfl) ?_
    (simp_all [Input.right, within]; (try (rw [Bool.eq_iff_iff]; simp only [decide_eq_true_eq, Bool.and_eq_true]; omega)); (try (intros; omega)))
theorem f_joustref05_Input (i : Input) : Fn cx 101 [i.enc] (.bool i.right) := by
  refine Wp.ev ?_
  refine brp (p := i.dx ≥ -2) (by kernel_rfl) (fun h1 => ?_) (fun h1 => ?_)
  · refine gg [.tt, .tt, .tt] trivial ?_
    refine brp (p := i.dx ≤ 2) (by kernel_rfl) (fun h2 => ?_) (fun h2 => ?_)
    · refine gg [.tt, .tt, .tt] trivial ?_
      refine brp (p := i.dy ≥ -2) (by kernel_rfl) (fun h3 => ?_) (fun h3 => ?_)
      · refine gg [.tt, .tt, .tt] trivial ?_
        refine rt (a := Res.mk Ex.ret [vb (decide (i.dy ≤ 2))] []) (by kernel_rfl) ?_
        (simp_all [Input.right, within]; (try (rw [Bool.eq_iff_iff]; simp only [decide_eq_true_eq, Bool.and_eq_true]; omega)); (try (intros; omega)))
      · refine gg [.ff, .ff, .ff] trivial ?_
        refine rt (a := Res.mk Ex.ret [vb false] []) (by kernel_rfl) ?_
        (simp_all [Input.right, within]; (try (rw [Bool.eq_iff_iff]; simp only [decide_eq_true_eq, Bool.and_eq_true]; omega)); (try (intros; omega)))
    · refine gg [.ff, .ff, .ff, .ff, .ff, .ff, .ff] trivial ?_
      refine rt (a := Res.mk Ex.ret [vb false] []) (by kernel_rfl) ?_
      (simp_all [Input.right, within]; (try (rw [Bool.eq_iff_iff]; simp only [decide_eq_true_eq, Bool.and_eq_true]; omega)); (try (intros; omega)))
  · refine gg [.ff, .ff, .ff, .ff, .ff, .ff, .ff, .ff, .ff, .ff, .ff] trivial ?_
    refine rt (a := Res.mk Ex.ret [vb false] []) (by kernel_rfl) ?_
    (simp_all [Input.right, within]; (try (rw [Bool.eq_iff_iff]; simp only [decide_eq_true_eq, Bool.and_eq_true]; omega)); (try (intros; omega)))
theorem f_moving_Steer (e : Entity) (i : Input) (he : -1000000 ≤ e.age ∧ e.age ≤ 1000000) : Is cx (.call 109 [.t e.enc, .t i.enc] []) ⟨.ret, [.t (steerE e i).1.enc, vb (steerE e i).2], []⟩ := by
  have hR := f_input_Right i
  have hm := @maxI_le e.age 1
  have hm2 := @maxI_le 1 e.age
  have hmm : maxI 1 e.age = maxI e.age 1 := by unfold maxI; split <;> split <;> omega
  by_cases hk : e.kind = 1
  · cases hr : i.right with
    | true =>
      rw [hr] at hR
      have hi := hr
      simp only [Input.right, Bool.and_eq_true, within_iff] at hi
      cases hf : i.fire with
      | true =>
        by_cases ha : e.age = 0
        · have e1 : steerE e i = ({ e with vx := i.dx * 32, vy := i.dy * 32, age := 6 }, true) := by simp [steerE, hk, hr, hf, ha]
          rw [e1]
          refine Wp.ev ?_
          refine gg [.b (e.kind != 1) false, .ff, .a _ _, .ff, .ff, .b (!true) false, .i IntKind.i64 (i.dx * 32) (i.dx * 32)] ⟨f_brn (by assumption), o_a hR, o_b (by kernel_rfl), oI, trivial⟩ ?_
          refine bo (by kernel_rfl) ?_ ?_
          · refine gg [.i IntKind.i64 (i.dy * 32) (i.dy * 32), .b i.fire true, .tt, .tt, .tt, .b (e.age == 0) true] ⟨oI, tB, t_bre (by assumption), trivial⟩ ?_
            exact ge
          · refine gg [.i IntKind.i64 (i.dy * 32) (i.dy * 32), .b i.fire true, .tt, .tt, .tt, .b (e.age == 0) true] ⟨oI, tB, t_bre (by assumption), trivial⟩ ?_
            exact ge
        · have e1 : steerE e i = ({ e with vx := i.dx * 32, vy := i.dy * 32, age := maxI e.age 1 - 1 }, false) := by simp [steerE, hk, hr, ha]
          rw [e1]
          refine Wp.ev ?_
          refine gg [.b (e.kind != 1) false, .ff, .a _ _, .ff, .ff, .b (!true) false, .i IntKind.i64 (i.dx * 32) (i.dx * 32)] ⟨f_brn (by assumption), o_a hR, o_b (by kernel_rfl), oI, trivial⟩ ?_
          refine bo (by kernel_rfl) ?_ ?_
          · refine gg [.i IntKind.i64 (i.dy * 32) (i.dy * 32), .b i.fire true, .tt, .tt, .tt, .b (e.age == 0) false, .s (ti (maxI e.age 1)), .i IntKind.i64 (maxI e.age 1 - 1) (maxI e.age 1 - 1)] ⟨oI, tB, f_bre (by assumption), oI, trivial⟩ ?_
            refine rt (a := Res.mk Ex.ret [V.t (T.agg [ti e.id, ti e.kind, ti e.x, ti e.y, ti (i.dx * 32), ti (i.dy * 32), ti e.health, ti (maxI e.age 1 - 1), ti e.owner]), vb false] []) (by kernel_rfl) ?_
            (first | rfl | (simp [Entity.enc, hmm]; done))
          · refine gg [.i IntKind.i64 (i.dy * 32) (i.dy * 32), .b i.fire true, .tt, .tt, .tt, .b (e.age == 0) false, .s (ti (maxI e.age 1)), .i IntKind.i64 (maxI e.age 1 - 1) (maxI e.age 1 - 1)] ⟨oI, tB, f_bre (by assumption), oI, trivial⟩ ?_
            refine rt (a := Res.mk Ex.ret [V.t (T.agg [ti e.id, ti e.kind, ti e.x, ti e.y, ti (i.dx * 32), ti (i.dy * 32), ti e.health, ti (maxI e.age 1 - 1), ti e.owner]), vb false] []) (by kernel_rfl) ?_
            (first | rfl | (simp [Entity.enc, hmm]; done))
      | false =>
        have e1 : steerE e i = ({ e with vx := i.dx * 32, vy := i.dy * 32, age := maxI e.age 1 - 1 }, false) := by simp [steerE, hk, hr, hf]
        rw [e1]
        refine Wp.ev ?_
        refine gg [.b (e.kind != 1) false, .ff, .a _ _, .ff, .ff, .b (!true) false, .i IntKind.i64 (i.dx * 32) (i.dx * 32)] ⟨f_brn (by assumption), o_a hR, o_b (by kernel_rfl), oI, trivial⟩ ?_
        refine bo (by kernel_rfl) ?_ ?_
        · refine gg [.i IntKind.i64 (i.dy * 32) (i.dy * 32), .b i.fire false, .ff, .ff, .ff, .ff, .s (ti (maxI e.age 1)), .i IntKind.i64 (maxI e.age 1 - 1) (maxI e.age 1 - 1)] ⟨oI, fB, oI, trivial⟩ ?_
          refine rt (a := Res.mk Ex.ret [V.t (T.agg [ti e.id, ti e.kind, ti e.x, ti e.y, ti (i.dx * 32), ti (i.dy * 32), ti e.health, ti (maxI e.age 1 - 1), ti e.owner]), vb false] []) (by kernel_rfl) ?_
          (first | rfl | (simp [Entity.enc, hmm]; done))
        · refine gg [.i IntKind.i64 (i.dy * 32) (i.dy * 32), .b i.fire false, .ff, .ff, .ff, .ff, .s (ti (maxI e.age 1)), .i IntKind.i64 (maxI e.age 1 - 1) (maxI e.age 1 - 1)] ⟨oI, fB, oI, trivial⟩ ?_
          refine rt (a := Res.mk Ex.ret [V.t (T.agg [ti e.id, ti e.kind, ti e.x, ti e.y, ti (i.dx * 32), ti (i.dy * 32), ti e.health, ti (maxI e.age 1 - 1), ti e.owner]), vb false] []) (by kernel_rfl) ?_
          (first | rfl | (simp [Entity.enc, hmm]; done))
    | false =>
      rw [hr] at hR
      have e1 : steerE e i = (e, false) := by simp [steerE, hr]
      rw [e1]
      refine Wp.ev ?_
      refine gg [.b (e.kind != 1) false, .ff, .a _ _, .ff, .ff, .b (!false) true] ⟨f_brn (by assumption), o_a hR, o_b (by kernel_rfl), trivial⟩ ?_
      exact ge
  · have e1 : steerE e i = (e, false) := by simp [steerE, hk]
    rw [e1]
    refine Wp.ev ?_
    refine gg [.b (e.kind != 1) true, .tt, .tt, .tt, .tt] ⟨t_brn (by assumption), trivial⟩ ?_
    exact ge
theorem f_moving_pace (d : Int) : Fn cx 164 [ti d] (ti (paceD d)) := by
  have h := @clamp_le d (-1) 1 (by decide)
  refine Wp.ev ?_
  refine gg [.a _ _, .i IntKind.i64 (clamp d (-1) 1 * 160) (clamp d (-1) 1 * 160)] ⟨o_a (f_fixed_Clamp d (-1) 1), oI, trivial⟩ ?_
  exact ge
theorem f_moving_Shoot (e : Entity) (i : Input) (id : Int) : Fn cx 111 [e.enc, i.enc, ti id] ((shootE e i id).enc) := by
  refine Wp.ev ?_
  refine bo (by kernel_rfl) ?_ ?_
  · refine gg [.a _ _] ⟨o_a (f_moving_pace i.dx), trivial⟩ ?_
    refine bo (by kernel_rfl) ?_ ?_
    · refine gg [.a _ _] ⟨o_a (f_moving_pace i.dy), trivial⟩ ?_
      refine bre (x := paceD i.dx) (y := 0) (by kernel_rfl) (fun h1 => ?_) (fun h1 => ?_)
      · refine gg [.tt, .tt, .tt] trivial ?_
        refine bre (x := paceD i.dy) (y := 0) (by kernel_rfl) (fun h2 => ?_) (fun h2 => ?_)
        · refine rt (a := Res.mk Ex.ret [V.t (T.agg [ti id, ti 2, ti e.x, ti e.y, ti 160, ti (paceD i.dy), ti 1, ti 0, ti e.id])] []) (by kernel_rfl) ?_
          (unfold shootE; first | (rw [if_pos (by simp_all)]; rfl) | (rw [if_neg (by simp_all)]; rfl))
        · refine rt (a := Res.mk Ex.ret [V.t (T.agg [ti id, ti 2, ti e.x, ti e.y, ti (paceD i.dx), ti (paceD i.dy), ti 1, ti 0, ti e.id])] []) (by kernel_rfl) ?_
          (unfold shootE; first | (rw [if_pos (by simp_all)]; rfl) | (rw [if_neg (by simp_all)]; rfl))
      · refine gg [.ff, .ff, .ff, .ff] trivial ?_
        refine rt (a := Res.mk Ex.ret [V.t (T.agg [ti id, ti 2, ti e.x, ti e.y, ti (paceD i.dx), ti (paceD i.dy), ti 1, ti 0, ti e.id])] []) (by kernel_rfl) ?_
        (unfold shootE; first | (rw [if_pos (by simp_all)]; rfl) | (rw [if_neg (by simp_all)]; rfl))
    · refine gg [.a _ _] ⟨o_a (f_moving_pace i.dy), trivial⟩ ?_
      refine bre (x := paceD i.dx) (y := 0) (by kernel_rfl) (fun h1 => ?_) (fun h1 => ?_)
      · refine gg [.tt, .tt, .tt] trivial ?_
        refine bre (x := paceD i.dy) (y := 0) (by kernel_rfl) (fun h2 => ?_) (fun h2 => ?_)
        · refine rt (a := Res.mk Ex.ret [V.t (T.agg [ti id, ti 2, ti e.x, ti e.y, ti 160, ti (paceD i.dy), ti 1, ti 0, ti e.id])] []) (by kernel_rfl) ?_
          (unfold shootE; first | (rw [if_pos (by simp_all)]; rfl) | (rw [if_neg (by simp_all)]; rfl))
        · refine rt (a := Res.mk Ex.ret [V.t (T.agg [ti id, ti 2, ti e.x, ti e.y, ti (paceD i.dx), ti (paceD i.dy), ti 1, ti 0, ti e.id])] []) (by kernel_rfl) ?_
          (unfold shootE; first | (rw [if_pos (by simp_all)]; rfl) | (rw [if_neg (by simp_all)]; rfl))
      · refine gg [.ff, .ff, .ff, .ff] trivial ?_
        refine rt (a := Res.mk Ex.ret [V.t (T.agg [ti id, ti 2, ti e.x, ti e.y, ti (paceD i.dx), ti (paceD i.dy), ti 1, ti 0, ti e.id])] []) (by kernel_rfl) ?_
        (unfold shootE; first | (rw [if_pos (by simp_all)]; rfl) | (rw [if_neg (by simp_all)]; rfl))
  · refine gg [.a _ _, .a _ _] ⟨o_a (f_moving_pace i.dx), o_a (f_moving_pace i.dy), trivial⟩ ?_
    refine bre (x := paceD i.dx) (y := 0) (by kernel_rfl) (fun h1 => ?_) (fun h1 => ?_)
    · refine gg [.tt, .tt, .tt] trivial ?_
      refine bre (x := paceD i.dy) (y := 0) (by kernel_rfl) (fun h2 => ?_) (fun h2 => ?_)
      · refine rt (a := Res.mk Ex.ret [V.t (T.agg [ti id, ti 2, ti e.x, ti e.y, ti 160, ti (paceD i.dy), ti 1, ti 0, ti e.id])] []) (by kernel_rfl) ?_
        (unfold shootE; first | (rw [if_pos (by simp_all)]; rfl) | (rw [if_neg (by simp_all)]; rfl))
      · refine rt (a := Res.mk Ex.ret [V.t (T.agg [ti id, ti 2, ti e.x, ti e.y, ti (paceD i.dx), ti (paceD i.dy), ti 1, ti 0, ti e.id])] []) (by kernel_rfl) ?_
        (unfold shootE; first | (rw [if_pos (by simp_all)]; rfl) | (rw [if_neg (by simp_all)]; rfl))
    · refine gg [.ff, .ff, .ff, .ff] trivial ?_
      refine rt (a := Res.mk Ex.ret [V.t (T.agg [ti id, ti 2, ti e.x, ti e.y, ti (paceD i.dx), ti (paceD i.dy), ti 1, ti 0, ti e.id])] []) (by kernel_rfl) ?_
      (unfold shootE; first | (rw [if_pos (by simp_all)]; rfl) | (rw [if_neg (by simp_all)]; rfl))
theorem f_moving_sum (l : List Int) (hn : small l) : Fn cx 166 [.sl 1 (l.map ti)] (ti (sumH l)) := by
  refine Wp.ev ?_
  refine gg [.a _ _] ⟨o_a (f_fixed_Add l (by assumption)), trivial⟩ ?_
  exact ge
theorem f_moving_Go (c : Config) (e : Entity) (he : -1000000 ≤ e.age ∧ e.age ≤ 1000000) : Is cx (.call 114 [.t c.enc, .t e.enc] []) ⟨.ret, [.t (goE c e).1.enc, vb (goE c e).2], []⟩ := by
  have hR := f_entity_Right c e
  cases hr : e.right c with
  | false =>
    rw [hr] at hR
    have e1 : goE c e = (Entity.zero, false) := by simp [goE, hr]
    rw [e1]
    refine Wp.ev ?_
    refine gg [.a _ _, .b (!false) true] ⟨o_a hR, o_b (by kernel_rfl), trivial⟩ ?_
    exact ge
  | true =>
    rw [hr] at hR
    have h1 := @Config.width_le c
    have h2 := @Config.height_le c
    have hx := f_moving_sum [e.x, e.vx] (by simp [small])
    have hy := f_moving_sum [e.y, e.vy] (by simp [small])
    have hI := f_grid_Inside c (sumH [e.x, e.vx]) (sumH [e.y, e.vy])
    by_cases hk : e.kind = 2
    · by_cases ha : e.age + 1 > 12
      · have e1 : goE c e = (Entity.zero, false) := by simp [goE, hr, hk, ha]
        rw [e1]
        refine Wp.ev ?_
        refine gg [.a _ _, .b (!true) false] ⟨o_a hR, o_b (by kernel_rfl), trivial⟩ ?_
        refine bo (by kernel_rfl) ?_ ?_
        · refine bo (by kernel_rfl) ?_ ?_
          · refine gg [.a _ _, .a _ _, .b (e.kind == 2) true, .i IntKind.i64 (e.age + 1) (e.age + 1), .b (decide (e.age + 1 > 12)) true, .tt, .tt, .tt, .tt, .tt, .tt] ⟨o_a hx, o_a hy, t_bre (by assumption), oI, t_brp (by assumption), trivial⟩ ?_
            exact ge
          · refine gg [.a _ _, .a _ _, .b (e.kind == 2) true, .i IntKind.i64 (e.age + 1) (e.age + 1), .b (decide (e.age + 1 > 12)) true, .tt, .tt, .tt, .tt, .tt, .tt] ⟨o_a hx, o_a hy, t_bre (by assumption), oI, t_brp (by assumption), trivial⟩ ?_
            exact ge
        · refine gg [.a _ _, .a _ _, .b (e.kind == 2) true, .i IntKind.i64 (e.age + 1) (e.age + 1), .b (decide (e.age + 1 > 12)) true, .tt, .tt, .tt, .tt, .tt, .tt] ⟨o_a hx, o_a hy, t_bre (by assumption), oI, t_brp (by assumption), trivial⟩ ?_
          exact ge
      · cases hi : c.inside (sumH [e.x, e.vx]) (sumH [e.y, e.vy]) with
        | true =>
          rw [hi] at hI
          have e1 : goE c e = ({ e with x := clamp (sumH [e.x, e.vx]) 0 (c.width - 1), y := clamp (sumH [e.y, e.vy]) 0 (c.height - 1), age := e.age + 1 }, true) := by simp [goE, hr, hk, ha, hi]
          rw [e1]
          refine Wp.ev ?_
          refine gg [.a _ _, .b (!true) false] ⟨o_a hR, o_b (by kernel_rfl), trivial⟩ ?_
          refine bo (by kernel_rfl) ?_ ?_
          · refine bo (by kernel_rfl) ?_ ?_
            · refine gg [.a _ _, .a _ _, .b (e.kind == 2) true, .i IntKind.i64 (e.age + 1) (e.age + 1), .b (decide (e.age + 1 > 12)) false, .ff, .ff, .ff, .a _ _, .ff, .ff, .b (!true) false, .a _ _, .i IntKind.i64 (Config.width c - 1) (Config.width c - 1), .a _ _, .a _ _] ⟨o_a hx, o_a hy, t_bre (by assumption), oI, f_brp (by assumption), o_a hI, o_b (by kernel_rfl), o_a (f_grid_Width c), oI, o_a (f_fixed_Clamp (sumH [e.x, e.vx]) 0 (Config.width c - 1)), o_a (f_grid_Height c), trivial⟩ ?_
              refine gg [.i IntKind.i64 (Config.height c - 1) (Config.height c - 1), .a _ _] ⟨oI, o_a (f_fixed_Clamp (sumH [e.y, e.vy]) 0 (Config.height c - 1)), trivial⟩ ?_
              exact ge
            · refine gg [.a _ _, .a _ _, .b (e.kind == 2) true, .i IntKind.i64 (e.age + 1) (e.age + 1), .b (decide (e.age + 1 > 12)) false, .ff, .ff, .ff, .a _ _, .ff, .ff, .b (!true) false, .a _ _, .i IntKind.i64 (Config.width c - 1) (Config.width c - 1), .a _ _, .a _ _] ⟨o_a hx, o_a hy, t_bre (by assumption), oI, f_brp (by assumption), o_a hI, o_b (by kernel_rfl), o_a (f_grid_Width c), oI, o_a (f_fixed_Clamp (sumH [e.x, e.vx]) 0 (Config.width c - 1)), o_a (f_grid_Height c), trivial⟩ ?_
              refine gg [.i IntKind.i64 (Config.height c - 1) (Config.height c - 1), .a _ _] ⟨oI, o_a (f_fixed_Clamp (sumH [e.y, e.vy]) 0 (Config.height c - 1)), trivial⟩ ?_
              exact ge
          · refine gg [.a _ _, .a _ _, .b (e.kind == 2) true, .i IntKind.i64 (e.age + 1) (e.age + 1), .b (decide (e.age + 1 > 12)) false, .ff, .ff, .ff, .a _ _, .ff, .ff, .b (!true) false, .a _ _, .i IntKind.i64 (Config.width c - 1) (Config.width c - 1), .a _ _, .a _ _] ⟨o_a hx, o_a hy, t_bre (by assumption), oI, f_brp (by assumption), o_a hI, o_b (by kernel_rfl), o_a (f_grid_Width c), oI, o_a (f_fixed_Clamp (sumH [e.x, e.vx]) 0 (Config.width c - 1)), o_a (f_grid_Height c), trivial⟩ ?_
            refine gg [.i IntKind.i64 (Config.height c - 1) (Config.height c - 1), .a _ _] ⟨oI, o_a (f_fixed_Clamp (sumH [e.y, e.vy]) 0 (Config.height c - 1)), trivial⟩ ?_
            exact ge
        | false =>
          rw [hi] at hI
          have e1 : goE c e = (Entity.zero, false) := by simp [goE, hr, hk, hi]
          rw [e1]
          refine Wp.ev ?_
          refine gg [.a _ _, .b (!true) false] ⟨o_a hR, o_b (by kernel_rfl), trivial⟩ ?_
          refine bo (by kernel_rfl) ?_ ?_
          · refine bo (by kernel_rfl) ?_ ?_
            · refine gg [.a _ _, .a _ _, .b (e.kind == 2) true, .i IntKind.i64 (e.age + 1) (e.age + 1), .b (decide (e.age + 1 > 12)) false, .ff, .ff, .ff, .a _ _, .ff, .ff, .b (!false) true] ⟨o_a hx, o_a hy, t_bre (by assumption), oI, f_brp (by assumption), o_a hI, o_b (by kernel_rfl), trivial⟩ ?_
              exact ge
            · refine gg [.a _ _, .a _ _, .b (e.kind == 2) true, .i IntKind.i64 (e.age + 1) (e.age + 1), .b (decide (e.age + 1 > 12)) false, .ff, .ff, .ff, .a _ _, .ff, .ff, .b (!false) true] ⟨o_a hx, o_a hy, t_bre (by assumption), oI, f_brp (by assumption), o_a hI, o_b (by kernel_rfl), trivial⟩ ?_
              exact ge
          · refine gg [.a _ _, .a _ _, .b (e.kind == 2) true, .i IntKind.i64 (e.age + 1) (e.age + 1), .b (decide (e.age + 1 > 12)) false, .ff, .ff, .ff, .a _ _, .ff, .ff, .b (!false) true] ⟨o_a hx, o_a hy, t_bre (by assumption), oI, f_brp (by assumption), o_a hI, o_b (by kernel_rfl), trivial⟩ ?_
            exact ge
    · have e1 : goE c e = ({ e with x := clamp (sumH [e.x, e.vx]) 0 (c.width - 1), y := clamp (sumH [e.y, e.vy]) 0 (c.height - 1) }, true) := by simp [goE, hr, hk]
      rw [e1]
      refine Wp.ev ?_
      refine gg [.a _ _, .b (!true) false] ⟨o_a hR, o_b (by kernel_rfl), trivial⟩ ?_
      refine bo (by kernel_rfl) ?_ ?_
      · refine bo (by kernel_rfl) ?_ ?_
        · refine gg [.a _ _, .a _ _, .b (e.kind == 2) false, .a _ _, .i IntKind.i64 (Config.width c - 1) (Config.width c - 1), .a _ _, .a _ _, .i IntKind.i64 (Config.height c - 1) (Config.height c - 1), .a _ _] ⟨o_a hx, o_a hy, f_bre (by assumption), o_a (f_grid_Width c), oI, o_a (f_fixed_Clamp (sumH [e.x, e.vx]) 0 (Config.width c - 1)), o_a (f_grid_Height c), oI, o_a (f_fixed_Clamp (sumH [e.y, e.vy]) 0 (Config.height c - 1)), trivial⟩ ?_
          exact ge
        · refine gg [.a _ _, .a _ _, .b (e.kind == 2) false, .a _ _, .i IntKind.i64 (Config.width c - 1) (Config.width c - 1), .a _ _, .a _ _, .i IntKind.i64 (Config.height c - 1) (Config.height c - 1), .a _ _] ⟨o_a hx, o_a hy, f_bre (by assumption), o_a (f_grid_Width c), oI, o_a (f_fixed_Clamp (sumH [e.x, e.vx]) 0 (Config.width c - 1)), o_a (f_grid_Height c), oI, o_a (f_fixed_Clamp (sumH [e.y, e.vy]) 0 (Config.height c - 1)), trivial⟩ ?_
          exact ge
      · refine gg [.a _ _, .a _ _, .b (e.kind == 2) false, .a _ _, .i IntKind.i64 (Config.width c - 1) (Config.width c - 1), .a _ _, .a _ _, .i IntKind.i64 (Config.height c - 1) (Config.height c - 1), .a _ _] ⟨o_a hx, o_a hy, f_bre (by assumption), o_a (f_grid_Width c), oI, o_a (f_fixed_Clamp (sumH [e.x, e.vx]) 0 (Config.width c - 1)), o_a (f_grid_Height c), oI, o_a (f_fixed_Clamp (sumH [e.y, e.vy]) 0 (Config.height c - 1)), trivial⟩ ?_
        exact ge
end Go.Eva.S3

/- Eva, part 63: what stays so where things move, hit, fall and leave; in plain words. -/
namespace Go.Eva

theorem goE_id {c : Config} {e : Entity} (h : (goE c e).2 = true) : (goE c e).1.id = e.id ∧ (goE c e).1.kind = e.kind ∧ (goE c e).1.health = e.health ∧ (goE c e).1.owner = e.owner := by
  unfold goE at h ⊢
  split
  · rename_i h1; rw [if_pos h1] at h; simp at h
  · rename_i h1
    rw [if_neg h1] at h
    split
    · rename_i h2
      rw [if_pos h2] at h
      split
      · rename_i h3; rw [if_pos h3] at h; simp at h
      · simp
    · simp
theorem right_place {c : Config} {e : Entity} (h : e.right c = true) : c.right = true ∧ (0 ≤ e.x ∧ e.x < c.width) ∧ (0 ≤ e.y ∧ e.y < c.height) := by
  simp only [Entity.right, Bool.and_eq_true] at h
  have hr := Config.inside_right h.1
  have := h.1
  simp only [Config.inside, Bool.and_eq_true, within_iff] at this
  exact ⟨hr, by omega, by omega⟩
theorem right_pace {c : Config} {e : Entity} (h : e.right c = true) : (-160 ≤ e.vx ∧ e.vx ≤ 160) ∧ (-160 ≤ e.vy ∧ e.vy ≤ 160) ∧ (e.kind = 1 ∨ e.kind = 2 ∨ e.kind = 3) ∧ (e.kind = 3 → e.vx = 0 ∧ e.vy = 0) := by
  simp only [Entity.right, Bool.and_eq_true] at h
  have h2 := h.2
  by_cases k1 : e.kind = 1
  · rw [if_pos k1] at h2
    simp only [Bool.and_eq_true, within_iff, decide_eq_true_eq] at h2
    omega
  · rw [if_neg k1] at h2
    by_cases k2 : e.kind = 2
    · rw [if_pos k2] at h2
      simp only [Bool.and_eq_true, within_iff, decide_eq_true_eq, pace, Bool.or_eq_true] at h2
      omega
    · rw [if_neg k2] at h2
      by_cases k3 : e.kind = 3
      · rw [if_pos k3] at h2
        simp only [Bool.and_eq_true, within_iff, decide_eq_true_eq] at h2
        omega
      · rw [if_neg k3] at h2; contradiction
theorem clamp_in {v hi : Int} (h : 0 ≤ v ∧ v ≤ hi) : clamp v 0 hi = v := by unfold clamp; rw [if_neg (by omega), if_neg (by omega)]
theorem clamp_near {v d hi : Int} (h : 0 ≤ v ∧ v ≤ hi) (hd : -160 ≤ d ∧ d ≤ 160) : v - 160 ≤ clamp (v + d) 0 hi ∧ clamp (v + d) 0 hi ≤ v + 160 := by unfold clamp; split <;> (try split) <;> omega
theorem go_right {c : Config} {e : Entity} (h : (goE c e).2 = true) : (goE c e).1.right c = true ∧ e.right c = true ∧ (e.x - 160 ≤ (goE c e).1.x ∧ (goE c e).1.x ≤ e.x + 160) ∧ (e.y - 160 ≤ (goE c e).1.y ∧ (goE c e).1.y ≤ e.y + 160) := by
  have hr : e.right c = true := by
    cases hq : e.right c with
    | true => rfl
    | false => unfold goE at h; rw [if_pos hq] at h; simp at h
  obtain ⟨hc, hx, hy⟩ := right_place hr
  obtain ⟨vx, vy, hk, _⟩ := right_pace hr
  have hw := @Config.width_le c
  have hh := @Config.height_le c
  have ax : sumH [e.x, e.vx] = e.x + e.vx := add_two (by omega) (by omega)
  have ay : sumH [e.y, e.vy] = e.y + e.vy := add_two (by omega) (by omega)
  have cx := clamp_near (v := e.x) (d := e.vx) (hi := c.width - 1) (by omega) vx
  have cy := clamp_near (v := e.y) (d := e.vy) (hi := c.height - 1) (by omega) vy
  have bx := clamp_le (v := e.x + e.vx) (lo := 0) (hi := c.width - 1) (by omega)
  have bY := clamp_le (v := e.y + e.vy) (lo := 0) (hi := c.height - 1) (by omega)
  refine ⟨?_, hr, ?_⟩
  · have hin : c.inside (clamp (e.x + e.vx) 0 (c.width - 1)) (clamp (e.y + e.vy) 0 (c.height - 1)) = true := by
      simp only [Config.inside, Bool.and_eq_true, within_iff]
      exact ⟨bx, bY⟩
    unfold goE at h ⊢
    rw [ax, ay] at h ⊢
    rw [if_neg (by simp [hr])] at h ⊢
    simp only [Entity.right, Bool.and_eq_true] at hr
    have hr2 := hr.2
    by_cases k2 : e.kind = 2
    · rw [if_pos k2] at h ⊢
      by_cases k3 : e.age + 1 > 12 ∨ c.inside (e.x + e.vx) (e.y + e.vy) = false
      · rw [if_pos k3] at h; simp at h
      · rw [if_neg k3]
        simp only [Entity.right, hin, Bool.true_and, if_neg (show ¬ e.kind = 1 by omega), if_pos k2] at hr2 ⊢
        simp only [Bool.and_eq_true, within_iff] at hr2 ⊢
        refine ⟨⟨hr2.1.1, ?_⟩, hr2.2⟩
        have := hr2.1.2
        omega
    · rw [if_neg k2]
      simp only [Entity.right, hin, Bool.true_and]
      exact hr2
  · unfold goE at h ⊢
    rw [ax, ay] at h ⊢
    rw [if_neg (by simp [hr])] at h ⊢
    by_cases k2 : e.kind = 2
    · rw [if_pos k2] at h ⊢
      by_cases k3 : e.age + 1 > 12 ∨ c.inside (e.x + e.vx) (e.y + e.vy) = false
      · rw [if_pos k3] at h; simp at h
      · rw [if_neg k3]; exact ⟨cx, cy⟩
    · rw [if_neg k2]; exact ⟨cx, cy⟩

/-- Right, but for a player's health. -/
def weak (c : Config) (e : Entity) : Prop := ({ e with health := 1 } : Entity).right c = true ∧ e.health ≤ 100 ∧ (e.kind ≠ 1 → e.health = 1)
theorem right_weak {c : Config} {e : Entity} (h : e.right c = true) : weak c e ∧ 1 ≤ e.health := by
  unfold weak
  simp only [Entity.right, Bool.and_eq_true] at h ⊢
  by_cases k1 : e.kind = 1
  · simp only [k1, if_true, Bool.and_eq_true, within_iff, decide_eq_true_eq] at h ⊢
    obtain ⟨h0, h⟩ := h
    refine ⟨⟨⟨h0, ?_⟩, ?_, fun q => absurd rfl q⟩, ?_⟩ <;> omega
  · simp only [if_neg k1] at h ⊢
    by_cases k2 : e.kind = 2
    · simp only [if_pos k2, Bool.and_eq_true, decide_eq_true_eq] at h ⊢
      simp only [h, and_self, true_and, implies_true, and_true]
      omega
    · simp only [if_neg k2] at h ⊢
      by_cases k3 : e.kind = 3
      · simp only [if_pos k3, Bool.and_eq_true, decide_eq_true_eq] at h ⊢
        simp only [h, and_self, true_and, implies_true, and_true]
        omega
      · simp [k3] at h
theorem weak_right {c : Config} {e : Entity} (h : weak c e) (hp : 1 ≤ e.health) : e.right c = true := by
  obtain ⟨h1, h2, h3⟩ := h
  by_cases k1 : e.kind = 1
  · simp only [Entity.right, k1, if_true, Bool.and_eq_true, within_iff, decide_eq_true_eq] at h1 ⊢
    exact ⟨h1.1, by omega⟩
  · have : ({ e with health := 1 } : Entity) = e := by have := h3 k1; cases e; simp_all
    rw [this] at h1; exact h1
theorem weak_place {c : Config} {e : Entity} (h : weak c e) : c.right = true ∧ (0 ≤ e.x ∧ e.x < c.width) ∧ (0 ≤ e.y ∧ e.y < c.height) := by
  have := right_place h.1
  exact this

/-- What holds behind moving: by rising numbers, near enough. -/
structure Moved (c : Config) (r : Int) (l : List Entity) : Prop where
  srt : Srt l
  things : things l ≤ 24
  ents : ∀ e ∈ l, weak c e ∧ has (c.near r) (c.of e.x e.y) = true
/-- Lists of entities that differ in players' health alone, less some that are none. -/
theorem things_sub {l m : List Entity} (h : l.Sublist m) : things l ≤ things m := by
  unfold things
  have := h.countP_le (p := fun e : Entity => e.kind != 1)
  omega
end Go.Eva

/- Eva, part 64: places, and regions that are near; in plain words. -/
namespace Go.Eva

theorem nearR_has {cols r m : Int} : ∀ {d : Nat} {n : Int}, has (nearR cols r n d) m = true ↔ (n ≤ m ∧ m < n + d) ∧ isNear cols r m = true
  | 0, n => by simp [nearR, has]; omega
  | d + 1, n => by
    have ih := @nearR_has cols r m d (n + 1)
    unfold has at ih ⊢
    rw [nearR, List.any_append, Bool.or_eq_true, ih]
    constructor
    · rintro (h | ⟨h1, h2⟩)
      · split at h
        · rename_i hn
          simp only [List.any_cons, List.any_nil, Bool.or_false, beq_iff_eq] at h
          subst h
          exact ⟨by omega, hn⟩
        · simp at h
      · exact ⟨by omega, h2⟩
    · rintro ⟨h1, h2⟩
      by_cases hnm : n = m
      · subst hnm
        left
        rw [if_pos h2]; simp
      · right
        exact ⟨by omega, h2⟩
theorem near_has {c : Config} {r m : Int} (h : c.is r = true) : has (c.near r) m = true ↔ (0 ≤ m ∧ m < c.cols * c.rows) ∧ isNear c.cols r m = true := by
  have hr := Config.is_right h
  have hi := (Config.is_iff hr).1 h
  obtain ⟨hc, hrr, _⟩ := Config.right_iff.1 hr
  have hN : c.near r = nearR c.cols r 0 (c.cols * c.rows).toNat := by rw [near_eq hc hrr hi]; simp [Config.near, h]
  rw [hN, nearR_has]
  have := Config.mul_le hr
  constructor
  · rintro ⟨h1, h2⟩; exact ⟨by omega, h2⟩
  · rintro ⟨h1, h2⟩; exact ⟨by omega, h2⟩
theorem row_col {a q p : Int} (ha : 0 < a) (hp : 0 ≤ p ∧ p < a) (hq : 0 ≤ q) : (q * a + p).tmod a = p ∧ (q * a + p).tdiv a = q := by
  have h0 : 0 ≤ q * a := Int.mul_nonneg hq (by omega)
  rw [Int.tmod_eq_emod_of_nonneg (by omega), Int.tdiv_eq_ediv_of_nonneg (by omega)]
  constructor
  · rw [Int.add_comm, Int.add_mul_emod_self_right, Int.emod_eq_of_lt hp.1 hp.2]
  · rw [Int.add_comm, Int.add_mul_ediv_right _ _ (by omega), Int.ediv_eq_zero_of_lt hp.1 hp.2]; omega
theorem of_eq {c : Config} {x y : Int} (hr : c.right = true) (hx : 0 ≤ x ∧ x < c.width) (hy : 0 ≤ y ∧ y < c.height) : c.of x y = y.tdiv 1024 * c.cols + x.tdiv 1024 ∧ (0 ≤ x.tdiv 1024 ∧ x.tdiv 1024 < c.cols) ∧ (0 ≤ y.tdiv 1024 ∧ y.tdiv 1024 < c.rows) := by
  have h := Config.right_iff.1 hr
  have hw : c.width = c.cols * 1024 := by simp [Config.width, hr]
  have hh : c.height = c.rows * 1024 := by simp [Config.height, hr]
  refine ⟨?_, tdiv_le (by omega) hx.1 (by omega), tdiv_le (by omega) hy.1 (by omega)⟩
  unfold Config.of
  rw [if_pos hr, clamp_in (by omega), clamp_in (by omega)]
theorem of_is {c : Config} {x y : Int} (hr : c.right = true) (hx : 0 ≤ x ∧ x < c.width) (hy : 0 ≤ y ∧ y < c.height) : c.is (c.of x y) = true := by
  obtain ⟨h1, h2, h3⟩ := of_eq hr hx hy
  obtain ⟨hc, hrr, _⟩ := Config.right_iff.1 hr
  rw [Config.is_iff hr, h1]
  have h4 : y.tdiv 1024 * c.cols ≤ (c.rows - 1) * c.cols := Int.mul_le_mul_of_nonneg_right (by omega) (by omega)
  have h5 : 0 ≤ y.tdiv 1024 * c.cols := Int.mul_nonneg (by omega) (by omega)
  have h6 : (c.rows - 1) * c.cols = c.cols * c.rows - c.cols := by rw [Int.sub_mul, Int.one_mul, Int.mul_comm]
  omega
/-- A step of no more than a region's size goes to a near region. -/
theorem near_step {c : Config} {x y u v : Int} (hr : c.right = true) (hx : 0 ≤ x ∧ x < c.width) (hy : 0 ≤ y ∧ y < c.height) (hu : 0 ≤ u ∧ u < c.width) (hv : 0 ≤ v ∧ v < c.height)
    (h1 : x - 160 ≤ u ∧ u ≤ x + 160) (h2 : y - 160 ≤ v ∧ v ≤ y + 160) : has (c.near (c.of x y)) (c.of u v) = true := by
  rw [near_has (of_is hr hx hy)]
  have hi := (Config.is_iff hr).1 (of_is hr hu hv)
  refine ⟨hi, ?_⟩
  obtain ⟨a1, a2, a3⟩ := of_eq hr hx hy
  obtain ⟨b1, b2, b3⟩ := of_eq hr hu hv
  obtain ⟨hc, hrr, _⟩ := Config.right_iff.1 hr
  have p := row_col (a := c.cols) (q := y.tdiv 1024) (p := x.tdiv 1024) (by omega) a2 a3.1
  have q := row_col (a := c.cols) (q := v.tdiv 1024) (p := u.tdiv 1024) (by omega) b2 b3.1
  unfold isNear
  rw [a1, b1, p.1, p.2, q.1, q.2, decide_eq_true_eq]
  rw [Int.tdiv_eq_ediv_of_nonneg hx.1, Int.tdiv_eq_ediv_of_nonneg hy.1, Int.tdiv_eq_ediv_of_nonneg hu.1, Int.tdiv_eq_ediv_of_nonneg hv.1]
  omega
theorem near_self {c : Config} {r : Int} (h : c.is r = true) : has (c.near r) r = true := by
  rw [near_has h]
  exact ⟨(Config.is_iff (Config.is_right h)).1 h, by simp [isNear]⟩
/-- A place in a region, by chance. -/
theorem place_of {c : Config} {r f o1 o2 a b : Int} (h : c.is r = true) : (0 ≤ placeX c r f a o1 ∧ placeX c r f a o1 < c.width) ∧ (0 ≤ placeY c r f b o2 ∧ placeY c r f b o2 < c.height) ∧ c.of (placeX c r f a o1) (placeY c r f b o2) = r := by
  have hr := Config.is_right h
  have hi := (Config.is_iff hr).1 h
  obtain ⟨hc, hrr, _⟩ := Config.right_iff.1 hr
  have hw : c.width = c.cols * 1024 := by simp [Config.width, hr]
  have hh : c.height = c.rows * 1024 := by simp [Config.height, hr]
  have b1 := below_le (n := 1024) (seed := c.seed) (l := [a, f, o1]) (by decide)
  have b2 := below_le (n := 1024) (seed := c.seed) (l := [b, f, o2]) (by decide)
  have k1 := tdiv_le (v := r) (k := c.cols) (m := c.rows) (by omega) (by omega) (by omega)
  have k2 := tmod_le (v := r) (k := c.cols) (by omega) (by omega)
  have e := Int.tmod_add_tdiv_mul r c.cols
  have hx : 0 ≤ placeX c r f a o1 ∧ placeX c r f a o1 < c.width := by unfold placeX Config.cornerX; rw [if_pos h]; omega
  have hy : 0 ≤ placeY c r f b o2 ∧ placeY c r f b o2 < c.height := by unfold placeY Config.cornerY; rw [if_pos h]; omega
  refine ⟨hx, hy, ?_⟩
  rw [(of_eq hr hx hy).1, Int.tdiv_eq_ediv_of_nonneg hx.1, Int.tdiv_eq_ediv_of_nonneg hy.1]
  unfold placeX placeY Config.cornerX Config.cornerY
  rw [if_pos h, if_pos h]
  have d1 : (r.tmod c.cols * 1024 + below 1024 c.seed [a, f, o1]) / 1024 = r.tmod c.cols := by omega
  have d2 : (r.tdiv c.cols * 1024 + below 1024 c.seed [b, f, o2]) / 1024 = r.tdiv c.cols := by omega
  rw [d1, d2]
  omega
end Go.Eva

/- Eva, part 65: hits turn nothing but players' health; in plain words. -/
namespace Go.Eva

theorem gt_self {α : Type} [Inhabited α] {l : List α} {i : Nat} (h : i < l.length) : l.set i (gt l i) = l := by
  rw [gt_eq h]; exact List.set_getElem_self h
/-- An entity but for a player's health. -/
def core (e : Entity) : Entity := if e.kind = 1 then { e with health := 0 } else e
theorem core_eq {a b : Entity} (h : core a = core b) : a.id = b.id ∧ a.kind = b.kind ∧ a.x = b.x ∧ a.y = b.y ∧ a.vx = b.vx ∧ a.vy = b.vy ∧ a.age = b.age ∧ a.owner = b.owner ∧ (a.kind ≠ 1 → a = b) := by
  have hk : ∀ e : Entity, (core e).kind = e.kind := fun e => by unfold core; split <;> rfl
  have e1 : a.kind = b.kind := by rw [← hk a, ← hk b, h]
  unfold core at h
  by_cases k : a.kind = 1
  · rw [if_pos k, if_pos (by omega)] at h
    cases a; cases b
    simp only [Entity.mk.injEq] at h ⊢
    simp_all
  · rw [if_neg k, if_neg (by omega)] at h
    subst h
    simp
theorem core_health {e : Entity} {n : Int} (h : e.kind = 1) : core { e with health := n } = core e := by
  unfold core; simp only [h, if_true]
theorem core_set {l : List Entity} {k : Nat} {n : Int} (hk : k < l.length) (h : (gt l k).kind = 1) : (l.set k { gt l k with health := n }).map core = l.map core := by
  rw [List.map_set, core_health h]
  apply List.ext_getElem?
  intro i
  rw [List.getElem?_set]
  split
  · rename_i hik
    subst hik
    rw [List.length_map, if_pos hk, List.getElem?_map, get_gt hk, Option.map_some]
  · rfl
theorem core_mem {l m : List Entity} (h : l.map core = m.map core) {e : Entity} (he : e ∈ l) : ∃ x ∈ m, core e = core x := by
  have : core e ∈ l.map core := List.mem_map_of_mem he
  rw [h] at this
  obtain ⟨x, h1, h2⟩ := List.mem_map.1 this
  exact ⟨x, h1, h2.symm⟩
theorem core_ids {l m : List Entity} (h : l.map core = m.map core) : l.map Entity.id = m.map Entity.id := by
  have hk : ∀ e : Entity, (core e).id = e.id := fun e => by unfold core; split <;> rfl
  have h2 := congrArg (List.map Entity.id) h
  rw [List.map_map, List.map_map] at h2
  have e : Entity.id ∘ core = Entity.id := funext hk
  rwa [e] at h2
theorem core_kinds {l m : List Entity} (h : l.map core = m.map core) : l.map Entity.kind = m.map Entity.kind := by
  have hk : ∀ e : Entity, (core e).kind = e.kind := fun e => by unfold core; split <;> rfl
  have h2 := congrArg (List.map Entity.kind) h
  rw [List.map_map, List.map_map] at h2
  have e : Entity.kind ∘ core = Entity.kind := funext hk
  rwa [e] at h2
theorem core_things {l m : List Entity} (h : l.map core = m.map core) : things l = things m := by
  have h2 := core_kinds h
  have e : ∀ l : List Entity, things l = ((l.map Entity.kind).countP fun k => k != 1 : Nat) := fun l => by
    unfold things; rw [List.countP_map]; rfl
  rw [e, e, h2]
theorem core_gt {l m : List Entity} (h : l.map core = m.map core) {i : Nat} (hi : i < l.length) : core (gt l i) = core (gt m i) := by
  have hl : l.length = m.length := by simpa using congrArg List.length h
  have := congrArg (fun x => x[i]?) h
  simp only [List.getElem?_map, get_gt hi, get_gt (l := m) (i := i) (by omega), Option.map_some, Option.some.injEq] at this
  exact this
theorem weak_core {c : Config} {a b : Entity} (h : core a = core b) (hb : weak c b) (ha : a.kind = 1 → a.health ≤ 100) : weak c a := by
  obtain ⟨h1, h2, h3, h4, h5, h6, h7, h8, h9⟩ := core_eq h
  by_cases k : a.kind = 1
  · refine ⟨?_, ha k, fun q => absurd k q⟩
    have := hb.1
    have e : ({ a with health := 1 } : Entity) = { b with health := 1 } := by cases a; cases b; simp_all
    rw [e]; exact this
  · rw [h9 k]; exact hb
theorem moved_core {c : Config} {r : Int} {l m : List Entity} (h : l.map core = m.map core) (hm : Moved c r m) (hh : ∀ e ∈ l, e.kind = 1 → e.health ≤ 100) : Moved c r l := by
  refine ⟨srt_ids (core_ids h).symm hm.srt, by rw [core_things h]; exact hm.things, fun e he => ?_⟩
  obtain ⟨x, hx, hc⟩ := core_mem h he
  obtain ⟨h1, h2⟩ := hm.ents x hx
  refine ⟨weak_core hc h1 (hh e he), ?_⟩
  obtain ⟨_, _, k3, k4, _⟩ := core_eq hc
  rw [k3, k4]; exact h2

section
variable {kind far : Int} {other : Entity → Entity → Bool} {turn : Int → Int}
theorem meet1_ok {out : List Entity} {gone : List Bool} {i : Nat} (hk : kind ≠ 1) (hi : i < out.length) (hg : gone.length = out.length) (ht : ∀ n, n ≤ 100 → turn n ≤ 100) (hh : ∀ e ∈ out, e.kind = 1 → e.health ≤ 100) (hf : ∀ j, gt gone j = true → (gt out j).kind = kind) :
    (meet1 kind far other turn out gone i).1.map core = out.map core ∧ (∀ e ∈ (meet1 kind far other turn out gone i).1, e.kind = 1 → e.health ≤ 100) ∧
      (meet1 kind far other turn out gone i).2.length = out.length ∧ ∀ j, gt (meet1 kind far other turn out gone i).2 j = true → (gt (meet1 kind far other turn out gone i).1 j).kind = kind := by
  unfold meet1
  split
  · rename_i hki
    split
    · rename_i k hq
      obtain ⟨hk1, hk2, _⟩ := List.findIdx?_eq_some_iff_getElem.1 hq
      simp only [meetP, Bool.and_eq_true, decide_eq_true_eq] at hk2
      rw [← gt_eq hk1] at hk2
      have hc := core_set (n := turn (gt out k).health) hk1 hk2.1
      refine ⟨hc, fun e he hek => ?_, by simpa using hg, fun j hj => ?_⟩
      · rcases set_mem he with rfl | he
        · exact ht _ (hh _ (gt_mem hk1) hk2.1)
        · exact hh e he hek
      · have hlen : (out.set k { gt out k with health := turn (gt out k).health }).length = out.length := by simp
        by_cases hij : j = i
        · subst hij
          have := core_eq (core_gt hc (i := j) (by rw [hlen]; exact hi))
          simp only
          rw [this.2.1]; exact hki
        · simp only at hj ⊢
          rw [gt_set (by omega), if_neg hij] at hj
          have hj2 := hf j hj
          by_cases hjl : j < out.length
          · have := core_eq (core_gt hc (i := j) (by rw [hlen]; exact hjl))
            rw [this.2.1]; exact hj2
          · exfalso
            unfold gt at hj
            rw [List.getElem?_eq_none (by omega)] at hj
            simp at hj
    · exact ⟨rfl, hh, hg, hf⟩
  · exact ⟨rfl, hh, hg, hf⟩
theorem meetN_ok (hk : kind ≠ 1) (ht : ∀ n, n ≤ 100 → turn n ≤ 100) : ∀ {d i : Nat} {out : List Entity} {gone : List Bool}, i + d = out.length → gone.length = out.length → (∀ e ∈ out, e.kind = 1 → e.health ≤ 100) → (∀ j, gt gone j = true → (gt out j).kind = kind) →
    (meetN kind far other turn d i out gone).1.map core = out.map core ∧ (∀ e ∈ (meetN kind far other turn d i out gone).1, e.kind = 1 → e.health ≤ 100) ∧
      (meetN kind far other turn d i out gone).2.length = out.length ∧ ∀ j, gt (meetN kind far other turn d i out gone).2 j = true → (gt (meetN kind far other turn d i out gone).1 j).kind = kind
  | 0, i, out, gone, _, hg, hh, hf => ⟨rfl, hh, hg, hf⟩
  | d + 1, i, out, gone, hi, hg, hh, hf => by
    obtain ⟨h1, h2, h3, h4⟩ := meet1_ok (far := far) (other := other) (turn := turn) (i := i) hk (by omega) hg ht hh hf
    have hl : (meet1 kind far other turn out gone i).1.length = out.length := by simpa using congrArg List.length h1
    obtain ⟨k1, k2, k3, k4⟩ := meetN_ok hk ht (d := d) (i := i + 1) (by omega) (by omega) h2 h4
    rw [meetN]
    exact ⟨k1.trans h1, k2, by omega, k4⟩
theorem keepL_sub : ∀ {l : List Entity} {g : List Bool}, (keepL l g).Sublist l
  | [], _ => by simp [keepL]
  | e :: l, [] => by simp [keepL]
  | e :: l, b :: g => by
    rw [keepL]
    split
    · exact (keepL_sub (l := l) (g := g)).cons _
    · exact (keepL_sub (l := l) (g := g)).cons_cons _
theorem keepL_players : ∀ {l : List Entity} {g : List Bool}, g.length = l.length → (∀ j, gt g j = true → (gt l j).kind ≠ 1) → (keepL l g).filter (fun e => decide (e.kind = 1)) = l.filter fun e => decide (e.kind = 1)
  | [], _, _, _ => by simp [keepL]
  | e :: l, [], h, _ => by simp at h
  | e :: l, b :: g, h, hf => by
    rw [keepL, List.filter_append, keepL_players (l := l) (g := g) (by simpa using h) fun j hj => hf (j + 1) hj]
    split
    · rename_i hb
      have := hf 0 hb
      rw [List.filter_cons, if_neg (by simpa [gt] using this)]
      simp
    · rw [List.filter_cons, List.filter_cons]
      split <;> simp
end
/-- What a list of entities is turned into by hits: some things are gone, players' health is another. -/
structure Hit (l m : List Entity) : Prop where
  sub : ∃ k : List Entity, l.Sublist k ∧ k.map core = m.map core ∧ l.filter (fun e => decide (e.kind = 1)) = k.filter fun e => decide (e.kind = 1)
  low : ∀ e ∈ l, e.kind = 1 → e.health ≤ 100
theorem meetL_hit {kind far : Int} {other : Entity → Entity → Bool} {turn : Int → Int} {l : List Entity} (hk : kind ≠ 1) (ht : ∀ n, n ≤ 100 → turn n ≤ 100) (hh : ∀ e ∈ l, e.kind = 1 → e.health ≤ 100) : Hit (meetL kind far other turn l) l := by
  obtain ⟨h1, h2, h3, h4⟩ := meetN_ok (far := far) (other := other) (turn := turn) hk ht (d := l.length) (i := 0) (out := l) (gone := List.replicate l.length false) (by omega) (by simp) hh fun j hj => by
    exfalso
    unfold gt at hj
    rw [List.getElem?_replicate] at hj
    split at hj <;> simp at hj
  have hl : (meetN kind far other turn l.length 0 l (List.replicate l.length false)).1.length = l.length := by simpa using congrArg List.length h1
  refine ⟨⟨_, keepL_sub, h1, keepL_players (by omega) fun j hj => by rw [h4 j hj]; exact hk⟩, fun e he => h2 e (keepL_sub.subset he)⟩
theorem Hit.moved {c : Config} {r : Int} {l m : List Entity} (h : Hit l m) (hm : Moved c r m) : Moved c r l := by
  obtain ⟨⟨k, h1, h2, h3⟩, h4⟩ := h
  refine ⟨(srt_ids (core_ids h2).symm hm.srt).sublist h1, ?_, fun e he => ?_⟩
  · have := things_sub h1
    rw [core_things h2] at this
    have := hm.things
    omega
  · obtain ⟨x, hx, hc⟩ := core_mem h2 (h1.subset he)
    obtain ⟨g1, g2⟩ := hm.ents x hx
    refine ⟨weak_core hc g1 (h4 e he), ?_⟩
    obtain ⟨_, _, k3, k4, _⟩ := core_eq hc
    rw [k3, k4]; exact g2
theorem pl_ids {k m : List Entity} (h : k.map core = m.map core) : (k.filter fun e => decide (e.kind = 1)).map Entity.id = (m.filter fun e => decide (e.kind = 1)).map Entity.id := by
  have hk : ∀ e : Entity, (core e).kind = e.kind := fun e => by unfold core; split <;> rfl
  have hi : ∀ e : Entity, (core e).id = e.id := fun e => by unfold core; split <;> rfl
  have e : ∀ l : List Entity, (l.filter fun e => decide (e.kind = 1)).map Entity.id = ((l.map core).filter fun e => decide (e.kind = 1)).map Entity.id := fun l => by
    rw [List.filter_map, List.map_map]
    have e1 : Entity.id ∘ core = Entity.id := funext hi
    have e2 : (fun e : Entity => decide (e.kind = 1)) ∘ core = fun e => decide (e.kind = 1) := funext fun e => by simp [hk]
    rw [e1, e2]
  rw [e k, e m, h]
theorem Hit.players {l m : List Entity} (h : Hit l m) : (l.filter fun e => decide (e.kind = 1)).map Entity.id = (m.filter fun e => decide (e.kind = 1)).map Entity.id := by
  obtain ⟨⟨k, h1, h2, h3⟩, h4⟩ := h
  rw [h3, pl_ids h2]
theorem shots_hit {l : List Entity} (hh : ∀ e ∈ l, e.kind = 1 → e.health ≤ 100) : Hit (shotsL l) l :=
  meetL_hit (by decide) (fun n hn => by
    unfold subH
    have h1 : held n ≤ 100 := by unfold held clamp; split <;> (try split) <;> omega
    rw [show held 20 = 20 by decide]
    unfold held clamp at *
    split <;> (try split) <;> omega) hh
theorem gems_hit {l : List Entity} (hh : ∀ e ∈ l, e.kind = 1 → e.health ≤ 100) : Hit (gemsL l) l :=
  meetL_hit (by decide) (fun n hn => by unfold minI; split <;> omega) hh
theorem blasts_core {bs : List Cross} : ∀ {l : List Entity}, (∀ e ∈ l, e.kind = 1 → e.health ≤ 100) → (blastsL l bs).map core = l.map core ∧ ∀ e ∈ blastsL l bs, e.kind = 1 → e.health ≤ 100 := by
  induction bs with
  | nil => intro l h; exact ⟨rfl, h⟩
  | cons b bs ih =>
    intro l h
    have h1 : (l.map (hurtE b)).map core = l.map core := by
      rw [List.map_map]
      congr 1
      funext e
      simp only [Function.comp, hurtE]
      split
      · rename_i hq; exact core_health hq.2.1
      · rfl
    have h2 : ∀ e ∈ l.map (hurtE b), e.kind = 1 → e.health ≤ 100 := by
      intro e he hk
      obtain ⟨x, hx, rfl⟩ := List.mem_map.1 he
      unfold hurtE at hk ⊢
      split
      · rename_i hq
        have := h x hx hq.2.1
        simp only [subH]
        have h1 : held x.health ≤ 100 := by unfold held clamp; split <;> (try split) <;> omega
        rw [show held 10 = 10 by decide]
        unfold held clamp at *
        split <;> (try split) <;> omega
      · rename_i hq
        rw [if_neg hq] at hk
        exact h x hx hk
    obtain ⟨k1, k2⟩ := ih h2
    exact ⟨k1.trans h1, k2⟩
end Go.Eva

/- Eva, part 66: what the walk through a region's step leans on; in plain words. -/
namespace Go.Eva

theorem find_le {l : List Entity} {id : Int} {i k : Nat} (hi : i < l.length) (h : (gt l i).id = id) (hk : find l id = k) : k ≤ i := by
  unfold find pos at hk
  cases hq : l.findIdx? fun e => e.id == id with
  | none =>
    have := List.findIdx?_eq_none_iff.1 hq _ (gt_mem hi)
    simp [h] at this
  | some j =>
    rw [hq] at hk
    simp only at hk
    obtain rfl : j = k := by omega
    obtain ⟨hj, _, h2⟩ := List.findIdx?_eq_some_iff_getElem.1 hq
    rcases Nat.lt_or_ge i j with hlt | hge
    · have := h2 i hlt
      rw [← gt_eq hi] at this
      simp [h] at this
    · exact hge
/-- Ids that stay. -/
theorem put1_has {l : List Entity} {e : Entity} {id : Int} (h : ∃ x ∈ l, x.id = id) : ∃ x ∈ put1 l e, x.id = id := by
  obtain ⟨x, h1, h2⟩ := h
  exact ⟨x, put1_sub x h1, h2⟩
theorem setId_has {l : List Entity} {p e : Entity} {id : Int} (hp : ∃ x ∈ l, x.id = p.id) (he : e.id = p.id) (h : ∃ x ∈ l, x.id = id) : ∃ x ∈ setId l p.id e, x.id = id := by
  refine mem_ids ?_ h
  rw [← he]
  rw [← he] at hp
  exact (setId_ids hp).symm
theorem setId_eq {l : List Entity} {id : Int} {e : Entity} {k : Nat} (h : find l id = k) : setId l id e = l.set k e := by
  unfold setId; rw [h]; rfl
theorem gt_set_ne {α : Type} [Inhabited α] {l : List α} {k j : Nat} {x : α} (h : j ≠ k) : gt (l.set k x) j = gt l j := by
  unfold gt; rw [List.getElem?_set_ne (by omega)]
theorem drop_same {α : Type} [Inhabited α] {A B : List α} {i : Nat} (hl : A.length = B.length) (h : ∀ j, i ≤ j → j < B.length → gt A j = gt B j) : A.drop i = B.drop i := by
  refine list_gt (by simp [hl]) fun j hj => ?_
  have e : ∀ l : List α, gt (l.drop i) j = gt l (i + j) := fun l => by unfold gt; rw [List.getElem?_drop]
  rw [e, e]
  simp only [List.length_drop] at hj
  exact h _ (by omega) (by omega)
end Go.Eva

/- Eva, part 67: what stays so from moving to leaving; in plain words. -/
namespace Go.Eva

theorem things_map {l : List Entity} {g : Entity → Entity} (h : ∀ e ∈ l, (g e).kind = e.kind) : things (l.map g) = things l := by
  unfold things
  rw [List.countP_map]
  congr 1
  refine List.countP_congr fun e he => ?_
  simp [h e he]
theorem move_moved {c : Config} {r : Int} {A : List Entity} (h : Sane c r A) : Moved c r (moveL c A) ∧ ∀ e ∈ moveL c A, e.right c = true := by
  have hmem : ∀ e ∈ moveL c A, ∃ x ∈ A, (goE c x).2 = true ∧ e = (goE c x).1 := by
    intro e he
    unfold moveL at he
    obtain ⟨x, hx, rfl⟩ := List.mem_map.1 he
    obtain ⟨h1, h2⟩ := List.mem_filter.1 hx
    exact ⟨x, h1, h2, rfl⟩
  have hr : ∀ e ∈ moveL c A, e.right c = true := by
    intro e he
    obtain ⟨x, hx, hg, rfl⟩ := hmem e he
    exact (go_right hg).1
  refine ⟨⟨?_, ?_, fun e he => ⟨(right_weak (hr e he)).1, ?_⟩⟩, hr⟩
  · unfold moveL
    rw [Srt, List.pairwise_map]
    refine List.Pairwise.imp_of_mem ?_ (srt_filter h.srt)
    intro a b ha hb hab
    have h1 := (goE_id (List.mem_filter.1 ha).2).1
    have h2 := (goE_id (List.mem_filter.1 hb).2).1
    omega
  · unfold moveL
    rw [things_map fun e he => (goE_id (List.mem_filter.1 he).2).2.1]
    have := things_sub (List.filter_sublist (p := fun e => (goE c e).2) (l := A))
    have := h.things
    omega
  · obtain ⟨x, hx, hg, rfl⟩ := hmem e he
    obtain ⟨g1, g2, g3, g4⟩ := go_right hg
    obtain ⟨hxr, hxo⟩ := h.ents x hx
    obtain ⟨hc, p1, p2⟩ := right_place hxr
    obtain ⟨_, q1, q2⟩ := right_place g1
    have := near_step hc p1 p2 q1 q2 g3 g4
    rwa [hxo] at this
theorem Moved.len {c : Config} {r : Int} {l : List Entity} (h : Moved c r l) (hc : c.right = true) : l.length ≤ 30 := by
  have h3 := Config.right_iff.1 hc
  have h1 := len_le (n := c.players) h.srt (fun x hx hk => by
    have := Entity.right_player (h.ents x hx).1.1 hk
    exact this) (by omega)
  have h2 := h.things
  omega
theorem right_low {c : Config} {e : Entity} (h : e.right c = true) : e.health ≤ 100 := (right_weak h).1.2.1
theorem hits_moved {c : Config} {r : Int} {M : List Entity} {inbox : List Cross} (h : Moved c r M) : Moved c r (blastsL (gemsL (shotsL M)) inbox) ∧ ((blastsL (gemsL (shotsL M)) inbox).filter fun e => decide (e.kind = 1)).map Entity.id = (M.filter fun e => decide (e.kind = 1)).map Entity.id := by
  have l0 : ∀ e ∈ M, e.kind = 1 → e.health ≤ 100 := fun e he _ => (h.ents e he).1.2.1
  have h1 := shots_hit l0
  have m1 := h1.moved h
  have h2 := gems_hit (l := shotsL M) h1.low
  have m2 := h2.moved m1
  obtain ⟨b1, b2⟩ := blasts_core (bs := inbox) (l := gemsL (shotsL M)) h2.low
  refine ⟨moved_core b1 m2 b2, ?_⟩
  rw [pl_ids b1, h2.players, h1.players]

/-- Once one has fallen, and begun anew. -/
theorem fall_len {c : Config} {r f : Int} : ∀ {ids : List Int} {s : Stg}, (ids.foldl (fall1 c r f) s).l.length = s.l.length ∧ (ids.foldl (fall1 c r f) s).made = s.made ∧ (ids.foldl (fall1 c r f) s).out.length = s.out.length + ids.length * (c.near r).length := by
  intro ids
  induction ids with
  | nil => intro s; simp
  | cons id ids ih =>
    intro s
    obtain ⟨h1, h2, h3⟩ := @ih (fall1 c r f s id)
    rw [List.foldl_cons]
    refine ⟨by rw [h1]; simp [fall1], by rw [h2]; rfl, ?_⟩
    rw [h3]
    simp only [fall1, blastsAt, List.length_append, List.length_map, List.length_cons]
    rw [Nat.add_mul]; omega
theorem near_pos {c : Config} {r : Int} (h : c.is r = true) : 0 < (c.near r).length := by
  have := near_self h
  cases hn : c.near r with
  | nil => rw [hn] at this; simp [has] at this
  | cons a l => simp

/-- What holds behind falling: right, and in a near region. -/
structure Still2 (c : Config) (r : Int) (l : List Entity) : Prop where
  srt : Srt l
  things : things l ≤ 24
  ents : ∀ e ∈ l, e.right c = true ∧ has (c.near r) (c.of e.x e.y) = true
/-- A blast that a fall makes is right. -/
def blastOk (c : Config) (r f : Int) (m : Cross) : Prop := m.right c = true ∧ m.frm = r ∧ m.frame = f ∧ has (c.near r) m.to = true
theorem has_mem {l : List Int} {x : Int} : has l x = true ↔ x ∈ l := by
  unfold has
  rw [List.any_eq_true]
  constructor
  · rintro ⟨y, h1, h2⟩; simp at h2; subst h2; exact h1
  · intro h; exact ⟨x, h, by simp⟩
theorem anew_right {c : Config} {r f : Int} {e : Entity} {id : Int} (h : weak c e) (hk : e.kind = 1) (hr : c.is r = true) : (anewE c r f id e).right c = true ∧ c.of (anewE c r f id e).x (anewE c r f id e).y = r := by
  obtain ⟨h1, h2, h3⟩ := place_of (c := c) (r := r) (f := f) (o1 := id) (o2 := id) (a := 1) (b := 2) hr
  refine ⟨?_, h3⟩
  have hin : c.inside (placeX c r f 1 id) (placeY c r f 2 id) = true := by
    simp only [Config.inside, Bool.and_eq_true, within_iff]; omega
  have hp := h.1
  simp only [Entity.right, hk, if_true, Bool.and_eq_true, within_iff, decide_eq_true_eq] at hp
  simp only [anewE, Entity.right, hk, if_true, Bool.and_eq_true, within_iff, decide_eq_true_eq]
  refine ⟨hin, ?_⟩
  omega
theorem blast_ok {c : Config} {r f : Int} {e : Entity} {q : Int} (h : weak c e) (hr : c.is r = true) (hf : 0 ≤ f ∧ f < 10000) (hq : q ∈ c.near r) : blastOk c r f ⟨2, r, q, f, Entity.zero, e.x, e.y⟩ := by
  obtain ⟨h1, h2, h3⟩ := weak_place h
  have hin : c.inside e.x e.y = true := by simp only [Config.inside, Bool.and_eq_true, within_iff]; omega
  have hw : within f 0 9999 = true := within_iff.2 (by omega)
  refine ⟨?_, rfl, rfl, has_mem.2 hq⟩
  simp [Cross.right, has_mem.2 hq, hw, hin]
theorem fall_fold {c : Config} {r f : Int} (hr : c.is r = true) (hf : 0 ≤ f ∧ f < 10000) : ∀ {ids : List Int} {s : Stg}, Moved c r s.l → (∀ id ∈ ids, ∃ x ∈ s.l, x.id = id ∧ x.kind = 1) → (∀ e ∈ s.l, e.health ≤ 0 → e.id ∈ ids) → (∀ m ∈ s.out, blastOk c r f m) →
    Still2 c r (ids.foldl (fall1 c r f) s).l ∧ (∀ m ∈ (ids.foldl (fall1 c r f) s).out, blastOk c r f m) ∧ ((ids.foldl (fall1 c r f) s).l.filter fun e => decide (e.kind = 1)).map Entity.id = (s.l.filter fun e => decide (e.kind = 1)).map Entity.id := by
  intro ids
  induction ids with
  | nil =>
    intro s hm _ hh ho
    refine ⟨⟨hm.srt, hm.things, fun e he => ?_⟩, ho, rfl⟩
    obtain ⟨h1, h2⟩ := hm.ents e he
    refine ⟨weak_right h1 ?_, h2⟩
    rcases Int.lt_or_le 0 e.health with h | h
    · omega
    · have := hh e he h; simp at this
  | cons id ids ih =>
    intro s hm hp hh ho
    obtain ⟨x, hx, hxi, hxk⟩ := hp id (List.mem_cons_self ..)
    obtain ⟨k, k1, k2, k3⟩ := find_of hm.srt hx
    rw [hxi] at k1
    have e1 : fall1 c r f s id = ⟨s.l.set k (anewE c r f id x), s.made, s.out ++ blastsAt c r f x⟩ := by
      unfold fall1
      rw [k1, Int.toNat_natCast, k3]
    rw [List.foldl_cons, e1]
    obtain ⟨wx, _⟩ := hm.ents x hx
    obtain ⟨a1, a2⟩ := anew_right (f := f) (id := id) wx hxk hr
    have hids : (s.l.set k (anewE c r f id x)).map Entity.id = s.l.map Entity.id := map_id_set k2 (by rw [k3]; rfl)
    have hkinds : things (s.l.set k (anewE c r f id x)) = things s.l := by
      have := setId_things (e := anewE c r f id x) hm.srt hx rfl
      rwa [setId_eq (by rw [hxi]; exact k1)] at this
    have hpl : ((s.l.set k (anewE c r f id x)).filter fun e => decide (e.kind = 1)).map Entity.id = (s.l.filter fun e => decide (e.kind = 1)).map Entity.id := by
      have hkk : (s.l.set k (anewE c r f id x)).map (fun e => (e.id, e.kind)) = s.l.map fun e => (e.id, e.kind) := by
        rw [List.map_set]
        apply List.ext_getElem?
        intro i
        rw [List.getElem?_set]
        split
        · rename_i hik
          subst hik
          rw [List.length_map, if_pos k2, List.getElem?_map, get_gt k2, Option.map_some, k3]
          rfl
        · rfl
      have e : ∀ l : List Entity, (l.filter fun e => decide (e.kind = 1)).map Entity.id = ((l.map fun e => (e.id, e.kind)).filter fun p => decide (p.2 = 1)).map Prod.fst := fun l => by
        rw [List.filter_map, List.map_map]; rfl
      rw [e, e s.l, hkk]
    have := ih (s := ⟨s.l.set k (anewE c r f id x), s.made, s.out ++ blastsAt c r f x⟩) ?_ ?_ ?_ ?_
    · simp only at this
      rw [hpl] at this
      exact this
    · refine ⟨srt_ids hids.symm hm.srt, by simp only; rw [hkinds]; exact hm.things, fun e he => ?_⟩
      rcases set_mem he with rfl | he
      · exact ⟨(right_weak a1).1, by rw [a2]; exact near_self hr⟩
      · exact hm.ents e he
    · intro id2 hid2
      obtain ⟨y, hy, hyi, hyk⟩ := hp id2 (List.mem_cons_of_mem _ hid2)
      by_cases hne : y.id = x.id
      · have : y = x := uniq_id hm.srt hy hx hne
        subst this
        exact ⟨anewE c r f id y, List.mem_set k2 _, hyi, hyk⟩
      · have := setId_keep (e := anewE c r f id x) hm.srt hx hy hne
        rw [setId_eq (by rw [hxi]; exact k1)] at this
        exact ⟨y, this, hyi, hyk⟩
    · intro e he hle
      rcases set_mem he with h | h
      · subst h
        have := (right_weak a1).2
        omega
      · have := hh e h hle
        rcases List.mem_cons.1 this with h2 | h2
        · -- the one that began anew
          have : e = x := uniq_id hm.srt h hx (by omega)
          subst this
          exfalso
          obtain ⟨j, hj⟩ := List.mem_iff_getElem?.1 he
          rw [List.getElem?_set] at hj
          split at hj
          · rename_i hkj
            injection hj with hj
            have := (right_weak a1).2
            rw [hj] at this
            omega
          · rename_i hkj
            have hj2 := (List.getElem?_eq_some_iff.1 hj).1
            have hg : gt s.l j = e := by unfold gt; rw [hj]; rfl
            have := hm.srt
            rw [Srt, List.pairwise_iff_getElem] at this
            rw [gt_eq hj2] at hg
            rw [gt_eq k2] at k3
            rcases Nat.lt_or_gt_of_ne hkj with hlt | hlt
            · have := this k j k2 hj2 hlt
              rw [hg, k3] at this; omega
            · have := this j k hj2 k2 hlt
              rw [hg, k3] at this; omega
        · exact h2
    · intro m hm2
      rcases List.mem_append.1 hm2 with h | h
      · exact ho m h
      · unfold blastsAt at h
        obtain ⟨q, hq, rfl⟩ := List.mem_map.1 h
        exact blast_ok wx hr hf hq
theorem fall_ok {c : Config} {r f : Int} (hr : c.is r = true) (hf : 0 ≤ f ∧ f < 10000) {H : List Entity} {made : Int} (hm : Moved c r H) : Still2 c r (fallS c r f ⟨H, made, []⟩).l ∧ (∀ m ∈ (fallS c r f ⟨H, made, []⟩).out, blastOk c r f m) ∧ ((fallS c r f ⟨H, made, []⟩).l.filter fun e => decide (e.kind = 1)).map Entity.id = (H.filter fun e => decide (e.kind = 1)).map Entity.id := by
  refine fall_fold (s := ⟨H, made, []⟩) hr hf hm ?_ ?_ (by simp)
  · intro id hid
    obtain ⟨x, h1, h2⟩ := List.mem_map.1 hid
    obtain ⟨h3, h4⟩ := List.mem_filter.1 h1
    simp only [fallenP, Bool.and_eq_true, decide_eq_true_eq] at h4
    exact ⟨x, h3, h2, h4.1⟩
  · intro e he hle
    have hk : e.kind = 1 := by
      by_cases q : e.kind = 1
      · exact q
      · have := (hm.ents e he).1.2.2 q; omega
    exact List.mem_map.2 ⟨e, List.mem_filter.2 ⟨he, by simp [fallenP, hk, hle]⟩, rfl⟩
theorem right_age {c : Config} {e : Entity} (h : e.right c = true) : 0 ≤ e.age ∧ e.age ≤ 12 := by
  simp only [Entity.right, Bool.and_eq_true] at h
  have h2 := h.2
  by_cases k1 : e.kind = 1
  · rw [if_pos k1] at h2
    simp only [Bool.and_eq_true, within_iff, decide_eq_true_eq] at h2
    omega
  · rw [if_neg k1] at h2
    by_cases k2 : e.kind = 2
    · rw [if_pos k2] at h2
      simp only [Bool.and_eq_true, within_iff] at h2
      omega
    · rw [if_neg k2] at h2
      by_cases k3 : e.kind = 3
      · rw [if_pos k3] at h2
        simp only [Bool.and_eq_true, decide_eq_true_eq] at h2
        omega
      · rw [if_neg k3] at h2; contradiction
theorem leave_len {c : Config} {r f : Int} {s : Stg} : (leaveS c r f s).out.length ≤ s.out.length + s.l.length := by
  simp only [leaveS, List.length_append, List.length_map]
  have := List.length_filter_le (fun e => !decide (c.of e.x e.y = r)) s.l
  omega
theorem leave_none {c : Config} {r f : Int} {s : Stg} (h : (s.l.filter fun e => !decide (c.of e.x e.y = r)) = []) : (leaveS c r f s).out = s.out := by
  simp [leaveS, h]
end Go.Eva

/- Eva, part 68: steps of regions where there is nobody, or one; in plain words. -/
namespace Go.Eva

theorem grow_cases {c : Config} {r f : Int} {s : Stg} : growS c r f s = s ∨ growS c r f s = ⟨put1 s.l (gemE c r f s.made), s.made + 1, s.out⟩ := by
  unfold growS
  split
  · exact .inl rfl
  · exact .inr rfl
theorem gem_of {c : Config} {r f made : Int} (hr : c.is r = true) : c.of (gemE c r f made).x (gemE c r f made).y = r := (place_of (o1 := r) (o2 := r) (a := 4) (b := 5) hr).2.2
/-- How many there are behind a step. -/
theorem fine_next {c : Config} {r : Int} {s : Region} {ins : List Input} {inbox : List Cross} (h : askedE c r s ins inbox = 0) : (stepS c r s ins inbox).l.length ≤ 31 := by
  have hfine := asked_fine h
  have hrc := Config.is_right hfine.is
  obtain ⟨hst1, hst2⟩ := steer_ok hfine
  unfold stepS restS
  generalize steerS c r s.frame ins ⟨arriveL s.ents inbox, 0, []⟩ = S at *
  obtain ⟨A, made, o⟩ := S
  simp only at hst1 hst2 ⊢
  have hM := (move_moved hst1.sane).1
  have hH := ((hits_moved (inbox := inbox) hM).1).len hrc
  simp only at hH
  generalize blastsL (gemsL (shotsL (moveL c A))) inbox = H at *
  have hF := (@fall_len c r s.frame (fallenL H) ⟨H, made, o⟩).1
  change (fallS c r s.frame ⟨H, made, o⟩).l.length = H.length at hF
  have hG : (growS c r s.frame (fallS c r s.frame ⟨H, made, o⟩)).l.length ≤ 31 := by
    rcases @grow_cases c r s.frame (fallS c r s.frame ⟨H, made, o⟩) with h | h
    · rw [h]; omega
    · rw [h]
      have := (@put1_len (fallS c r s.frame ⟨H, made, o⟩).l (gemE c r s.frame (fallS c r s.frame ⟨H, made, o⟩).made)).2
      simp only; omega
  have : (leaveS c r s.frame (growS c r s.frame (fallS c r s.frame ⟨H, made, o⟩))).l.length ≤ (growS c r s.frame (fallS c r s.frame ⟨H, made, o⟩)).l.length := List.length_filter_le ..
  omega
end Go.Eva

/- Eva, part 69: arenas; in plain words. -/
namespace Go.Eva

structure World where
  regions : List Region
  outs : List CrossL
deriving DecidableEq, Inhabited
def World.enc (w : World) : T := .agg [.sl 2 (w.regions.map Region.enc), .sl 1 (w.outs.map encL)]
/-- Handed over, of one list; of all. -/
def handed (l : List Cross) : List Entity := (l.filter fun m => decide (m.kind = 1)).map Cross.ent
end Go.Eva

/- Eva, part 70: arenas, regions, messages and inputs that statements are about; in plain words. -/
namespace Go.Eva

/-- As long as a list may be. -/
def long {α : Type} (l : List α) : Prop := l.length ≤ 9223372036854775807

abbrev um (n k : Int) : Int := (IntKind.u64.wrap n).tmod k
theorem um_le {n k : Int} (h : 0 < k) : 0 ≤ um n k ∧ um n k < k := u64_tmod h
def playInput (i : Input) : Input := if i.right = true then i else ⟨um i.dx 5 - 2, um i.dy 5 - 2, i.fire⟩
theorem playInput_right (i : Input) : (playInput i).right = true := by
  unfold playInput
  split
  · assumption
  · have h1 := @um_le i.dx 5 (by decide)
    have h2 := @um_le i.dy 5 (by decide)
    simp only [Input.right, Bool.and_eq_true, within_iff]; omega
/-- A row of inputs, filled as far as 'k'. -/
def rowAt (n : Nat) (l : List Input) (k : Nat) : List Input := (l.take k).map playInput ++ List.replicate (n - k) Input.zero
def playRow (n : Nat) (l : List Input) : List Input := rowAt n l (min n l.length)
abbrev InputL := List Input
def encI (l : List Input) : T := .sl 3 (l.map Input.enc)
def playFrames (n : Nat) (l : List InputL) (most : Nat) : List InputL := (l.take most).map (playRow n)
theorem rowAt_len {n k : Nat} {l : List Input} (h : k ≤ n) (h2 : k ≤ l.length) : (rowAt n l k).length = n := by simp [rowAt]; omega
theorem playRow_len {n : Nat} {l : List Input} : (playRow n l).length = n := rowAt_len (by omega) (by omega)
theorem rowAt_set {n k : Nat} {l : List Input} (h : k < n) (h2 : k < l.length) : (rowAt n l k).set k (playInput (gt l k)) = rowAt n l (k + 1) := by
  have e1 : (l.take (k + 1)) = l.take k ++ [gt l k] := by rw [List.take_add_one, get_gt h2]; rfl
  have e2 : n - k = (n - (k + 1)) + 1 := by omega
  unfold rowAt
  rw [e1, e2, List.replicate_succ, List.set_append, if_neg (by simp; omega), List.map_append]
  have e3 : k - ((l.take k).map playInput).length = 0 := by simp; omega
  rw [e3]
  simp
theorem playRow_right {n : Nat} {l : List Input} : ∀ i ∈ playRow n l, i.right = true := by
  intro i hi
  unfold playRow rowAt at hi
  rcases List.mem_append.1 hi with h | h
  · obtain ⟨x, _, rfl⟩ := List.mem_map.1 h
    exact playInput_right x
  · rw [List.eq_of_mem_replicate h]; decide

/-- An entity near to a raw one that is right, in a region. -/
def playAt (c : Config) (r : Int) (e : Entity) : Entity := { e with x := c.cornerX r + um e.x 1024, y := c.cornerY r + um e.y 1024 }
def playE (c : Config) (r : Int) (e : Entity) : Entity :=
  if (playAt c r e).right c = true then playAt c r e
  else ⟨1 + um e.id (w64u c.players), 1, c.cornerX r + um e.x 1024, c.cornerY r + um e.y 1024, 0, 0, 1 + um e.health 100, um e.age 7, 0⟩
def playRegion (c : Config) (r frame : Int) (l : List Entity) : Region := ⟨1 + um frame 100, puts [] ((l.take 20).map (playE c r))⟩
theorem corner_le {c : Config} {r : Int} : (0 ≤ c.cornerX r ∧ c.cornerX r ≤ 4096) ∧ (0 ≤ c.cornerY r ∧ c.cornerY r ≤ 4096) := by
  unfold Config.cornerX Config.cornerY
  cases hr : c.is r with
  | false => simp
  | true =>
    have h := Config.is_right hr
    have hi := (Config.is_iff h).1 hr
    obtain ⟨hc, hrr, _⟩ := Config.right_iff.1 h
    have k1 := tdiv_le (v := r) (k := c.cols) (m := c.rows) (by omega) (by omega) (by omega)
    have k2 := tmod_le (v := r) (k := c.cols) (by omega) (by omega)
    simp only [if_true]
    omega
theorem corner_of {c : Config} {r x y : Int} (hr : c.is r = true) (hx : 0 ≤ x ∧ x < 1024) (hy : 0 ≤ y ∧ y < 1024) : c.inside (c.cornerX r + x) (c.cornerY r + y) = true ∧ c.of (c.cornerX r + x) (c.cornerY r + y) = r := by
  have h := Config.is_right hr
  have hi := (Config.is_iff h).1 hr
  obtain ⟨hc, hrr, _⟩ := Config.right_iff.1 h
  have hw : c.width = c.cols * 1024 := by simp [Config.width, h]
  have hh : c.height = c.rows * 1024 := by simp [Config.height, h]
  have k1 := tdiv_le (v := r) (k := c.cols) (m := c.rows) (by omega) (by omega) (by omega)
  have k2 := tmod_le (v := r) (k := c.cols) (by omega) (by omega)
  have e := Int.tmod_add_tdiv_mul r c.cols
  have ex : c.cornerX r = r.tmod c.cols * 1024 := by unfold Config.cornerX; rw [if_pos hr]
  have ey : c.cornerY r = r.tdiv c.cols * 1024 := by unfold Config.cornerY; rw [if_pos hr]
  have hin : c.inside (c.cornerX r + x) (c.cornerY r + y) = true := by
    simp only [Config.inside, Bool.and_eq_true, within_iff]; omega
  refine ⟨hin, ?_⟩
  rw [(of_eq h (by omega) (by omega)).1, Int.tdiv_eq_ediv_of_nonneg (by omega), Int.tdiv_eq_ediv_of_nonneg (by omega), ex, ey]
  have d1 : (r.tmod c.cols * 1024 + x) / 1024 = r.tmod c.cols := by omega
  have d2 : (r.tdiv c.cols * 1024 + y) / 1024 = r.tdiv c.cols := by omega
  rw [d1, d2]
  omega
theorem playE_ok {c : Config} {r : Int} (hr : c.is r = true) (e : Entity) : (playE c r e).right c = true ∧ c.of (playE c r e).x (playE c r e).y = r := by
  have h := Config.is_right hr
  have hcr := Config.right_iff.1 h
  have hx := @um_le e.x 1024 (by decide)
  have hy := @um_le e.y 1024 (by decide)
  obtain ⟨h1, h2⟩ := corner_of hr hx hy
  unfold playE
  split
  · rename_i hp; exact ⟨hp, h2⟩
  · refine ⟨?_, h2⟩
    have hw : w64u c.players = c.players := wu64 ⟨by omega, by omega, rfl⟩
    rw [hw]
    have a1 := @um_le e.id c.players (by omega)
    have a2 := @um_le e.health 100 (by decide)
    have a3 := @um_le e.age 7 (by decide)
    have e1 : within (1 + um e.id c.players) 1 c.players = true := within_iff.2 (by omega)
    have e3 : within (1 + um e.health 100) 1 100 = true := within_iff.2 (by omega)
    have e5 : within (um e.age 7) 0 6 = true := within_iff.2 (by omega)
    have e4 : within 0 (-64) 64 = true := by decide
    unfold Entity.right
    simp only [h1, e1, e3, e4, e5]
    simp
theorem puts_all {P : Entity → Prop} : ∀ {m l : List Entity}, (∀ e ∈ l, P e) → (∀ e ∈ m, P e) → ∀ e ∈ puts l m, P e
  | [], l, h, _ => h
  | x :: m, l, h, hm => by
    show ∀ e ∈ puts (put1 l x) m, P e
    refine puts_all (fun e he => ?_) fun e he => hm e (List.mem_cons_of_mem _ he)
    rcases put1_mem_iff he with rfl | he
    · exact hm _ (List.mem_cons_self ..)
    · exact h e he
theorem playRegion_ok {c : Config} {r frame : Int} {l : List Entity} (hr : c.is r = true) : Sane c r (playRegion c r frame l).ents ∧ (playRegion c r frame l).ents.length ≤ 20 ∧ (1 ≤ (playRegion c r frame l).frame ∧ (playRegion c r frame l).frame ≤ 100) := by
  have hlen : (puts [] ((l.take 20).map (playE c r))).length ≤ 20 := by
    have := @puts_len ((l.take 20).map (playE c r)) []
    have h2 : ((l.take 20).map (playE c r)).length ≤ 20 := by simp; omega
    simp only [List.length_nil, Nat.zero_add] at this
    omega
  refine ⟨⟨puts_sorted (by simp [Srt]), ?_, ?_⟩, hlen, ?_⟩
  · have : things (puts [] ((l.take 20).map (playE c r))) ≤ (puts [] ((l.take 20).map (playE c r))).length := by
      unfold things; exact_mod_cast List.countP_le_length
    show things (puts [] ((l.take 20).map (playE c r))) ≤ 24
    omega
  · refine puts_all (by simp) fun e he => ?_
    obtain ⟨x, _, rfl⟩ := List.mem_map.1 he
    exact playE_ok hr x
  · have := @um_le frame 100 (by decide)
    show 1 ≤ 1 + um frame 100 ∧ 1 + um frame 100 ≤ 100
    omega
theorem play_right {c : Config} {r frame : Int} {l : List Entity} (hr : c.is r = true) : regionRight c r (playRegion c r frame l) = true := by
  obtain ⟨h1, h2, h3⟩ := @playRegion_ok c r frame l hr
  exact regionRight_iff.2 ⟨hr, by omega, h1.srt, h1.things, h1.ents⟩
/-- A message that may come in, of a raw one. -/
def playM (c : Config) (r frame : Int) (m : Cross) : Cross :=
  if m.kind ≠ 1 then ⟨2, gt (c.near r) (um m.frm (w64u (c.near r).length)).toNat, r, frame - 1, Entity.zero, um m.x (w64u (c.cols * 1024)), um m.y (w64u (c.rows * 1024))⟩
  else ⟨m.kind, gt (c.near r) (um m.frm (w64u (c.near r).length)).toNat, r, frame - 1, playAt c r m.ent, 0, 0⟩
def playInbox (c : Config) (r frame : Int) (l : List Cross) : List Cross := ((l.take 12).map (playM c r frame)).filter fun m => m.right c
theorem playInbox_ok {c : Config} {r frame : Int} {l : List Cross} : (∀ m ∈ playInbox c r frame l, m.right c = true ∧ m.to = r ∧ m.frame = frame - 1) ∧ (playInbox c r frame l).length ≤ 12 := by
  refine ⟨fun m hm => ?_, ?_⟩
  · obtain ⟨h1, h2⟩ := List.mem_filter.1 hm
    obtain ⟨x, _, rfl⟩ := List.mem_map.1 h1
    refine ⟨h2, ?_, ?_⟩
    · unfold playM; split <;> rfl
    · unfold playM; split <;> rfl
  · have h1 := List.length_filter_le (fun m => m.right c) ((l.take 12).map (playM c r frame))
    have h2 : ((l.take 12).map (playM c r frame)).length ≤ 12 := by simp; omega
    exact Nat.le_trans h1 h2
theorem play_fine {c : Config} {r frame : Int} {l : List Entity} {ins : List Input} {inbox : List Cross} (hr : c.is r = true) :
    Fine c r (playRegion c r frame l) (playRow c.players.toNat ins) (playInbox c r (playRegion c r frame l).frame inbox) := by
  obtain ⟨h1, h2, h3⟩ := @playRegion_ok c r frame l hr
  have hc := Config.right_iff.1 (Config.is_right hr)
  exact ⟨hr, by omega, h1.srt, h1.things, h1.ents, by rw [playRow_len]; omega, playRow_right, playInbox_ok.1⟩
end Go.Eva

/- What statements make of raw arguments: inputs, regions, messages. -/
namespace Go.Eva.S3
theorem f_joustplay_Input (i : Input) : Fn cx 59 [i.enc] (playInput i).enc := by
  have h := f_joustref05_Input i
  unfold playInput
  cases hr : i.right with
  | true =>
    rw [hr] at h
    refine Wp.ev ?_
    refine gg [.a _ _, .tt] ⟨o_a h, trivial⟩ ?_
    exact ge
  | false =>
    rw [hr] at h
    have h1 := @um_le i.dx 5 (by decide)
    have h2 := @um_le i.dy 5 (by decide)
    unfold um at h1 h2
    refine Wp.ev ?_
    refine gg [.a _ _, .ff, .i IntKind.u64 i.dx (IntKind.wrap IntKind.u64 i.dx), .w ((5 : Int) ≠ (0 : Int)), .s (T.int IntKind.u64 (Int.tmod (IntKind.wrap IntKind.u64 i.dx) 5)), .i IntKind.i64 (Int.tmod (IntKind.wrap IntKind.u64 i.dx) 5) (Int.tmod (IntKind.wrap IntKind.u64 i.dx) 5), .i IntKind.i64 (Int.tmod (IntKind.wrap IntKind.u64 i.dx) 5 - 2) (Int.tmod (IntKind.wrap IntKind.u64 i.dx) 5 - 2), .i IntKind.u64 i.dy (IntKind.wrap IntKind.u64 i.dy), .w ((5 : Int) ≠ (0 : Int)), .s (T.int IntKind.u64 (Int.tmod (IntKind.wrap IntKind.u64 i.dy) 5)), .i IntKind.i64 (Int.tmod (IntKind.wrap IntKind.u64 i.dy) 5) (Int.tmod (IntKind.wrap IntKind.u64 i.dy) 5), .i IntKind.i64 (Int.tmod (IntKind.wrap IntKind.u64 i.dy) 5 - 2) (Int.tmod (IntKind.wrap IntKind.u64 i.dy) 5 - 2)] ⟨o_a h, o_i rfl, o_w (by intro h; cases h), oI, oI, o_i rfl, o_w (by intro h; cases h), oI, oI, trivial⟩ ?_
    exact ge
theorem f_joustplay_Frames_inner (c : Config) (l : List InputL) (A : List InputL) (most : Int) (i n : Nat) (hc : c.players = (n : Int)) (hn : n ≤ 100) (hi : i < l.length) (hl : long l) (hr : long (gt l i)) : ∀ (d k : Nat), k + d = min n (gt l i).length →
    Is cx (.loop 22 [0, 1, 0, 1, 0, 0, 1, 0, 0, 1, 0, 1, 1] 0 [.t (.sl 1 (l.map encI)), vi most, .ptr 0 0 0, .all 1 none, vi i, .all 2 none, vi k] [.one 5 (.t c.enc) false, .arr 1 (A.map encI) none false, .arr 3 ((rowAt n (gt l i) k).map Input.enc) (some 0) false])
      ⟨.exit 2, [.t (.sl 1 (l.map encI)), vi most, .ptr 0 0 0, .all 1 none, vi i, .all 2 none, vi (min n (gt l i).length : Nat)], [.one 5 (.t c.enc) false, .arr 1 (A.map encI) none false, .arr 3 ((playRow n (gt l i)).map Input.enc) (some 0) false]⟩ := by
  unfold long at hl hr
  intro d
  induction d with
  | zero =>
    intro k hk
    obtain rfl : k = min n (gt l i).length := by omega
    unfold playRow
    generalize hm : min n (gt l i).length = m at *
    by_cases hmn : m = n
    · subst hmn
      refine Wp.ev ?_
      refine gg [.b (decide ((↑m : Int) < c.players)) false, .ff, .ff, .ff, .ff, .ff, .ff, .ff, .ff] ⟨fP, trivial⟩ ?_
      exact ge
    · have : m = (gt l i).length := by omega
      refine Wp.ev ?_
      refine gg [.b (decide ((↑m : Int) < c.players)) true, .tt, .tt, .tt, .w ((0 : Int) ≤ (↑i : Int)), .n (Int.toNat (↑i : Int)) i, .g (List.map encI l) i (encI (gt l i)), .tt, .tt, .n (List.length (List.map Input.enc (gt l i))) (List.length (gt l i)), .tt, .tt, .b (decide ((↑m : Int) < (↑(List.length (gt l i)) : Int))) false] ⟨tP, oW, o_n (by kernel_rfl), o_gt rfl (by assumption) (by intro h; cases h), o_n (by simp), fP, trivial⟩ ?_
      exact ge
  | succ d ih =>
    intro k hk
    have ih1 := ih (k + 1) (by omega)
    rw [← rowAt_set (by omega) (by omega)] at ih1
    have hlen := rowAt_len (n := n) (k := k) (l := gt l i) (by omega) (by omega)
    clear ih
    generalize rowAt n (gt l i) k = R at *
    generalize hm : min n (gt l i).length = m at *
    have hkl : k < (gt l i).length := by omega
    refine Wp.ev ?_
    refine gg [.b (decide ((↑k : Int) < c.players)) true, .tt, .tt, .tt, .w ((0 : Int) ≤ (↑i : Int)), .n (Int.toNat (↑i : Int)) i, .g (List.map encI l) i (encI (gt l i)), .tt, .tt, .n (List.length (List.map Input.enc (gt l i))) (List.length (gt l i)), .tt, .tt, .b (decide ((↑k : Int) < (↑(List.length (gt l i)) : Int))) true, .w ((0 : Int) ≤ (↑i : Int)), .n (Int.toNat (↑i : Int)) i, .g (List.map encI l) i (encI (gt l i))] ⟨tP, oW, o_n (by kernel_rfl), o_gt rfl (by assumption) (by intro h; cases h), o_n (by simp), tP, oW, o_n (by kernel_rfl), o_gt rfl (by assumption) (by intro h; cases h), trivial⟩ ?_
    refine gg [.w ((0 : Int) ≤ (↑k : Int)), .n (Int.toNat (↑k : Int)) k, .g (List.map Input.enc (gt l i)) k (Input.enc (gt (gt l i) k)), .a _ _, .w ((0 : Int) ≤ (↑k : Int)), .n (Int.toNat (↑k : Int)) k, .w (k < List.length (List.map Input.enc R)), .w (k < List.length (List.map Input.enc R)), .t (T.sl 0 (List.set (List.map Input.enc R) k (Input.enc (playInput (gt (gt l i) k))))) (T.sl 0 (List.map Input.enc (List.set R k (playInput (gt (gt l i) k))))), .i IntKind.i64 ((↑k : Int) + 1) ((↑(k + 1) : Int)), .a _ _] ⟨oW, o_n (by kernel_rfl), o_gt rfl (by assumption) (by intro h; cases h), o_a (f_joustplay_Input (gt (gt l i) k)), oW, o_n (by kernel_rfl), o_w (by (simp; omega)), o_w (by (simp; omega)), o_l (nm_set rfl rfl), oI, o_a ih1, trivial⟩ ?_
    exact ge
theorem f_joustplay_Frames_outer (c : Config) (l : List InputL) (most n : Nat) (hc : c.players = (n : Int)) (hn : n ≤ 100) (hl : long l) (hmo : most ≤ 1000) (hr : ∀ x ∈ l, long x) : ∀ (d i : Nat) (A : List InputL), i + d = min l.length most → A.length = i →
    Is cx (.loop 22 [0, 1, 0, 1, 1] 0 [.t (.sl 1 (l.map encI)), vi most, .ptr 0 0 0, .all 1 none, vi i] [.one 5 (.t c.enc) false, .arr 1 (A.map encI) none false])
      ⟨.exit 0, [.t (.sl 1 (l.map encI)), vi most, .ptr 0 0 0, .all 1 none, vi (min l.length most : Nat)], [.one 5 (.t c.enc) false, .arr 1 ((A ++ ((l.take most).drop i).map (playRow n)).map encI) none false]⟩ := by
  intro d
  induction d with
  | zero =>
    intro i A hi hA
    obtain rfl : i = min l.length most := by omega
    rw [drop_end (by simp; omega)]
    unfold long at hl
    clear hr
    generalize hm : min l.length most = m at *
    by_cases h : m = l.length
    · refine Wp.ev ?_
      refine gg [.n (List.length (List.map encI l)) (List.length l), .b (decide ((↑m : Int) < (↑(List.length l) : Int))) false, .ff, .ff, .ff, .ff] ⟨o_n (by simp), fP, trivial⟩ ?_
      refine rt (a := Res.mk (Ex.exit 0) [V.t (T.sl 1 (List.map encI l)), vi (↑most : Int), V.ptr 0 0 0, V.all 1 none, vi (↑m : Int)] [Ob.one 5 (V.t (Config.enc c)) false, Ob.arr 1 (List.map encI A) none false]) (by kernel_rfl) ?_
      simp
    · have : m = most := by omega
      refine Wp.ev ?_
      refine gg [.n (List.length (List.map encI l)) (List.length l), .b (decide ((↑m : Int) < (↑(List.length l) : Int))) true, .tt, .tt, .tt, .b (decide ((↑m : Int) < (↑most : Int))) false] ⟨o_n (by simp), tP, fP, trivial⟩ ?_
      refine rt (a := Res.mk (Ex.exit 0) [V.t (T.sl 1 (List.map encI l)), vi (↑most : Int), V.ptr 0 0 0, V.all 1 none, vi (↑m : Int)] [Ob.one 5 (V.t (Config.enc c)) false, Ob.arr 1 (List.map encI A) none false]) (by kernel_rfl) ?_
      simp
  | succ d ih =>
    intro i A hi hA
    have hlt : i < l.length := by omega
    have hrx := hr _ (gt_mem hlt)
    have h1 := f_joustplay_Frames_inner c l A most i n hc hn hlt hl hrx (min n (gt l i).length) 0 (by omega)
    have ih1 := ih (i + 1) (A ++ [playRow n (gt l i)]) (by omega) (by simp; omega)
    have e : (l.take most).drop i = gt l i :: (l.take most).drop (i + 1) := by
      have hlt2 : i < (l.take most).length := by simp; omega
      have hg : gt (l.take most) i = gt l i := by unfold gt; rw [List.getElem?_take, if_pos (by omega)]
      rw [drop_gt hlt2, hg]
    rw [e, List.map_cons, List.append_cons]
    have e0 : rowAt n (gt l i) 0 = List.replicate n Input.zero := by simp [rowAt]
    rw [e0, List.map_replicate, show List.replicate n (Input.enc Input.zero) = List.replicate c.players.toNat (Input.enc Input.zero) by rw [hc, Int.toNat_natCast]] at h1
    clear ih hr e e0
    unfold long at hl hrx
    generalize playRow n (gt l i) = P at *
    generalize hm : min l.length most = m at *
    generalize min n (gt l i).length = q at *
    refine Wp.ev ?_
    refine gg [.n (List.length (List.map encI l)) (List.length l), .b (decide ((↑i : Int) < (↑(List.length l) : Int))) true, .tt, .tt, .tt, .b (decide ((↑i : Int) < (↑most : Int))) true, .w ((0 : Int) ≤ c.players ∧ c.players ≤ c.players ∧ room (Int.toNat c.players) (24 : Nat)), .l (Int.toNat c.players), .a _ _, .s (T.sl 3 (List.map Input.enc P)), .w ((0 : Nat) < (24 : Nat)), .s (T.sl 0 [T.sl 3 (List.map Input.enc P)]), .t (T.sl 0 (List.map encI A ++ [T.sl 3 (List.map Input.enc P)])) (T.sl 0 (List.map encI (A ++ [P]))), .w (room (List.length (List.map encI (A ++ [P]))) (24 : Nat)), .i IntKind.i64 ((↑i : Int) + 1) ((↑(i + 1) : Int)), .a _ _] ⟨o_n (by simp), tP, tP, o_w ⟨(by omega), ⟨(by omega), (by (simp [room, appendMax]; omega))⟩⟩, o_a h1, oW, o_l (nm_app rfl (nm_cons (e := P) rfl nm_nil)), o_w (by (simp [room, appendMax]; omega)), oI, o_a ih1, trivial⟩ ?_
    exact ge
theorem f_joustplay_Frames (c : Config) (l : List InputL) (most n : Nat) (hc : c.players = (n : Int)) (hn : n ≤ 100) (hl : long l) (hmo : most ≤ 1000) (hr : ∀ x ∈ l, long x) : Fn cx 22 [c.enc, .sl 1 (l.map encI), ti most] (.sl 1 ((playFrames n l most).map encI)) := by
  have h := f_joustplay_Frames_outer c l most n hc hn hl hmo hr (min l.length most) 0 [] (by omega) rfl
  rw [List.drop_zero, List.nil_append] at h
  unfold playFrames
  generalize (l.take most).map (playRow n) = X at *
  generalize min l.length most = m at *
  clear hr
  refine Wp.ev ?_
  refine gg [.a _ _] ⟨o_a h, trivial⟩ ?_
  exact ge
theorem f_joustref03_Corner (c : Config) (r : Int) : Is cx (.call 56 [.t c.enc, vi r] []) ⟨.ret, [vi (c.cornerX r), vi (c.cornerY r)], []⟩ := by
  have h := f_joustref03_Is c r
  unfold Config.cornerX Config.cornerY
  cases hi : c.is r with
  | false =>
    rw [hi] at h
    refine Wp.ev ?_
    refine gg [.a _ _, .b (!false) true] ⟨o_a h, o_b (by kernel_rfl), trivial⟩ ?_
    exact ge
  | true =>
    rw [hi] at h
    have hr := Config.is_right hi
    have hi2 := (Config.is_iff hr).1 hi
    obtain ⟨hc, hrr, _⟩ := Config.right_iff.1 hr
    have k1 := tdiv_le (v := r) (k := c.cols) (m := c.rows) (by omega) (by omega) (by omega)
    have k2 := tmod_le (v := r) (k := c.cols) (by omega) (by omega)
    refine Wp.ev ?_
    refine gg [.a _ _, .b (!true) false, .w (c.cols ≠ (0 : Int)), .s (ti (Int.tmod r c.cols)), .i IntKind.i64 (Int.tmod r c.cols * 1024) (Int.tmod r c.cols * 1024), .w (c.cols ≠ (0 : Int)), .i IntKind.i64 (Int.tdiv r c.cols) (Int.tdiv r c.cols), .i IntKind.i64 (Int.tdiv r c.cols * 1024) (Int.tdiv r c.cols * 1024)] ⟨o_a h, o_b (by kernel_rfl), oW, oI, oW, oI, oI, trivial⟩ ?_
    exact ge
theorem f_joustplay_Region_loop (c : Config) (r fr : Int) (l : List Entity) (hr : c.is r = true) (hl : long l) : ∀ (d i : Nat) (A : List Entity), i + d = min l.length 20 → A.length ≤ i →
    Is cx (.loop 20 [0, 1, 0, 1, 1, 1] 0 [.t (.sl 9 (l.map Entity.enc)), .ptr 0 0 0, .ptr 1 0 0, .ptr 2 0 0, vi (c.cornerX r), vi (c.cornerY r), vi i] [.one 5 (.t c.enc) false, .one 2 (.agg [vi 0, .fit 9 []]) false, .one 2 (.t (.agg [ti fr, .sl 9 (A.map Entity.enc)])) false])
      ⟨.exit 0, [.t (.sl 9 (l.map Entity.enc)), .ptr 0 0 0, .ptr 1 0 0, .ptr 2 0 0, vi (c.cornerX r), vi (c.cornerY r), vi (min l.length 20 : Nat)], [.one 5 (.t c.enc) false, .one 2 (.agg [vi 0, .fit 9 []]) false, .one 2 (.t (.agg [ti fr, .sl 9 ((puts A (((l.take 20).drop i).map (playE c r))).map Entity.enc)])) false]⟩ := by
  unfold long at hl
  have hcl := @corner_le c r
  have hpl : 1 ≤ c.players ∧ c.players ≤ 6 := by have := Config.right_iff.1 (Config.is_right hr); omega
  have hw : IntKind.u64.wrap c.players = c.players := wu64 ⟨by omega, by omega, rfl⟩
  intro d
  induction d with
  | zero =>
    intro i A hi hA
    obtain rfl : i = min l.length 20 := by omega
    rw [drop_end (by simp; omega)]
    clear hw
    generalize hm : min l.length 20 = m at *
    by_cases h : m = l.length
    · refine Wp.ev ?_
      refine gg [.n (List.length (List.map Entity.enc l)) (List.length l), .b (decide ((↑m : Int) < (↑(List.length l) : Int))) false, .ff, .ff, .ff] ⟨o_n (by simp), fP, trivial⟩ ?_
      exact ge
    · have : m = 20 := by omega
      subst this
      refine Wp.ev ?_
      refine gg [.n (List.length (List.map Entity.enc l)) (List.length l), .b (decide (20 < (↑(List.length l) : Int))) true, .tt, .tt, .b (decide (20 < 20)) false] ⟨o_n (by simp), tP, o_b (by kernel_rfl), trivial⟩ ?_
      exact ge
  | succ d ih =>
    intro i A hi hA
    have hlt : i < l.length := by omega
    have e : (l.take 20).drop i = gt l i :: (l.take 20).drop (i + 1) := by
      have hlt2 : i < (l.take 20).length := by simp; omega
      have hg : gt (l.take 20) i = gt l i := by unfold gt; rw [List.getElem?_take, if_pos (by omega)]
      rw [drop_gt hlt2, hg]
    have hpl1 := @put1_len A (playE c r (gt l i))
    have ih1 := ih (i + 1) (put1 A (playE c r (gt l i))) (by omega) (by omega)
    rw [e, List.map_cons]
    change Is cx _ ⟨_, _, [_, _, .one 2 (.t (.agg [ti fr, .sl 9 ((puts (put1 A (playE c r (gt l i))) (((l.take 20).drop (i + 1)).map (playE c r))).map Entity.enc)])) false]⟩
    have hx := @um_le (gt l i).x 1024 (by decide)
    have hy := @um_le (gt l i).y 1024 (by decide)
    have hid := @um_le (gt l i).id c.players (by omega)
    have hhe := @um_le (gt l i).health 100 (by decide)
    have hag := @um_le (gt l i).age 7 (by decide)
    have hR := f_joustref05_Right c (playAt c r (gt l i))
    have hP := f_joustref05_Put A (playE c r (gt l i)) (by unfold small; omega)
    clear ih e
    unfold um at hx hy hid hhe hag
    generalize hm : min l.length 20 = m at *
    cases hq : (playAt c r (gt l i)).right c with
    | true =>
      have ep : playE c r (gt l i) = playAt c r (gt l i) := by simp [playE, hq]
      rw [ep] at hP ih1 hpl1 ⊢
      rw [hq] at hR
      generalize put1 A (playAt c r (gt l i)) = B at *
      clear hq ep
      unfold playAt um at hR hP
      generalize c.cornerX r = cX at *
      generalize c.cornerY r = cY at *
      refine Wp.ev ?_
      refine gg [.n (List.length (List.map Entity.enc l)) (List.length l), .b (decide ((↑i : Int) < (↑(List.length l) : Int))) true, .tt, .tt, .b (decide ((↑i : Int) < 20)) true, .w ((0 : Int) ≤ (↑i : Int)), .n (Int.toNat (↑i : Int)) i, .g (List.map Entity.enc l) i (Entity.enc (gt l i)), .i IntKind.u64 ((gt l i).x) (IntKind.wrap IntKind.u64 (gt l i).x), .w ((1024 : Int) ≠ (0 : Int)), .s (T.int IntKind.u64 (Int.tmod (IntKind.wrap IntKind.u64 (gt l i).x) 1024)), .i IntKind.i64 (Int.tmod (IntKind.wrap IntKind.u64 (gt l i).x) 1024) (Int.tmod (IntKind.wrap IntKind.u64 (gt l i).x) 1024), .i IntKind.i64 (cX + Int.tmod (IntKind.wrap IntKind.u64 (gt l i).x) 1024) (cX + Int.tmod (IntKind.wrap IntKind.u64 (gt l i).x) 1024), .i IntKind.u64 ((gt l i).y) (IntKind.wrap IntKind.u64 (gt l i).y), .w ((1024 : Int) ≠ (0 : Int)), .s (T.int IntKind.u64 (Int.tmod (IntKind.wrap IntKind.u64 (gt l i).y) 1024))] ⟨o_n (by simp), tP, tP, oW, o_n (by kernel_rfl), o_gt rfl (by assumption) (by intro h; cases h), o_i rfl, o_w (by intro h; cases h), oI, oI, o_i rfl, o_w (by intro h; cases h), trivial⟩ ?_
      refine gg [.i IntKind.i64 (Int.tmod (IntKind.wrap IntKind.u64 (gt l i).y) 1024) (Int.tmod (IntKind.wrap IntKind.u64 (gt l i).y) 1024), .i IntKind.i64 (cY + Int.tmod (IntKind.wrap IntKind.u64 (gt l i).y) 1024) (cY + Int.tmod (IntKind.wrap IntKind.u64 (gt l i).y) 1024), .a _ _, .b (!true) false, .a _ _, .i IntKind.i64 ((↑i : Int) + 1) ((↑(i + 1) : Int)), .a _ _] ⟨oI, oI, o_a hR, o_b (by kernel_rfl), o_a hP, oI, o_a ih1, trivial⟩ ?_
      exact ge
    | false =>
      have ep : playE c r (gt l i) = ⟨1 + um (gt l i).id c.players, 1, c.cornerX r + um (gt l i).x 1024, c.cornerY r + um (gt l i).y 1024, 0, 0, 1 + um (gt l i).health 100, um (gt l i).age 7, 0⟩ := by
        unfold playE
        rw [if_neg (by simp [hq])]
        unfold w64u
        rw [hw]
      rw [ep] at hP ih1 hpl1 ⊢
      rw [hq] at hR
      generalize put1 A _ = B at *
      clear hq ep
      unfold playAt um at hR
      unfold um at hP
      generalize c.cornerX r = cX at *
      generalize c.cornerY r = cY at *
      refine Wp.ev ?_
      refine gg [.n (List.length (List.map Entity.enc l)) (List.length l), .b (decide ((↑i : Int) < (↑(List.length l) : Int))) true, .tt, .tt, .b (decide ((↑i : Int) < 20)) true, .w ((0 : Int) ≤ (↑i : Int)), .n (Int.toNat (↑i : Int)) i, .g (List.map Entity.enc l) i (Entity.enc (gt l i)), .i IntKind.u64 ((gt l i).x) (IntKind.wrap IntKind.u64 (gt l i).x), .w ((1024 : Int) ≠ (0 : Int)), .s (T.int IntKind.u64 (Int.tmod (IntKind.wrap IntKind.u64 (gt l i).x) 1024)), .i IntKind.i64 (Int.tmod (IntKind.wrap IntKind.u64 (gt l i).x) 1024) (Int.tmod (IntKind.wrap IntKind.u64 (gt l i).x) 1024), .i IntKind.i64 (cX + Int.tmod (IntKind.wrap IntKind.u64 (gt l i).x) 1024) (cX + Int.tmod (IntKind.wrap IntKind.u64 (gt l i).x) 1024), .i IntKind.u64 ((gt l i).y) (IntKind.wrap IntKind.u64 (gt l i).y), .w ((1024 : Int) ≠ (0 : Int)), .s (T.int IntKind.u64 (Int.tmod (IntKind.wrap IntKind.u64 (gt l i).y) 1024))] ⟨o_n (by simp), tP, tP, oW, o_n (by kernel_rfl), o_gt rfl (by assumption) (by intro h; cases h), o_i rfl, o_w (by intro h; cases h), oI, oI, o_i rfl, o_w (by intro h; cases h), trivial⟩ ?_
      refine gg [.i IntKind.i64 (Int.tmod (IntKind.wrap IntKind.u64 (gt l i).y) 1024) (Int.tmod (IntKind.wrap IntKind.u64 (gt l i).y) 1024), .i IntKind.i64 (cY + Int.tmod (IntKind.wrap IntKind.u64 (gt l i).y) 1024) (cY + Int.tmod (IntKind.wrap IntKind.u64 (gt l i).y) 1024), .a _ _, .b (!false) true, .i IntKind.u64 ((gt l i).id) (IntKind.wrap IntKind.u64 (gt l i).id), .i IntKind.u64 c.players c.players, .w (c.players ≠ (0 : Int)), .s (T.int IntKind.u64 (Int.tmod (IntKind.wrap IntKind.u64 (gt l i).id) c.players)), .i IntKind.i64 (Int.tmod (IntKind.wrap IntKind.u64 (gt l i).id) c.players) (Int.tmod (IntKind.wrap IntKind.u64 (gt l i).id) c.players), .i IntKind.i64 (1 + Int.tmod (IntKind.wrap IntKind.u64 (gt l i).id) c.players) (1 + Int.tmod (IntKind.wrap IntKind.u64 (gt l i).id) c.players), .i IntKind.u64 ((gt l i).health) (IntKind.wrap IntKind.u64 (gt l i).health), .w ((100 : Int) ≠ (0 : Int)), .s (T.int IntKind.u64 (Int.tmod (IntKind.wrap IntKind.u64 (gt l i).health) 100)), .i IntKind.i64 (Int.tmod (IntKind.wrap IntKind.u64 (gt l i).health) 100) (Int.tmod (IntKind.wrap IntKind.u64 (gt l i).health) 100), .i IntKind.i64 (1 + Int.tmod (IntKind.wrap IntKind.u64 (gt l i).health) 100) (1 + Int.tmod (IntKind.wrap IntKind.u64 (gt l i).health) 100), .i IntKind.u64 ((gt l i).age) (IntKind.wrap IntKind.u64 (gt l i).age)] ⟨oI, oI, o_a hR, o_b (by kernel_rfl), o_i rfl, oU, oW, oI, oI, o_i rfl, o_w (by intro h; cases h), oI, oI, o_i rfl, trivial⟩ ?_
      refine gg [.w ((7 : Int) ≠ (0 : Int)), .s (T.int IntKind.u64 (Int.tmod (IntKind.wrap IntKind.u64 (gt l i).age) 7)), .i IntKind.i64 (Int.tmod (IntKind.wrap IntKind.u64 (gt l i).age) 7) (Int.tmod (IntKind.wrap IntKind.u64 (gt l i).age) 7), .a _ _, .i IntKind.i64 ((↑i : Int) + 1) ((↑(i + 1) : Int)), .a _ _] ⟨o_w (by intro h; cases h), oI, o_a hP, oI, o_a ih1, trivial⟩ ?_
      exact ge
theorem f_joustplay_Region_first (c : Config) (r fr : Int) (l : List Entity) (hr : c.is r = true) (hl : long l) (h0 : 0 < l.length) :
    Is cx (.loop 20 [0, 1, 0, 1, 1, 1] 0 [.t (.sl 9 (l.map Entity.enc)), .ptr 0 0 0, .ptr 1 0 0, .ptr 2 0 0, vi (c.cornerX r), vi (c.cornerY r), vi 0] [.one 5 (.t c.enc) false, .one 2 (.agg [vi 0, .fit 9 []]) false, .one 2 (.agg [vi fr, .fit 9 []]) false])
      ⟨.exit 0, [.t (.sl 9 (l.map Entity.enc)), .ptr 0 0 0, .ptr 1 0 0, .ptr 2 0 0, vi (c.cornerX r), vi (c.cornerY r), vi (min l.length 20 : Nat)], [.one 5 (.t c.enc) false, .one 2 (.agg [vi 0, .fit 9 []]) false, .one 2 (.t (.agg [ti fr, .sl 9 ((puts [] ((l.take 20).map (playE c r))).map Entity.enc)])) false]⟩ := by
  have hcl := @corner_le c r
  have hpl : 1 ≤ c.players ∧ c.players ≤ 6 := by have := Config.right_iff.1 (Config.is_right hr); omega
  have hw : IntKind.u64.wrap c.players = c.players := wu64 ⟨by omega, by omega, rfl⟩
  have e : l.take 20 = gt l 0 :: (l.take 20).drop 1 := by
    have hlt2 : 0 < (l.take 20).length := by simp; omega
    have hg : gt (l.take 20) 0 = gt l 0 := by unfold gt; rw [List.getElem?_take, if_pos (by omega)]
    have := drop_gt hlt2
    rw [List.drop_zero, hg] at this
    exact this
  have hpl1 := @put1_len [] (playE c r (gt l 0))
  simp only [List.length_nil, Nat.zero_add] at hpl1
  have ih1 := f_joustplay_Region_loop c r fr l hr hl (min l.length 20 - 1) 1 (put1 [] (playE c r (gt l 0))) (by omega) (by omega)
  rw [show (l.take 20).map (playE c r) = playE c r (gt l 0) :: ((l.take 20).drop 1).map (playE c r) by conv => lhs; rw [e, List.map_cons]]
  change Is cx _ ⟨_, _, [_, _, .one 2 (.t (.agg [ti fr, .sl 9 ((puts (put1 [] (playE c r (gt l 0))) (((l.take 20).drop 1).map (playE c r))).map Entity.enc)])) false]⟩
  have hx := @um_le (gt l 0).x 1024 (by decide)
  have hy := @um_le (gt l 0).y 1024 (by decide)
  have hid := @um_le (gt l 0).id c.players (by omega)
  have hhe := @um_le (gt l 0).health 100 (by decide)
  have hag := @um_le (gt l 0).age 7 (by decide)
  have hR := f_joustref05_Right c (playAt c r (gt l 0))
  have hP := f_joustref05_Put [] (playE c r (gt l 0)) (by simp [small])
  clear e
  unfold um at hx hy hid hhe hag
  unfold long at hl
  generalize hm : min l.length 20 = m at *
  cases hq : (playAt c r (gt l 0)).right c with
  | true =>
    have ep : playE c r (gt l 0) = playAt c r (gt l 0) := by simp [playE, hq]
    rw [ep] at hP ih1 hpl1 ⊢
    rw [hq] at hR
    generalize put1 [] (playAt c r (gt l 0)) = B at *
    clear hq ep
    unfold playAt um at hR hP
    generalize c.cornerX r = cX at *
    generalize c.cornerY r = cY at *
    refine Wp.ev ?_
    refine gg [.n (List.length (List.map Entity.enc l)) (List.length l), .b (decide (0 < (↑(List.length l) : Int))) true, .tt, .tt, .b (decide (0 < 20)) true, .w ((0 : Int) ≤ (0 : Int)), .l 0, .g (List.map Entity.enc l) 0 (Entity.enc (gt l 0)), .i IntKind.u64 ((gt l 0).x) (IntKind.wrap IntKind.u64 (gt l 0).x), .w ((1024 : Int) ≠ (0 : Int)), .s (T.int IntKind.u64 (Int.tmod (IntKind.wrap IntKind.u64 (gt l 0).x) 1024)), .i IntKind.i64 (Int.tmod (IntKind.wrap IntKind.u64 (gt l 0).x) 1024) (Int.tmod (IntKind.wrap IntKind.u64 (gt l 0).x) 1024), .i IntKind.i64 (cX + Int.tmod (IntKind.wrap IntKind.u64 (gt l 0).x) 1024) (cX + Int.tmod (IntKind.wrap IntKind.u64 (gt l 0).x) 1024), .i IntKind.u64 ((gt l 0).y) (IntKind.wrap IntKind.u64 (gt l 0).y), .w ((1024 : Int) ≠ (0 : Int)), .s (T.int IntKind.u64 (Int.tmod (IntKind.wrap IntKind.u64 (gt l 0).y) 1024))] ⟨o_n (by simp), tP, o_b (by kernel_rfl), oW, o_gt rfl (by assumption) (by intro h; cases h), o_i rfl, o_w (by intro h; cases h), oI, oI, o_i rfl, o_w (by intro h; cases h), trivial⟩ ?_
    refine gg [.i IntKind.i64 (Int.tmod (IntKind.wrap IntKind.u64 (gt l 0).y) 1024) (Int.tmod (IntKind.wrap IntKind.u64 (gt l 0).y) 1024), .i IntKind.i64 (cY + Int.tmod (IntKind.wrap IntKind.u64 (gt l 0).y) 1024) (cY + Int.tmod (IntKind.wrap IntKind.u64 (gt l 0).y) 1024), .a _ _, .b (!true) false, .a _ _, .i IntKind.i64 1 1, .a _ _] ⟨oI, oI, o_a hR, o_b (by kernel_rfl), o_a hP, oK, o_a ih1, trivial⟩ ?_
    exact ge
  | false =>
    have ep : playE c r (gt l 0) = ⟨1 + um (gt l 0).id c.players, 1, c.cornerX r + um (gt l 0).x 1024, c.cornerY r + um (gt l 0).y 1024, 0, 0, 1 + um (gt l 0).health 100, um (gt l 0).age 7, 0⟩ := by
      unfold playE
      rw [if_neg (by simp [hq])]
      unfold w64u
      rw [hw]
    rw [ep] at hP ih1 hpl1 ⊢
    rw [hq] at hR
    generalize put1 [] _ = B at *
    clear hq ep
    unfold playAt um at hR
    unfold um at hP
    generalize c.cornerX r = cX at *
    generalize c.cornerY r = cY at *
    refine Wp.ev ?_
    refine gg [.n (List.length (List.map Entity.enc l)) (List.length l), .b (decide (0 < (↑(List.length l) : Int))) true, .tt, .tt, .b (decide (0 < 20)) true, .w ((0 : Int) ≤ (0 : Int)), .l 0, .g (List.map Entity.enc l) 0 (Entity.enc (gt l 0)), .i IntKind.u64 ((gt l 0).x) (IntKind.wrap IntKind.u64 (gt l 0).x), .w ((1024 : Int) ≠ (0 : Int)), .s (T.int IntKind.u64 (Int.tmod (IntKind.wrap IntKind.u64 (gt l 0).x) 1024)), .i IntKind.i64 (Int.tmod (IntKind.wrap IntKind.u64 (gt l 0).x) 1024) (Int.tmod (IntKind.wrap IntKind.u64 (gt l 0).x) 1024), .i IntKind.i64 (cX + Int.tmod (IntKind.wrap IntKind.u64 (gt l 0).x) 1024) (cX + Int.tmod (IntKind.wrap IntKind.u64 (gt l 0).x) 1024), .i IntKind.u64 ((gt l 0).y) (IntKind.wrap IntKind.u64 (gt l 0).y), .w ((1024 : Int) ≠ (0 : Int)), .s (T.int IntKind.u64 (Int.tmod (IntKind.wrap IntKind.u64 (gt l 0).y) 1024))] ⟨o_n (by simp), tP, o_b (by kernel_rfl), oW, o_gt rfl (by assumption) (by intro h; cases h), o_i rfl, o_w (by intro h; cases h), oI, oI, o_i rfl, o_w (by intro h; cases h), trivial⟩ ?_
    refine gg [.i IntKind.i64 (Int.tmod (IntKind.wrap IntKind.u64 (gt l 0).y) 1024) (Int.tmod (IntKind.wrap IntKind.u64 (gt l 0).y) 1024), .i IntKind.i64 (cY + Int.tmod (IntKind.wrap IntKind.u64 (gt l 0).y) 1024) (cY + Int.tmod (IntKind.wrap IntKind.u64 (gt l 0).y) 1024), .a _ _, .b (!false) true, .i IntKind.u64 ((gt l 0).id) (IntKind.wrap IntKind.u64 (gt l 0).id), .i IntKind.u64 c.players c.players, .w (c.players ≠ (0 : Int)), .s (T.int IntKind.u64 (Int.tmod (IntKind.wrap IntKind.u64 (gt l 0).id) c.players)), .i IntKind.i64 (Int.tmod (IntKind.wrap IntKind.u64 (gt l 0).id) c.players) (Int.tmod (IntKind.wrap IntKind.u64 (gt l 0).id) c.players), .i IntKind.i64 (1 + Int.tmod (IntKind.wrap IntKind.u64 (gt l 0).id) c.players) (1 + Int.tmod (IntKind.wrap IntKind.u64 (gt l 0).id) c.players), .i IntKind.u64 ((gt l 0).health) (IntKind.wrap IntKind.u64 (gt l 0).health), .w ((100 : Int) ≠ (0 : Int)), .s (T.int IntKind.u64 (Int.tmod (IntKind.wrap IntKind.u64 (gt l 0).health) 100)), .i IntKind.i64 (Int.tmod (IntKind.wrap IntKind.u64 (gt l 0).health) 100) (Int.tmod (IntKind.wrap IntKind.u64 (gt l 0).health) 100), .i IntKind.i64 (1 + Int.tmod (IntKind.wrap IntKind.u64 (gt l 0).health) 100) (1 + Int.tmod (IntKind.wrap IntKind.u64 (gt l 0).health) 100), .i IntKind.u64 ((gt l 0).age) (IntKind.wrap IntKind.u64 (gt l 0).age)] ⟨oI, oI, o_a hR, o_b (by kernel_rfl), o_i rfl, oU, oW, oI, oI, o_i rfl, o_w (by intro h; cases h), oI, oI, o_i rfl, trivial⟩ ?_
    refine gg [.w ((7 : Int) ≠ (0 : Int)), .s (T.int IntKind.u64 (Int.tmod (IntKind.wrap IntKind.u64 (gt l 0).age) 7)), .i IntKind.i64 (Int.tmod (IntKind.wrap IntKind.u64 (gt l 0).age) 7) (Int.tmod (IntKind.wrap IntKind.u64 (gt l 0).age) 7), .a _ _, .i IntKind.i64 1 1, .a _ _] ⟨o_w (by intro h; cases h), oI, o_a hP, oK, o_a ih1, trivial⟩ ?_
    exact ge
theorem f_joustplay_Region (c : Config) (r frame : Int) (l : List Entity) (hr : c.is r = true) (hl : long l) : Fn cx 20 [c.enc, ti r, ti frame, .sl 9 (l.map Entity.enc)] (playRegion c r frame l).enc := by
  have hl' : l.length ≤ 9223372036854775807 := hl
  have hC := f_joustref03_Corner c r
  have hfr := @um_le frame 100 (by decide)
  unfold um at hfr
  unfold playRegion
  by_cases h0 : l.length = 0
  · have : l = [] := List.eq_nil_of_length_eq_zero h0
    subst this
    have hE : Is cx (.loop 20 [0, 1, 0, 1, 1, 1] 0 [.t (.sl 9 []), .ptr 0 0 0, .ptr 1 0 0, .ptr 2 0 0, vi (c.cornerX r), vi (c.cornerY r), vi 0] [.one 5 (.t c.enc) false, .one 2 (.agg [vi 0, .fit 9 []]) false, .one 2 (.agg [vi (1 + (IntKind.u64.wrap frame).tmod 100), .fit 9 []]) false])
      ⟨.exit 0, [.t (.sl 9 []), .ptr 0 0 0, .ptr 1 0 0, .ptr 2 0 0, vi (c.cornerX r), vi (c.cornerY r), vi 0], [.one 5 (.t c.enc) false, .one 2 (.agg [vi 0, .fit 9 []]) false, .one 2 (.agg [vi (1 + (IntKind.u64.wrap frame).tmod 100), .fit 9 []]) false]⟩ := by
      refine Wp.ev ?_
      refine gg [.l 0, .b (decide (0 < 0)) false, .ff, .ff, .ff] ⟨o_b (by kernel_rfl), trivial⟩ ?_
      exact ge
    refine Wp.ev ?_
    refine gg [.i IntKind.u64 frame (IntKind.wrap IntKind.u64 frame), .w ((100 : Int) ≠ (0 : Int)), .s (T.int IntKind.u64 (Int.tmod (IntKind.wrap IntKind.u64 frame) 100)), .i IntKind.i64 (Int.tmod (IntKind.wrap IntKind.u64 frame) 100) (Int.tmod (IntKind.wrap IntKind.u64 frame) 100), .i IntKind.i64 (1 + Int.tmod (IntKind.wrap IntKind.u64 frame) 100) (1 + Int.tmod (IntKind.wrap IntKind.u64 frame) 100), .a _ _, .a _ _] ⟨o_i rfl, o_w (by intro h; cases h), oI, oI, o_a hC, o_a hE, trivial⟩ ?_
    exact ge
  · have hE := f_joustplay_Region_first c r (1 + (IntKind.u64.wrap frame).tmod 100) l hr hl (by omega)
    generalize puts [] ((l.take 20).map (playE c r)) = X at *
    generalize min l.length 20 = m at *
    refine Wp.ev ?_
    refine gg [.i IntKind.u64 frame (IntKind.wrap IntKind.u64 frame), .w ((100 : Int) ≠ (0 : Int)), .s (T.int IntKind.u64 (Int.tmod (IntKind.wrap IntKind.u64 frame) 100)), .i IntKind.i64 (Int.tmod (IntKind.wrap IntKind.u64 frame) 100) (Int.tmod (IntKind.wrap IntKind.u64 frame) 100), .i IntKind.i64 (1 + Int.tmod (IntKind.wrap IntKind.u64 frame) 100) (1 + Int.tmod (IntKind.wrap IntKind.u64 frame) 100), .a _ _, .a _ _] ⟨o_i rfl, o_w (by intro h; cases h), oI, oI, o_a hC, o_a hE, trivial⟩ ?_
    exact ge
end Go.Eva.S3

/- Eva, part 71: what a step makes of what is right; in plain words. -/
namespace Go.Eva

theorem gem_right {c : Config} {r f made : Int} (hr : c.is r = true) (hf : 0 ≤ f ∧ f < 10000) (hm : 0 ≤ made ∧ made ≤ 8) : (gemE c r f made).right c = true ∧ c.of (gemE c r f made).x (gemE c r f made).y = r := by
  refine ⟨?_, gem_of hr⟩
  obtain ⟨h1, h2, _⟩ := place_of (c := c) (r := r) (f := f) (o1 := r) (o2 := r) (a := 4) (b := 5) hr
  have hin : c.inside (placeX c r f 4 r) (placeY c r f 5 r) = true := by simp only [Config.inside, Bool.and_eq_true, within_iff]; omega
  have hn : within (numI c r f made) 1000 2147483647 = true := within_iff.2 (num_le (Config.is_le hr) hf hm)
  simp [Entity.right, gemE, hin, hn]
theorem hand_ok {c : Config} {r f : Int} {e : Entity} (h : e.right c = true) (hn : has (c.near r) (c.of e.x e.y) = true) (hne : c.of e.x e.y ≠ r) (hf : 0 ≤ f ∧ f < 10000) : blastOk c r f (handE c r f e) := by
  have hw : within f 0 9999 = true := within_iff.2 (by omega)
  refine ⟨?_, rfl, rfl, hn⟩
  simp [Cross.right, handE, hn, hw, h, hne]
/-- Numbers of players, in order. -/
def plI (l : List Entity) : List Int := (l.filter fun e => decide (e.kind = 1)).map Entity.id
theorem plI_same : ∀ {l m : List Entity}, l.map (fun e => (e.id, decide (e.kind = 1))) = m.map (fun e => (e.id, decide (e.kind = 1))) → plI l = plI m
  | [], [], _ => rfl
  | [], _ :: _, h => by simp at h
  | _ :: _, [], h => by simp at h
  | a :: l, b :: m, h => by
    simp only [List.map_cons, List.cons.injEq, Prod.mk.injEq] at h
    have := plI_same h.2
    unfold plI at *
    rw [List.filter_cons, List.filter_cons, ← h.1.2]
    split
    · rw [List.map_cons, List.map_cons, this, h.1.1]
    · exact this
theorem plI_setId {l : List Entity} {p e : Entity} (hs : Srt l) (h : p ∈ l) (hi : e.id = p.id) (hk : e.kind = p.kind) : plI (setId l p.id e) = plI l := by
  obtain ⟨k, h1, h2, h3⟩ := find_of hs h
  rw [setId_eq h1]
  refine plI_same ?_
  rw [List.map_set]
  apply List.ext_getElem?
  intro i
  rw [List.getElem?_set]
  split
  · rename_i hik
    subst hik
    rw [List.length_map, if_pos h2, List.getElem?_map, get_gt h2, Option.map_some, h3, hi, hk]
  · rfl
theorem plI_put1 {l : List Entity} {e : Entity} (hk : e.kind ≠ 1) : plI (put1 l e) = plI l := by
  have hd : decide (e.kind = 1) = false := by simp [hk]
  have : plI (ins l e) = plI l := by
    unfold ins plI
    split
    · rename_i k hk2
      rw [List.filter_append, List.filter_cons, hd]
      conv => rhs; rw [← List.take_append_drop k l, List.filter_append]
      rfl
    · rw [List.filter_append, List.filter_cons, hd]
      simp
  unfold put1
  split
  · rfl
  · exact this
theorem steer1_players {c : Config} {r f : Int} {ins : List Input} {s : Stg} {p : Entity} (hs : Srt s.l) (hp : p ∈ s.l) : plI (steer1 c r f ins s p).l = plI s.l := by
  unfold steer1
  split
  · rfl
  · rename_i hk
    obtain ⟨i1, i2, _⟩ := @steerE_id p (inAt ins p.id)
    split
    · split
      · simp only
        rw [plI_setId (put1_sorted hs) (put1_sub p hp) i1 i2, plI_put1 (by simp [shootE])]
      · exact plI_setId hs hp i1 i2
    · exact plI_setId hs hp i1 i2
theorem steer_fold_players {c : Config} {r f : Int} {ins : List Input} (hr : c.is r = true) (hf : 0 ≤ f ∧ f < 10000) (hins : (ins.length : Int) = c.players) (hi : ∀ i ∈ ins, i.right = true) : ∀ {R : List Entity} {s : Stg}, Steer c r s → Srt R → (∀ p ∈ R, p ∈ s.l) →
    plI (R.foldl (steer1 c r f ins) s).l = plI s.l := by
  intro R
  induction R with
  | nil => intro s h _ _; rfl
  | cons p R ih =>
    intro s h hR hm
    have hp := hm p (List.mem_cons_self ..)
    obtain ⟨h1, h2, h3⟩ := steer1_ok (f := f) (ins := ins) h hr hf hp fun hk => by
      have := Entity.right_player (h.sane.ents p hp).1 hk
      unfold inAt
      exact hi _ (gt_mem (by omega))
    obtain ⟨hR1, hR2⟩ := List.pairwise_cons.1 hR
    have := ih h1 hR2 fun q hq => h2 q (hm q (List.mem_cons_of_mem _ hq)) (by have := hR1 q hq; omega)
    rw [List.foldl_cons, this, steer1_players h.sane.srt hp]
theorem plI_move {c : Config} {A : List Entity} (h : ∀ e ∈ A, e.right c = true) : plI (moveL c A) = plI A := by
  induction A with
  | nil => rfl
  | cons e A ih =>
    have ih := ih fun x hx => h x (List.mem_cons_of_mem _ hx)
    have he := h e (List.mem_cons_self ..)
    unfold moveL plI at *
    by_cases hk : e.kind = 1
    · have hg : (goE c e).2 = true ∧ (goE c e).1.id = e.id ∧ (goE c e).1.kind = 1 := by
        unfold goE
        rw [if_neg (by simp [he]), if_neg (by omega)]
        exact ⟨rfl, rfl, hk⟩
      rw [List.filter_cons, if_pos hg.1, List.map_cons, List.filter_cons, if_pos (by simp [hg.2.2]), List.map_cons, hg.2.1, ih]
      rw [List.filter_cons, if_pos (by simp [hk]), List.map_cons]
    · rw [List.filter_cons]
      conv => rhs; rw [List.filter_cons, if_neg (by simp [hk])]
      split
      · rename_i hg
        have := (goE_id hg).2.1
        rw [List.map_cons, List.filter_cons, if_neg (by simp [this, hk])]
        exact ih
      · exact ih
theorem fall_kind {c : Config} {r f : Int} : ∀ {ids : List Int} {s : Stg}, (∀ m ∈ s.out, m.kind = 2) → ∀ m ∈ (ids.foldl (fall1 c r f) s).out, m.kind = 2
  | [], _, h => h
  | id :: ids, s, h => by
    rw [List.foldl_cons]
    refine fall_kind fun m hm => ?_
    rcases List.mem_append.1 hm with hm | hm
    · exact h m hm
    · obtain ⟨q, _, rfl⟩ := List.mem_map.1 hm
      rfl

/-- What a step leaves and sends, of what is right. -/
theorem stepS_right {c : Config} {r : Int} {s : Region} {ins : List Input} {inbox : List Cross} (h : Fine c r s ins inbox) :
    Sane c r (stepS c r s ins inbox).l ∧ (∀ m ∈ (stepS c r s ins inbox).out, blastOk c r s.frame m) ∧
    (plI (stepS c r s ins inbox).l ++ plI ((stepS c r s ins inbox).out.filter (fun m => decide (m.kind = 1)) |>.map Cross.ent)).Perm (presentL s.ents inbox) := by
  have hrc := Config.is_right h.is
  obtain ⟨hst1, hst2⟩ := steer_ok h
  have hpl := steer_fold_players (ins := ins) h.is h.frame h.len h.ins (R := arriveL s.ents inbox) (s := ⟨arriveL s.ents inbox, 0, []⟩) ⟨h.sane, by simp⟩ h.sane.srt fun p hp => hp
  change plI (steerS c r s.frame ins ⟨arriveL s.ents inbox, 0, []⟩).l = presentL s.ents inbox at hpl
  rw [← hpl]
  unfold stepS restS
  generalize steerS c r s.frame ins ⟨arriveL s.ents inbox, 0, []⟩ = S at *
  obtain ⟨A, made, o⟩ := S
  simp only at hst1 hst2 ⊢
  subst hst2
  have hM := (move_moved hst1.sane).1
  have hpm := plI_move fun e he => (hst1.sane.ents e he).1
  rw [← hpm]
  obtain ⟨hH, hph⟩ := hits_moved (inbox := inbox) hM
  change plI _ = plI _ at hph
  rw [← hph]
  generalize blastsL (gemsL (shotsL (moveL c A))) inbox = H at *
  obtain ⟨hF, hO, hpf⟩ := fall_ok (made := made) h.is h.frame hH
  change plI _ = plI _ at hpf
  rw [← hpf]
  have hmd := (@fall_len c r s.frame (fallenL H) ⟨H, made, []⟩).2.1
  have hki : ∀ m ∈ (fallS c r s.frame ⟨H, made, []⟩).out, m.kind = 2 := fall_kind (by simp)
  change (fallS c r s.frame ⟨H, made, []⟩).made = made at hmd
  generalize fallS c r s.frame ⟨H, made, []⟩ = F at *
  have hG : Still2 c r (growS c r s.frame F).l ∧ (growS c r s.frame F).out = F.out ∧ plI (growS c r s.frame F).l = plI F.l := by
    unfold growS
    split
    · exact ⟨hF, rfl, rfl⟩
    · rename_i hroom
      have hroom : F.room = true := by
        cases hq : F.room with
        | true => rfl
        | false => exact absurd (.inr (.inr hq)) hroom
      have hroom := Stg.room_iff.1 hroom
      obtain ⟨g1, g2⟩ := gem_right (made := F.made) h.is h.frame (by rw [hmd]; exact hst1.made)
      have ht := @put1_things F.l (gemE c r s.frame F.made)
      refine ⟨⟨put1_sorted hF.srt, ?_, fun e he => ?_⟩, rfl, plI_put1 (by simp [gemE])⟩
      · simp only
        split at ht <;> omega
      · rcases put1_mem_iff he with rfl | he
        · exact ⟨g1, by rw [g2]; exact near_self h.is⟩
        · exact hF.ents e he
  obtain ⟨hG1, hG2, hG3⟩ := hG
  rw [← hG3]
  rw [← hG2] at hO hki
  generalize growS c r s.frame F = G at *
  refine ⟨⟨srt_filter hG1.srt, ?_, fun e he => ?_⟩, fun m hm => ?_, ?_⟩
  · have := things_sub (List.filter_sublist (p := fun e => decide (c.of e.x e.y = r)) (l := G.l))
    have := hG1.things
    show things (G.l.filter _) ≤ 24
    omega
  · obtain ⟨h1, h2⟩ := List.mem_filter.1 he
    exact ⟨(hG1.ents e h1).1, by simpa using h2⟩
  · rcases List.mem_append.1 hm with hm | hm
    · exact hO m hm
    · obtain ⟨e, he, rfl⟩ := List.mem_map.1 hm
      obtain ⟨h1, h2⟩ := List.mem_filter.1 he
      exact hand_ok (hG1.ents e h1).1 (hG1.ents e h1).2 (by simpa using h2) h.frame
  · have e1 : (G.out ++ (G.l.filter fun e => !decide (c.of e.x e.y = r)).map (handE c r s.frame)).filter (fun m => decide (m.kind = 1)) = (G.l.filter fun e => !decide (c.of e.x e.y = r)).map (handE c r s.frame) := by
      rw [List.filter_append, List.filter_eq_nil_iff.2 fun m hm => by have := hki m hm; simp; omega, List.nil_append, List.filter_eq_self]
      intro m hm
      obtain ⟨e, _, rfl⟩ := List.mem_map.1 hm
      rfl
    have e2 : ((G.l.filter fun e => !decide (c.of e.x e.y = r)).map (handE c r s.frame)).map Cross.ent = G.l.filter fun e => !decide (c.of e.x e.y = r) := by
      rw [List.map_map]
      exact List.map_id _
    show (plI (G.l.filter fun e => decide (c.of e.x e.y = r)) ++ plI (((G.out ++ (G.l.filter fun e => !decide (c.of e.x e.y = r)).map (handE c r s.frame)).filter fun m => decide (m.kind = 1)).map Cross.ent)).Perm (plI G.l)
    rw [e1, e2]
    have hp := ((List.filter_append_perm (fun e : Entity => decide (c.of e.x e.y = r)) G.l).filter (fun e : Entity => decide (e.kind = 1))).map Entity.id
    rw [List.filter_append, List.map_append] at hp
    exact hp
/-- Messages that go out, sorted. -/
theorem insS_perm {α : Type} {lt : α → α → Bool} {x : α} : ∀ {l : List α}, (insS lt l x).Perm (x :: l)
  | [] => .refl _
  | y :: l => by
    unfold insS
    split
    · exact .refl _
    · exact (List.Perm.cons y insS_perm).trans (.swap x y l)
theorem fold_perm {α : Type} {lt : α → α → Bool} : ∀ {l acc : List α}, (l.foldl (insS lt) acc).Perm (acc ++ l)
  | [], acc => by simp
  | x :: l, acc => by
    rw [List.foldl_cons]
    refine fold_perm.trans ?_
    refine (insS_perm.append_right l).trans ?_
    exact List.perm_middle.symm
theorem sort_perm {α : Type} {lt : α → α → Bool} {l : List α} : (sortS lt l).Perm l := fold_perm
/-- The players of a list, and who is handed over. -/
theorem stepS_keeps {c : Config} {r : Int} {s : Region} {ins : List Input} {inbox : List Cross} (h : Fine c r s ins inbox) :
    (plI (stepS c r s ins inbox).l ++ plI (((sortS Cross.less (stepS c r s ins inbox).out).filter fun m => decide (m.kind = 1)).map Cross.ent)).Perm (presentL s.ents inbox) := by
  refine .trans ?_ (stepS_right h).2.2
  refine List.Perm.append_left _ ?_
  exact ((((sort_perm (lt := Cross.less) (l := (stepS c r s ins inbox).out)).filter fun m : Cross => decide (m.kind = 1)).map Cross.ent).filter fun e : Entity => decide (e.kind = 1)).map Entity.id
/-- How often a number is there. -/
def times (l : List Int) (x : Int) : Nat := l.countP fun y => decide (y = x)
theorem times_none : ∀ {l : List Int} {x : Int}, (∀ y ∈ l, x < y) → times l x = 0 := fun h => by
  unfold times
  rw [List.countP_eq_zero]
  intro y hy
  have := h y hy
  simp; omega
theorem times_one : ∀ {l : List Int} {x : Int}, l.Pairwise (· < ·) → x ∈ l → times l x = 1
  | y :: l, x, h, hx => by
    obtain ⟨h1, h2⟩ := List.pairwise_cons.1 h
    unfold times
    rw [List.countP_cons]
    rcases List.mem_cons.1 hx with rfl | hx
    · have := times_none h1
      unfold times at this
      rw [this]; simp
    · have := times_one h2 hx
      unfold times at this
      have := h1 x hx
      rw [if_neg (by simp; omega)]
      omega
theorem present_srt {c : Config} {r : Int} {s : Region} {ins : List Input} {inbox : List Cross} (h : Fine c r s ins inbox) : (presentL s.ents inbox).Pairwise (· < ·) := by
  unfold presentL
  rw [List.pairwise_map]
  exact List.Pairwise.filter _ h.sane.srt
theorem stepS_sent {c : Config} {r : Int} {s : Region} {ins : List Input} {inbox : List Cross} (h : Fine c r s ins inbox) : ∀ m ∈ sortS Cross.less (stepS c r s ins inbox).out, blastOk c r s.frame m := fun m hm => (stepS_right h).2.1 m (sort_perm.mem_iff.1 hm)
theorem stepS_outs {c : Config} {r : Int} {s : Region} {ins : List Input} {inbox : List Cross} (h : Fine c r s ins inbox) : (sortS Cross.less (stepS c r s ins inbox).out).length ≤ 400 := by
  rw [sort_perm.length_eq]
  have hrc := Config.is_right h.is
  obtain ⟨hst1, hst2⟩ := steer_ok h
  unfold stepS restS
  generalize steerS c r s.frame ins ⟨arriveL s.ents inbox, 0, []⟩ = S at *
  obtain ⟨A, made, o⟩ := S
  simp only at hst1 hst2 ⊢
  subst hst2
  have hM := (move_moved hst1.sane).1
  have hH := ((hits_moved (inbox := inbox) hM).1).len hrc
  simp only at hH
  generalize blastsL (gemsL (shotsL (moveL c A))) inbox = H at *
  obtain ⟨hF, _, hO⟩ := @fall_len c r s.frame (fallenL H) ⟨H, made, []⟩
  change (fallS c r s.frame ⟨H, made, []⟩).l.length = H.length at hF
  change (fallS c r s.frame ⟨H, made, []⟩).out.length = _ at hO
  have hids : (fallenL H).length ≤ 30 := by
    unfold fallenL
    rw [List.length_map]
    exact Nat.le_trans (List.length_filter_le ..) hH
  have hns : (c.near r).length ≤ 9 := near_small
  have hmul : (fallenL H).length * (c.near r).length ≤ 30 * 9 := Nat.mul_le_mul hids hns
  simp only [List.length_nil, Nat.zero_add] at hO
  have hG : (growS c r s.frame (fallS c r s.frame ⟨H, made, []⟩)).l.length ≤ 31 ∧ (growS c r s.frame (fallS c r s.frame ⟨H, made, []⟩)).out.length ≤ 270 := by
    rcases @grow_cases c r s.frame (fallS c r s.frame ⟨H, made, []⟩) with h | h
    · rw [h]; omega
    · rw [h]
      have := (@put1_len (fallS c r s.frame ⟨H, made, []⟩).l (gemE c r s.frame (fallS c r s.frame ⟨H, made, []⟩).made)).2
      simp only; omega
  have := @leave_len c r s.frame (growS c r s.frame (fallS c r s.frame ⟨H, made, []⟩))
  omega
/-- Blasts may come in whatever order. -/
theorem hurt_comm (a b : Cross) (e : Entity) : hurtE a (hurtE b e) = hurtE b (hurtE a e) := by
  have hn : ∀ (e : Entity) (h x y f : Int), nearE { e with health := h } x y f = nearE e x y f := fun _ _ _ _ _ => rfl
  by_cases h1 : a.kind = 2 ∧ e.kind = 1 ∧ nearE e a.x a.y 128 = true
  · by_cases h2 : b.kind = 2 ∧ e.kind = 1 ∧ nearE e b.x b.y 128 = true
    · simp only [hurtE, if_pos h1, if_pos h2, hn]
    · simp only [hurtE, if_pos h1, if_neg h2, hn]
  · by_cases h2 : b.kind = 2 ∧ e.kind = 1 ∧ nearE e b.x b.y 128 = true
    · simp only [hurtE, if_neg h1, if_pos h2, hn]
    · simp only [hurtE, if_neg h1, if_neg h2]
theorem arrive_none {l : List Entity} : ∀ {m : List Cross}, (∀ x ∈ m, x.kind ≠ 1) → arriveL l m = l
  | [], _ => rfl
  | x :: m, h => by
    unfold arriveL
    rw [List.foldl_cons, arrive1, if_neg (fun q => h x (List.mem_cons_self ..) q.1)]
    exact arrive_none fun y hy => h y (List.mem_cons_of_mem _ hy)
theorem stepS_blasts {c : Config} {r : Int} {s : Region} {ins : List Input} {m l : List Cross} (hp : m.Perm l) (hk : ∀ x ∈ l, x.kind ≠ 1) : stepS c r s ins m = stepS c r s ins l := by
  have h1 : arriveL s.ents m = arriveL s.ents l := by rw [arrive_none hk, arrive_none fun x hx => hk x (hp.mem_iff.1 hx)]
  have h2 : ∀ H : List Entity, blastsL H m = blastsL H l := fun H => by
    unfold blastsL
    refine hp.foldl_eq' ?_ H
    intro x _ y _ z
    rw [List.map_map, List.map_map]
    congr 1
    funext e
    exact hurt_comm y x e
  unfold stepS restS
  rw [h1, h2]
/-- Two of a list in each other's place. -/
def swap2 (l : List Cross) (a b : Nat) : List Cross := (l.set a (gt l b)).set b (gt l a)
theorem swap2_perm {l : List Cross} {a b : Nat} (ha : a < l.length) (hb : b < l.length) : (swap2 l a b).Perm l := by
  have := List.set_set_perm ha hb
  have e : ∀ {k : Nat} (h : k < l.length), gt l k = l[k] := fun {k} h => by simp [gt, h]
  unfold swap2
  rw [e ha, e hb]
  exact this
theorem swap2_len {l : List Cross} {a b : Nat} : (swap2 l a b).length = l.length := by simp [swap2]
def turn1 (m : List Cross) (i : Nat) (t : Int) : List Cross := swap2 m (i % m.length) (um t m.length).toNat
def turnN : List Int → Nat → List Cross → List Cross
  | [], _, m => m
  | t :: l, i, m => turnN l (i + 1) (turn1 m i t)
theorem turn1_perm {m : List Cross} {i : Nat} {t : Int} (h : 0 < m.length) : (turn1 m i t).Perm m := by
  have := @um_le t m.length (by omega)
  exact swap2_perm (Nat.mod_lt _ h) (by omega)
theorem turnN_perm : ∀ {l : List Int} {i : Nat} {m : List Cross}, 0 < m.length → (turnN l i m).Perm m
  | [], _, _, _ => .refl _
  | t :: l, i, m, h => (turnN_perm (l := l) (i := i + 1) (m := turn1 m i t) (by rw [turn1, swap2_len]; exact h)).trans (turn1_perm h)
theorem fine_box {c : Config} {r : Int} {s : Region} {ins : List Input} {m l : List Cross} (h : Fine c r s ins m) (hm : ∀ x ∈ l, x ∈ m) : Fine c r s ins l := ⟨h.is, h.frame, h.srt, h.things, h.ents, h.len, h.ins, fun x hx => h.box x (hm x hx)⟩
end Go.Eva

/- What statements make of raw messages; which regions are right, as the document tells it. -/
namespace Go.Eva.S3
theorem f_joustplay_Inbox_loop (c : Config) (r fr : Int) (l : List Cross) (hr : c.is r = true) (hl : long l) (hf : 1 ≤ fr ∧ fr ≤ 10000) : ∀ (d i : Nat) (A : List Cross), i + d = min l.length 12 → A.length ≤ i →
    Is cx (.loop 21 [0, 1, 0, 1, 1] 0 [vi r, vi fr, .t (.sl 15 (l.map Cross.enc)), .ptr 0 0 0, .all 1 none, vi i] [.one 5 (.t c.enc) false, .arr 15 (A.map Cross.enc) none false])
      ⟨.exit 0, [vi r, vi fr, .t (.sl 15 (l.map Cross.enc)), .ptr 0 0 0, .all 1 none, vi (min l.length 12 : Nat)], [.one 5 (.t c.enc) false, .arr 15 ((A ++ (((l.take 12).drop i).map (playM c r fr)).filter fun m => m.right c).map Cross.enc) none false]⟩ := by
  unfold long at hl
  have hcl := @corner_le c r
  have hrc := Config.right_iff.1 (Config.is_right hr)
  have hnp := near_pos hr
  have hns : (c.near r).length ≤ 9 := near_small
  have hw : IntKind.u64.wrap ((c.near r).length : Int) = ((c.near r).length : Int) := wu64 ⟨by omega, by omega, rfl⟩
  have hN := f_joustref03_Near c r
  have hC := f_joustref03_Corner c r
  intro d
  induction d with
  | zero =>
    intro i A hi hA
    obtain rfl : i = min l.length 12 := by omega
    rw [drop_end (by simp; omega)]
    clear hw hN hC
    generalize hm : min l.length 12 = m at *
    by_cases h : m = l.length
    · refine Wp.ev ?_
      refine gg [.n (List.length (List.map Cross.enc l)) (List.length l), .b (decide ((↑m : Int) < (↑(List.length l) : Int))) false, .ff, .ff, .ff] ⟨o_n (by simp), fP, trivial⟩ ?_
      refine rt (a := Res.mk (Ex.exit 0) [vi r, vi fr, V.t (T.sl 15 (List.map Cross.enc l)), V.ptr 0 0 0, V.all 1 none, vi (↑m : Int)] [Ob.one 5 (V.t (Config.enc c)) false, Ob.arr 15 (List.map Cross.enc A) none false]) (by kernel_rfl) ?_
      simp
    · have : m = 12 := by omega
      subst this
      refine Wp.ev ?_
      refine gg [.n (List.length (List.map Cross.enc l)) (List.length l), .b (decide (12 < (↑(List.length l) : Int))) true, .tt, .tt, .b (decide (12 < 12)) false] ⟨o_n (by simp), tP, o_b (by kernel_rfl), trivial⟩ ?_
      refine rt (a := Res.mk (Ex.exit 0) [vi r, vi fr, V.t (T.sl 15 (List.map Cross.enc l)), V.ptr 0 0 0, V.all 1 none, vi 12] [Ob.one 5 (V.t (Config.enc c)) false, Ob.arr 15 (List.map Cross.enc A) none false]) (by kernel_rfl) ?_
      simp
  | succ d ih =>
    intro i A hi hA
    have hlt : i < l.length := by omega
    have e : (l.take 12).drop i = gt l i :: (l.take 12).drop (i + 1) := by
      have hlt2 : i < (l.take 12).length := by simp; omega
      have hg : gt (l.take 12) i = gt l i := by unfold gt; rw [List.getElem?_take, if_pos (by omega)]
      rw [drop_gt hlt2, hg]
    rw [e, List.map_cons, List.filter_cons]
    have ih0 := ih (i + 1) A (by omega) (by omega)
    have ih1 := ih (i + 1) (A ++ [playM c r fr (gt l i)]) (by omega) (by simp; omega)
    rw [List.append_assoc] at ih1
    change Is cx _ ⟨_, _, [_, .arr 15 ((A ++ playM c r fr (gt l i) :: _).map Cross.enc) _ _]⟩ at ih1
    have hR := f_joustref05_Cross c (playM c r fr (gt l i))
    clear ih e
    generalize ((((l.take 12).drop (i + 1)).map (playM c r fr)).filter fun m => m.right c) = X at *
    have hk := @um_le (gt l i).frm (c.near r).length (by omega)
    have hx := @um_le (gt l i).x (c.cols * 1024) (by omega)
    have hy := @um_le (gt l i).y (c.rows * 1024) (by omega)
    have hex := @um_le (gt l i).ent.x 1024 (by decide)
    have hey := @um_le (gt l i).ent.y 1024 (by decide)
    have w1 : w64u (c.cols * 1024) = c.cols * 1024 := wu64 ⟨by omega, by omega, rfl⟩
    have w2 : w64u (c.rows * 1024) = c.rows * 1024 := wu64 ⟨by omega, by omega, rfl⟩
    unfold um at hk hx hy hex hey
    by_cases hkd : (gt l i).kind = 1
    · have ep : playM c r fr (gt l i) = ⟨(gt l i).kind, gt (c.near r) ((IntKind.u64.wrap (gt l i).frm).tmod (c.near r).length).toNat, r, fr - 1, playAt c r (gt l i).ent, 0, 0⟩ := by
        unfold playM w64u
        rw [if_neg (by simp [hkd]), hw]
      cases hq : (playM c r fr (gt l i)).right c with
      | true =>
        rw [if_pos rfl]
        rw [hq] at hR
        rw [ep] at hR ih1 ⊢
        unfold playAt um at hR ih1 ⊢
        clear ih0 hq ep w1 w2 hx hy
        generalize c.cornerX r = cX at *
        generalize c.cornerY r = cY at *
        refine Wp.ev ?_
        refine gg [.n (List.length (List.map Cross.enc l)) (List.length l), .b (decide ((↑i : Int) < (↑(List.length l) : Int))) true, .tt, .tt, .b (decide ((↑i : Int) < 12)) true, .w ((0 : Int) ≤ (↑i : Int)), .n (Int.toNat (↑i : Int)) i, .g (List.map Cross.enc l) i (Cross.enc (gt l i)), .a _ _, .i IntKind.u64 ((gt l i).frm) (IntKind.wrap IntKind.u64 (gt l i).frm), .n (List.length (List.map ti (Config.near c r))) (List.length (Config.near c r)), .i IntKind.u64 ((↑(List.length (Config.near c r)) : Int)) ((↑(List.length (Config.near c r)) : Int)), .w ((↑(List.length (Config.near c r)) : Int) ≠ (0 : Int)), .s (T.int IntKind.u64 (Int.tmod (IntKind.wrap IntKind.u64 (gt l i).frm) (↑(List.length (Config.near c r)) : Int))), .i IntKind.i64 (Int.tmod (IntKind.wrap IntKind.u64 (gt l i).frm) (↑(List.length (Config.near c r)) : Int)) (Int.tmod (IntKind.wrap IntKind.u64 (gt l i).frm) (↑(List.length (Config.near c r)) : Int)), .w ((0 : Int) ≤ Int.tmod (IntKind.wrap IntKind.u64 (gt l i).frm) (↑(List.length (Config.near c r)) : Int))] ⟨o_n (by simp), tP, tP, oW, o_n (by kernel_rfl), o_gt rfl (by assumption) (by intro h; cases h), o_a hN, o_i rfl, o_n (by simp), oU, oW, oI, oW, trivial⟩ ?_
        refine gg [.l (Int.toNat (Int.tmod (IntKind.wrap IntKind.u64 (gt l i).frm) (↑(List.length (Config.near c r)) : Int))), .g (List.map ti (Config.near c r)) (Int.toNat (Int.tmod (IntKind.wrap IntKind.u64 (gt l i).frm) (↑(List.length (Config.near c r)) : Int))) (ti (gt (Config.near c r) (Int.toNat (Int.tmod (IntKind.wrap IntKind.u64 (gt l i).frm) (↑(List.length (Config.near c r)) : Int))))), .i IntKind.i64 (fr - 1) (fr - 1), .b ((gt l i).kind != 1) false, .a _ _, .i IntKind.u64 ((gt l i).ent.x) (IntKind.wrap IntKind.u64 (gt l i).ent.x), .w ((1024 : Int) ≠ (0 : Int)), .s (T.int IntKind.u64 (Int.tmod (IntKind.wrap IntKind.u64 (gt l i).ent.x) 1024)), .i IntKind.i64 (Int.tmod (IntKind.wrap IntKind.u64 (gt l i).ent.x) 1024) (Int.tmod (IntKind.wrap IntKind.u64 (gt l i).ent.x) 1024), .i IntKind.i64 (cX + Int.tmod (IntKind.wrap IntKind.u64 (gt l i).ent.x) 1024) (cX + Int.tmod (IntKind.wrap IntKind.u64 (gt l i).ent.x) 1024), .i IntKind.u64 ((gt l i).ent.y) (IntKind.wrap IntKind.u64 (gt l i).ent.y), .w ((1024 : Int) ≠ (0 : Int)), .s (T.int IntKind.u64 (Int.tmod (IntKind.wrap IntKind.u64 (gt l i).ent.y) 1024)), .i IntKind.i64 (Int.tmod (IntKind.wrap IntKind.u64 (gt l i).ent.y) 1024) (Int.tmod (IntKind.wrap IntKind.u64 (gt l i).ent.y) 1024), .i IntKind.i64 (cY + Int.tmod (IntKind.wrap IntKind.u64 (gt l i).ent.y) 1024) (cY + Int.tmod (IntKind.wrap IntKind.u64 (gt l i).ent.y) 1024), .a _ _] ⟨oT, oI, f_brn (by assumption), o_a hC, o_i rfl, o_w (by intro h; cases h), oI, oI, o_i rfl, o_w (by intro h; cases h), oI, oI, o_a hR, trivial⟩ ?_
        refine gg [.tt, .w ((0 : Nat) < (120 : Nat)), .s (T.sl 0 [T.agg [ti (gt l i).kind, ti (gt (Config.near c r) (Int.toNat (Int.tmod (IntKind.wrap IntKind.u64 (gt l i).frm) (↑(List.length (Config.near c r)) : Int)))), ti r, ti (fr - 1), ti (gt l i).ent.id, ti (gt l i).ent.kind, ti (cX + Int.tmod (IntKind.wrap IntKind.u64 (gt l i).ent.x) 1024), ti (cY + Int.tmod (IntKind.wrap IntKind.u64 (gt l i).ent.y) 1024), ti (gt l i).ent.vx, ti (gt l i).ent.vy, ti (gt l i).ent.health, ti (gt l i).ent.age, ti (gt l i).ent.owner, ti 0, ti 0]]), .t (T.sl 0 (List.map Cross.enc A ++ [T.agg [ti (gt l i).kind, ti (gt (Config.near c r) (Int.toNat (Int.tmod (IntKind.wrap IntKind.u64 (gt l i).frm) (↑(List.length (Config.near c r)) : Int)))), ti r, ti (fr - 1), ti (gt l i).ent.id, ti (gt l i).ent.kind, ti (cX + Int.tmod (IntKind.wrap IntKind.u64 (gt l i).ent.x) 1024), ti (cY + Int.tmod (IntKind.wrap IntKind.u64 (gt l i).ent.y) 1024), ti (gt l i).ent.vx, ti (gt l i).ent.vy, ti (gt l i).ent.health, ti (gt l i).ent.age, ti (gt l i).ent.owner, ti 0, ti 0]])) (T.sl 0 (List.map Cross.enc (A ++ [Cross.mk (gt l i).kind (gt (Config.near c r) (Int.toNat (Int.tmod (IntKind.wrap IntKind.u64 (gt l i).frm) (↑(List.length (Config.near c r)) : Int)))) r (fr - 1) (Entity.mk (gt l i).ent.id (gt l i).ent.kind (cX + Int.tmod (IntKind.wrap IntKind.u64 (gt l i).ent.x) 1024) (cY + Int.tmod (IntKind.wrap IntKind.u64 (gt l i).ent.y) 1024) (gt l i).ent.vx (gt l i).ent.vy (gt l i).ent.health (gt l i).ent.age (gt l i).ent.owner) 0 0]))), .w (room (List.length (List.map Cross.enc (A ++ [Cross.mk (gt l i).kind (gt (Config.near c r) (Int.toNat (Int.tmod (IntKind.wrap IntKind.u64 (gt l i).frm) (↑(List.length (Config.near c r)) : Int)))) r (fr - (1 : Int)) (Entity.mk (gt l i).ent.id (gt l i).ent.kind (cX + Int.tmod (IntKind.wrap IntKind.u64 (gt l i).ent.x) (1024 : Int)) (cY + Int.tmod (IntKind.wrap IntKind.u64 (gt l i).ent.y) (1024 : Int)) (gt l i).ent.vx (gt l i).ent.vy (gt l i).ent.health (gt l i).ent.age (gt l i).ent.owner) (0 : Int) (0 : Int)]))) (120 : Nat)), .i IntKind.i64 ((↑i : Int) + 1) ((↑(i + 1) : Int)), .a _ _] ⟨oW, o_l (nm_app rfl (nm_cons (e := Cross.mk (gt l i).kind (gt (Config.near c r) (Int.toNat (Int.tmod (IntKind.wrap IntKind.u64 (gt l i).frm) (↑(List.length (Config.near c r)) : Int)))) r (fr - 1) (Entity.mk (gt l i).ent.id (gt l i).ent.kind (cX + Int.tmod (IntKind.wrap IntKind.u64 (gt l i).ent.x) 1024) (cY + Int.tmod (IntKind.wrap IntKind.u64 (gt l i).ent.y) 1024) (gt l i).ent.vx (gt l i).ent.vy (gt l i).ent.health (gt l i).ent.age (gt l i).ent.owner) 0 0) rfl nm_nil)), o_w (by (simp [room, appendMax]; omega)), oI, o_a ih1, trivial⟩ ?_
        exact ge
      | false =>
        rw [if_neg (by simp)]
        rw [hq] at hR
        rw [ep] at hR
        unfold playAt um at hR
        clear ih1 hq ep w1 w2 hx hy
        generalize c.cornerX r = cX at *
        generalize c.cornerY r = cY at *
        refine Wp.ev ?_
        refine gg [.n (List.length (List.map Cross.enc l)) (List.length l), .b (decide ((↑i : Int) < (↑(List.length l) : Int))) true, .tt, .tt, .b (decide ((↑i : Int) < 12)) true, .w ((0 : Int) ≤ (↑i : Int)), .n (Int.toNat (↑i : Int)) i, .g (List.map Cross.enc l) i (Cross.enc (gt l i)), .a _ _, .i IntKind.u64 ((gt l i).frm) (IntKind.wrap IntKind.u64 (gt l i).frm), .n (List.length (List.map ti (Config.near c r))) (List.length (Config.near c r)), .i IntKind.u64 ((↑(List.length (Config.near c r)) : Int)) ((↑(List.length (Config.near c r)) : Int)), .w ((↑(List.length (Config.near c r)) : Int) ≠ (0 : Int)), .s (T.int IntKind.u64 (Int.tmod (IntKind.wrap IntKind.u64 (gt l i).frm) (↑(List.length (Config.near c r)) : Int))), .i IntKind.i64 (Int.tmod (IntKind.wrap IntKind.u64 (gt l i).frm) (↑(List.length (Config.near c r)) : Int)) (Int.tmod (IntKind.wrap IntKind.u64 (gt l i).frm) (↑(List.length (Config.near c r)) : Int)), .w ((0 : Int) ≤ Int.tmod (IntKind.wrap IntKind.u64 (gt l i).frm) (↑(List.length (Config.near c r)) : Int))] ⟨o_n (by simp), tP, tP, oW, o_n (by kernel_rfl), o_gt rfl (by assumption) (by intro h; cases h), o_a hN, o_i rfl, o_n (by simp), oU, oW, oI, oW, trivial⟩ ?_
        refine gg [.l (Int.toNat (Int.tmod (IntKind.wrap IntKind.u64 (gt l i).frm) (↑(List.length (Config.near c r)) : Int))), .g (List.map ti (Config.near c r)) (Int.toNat (Int.tmod (IntKind.wrap IntKind.u64 (gt l i).frm) (↑(List.length (Config.near c r)) : Int))) (ti (gt (Config.near c r) (Int.toNat (Int.tmod (IntKind.wrap IntKind.u64 (gt l i).frm) (↑(List.length (Config.near c r)) : Int))))), .i IntKind.i64 (fr - 1) (fr - 1), .b ((gt l i).kind != 1) false, .a _ _, .i IntKind.u64 ((gt l i).ent.x) (IntKind.wrap IntKind.u64 (gt l i).ent.x), .w ((1024 : Int) ≠ (0 : Int)), .s (T.int IntKind.u64 (Int.tmod (IntKind.wrap IntKind.u64 (gt l i).ent.x) 1024)), .i IntKind.i64 (Int.tmod (IntKind.wrap IntKind.u64 (gt l i).ent.x) 1024) (Int.tmod (IntKind.wrap IntKind.u64 (gt l i).ent.x) 1024), .i IntKind.i64 (cX + Int.tmod (IntKind.wrap IntKind.u64 (gt l i).ent.x) 1024) (cX + Int.tmod (IntKind.wrap IntKind.u64 (gt l i).ent.x) 1024), .i IntKind.u64 ((gt l i).ent.y) (IntKind.wrap IntKind.u64 (gt l i).ent.y), .w ((1024 : Int) ≠ (0 : Int)), .s (T.int IntKind.u64 (Int.tmod (IntKind.wrap IntKind.u64 (gt l i).ent.y) 1024)), .i IntKind.i64 (Int.tmod (IntKind.wrap IntKind.u64 (gt l i).ent.y) 1024) (Int.tmod (IntKind.wrap IntKind.u64 (gt l i).ent.y) 1024), .i IntKind.i64 (cY + Int.tmod (IntKind.wrap IntKind.u64 (gt l i).ent.y) 1024) (cY + Int.tmod (IntKind.wrap IntKind.u64 (gt l i).ent.y) 1024), .a _ _] ⟨oT, oI, f_brn (by assumption), o_a hC, o_i rfl, o_w (by intro h; cases h), oI, oI, o_i rfl, o_w (by intro h; cases h), oI, oI, o_a hR, trivial⟩ ?_
        refine gg [.ff, .i IntKind.i64 ((↑i : Int) + 1) ((↑(i + 1) : Int)), .a _ _] ⟨oI, o_a ih0, trivial⟩ ?_
        exact ge
    · have ep : playM c r fr (gt l i) = ⟨2, gt (c.near r) ((IntKind.u64.wrap (gt l i).frm).tmod (c.near r).length).toNat, r, fr - 1, Entity.zero, (IntKind.u64.wrap (gt l i).x).tmod (c.cols * 1024), (IntKind.u64.wrap (gt l i).y).tmod (c.rows * 1024)⟩ := by
        unfold playM
        rw [if_pos hkd, w1, w2]
        unfold w64u
        rw [hw]
      cases hq : (playM c r fr (gt l i)).right c with
      | true =>
        rw [if_pos rfl]
        rw [hq] at hR
        rw [ep] at hR ih1 ⊢
        unfold Entity.zero at hR
        clear ih0 hq ep hex hey hC
        refine Wp.ev ?_
        refine gg [.n (List.length (List.map Cross.enc l)) (List.length l), .b (decide ((↑i : Int) < (↑(List.length l) : Int))) true, .tt, .tt, .b (decide ((↑i : Int) < 12)) true, .w ((0 : Int) ≤ (↑i : Int)), .n (Int.toNat (↑i : Int)) i, .g (List.map Cross.enc l) i (Cross.enc (gt l i)), .a _ _, .i IntKind.u64 ((gt l i).frm) (IntKind.wrap IntKind.u64 (gt l i).frm), .n (List.length (List.map ti (Config.near c r))) (List.length (Config.near c r)), .i IntKind.u64 ((↑(List.length (Config.near c r)) : Int)) ((↑(List.length (Config.near c r)) : Int)), .w ((↑(List.length (Config.near c r)) : Int) ≠ (0 : Int)), .s (T.int IntKind.u64 (Int.tmod (IntKind.wrap IntKind.u64 (gt l i).frm) (↑(List.length (Config.near c r)) : Int))), .i IntKind.i64 (Int.tmod (IntKind.wrap IntKind.u64 (gt l i).frm) (↑(List.length (Config.near c r)) : Int)) (Int.tmod (IntKind.wrap IntKind.u64 (gt l i).frm) (↑(List.length (Config.near c r)) : Int)), .w ((0 : Int) ≤ Int.tmod (IntKind.wrap IntKind.u64 (gt l i).frm) (↑(List.length (Config.near c r)) : Int))] ⟨o_n (by simp), tP, tP, oW, o_n (by kernel_rfl), o_gt rfl (by assumption) (by intro h; cases h), o_a hN, o_i rfl, o_n (by simp), oU, oW, oI, oW, trivial⟩ ?_
        refine gg [.l (Int.toNat (Int.tmod (IntKind.wrap IntKind.u64 (gt l i).frm) (↑(List.length (Config.near c r)) : Int))), .g (List.map ti (Config.near c r)) (Int.toNat (Int.tmod (IntKind.wrap IntKind.u64 (gt l i).frm) (↑(List.length (Config.near c r)) : Int))) (ti (gt (Config.near c r) (Int.toNat (Int.tmod (IntKind.wrap IntKind.u64 (gt l i).frm) (↑(List.length (Config.near c r)) : Int))))), .i IntKind.i64 (fr - 1) (fr - 1), .b ((gt l i).kind != 1) true, .i IntKind.u64 ((gt l i).x) (IntKind.wrap IntKind.u64 (gt l i).x), .i IntKind.i64 (c.cols * 1024) (c.cols * 1024), .i IntKind.u64 (c.cols * 1024) (c.cols * 1024), .w (c.cols * (1024 : Int) ≠ (0 : Int)), .s (T.int IntKind.u64 (Int.tmod (IntKind.wrap IntKind.u64 (gt l i).x) (c.cols * 1024))), .i IntKind.i64 (Int.tmod (IntKind.wrap IntKind.u64 (gt l i).x) (c.cols * 1024)) (Int.tmod (IntKind.wrap IntKind.u64 (gt l i).x) (c.cols * 1024)), .i IntKind.u64 ((gt l i).y) (IntKind.wrap IntKind.u64 (gt l i).y)] ⟨oT, oI, t_brn (by assumption), o_i rfl, oI, oU, oW, oI, o_i rfl, trivial⟩ ?_
        refine bo (by kernel_rfl) ?_ ?_
        · refine gg [.i IntKind.i64 (c.rows * 1024) (c.rows * 1024), .i IntKind.u64 (c.rows * 1024) (c.rows * 1024), .w (c.rows * (1024 : Int) ≠ (0 : Int)), .s (T.int IntKind.u64 (Int.tmod (IntKind.wrap IntKind.u64 (gt l i).y) (c.rows * 1024))), .i IntKind.i64 (Int.tmod (IntKind.wrap IntKind.u64 (gt l i).y) (c.rows * 1024)) (Int.tmod (IntKind.wrap IntKind.u64 (gt l i).y) (c.rows * 1024)), .a _ _, .tt, .w ((0 : Nat) < (120 : Nat)), .s (T.sl 0 [T.agg [ti 2, ti (gt (Config.near c r) (Int.toNat (Int.tmod (IntKind.wrap IntKind.u64 (gt l i).frm) (↑(List.length (Config.near c r)) : Int)))), ti r, ti (fr - 1), ti 0, ti 0, ti 0, ti 0, ti 0, ti 0, ti 0, ti 0, ti 0, ti (Int.tmod (IntKind.wrap IntKind.u64 (gt l i).x) (c.cols * 1024)), ti (Int.tmod (IntKind.wrap IntKind.u64 (gt l i).y) (c.rows * 1024))]]), .t (T.sl 0 (List.map Cross.enc A ++ [T.agg [ti 2, ti (gt (Config.near c r) (Int.toNat (Int.tmod (IntKind.wrap IntKind.u64 (gt l i).frm) (↑(List.length (Config.near c r)) : Int)))), ti r, ti (fr - 1), ti 0, ti 0, ti 0, ti 0, ti 0, ti 0, ti 0, ti 0, ti 0, ti (Int.tmod (IntKind.wrap IntKind.u64 (gt l i).x) (c.cols * 1024)), ti (Int.tmod (IntKind.wrap IntKind.u64 (gt l i).y) (c.rows * 1024))]])) (T.sl 0 (List.map Cross.enc (A ++ [Cross.mk 2 (gt (Config.near c r) (Int.toNat (Int.tmod (IntKind.wrap IntKind.u64 (gt l i).frm) (↑(List.length (Config.near c r)) : Int)))) r (fr - 1) (Entity.mk 0 0 0 0 0 0 0 0 0) (Int.tmod (IntKind.wrap IntKind.u64 (gt l i).x) (c.cols * 1024)) (Int.tmod (IntKind.wrap IntKind.u64 (gt l i).y) (c.rows * 1024))]))), .w (room (List.length (List.map Cross.enc (A ++ [Cross.mk (2 : Int) (gt (Config.near c r) (Int.toNat (Int.tmod (IntKind.wrap IntKind.u64 (gt l i).frm) (↑(List.length (Config.near c r)) : Int)))) r (fr - (1 : Int)) (Entity.mk (0 : Int) (0 : Int) (0 : Int) (0 : Int) (0 : Int) (0 : Int) (0 : Int) (0 : Int) (0 : Int)) (Int.tmod (IntKind.wrap IntKind.u64 (gt l i).x) (c.cols * (1024 : Int))) (Int.tmod (IntKind.wrap IntKind.u64 (gt l i).y) (c.rows * (1024 : Int)))]))) (120 : Nat)), .i IntKind.i64 ((↑i : Int) + 1) ((↑(i + 1) : Int)), .a _ _] ⟨oI, oU, oW, oI, o_a hR, oW, o_l (nm_app rfl (nm_cons (e := Cross.mk 2 (gt (Config.near c r) (Int.toNat (Int.tmod (IntKind.wrap IntKind.u64 (gt l i).frm) (↑(List.length (Config.near c r)) : Int)))) r (fr - 1) (Entity.mk 0 0 0 0 0 0 0 0 0) (Int.tmod (IntKind.wrap IntKind.u64 (gt l i).x) (c.cols * 1024)) (Int.tmod (IntKind.wrap IntKind.u64 (gt l i).y) (c.rows * 1024))) rfl nm_nil)), o_w (by (simp [room, appendMax]; omega)), oI, o_a ih1, trivial⟩ ?_
          exact ge
        · refine gg [.i IntKind.i64 (c.rows * 1024) (c.rows * 1024), .i IntKind.u64 (c.rows * 1024) (c.rows * 1024), .w (c.rows * (1024 : Int) ≠ (0 : Int)), .s (T.int IntKind.u64 (Int.tmod (IntKind.wrap IntKind.u64 (gt l i).y) (c.rows * 1024))), .i IntKind.i64 (Int.tmod (IntKind.wrap IntKind.u64 (gt l i).y) (c.rows * 1024)) (Int.tmod (IntKind.wrap IntKind.u64 (gt l i).y) (c.rows * 1024)), .a _ _, .tt, .w ((0 : Nat) < (120 : Nat)), .s (T.sl 0 [T.agg [ti 2, ti (gt (Config.near c r) (Int.toNat (Int.tmod (IntKind.wrap IntKind.u64 (gt l i).frm) (↑(List.length (Config.near c r)) : Int)))), ti r, ti (fr - 1), ti 0, ti 0, ti 0, ti 0, ti 0, ti 0, ti 0, ti 0, ti 0, ti (Int.tmod (IntKind.wrap IntKind.u64 (gt l i).x) (c.cols * 1024)), ti (Int.tmod (IntKind.wrap IntKind.u64 (gt l i).y) (c.rows * 1024))]]), .t (T.sl 0 (List.map Cross.enc A ++ [T.agg [ti 2, ti (gt (Config.near c r) (Int.toNat (Int.tmod (IntKind.wrap IntKind.u64 (gt l i).frm) (↑(List.length (Config.near c r)) : Int)))), ti r, ti (fr - 1), ti 0, ti 0, ti 0, ti 0, ti 0, ti 0, ti 0, ti 0, ti 0, ti (Int.tmod (IntKind.wrap IntKind.u64 (gt l i).x) (c.cols * 1024)), ti (Int.tmod (IntKind.wrap IntKind.u64 (gt l i).y) (c.rows * 1024))]])) (T.sl 0 (List.map Cross.enc (A ++ [Cross.mk 2 (gt (Config.near c r) (Int.toNat (Int.tmod (IntKind.wrap IntKind.u64 (gt l i).frm) (↑(List.length (Config.near c r)) : Int)))) r (fr - 1) (Entity.mk 0 0 0 0 0 0 0 0 0) (Int.tmod (IntKind.wrap IntKind.u64 (gt l i).x) (c.cols * 1024)) (Int.tmod (IntKind.wrap IntKind.u64 (gt l i).y) (c.rows * 1024))]))), .w (room (List.length (List.map Cross.enc (A ++ [Cross.mk (2 : Int) (gt (Config.near c r) (Int.toNat (Int.tmod (IntKind.wrap IntKind.u64 (gt l i).frm) (↑(List.length (Config.near c r)) : Int)))) r (fr - (1 : Int)) (Entity.mk (0 : Int) (0 : Int) (0 : Int) (0 : Int) (0 : Int) (0 : Int) (0 : Int) (0 : Int) (0 : Int)) (Int.tmod (IntKind.wrap IntKind.u64 (gt l i).x) (c.cols * (1024 : Int))) (Int.tmod (IntKind.wrap IntKind.u64 (gt l i).y) (c.rows * (1024 : Int)))]))) (120 : Nat)), .i IntKind.i64 ((↑i : Int) + 1) ((↑(i + 1) : Int)), .a _ _] ⟨oI, oU, oW, oI, o_a hR, oW, o_l (nm_app rfl (nm_cons (e := Cross.mk 2 (gt (Config.near c r) (Int.toNat (Int.tmod (IntKind.wrap IntKind.u64 (gt l i).frm) (↑(List.length (Config.near c r)) : Int)))) r (fr - 1) (Entity.mk 0 0 0 0 0 0 0 0 0) (Int.tmod (IntKind.wrap IntKind.u64 (gt l i).x) (c.cols * 1024)) (Int.tmod (IntKind.wrap IntKind.u64 (gt l i).y) (c.rows * 1024))) rfl nm_nil)), o_w (by (simp [room, appendMax]; omega)), oI, o_a ih1, trivial⟩ ?_
          exact ge
      | false =>
        rw [if_neg (by simp)]
        rw [hq] at hR
        rw [ep] at hR
        unfold Entity.zero at hR
        clear ih1 hq ep hex hey hC
        refine Wp.ev ?_
        refine gg [.n (List.length (List.map Cross.enc l)) (List.length l), .b (decide ((↑i : Int) < (↑(List.length l) : Int))) true, .tt, .tt, .b (decide ((↑i : Int) < 12)) true, .w ((0 : Int) ≤ (↑i : Int)), .n (Int.toNat (↑i : Int)) i, .g (List.map Cross.enc l) i (Cross.enc (gt l i)), .a _ _, .i IntKind.u64 ((gt l i).frm) (IntKind.wrap IntKind.u64 (gt l i).frm), .n (List.length (List.map ti (Config.near c r))) (List.length (Config.near c r)), .i IntKind.u64 ((↑(List.length (Config.near c r)) : Int)) ((↑(List.length (Config.near c r)) : Int)), .w ((↑(List.length (Config.near c r)) : Int) ≠ (0 : Int)), .s (T.int IntKind.u64 (Int.tmod (IntKind.wrap IntKind.u64 (gt l i).frm) (↑(List.length (Config.near c r)) : Int))), .i IntKind.i64 (Int.tmod (IntKind.wrap IntKind.u64 (gt l i).frm) (↑(List.length (Config.near c r)) : Int)) (Int.tmod (IntKind.wrap IntKind.u64 (gt l i).frm) (↑(List.length (Config.near c r)) : Int)), .w ((0 : Int) ≤ Int.tmod (IntKind.wrap IntKind.u64 (gt l i).frm) (↑(List.length (Config.near c r)) : Int))] ⟨o_n (by simp), tP, tP, oW, o_n (by kernel_rfl), o_gt rfl (by assumption) (by intro h; cases h), o_a hN, o_i rfl, o_n (by simp), oU, oW, oI, oW, trivial⟩ ?_
        refine gg [.l (Int.toNat (Int.tmod (IntKind.wrap IntKind.u64 (gt l i).frm) (↑(List.length (Config.near c r)) : Int))), .g (List.map ti (Config.near c r)) (Int.toNat (Int.tmod (IntKind.wrap IntKind.u64 (gt l i).frm) (↑(List.length (Config.near c r)) : Int))) (ti (gt (Config.near c r) (Int.toNat (Int.tmod (IntKind.wrap IntKind.u64 (gt l i).frm) (↑(List.length (Config.near c r)) : Int))))), .i IntKind.i64 (fr - 1) (fr - 1), .b ((gt l i).kind != 1) true, .i IntKind.u64 ((gt l i).x) (IntKind.wrap IntKind.u64 (gt l i).x), .i IntKind.i64 (c.cols * 1024) (c.cols * 1024), .i IntKind.u64 (c.cols * 1024) (c.cols * 1024), .w (c.cols * (1024 : Int) ≠ (0 : Int)), .s (T.int IntKind.u64 (Int.tmod (IntKind.wrap IntKind.u64 (gt l i).x) (c.cols * 1024))), .i IntKind.i64 (Int.tmod (IntKind.wrap IntKind.u64 (gt l i).x) (c.cols * 1024)) (Int.tmod (IntKind.wrap IntKind.u64 (gt l i).x) (c.cols * 1024)), .i IntKind.u64 ((gt l i).y) (IntKind.wrap IntKind.u64 (gt l i).y)] ⟨oT, oI, t_brn (by assumption), o_i rfl, oI, oU, oW, oI, o_i rfl, trivial⟩ ?_
        refine bo (by kernel_rfl) ?_ ?_
        · refine gg [.i IntKind.i64 (c.rows * 1024) (c.rows * 1024), .i IntKind.u64 (c.rows * 1024) (c.rows * 1024), .w (c.rows * (1024 : Int) ≠ (0 : Int)), .s (T.int IntKind.u64 (Int.tmod (IntKind.wrap IntKind.u64 (gt l i).y) (c.rows * 1024))), .i IntKind.i64 (Int.tmod (IntKind.wrap IntKind.u64 (gt l i).y) (c.rows * 1024)) (Int.tmod (IntKind.wrap IntKind.u64 (gt l i).y) (c.rows * 1024)), .a _ _, .ff, .i IntKind.i64 ((↑i : Int) + 1) ((↑(i + 1) : Int)), .a _ _] ⟨oI, oU, oW, oI, o_a hR, oI, o_a ih0, trivial⟩ ?_
          exact ge
        · refine gg [.i IntKind.i64 (c.rows * 1024) (c.rows * 1024), .i IntKind.u64 (c.rows * 1024) (c.rows * 1024), .w (c.rows * (1024 : Int) ≠ (0 : Int)), .s (T.int IntKind.u64 (Int.tmod (IntKind.wrap IntKind.u64 (gt l i).y) (c.rows * 1024))), .i IntKind.i64 (Int.tmod (IntKind.wrap IntKind.u64 (gt l i).y) (c.rows * 1024)) (Int.tmod (IntKind.wrap IntKind.u64 (gt l i).y) (c.rows * 1024)), .a _ _, .ff, .i IntKind.i64 ((↑i : Int) + 1) ((↑(i + 1) : Int)), .a _ _] ⟨oI, oU, oW, oI, o_a hR, oI, o_a ih0, trivial⟩ ?_
          exact ge
theorem f_joustplay_Inbox (c : Config) (r fr : Int) (l : List Cross) (hr : c.is r = true) (hl : long l) (hf : 1 ≤ fr ∧ fr ≤ 10000) : Fn cx 21 [c.enc, ti r, ti fr, .sl 15 (l.map Cross.enc)] (.sl 15 ((playInbox c r fr l).map Cross.enc)) := by
  have h := f_joustplay_Inbox_loop c r fr l hr hl hf (min l.length 12) 0 [] (by omega) (by simp)
  rw [List.drop_zero, List.nil_append] at h
  unfold playInbox
  generalize (((l.take 12).map (playM c r fr)).filter fun m => m.right c) = X at *
  generalize min l.length 12 = m at *
  refine Wp.ev ?_
  refine gg [.a _ _] ⟨o_a h, trivial⟩ ?_
  exact ge
end Go.Eva.S3

/- Hits. -/
namespace Go.Eva.S3
theorem f_hitting_near (e : Entity) (x y far : Int) : Fn cx 115 [e.enc, ti x, ti y, ti far] (.bool (nearE e x y far)) := by
  refine Wp.ev ?_
  refine gg [.a _ _] ⟨o_a (f_fixed_Far e.x e.y x y), trivial⟩ ?_
  exact ge
theorem f_hitting_meet_1 (t p : Entity) (g : Nat) (other : Entity → Entity → Bool) (far : Int) (hb : isFnB cx g = true) (hg : Fn cx g [t.enc, p.enc] (.bool (other t p))) :
    Fn cx 169 [p.enc, .ip 1 (.clo g []) 0, .ip 9 t.enc 0, .ip 1 (ti far) 0] (.bool (meetP far other t p)) := by
  have hn := f_hitting_near p t.x t.y far
  by_cases hk : p.kind = 1
  · cases ho : other t p with
    | true =>
      rw [ho] at hg
      refine Wp.ev ?_
      refine gg [.b (p.kind == 1) true, .tt, .tt, .tt, .w (isFnB cx g = true), .a _ _, .tt, .tt, .tt, .tt, .tt, .tt, .tt, .tt, .a _ _, .tt] ⟨t_bre (by assumption), oA, o_a hg, o_a hn, trivial⟩ ?_
      refine rt (a := Res.mk Ex.ret [vb (nearE p t.x t.y far)] []) (by kernel_rfl) ?_
      simp [meetP, hk, ho]
    | false =>
      rw [ho] at hg
      refine Wp.ev ?_
      refine gg [.b (p.kind == 1) true, .tt, .tt, .tt, .w (isFnB cx g = true), .a _ _, .tt, .ff, .ff, .ff, .ff, .ff, .ff, .ff, .ff] ⟨t_bre (by assumption), oA, o_a hg, trivial⟩ ?_
      refine rt (a := Res.mk Ex.ret [vb false] []) (by kernel_rfl) ?_
      simp [meetP, hk, ho]
  · refine Wp.ev ?_
    refine gg [.b (p.kind == 1) false, .ff, .ff, .ff, .ff, .ff, .ff, .ff, .ff, .ff, .ff, .ff, .ff] ⟨f_bre (by assumption), trivial⟩ ?_
    refine rt (a := Res.mk Ex.ret [vb false] []) (by kernel_rfl) ?_
    simp [meetP, hk]
theorem f_hitting_meet_loop0 (kind far : Int) (g h : Nat) (other : Entity → Entity → Bool) (turn : Int → Int) (n : Nat) (hn : n ≤ 1000000) (hb : isFnB cx g = true) (hb2 : isFnB cx h = true)
    (hg : ∀ t p : Entity, Fn cx g [t.enc, p.enc] (.bool (other t p))) (hh : ∀ v : Int, Fn cx h [ti v] (ti (turn v))) : ∀ (d i : Nat) (out : List Entity) (gone : List Bool), i + d = n → out.length = n → gone.length = n →
    Is cx (.loop 117 [0, 1, 0, 1, 1, 1] 0 [vi kind, .t (.clo h []), .ptr 0 0 0, .ptr 1 0 0, .all 2 none, .all 3 none, .all 2 none, vi n, vi i] [.one 1 (.t (ti far)) false, .one 1 (.t (.clo g [])) false, .arr 9 (out.map Entity.enc) none false, .arr 1 (gone.map T.bool) (some 0) false])
      ⟨.exit 0, [vi kind, .t (.clo h []), .ptr 0 0 0, .ptr 1 0 0, .all 2 none, .all 3 none, .all 2 none, vi n, vi n], [.one 1 (.t (ti far)) false, .one 1 (.t (.clo g [])) false, .arr 9 ((meetN kind far other turn d i out gone).1.map Entity.enc) none false, .arr 1 ((meetN kind far other turn d i out gone).2.map T.bool) (some 0) false]⟩ := by
  intro d
  induction d with
  | zero =>
    intro i out gone hi ho hgo
    unfold meetN
    refine Wp.ev ?_
    refine gg [.b (decide ((↑i : Int) < (↑n : Int))) false] ⟨fP, trivial⟩ ?_
    refine rt (a := Res.mk (Ex.exit 0) [vi kind, V.t (T.clo h []), V.ptr 0 0 0, V.ptr 1 0 0, V.all 2 none, V.all 3 none, V.all 2 none, vi (↑n : Int), vi (↑i : Int)] [Ob.one 1 (vi far) false, Ob.one 1 (V.t (T.clo g [])) false, Ob.arr 9 (List.map Entity.enc out) none false, Ob.arr 1 (List.map T.bool gone) (some 0) false]) (by kernel_rfl) ?_
    ((have hq : i = n := by omega); subst hq; rfl)
  | succ d ih =>
    intro i out gone hi ho hgo
    rw [meetN]
    have hlt : i < out.length := by omega
    by_cases hk : (gt out i).kind = kind
    · have hI := f_slices_IndexFunc_Entity out 169 [.ip 1 (.clo g []) 0, .ip 9 (gt out i).enc 0, .ip 1 (ti far) 0] (meetP far other (gt out i)) (by kernel_rfl) (by unfold small; omega) (fun p _ => f_hitting_meet_1 (gt out i) p g other far hb (hg _ _))
      cases hq : out.findIdx? (meetP far other (gt out i)) with
      | some k =>
        have e1 : meet1 kind far other turn out gone i = (out.set k { gt out k with health := turn (gt out k).health }, gone.set i true) := by simp [meet1, hk, hq]
        rw [e1]
        rw [pos_some hq] at hI
        have hkl := (List.findIdx?_eq_some_iff_getElem.1 hq).1
        have ht := hh (gt out k).health
        have ih1 := ih (i + 1) (out.set k { gt out k with health := turn (gt out k).health }) (gone.set i true) (by omega) (by simpa using ho) (by simpa using hgo)
        clear ih hg hh hq e1
        refine Wp.ev ?_
        refine gg [.b (decide ((↑i : Int) < (↑n : Int))) true, .w ((0 : Int) ≤ (↑i : Int)), .n (Int.toNat (↑i : Int)) i, .w (i < List.length (List.map Entity.enc out)), .g (List.map Entity.enc out) i (Entity.enc (gt out i)), .b ((gt out i).kind != kind) false, .a _ _, .b (flats [ti (↑k : Int)]) true, .b (decide ((↑k : Int) ≥ 0)) true, .w ((0 : Int) ≤ (↑k : Int)), .n (Int.toNat (↑k : Int)) k, .w (k < List.length (List.map Entity.enc out)), .g (List.map Entity.enc out) k (Entity.enc (gt out k)), .w (isFnB cx h = true), .a _ _, .w ((0 : Int) ≤ (↑k : Int))] ⟨tP, oW, o_n (by kernel_rfl), o_w (by (simp; omega)), o_gt rfl (by assumption) (by intro h; cases h), f_brn (by assumption), o_a hI, o_b (by kernel_rfl), o_b (by kernel_rfl), oW, o_n (by kernel_rfl), o_w (by (simp; omega)), o_gt rfl (by assumption) (by intro h; cases h), oA, o_a ht, oW, trivial⟩ ?_
        refine gg [.n (Int.toNat (↑k : Int)) k, .w (k < List.length (List.map Entity.enc out)), .g (List.map Entity.enc out) k (Entity.enc (gt out k)), .t (T.sl 0 (List.set (List.map Entity.enc out) k (T.agg [ti (gt out k).id, ti (gt out k).kind, ti (gt out k).x, ti (gt out k).y, ti (gt out k).vx, ti (gt out k).vy, ti (turn (gt out k).health), ti (gt out k).age, ti (gt out k).owner]))) (T.sl 0 (List.map Entity.enc (List.set out k (Entity.mk (gt out k).id (gt out k).kind (gt out k).x (gt out k).y (gt out k).vx (gt out k).vy (turn (gt out k).health) (gt out k).age (gt out k).owner)))), .w ((0 : Int) ≤ (↑i : Int)), .n (Int.toNat (↑i : Int)) i, .w (i < List.length (List.map T.bool gone)), .g (List.map T.bool gone) i (T.bool (gt gone i)), .t (T.sl 0 (List.set (List.map T.bool gone) i (T.bool true))) (T.sl 0 (List.map T.bool (List.set gone i true))), .i IntKind.i64 ((↑i : Int) + 1) ((↑(i + 1) : Int)), .a _ _] ⟨o_n (by kernel_rfl), o_w (by (simp; omega)), o_gt rfl (by assumption) (by intro h; cases h), o_l (nm_set (e := Entity.mk (gt out k).id (gt out k).kind (gt out k).x (gt out k).y (gt out k).vx (gt out k).vy (turn (gt out k).health) (gt out k).age (gt out k).owner) rfl rfl), oW, o_n (by kernel_rfl), o_w (by (simp; omega)), oT, o_l (nm_set rfl rfl), oI, o_a ih1, trivial⟩ ?_
        exact ge
      | none =>
        have e1 : meet1 kind far other turn out gone i = (out, gone) := by simp [meet1, hk, hq]
        rw [e1]
        rw [pos_none hq] at hI
        have ih1 := ih (i + 1) out gone (by omega) ho hgo
        clear ih hg hh hq e1
        refine Wp.ev ?_
        refine gg [.b (decide ((↑i : Int) < (↑n : Int))) true, .w ((0 : Int) ≤ (↑i : Int)), .n (Int.toNat (↑i : Int)) i, .w (i < List.length (List.map Entity.enc out)), .g (List.map Entity.enc out) i (Entity.enc (gt out i)), .b ((gt out i).kind != kind) false, .a _ _, .b (flats [ti (-1)]) true, .b (decide (-1 ≥ 0)) false, .i IntKind.i64 ((↑i : Int) + 1) ((↑(i + 1) : Int)), .a _ _] ⟨tP, oW, o_n (by kernel_rfl), o_w (by (simp; omega)), o_gt rfl (by assumption) (by intro h; cases h), f_brn (by assumption), o_a hI, o_b (by kernel_rfl), o_b (by kernel_rfl), oI, o_a ih1, trivial⟩ ?_
        exact ge
    · have e1 : meet1 kind far other turn out gone i = (out, gone) := by simp [meet1, hk]
      rw [e1]
      have ih1 := ih (i + 1) out gone (by omega) ho hgo
      clear ih hg hh e1
      refine Wp.ev ?_
      refine gg [.b (decide ((↑i : Int) < (↑n : Int))) true, .w ((0 : Int) ≤ (↑i : Int)), .n (Int.toNat (↑i : Int)) i, .w (i < List.length (List.map Entity.enc out)), .g (List.map Entity.enc out) i (Entity.enc (gt out i)), .b ((gt out i).kind != kind) true, .i IntKind.i64 ((↑i : Int) + 1) ((↑(i + 1) : Int)), .a _ _] ⟨tP, oW, o_n (by kernel_rfl), o_w (by (simp; omega)), o_gt rfl (by assumption) (by intro h; cases h), t_brn (by assumption), oI, o_a ih1, trivial⟩ ?_
      exact ge
theorem f_hitting_meet_loop1 (out : List Entity) (gone : List Bool) (hn : small out) (hgo : gone.length = out.length) : ∀ (d i : Nat) (A : List Entity), i + d = out.length → A.length ≤ i →
    Is cx (.loop 117 [0, 1, 0, 1, 1, 1, 1, 1] 0 [.all 0 none, .all 1 none, .all 2 none, vi out.length, vi i] [.arr 1 (gone.map T.bool) (some 0) false, .arr 9 (A.map Entity.enc) none false, .arr 9 (out.map Entity.enc) none false])
      ⟨.exit 2, [.all 0 none, .all 1 none, .all 2 none, vi out.length, vi out.length], [.arr 1 (gone.map T.bool) (some 0) false, .arr 9 ((A ++ keepL (out.drop i) (gone.drop i)).map Entity.enc) none false, .arr 9 (out.map Entity.enc) none false]⟩ := by
  unfold small at hn
  intro d
  induction d with
  | zero =>
    intro i A hi hA
    rw [drop_end (l := out) (by omega)]
    refine Wp.ev ?_
    refine gg [.b (decide ((↑i : Int) < (↑(List.length out) : Int))) false] ⟨fP, trivial⟩ ?_
    refine rt (a := Res.mk (Ex.exit 2) [V.all 0 none, V.all 1 none, V.all 2 none, vi (↑(List.length out) : Int), vi (↑i : Int)] [Ob.arr 1 (List.map T.bool gone) (some 0) false, Ob.arr 9 (List.map Entity.enc A) none false, Ob.arr 9 (List.map Entity.enc out) none false]) (by kernel_rfl) ?_
    ((have hq : i = out.length := by omega); subst hq; simp [keepL])
  | succ d ih =>
    intro i A hi hA
    have hlt : i < out.length := by omega
    have hlt2 : i < gone.length := by omega
    have ih1 := ih (i + 1) A (by omega) (by omega)
    have ih2 := ih (i + 1) (A ++ [gt out i]) (by omega) (by simp; omega)
    clear ih
    rw [drop_gt hlt, drop_gt hlt2, keepL]
    cases hg : gt gone i with
    | true =>
      have hx : (gone.map T.bool)[i]? = some (T.bool true) := by rw [List.getElem?_map, get_gt hlt2, hg]; rfl
      simp only [if_true, List.nil_append]
      clear ih2
      refine Wp.ev ?_
      refine gg [.b (decide ((↑i : Int) < (↑(List.length out) : Int))) true, .w ((0 : Int) ≤ (↑i : Int)), .n (Int.toNat (↑i : Int)) i, .w (i < List.length (List.map Entity.enc out)), .g (List.map Entity.enc out) i (Entity.enc (gt out i)), .w ((0 : Int) ≤ (↑i : Int)), .n (Int.toNat (↑i : Int)) i, .w (i < List.length (List.map T.bool gone)), .g (List.map T.bool gone) i (T.bool (gt gone i)), .b (!gt gone i) false, .i IntKind.i64 ((↑i : Int) + 1) ((↑(i + 1) : Int)), .a _ _] ⟨tP, oW, o_n (by kernel_rfl), o_w (by (simp; omega)), o_gt rfl (by assumption) (by intro h; cases h), oW, o_n (by kernel_rfl), o_w (by (simp; omega)), o_gt rfl (by assumption) (by intro h; cases h), f_brnot (by assumption), oI, o_a ih1, trivial⟩ ?_
      exact ge
    | false =>
      have hx : (gone.map T.bool)[i]? = some (T.bool false) := by rw [List.getElem?_map, get_gt hlt2, hg]; rfl
      simp only [Bool.false_eq_true, if_false]
      rw [← List.append_assoc]
      clear ih1
      refine Wp.ev ?_
      refine gg [.b (decide ((↑i : Int) < (↑(List.length out) : Int))) true, .w ((0 : Int) ≤ (↑i : Int)), .n (Int.toNat (↑i : Int)) i, .w (i < List.length (List.map Entity.enc out)), .g (List.map Entity.enc out) i (Entity.enc (gt out i)), .w ((0 : Int) ≤ (↑i : Int)), .n (Int.toNat (↑i : Int)) i, .w (i < List.length (List.map T.bool gone)), .g (List.map T.bool gone) i (T.bool (gt gone i)), .b (!gt gone i) true, .w ((0 : Nat) < (72 : Nat)), .t (T.sl 0 [Entity.enc (gt out i)]) (T.sl 0 (List.map Entity.enc [gt out i])), .t (T.sl 0 (List.map Entity.enc A ++ List.map Entity.enc [gt out i])) (T.sl 0 (List.map Entity.enc (A ++ [gt out i]))), .w (room (List.length (List.map Entity.enc (A ++ [gt out i]))) (72 : Nat)), .i IntKind.i64 ((↑i : Int) + 1) ((↑(i + 1) : Int)), .a _ _] ⟨tP, oW, o_n (by kernel_rfl), o_w (by (simp [room, appendMax]; omega)), o_gt rfl (by assumption) (by intro h; cases h), oW, o_n (by kernel_rfl), o_w (by (simp [room, appendMax]; omega)), o_gt rfl (by assumption) (by intro h; cases h), t_brnot (by assumption), oW, o_l (nm_cons rfl nm_nil), o_l (nm_app rfl rfl), o_w (by (simp [room, appendMax]; omega)), o_i (w64 (by (simp [room, appendMax]; omega))), o_a ih2, trivial⟩ ?_
      exact ge
theorem f_hitting_meet (l : List Entity) (kind far : Int) (g h : Nat) (other : Entity → Entity → Bool) (turn : Int → Int) (hn : small l) (hb : isFnB cx g = true) (hb2 : isFnB cx h = true)
    (hg : ∀ t p : Entity, Fn cx g [t.enc, p.enc] (.bool (other t p))) (hh : ∀ v : Int, Fn cx h [ti v] (ti (turn v))) :
    Is cx (.call 117 [.t (.sl 9 (l.map Entity.enc)), vi kind, vi far, .t (.clo g []), .t (.clo h [])] []) ⟨.ret, [.all 0 none], [.arr 9 ((meetL kind far other turn l).map Entity.enc) none false]⟩ := by
  have hn' : l.length ≤ 1000000 := hn
  have h0 := f_hitting_meet_loop0 kind far g h other turn l.length hn hb hb2 hg hh l.length 0 l (List.replicate l.length false) (by omega) rfl (by simp)
  unfold meetL
  have hlen : ∀ (d i : Nat) (out : List Entity) (gone : List Bool), (meetN kind far other turn d i out gone).1.length = out.length ∧ (meetN kind far other turn d i out gone).2.length = gone.length := by
    intro d
    induction d with
    | zero => intros; exact ⟨rfl, rfl⟩
    | succ d ih =>
      intro i out gone
      rw [meetN]
      obtain ⟨h1, h2⟩ := ih (i + 1) (meet1 kind far other turn out gone i).1 (meet1 kind far other turn out gone i).2
      rw [h1, h2]
      unfold meet1
      split
      · split <;> simp
      · exact ⟨rfl, rfl⟩
  obtain ⟨l1, l2⟩ := hlen l.length 0 l (List.replicate l.length false)
  simp only [List.length_replicate] at l2
  rw [List.map_replicate] at h0
  generalize (meetN kind far other turn l.length 0 l (List.replicate l.length false)).1 = X at *
  generalize (meetN kind far other turn l.length 0 l (List.replicate l.length false)).2 = Y at *
  have h1 := f_hitting_meet_loop1 X Y (by unfold small; omega) (by omega) X.length 0 [] (by omega) (by simp)
  rw [List.drop_zero, List.drop_zero, List.nil_append] at h1
  clear hlen hg hh
  refine Wp.ev ?_
  refine gg [.a _ _, .n (List.length (List.map Entity.enc l)) (List.length l), .w ((0 : Int) ≤ (↑(List.length l) : Int) ∧ (↑(List.length l) : Int) ≤ (↑(List.length l) : Int) ∧ room (Int.toNat (↑(List.length l) : Int)) (1 : Nat)), .n (Int.toNat (↑(List.length l) : Int)) (List.length l), .n (List.length (List.map Entity.enc l)) (List.length l), .a _ _, .n (List.length (List.map Entity.enc X)) (List.length X), .a _ _] ⟨o_a (f_slices_Clone_Entity l (by assumption)), o_n (by simp), o_w ⟨(by omega), ⟨(by omega), (by (simp [room, appendMax]; omega))⟩⟩, o_n (by kernel_rfl), o_n (by simp), o_a h0, o_n (by simp), o_a h1, trivial⟩ ?_
  exact ge
theorem f_hitting_Shots_1 (t p : Entity) : Fn cx 121 [t.enc, p.enc] (.bool (decide (p.id ≠ t.owner))) := by
  refine Wp.ev ?_
  refine rt (a := Res.mk Ex.ret [vb (p.id != t.owner)] []) (by kernel_rfl) ?_
  simp [bned]
theorem f_hitting_Shots_2 (v : Int) : Fn cx 122 [ti v] (ti (subH v 20)) := by
  refine Wp.ev ?_
  refine gg [.a _ _] ⟨o_a (f_fixed_Sub v 20), trivial⟩ ?_
  exact ge
theorem f_hitting_Gems_1 (t p : Entity) : Fn cx 118 [t.enc, p.enc] (.bool true) := by
  refine Wp.ev ?_
  exact ge
theorem f_hitting_Gems_2 (v : Int) : Fn cx 119 [ti v] (ti (minI (sumH [v, 25]) 100)) := by
  have h := f_fixed_Add [v, 25] (by simp [small])
  refine Wp.ev ?_
  refine gg [.a _ _, .s (ti (minI (sumH [v, 25]) 100))] ⟨o_a h, trivial⟩ ?_
  exact ge
theorem f_hitting_Shots (l : List Entity) (hn : small l) : Is cx (.call 66 [.t (.sl 9 (l.map Entity.enc))] []) ⟨.ret, [.all 0 none], [.arr 9 ((shotsL l).map Entity.enc) none false]⟩ := by
  have h := f_hitting_meet l 2 24 121 122 (fun s p => decide (p.id ≠ s.owner)) (fun h => subH h 20) hn (by kernel_rfl) (by kernel_rfl) (fun t p => f_hitting_Shots_1 t p) (fun v => f_hitting_Shots_2 v)
  change Is cx _ ⟨_, _, [.arr 9 ((shotsL l).map Entity.enc) none false]⟩ at h
  generalize shotsL l = X at *
  refine Wp.ev ?_
  refine gg [.a _ _] ⟨o_a h, trivial⟩ ?_
  exact ge
theorem f_hitting_Gems (l : List Entity) (hn : small l) : Is cx (.call 65 [.t (.sl 9 (l.map Entity.enc))] []) ⟨.ret, [.all 0 none], [.arr 9 ((gemsL l).map Entity.enc) none false]⟩ := by
  have h := f_hitting_meet l 3 32 118 119 (fun _ _ => true) (fun h => minI (sumH [h, 25]) 100) hn (by kernel_rfl) (by kernel_rfl) (fun t p => f_hitting_Gems_1 t p) (fun v => f_hitting_Gems_2 v)
  change Is cx _ ⟨_, _, [.arr 9 ((gemsL l).map Entity.enc) none false]⟩ at h
  generalize gemsL l = X at *
  refine Wp.ev ?_
  refine gg [.a _ _] ⟨o_a h, trivial⟩ ?_
  exact ge
theorem map_from {b : Cross} {A : List Entity} {j : Nat} (h : j < A.length) : (A.set j (hurtE b (gt A j))).take (j + 1) ++ ((A.set j (hurtE b (gt A j))).drop (j + 1)).map (hurtE b) = A.take j ++ (A.drop j).map (hurtE b) := by
  rw [drop_gt h, List.map_cons, List.drop_set_of_lt (by omega), List.take_add_one, List.take_set_of_le (by omega)]
  simp [h]
theorem f_hitting_Blasts_inner (b : Cross) (bl : List Cross) (i : Nat) : ∀ (d j : Nat) (A : List Entity), j + d = A.length → small A →
    Is cx (.loop 64 [0, 1, 1, 0, 0, 1, 1, 0, 0, 1, 0, 1, 1] 0 [.all 0 none, .ptr 1 0 0, .t (.sl 15 (bl.map Cross.enc)), vi bl.length, vi i, vi A.length, vi j] [.arr 9 (A.map Entity.enc) none false, .one 15 (.t b.enc) false])
      ⟨.exit 2, [.all 0 none, .ptr 1 0 0, .t (.sl 15 (bl.map Cross.enc)), vi bl.length, vi i, vi A.length, vi A.length], [.arr 9 ((A.take j ++ (A.drop j).map (hurtE b)).map Entity.enc) none false, .one 15 (.t b.enc) false]⟩ := by
  intro d
  induction d with
  | zero =>
    intro j A hj hn
    unfold small at hn
    rw [drop_end (by omega), List.take_of_length_le (by omega)]
    refine Wp.ev ?_
    refine gg [.b (decide ((↑j : Int) < (↑(List.length A) : Int))) false] ⟨fP, trivial⟩ ?_
    refine rt (a := Res.mk (Ex.exit 2) [V.all 0 none, V.ptr 1 0 0, V.t (T.sl 15 (List.map Cross.enc bl)), vi (↑(List.length bl) : Int), vi (↑i : Int), vi (↑(List.length A) : Int), vi (↑j : Int)] [Ob.arr 9 (List.map Entity.enc A) none false, Ob.one 15 (V.t (Cross.enc b)) false]) (by kernel_rfl) ?_
    ((have hq : j = A.length := by omega); subst hq; simp)
  | succ d ih =>
    intro j A hj hn
    have hlt : j < A.length := by omega
    have ih1 := ih (j + 1) (A.set j (hurtE b (gt A j))) (by simp; omega) (by unfold small at *; simpa using hn)
    rw [map_from hlt, List.length_set] at ih1
    clear ih
    unfold small at hn
    have hN := f_hitting_near (gt A j) b.x b.y 128
    have hS := f_fixed_Sub (gt A j).health 10
    by_cases hk : b.kind = 2
    · by_cases hp : (gt A j).kind = 1
      · cases hq : nearE (gt A j) b.x b.y 128 with
        | true =>
          rw [hq] at hN
          have e : hurtE b (gt A j) = { gt A j with health := subH (gt A j).health 10 } := by simp [hurtE, hk, hp, hq]
          rw [e] at ih1
          refine Wp.ev ?_
          refine gg [.b (decide ((↑j : Int) < (↑(List.length A) : Int))) true, .w ((0 : Int) ≤ (↑j : Int)), .n (Int.toNat (↑j : Int)) j, .w (j < List.length (List.map Entity.enc A)), .b (b.kind == 2) true, .tt, .tt, .tt, .g (List.map Entity.enc A) j (Entity.enc (gt A j)), .tt, .tt, .b ((gt A j).kind == 1) true, .tt, .tt, .tt, .tt] ⟨tP, oW, o_n (by kernel_rfl), o_w (by (simp; omega)), t_bre (by assumption), o_gt rfl (by assumption) (by intro h; cases h), t_bre (by assumption), trivial⟩ ?_
          refine gg [.g (List.map Entity.enc A) j (Entity.enc (gt A j)), .tt, .tt, .tt, .a _ _, .tt, .tt, .g (List.map Entity.enc A) j (Entity.enc (gt A j)), .a _ _, .g (List.map Entity.enc A) j (Entity.enc (gt A j)), .t (T.sl 0 (List.set (List.map Entity.enc A) j (T.agg [ti (gt A j).id, ti (gt A j).kind, ti (gt A j).x, ti (gt A j).y, ti (gt A j).vx, ti (gt A j).vy, ti (subH (gt A j).health 10), ti (gt A j).age, ti (gt A j).owner]))) (T.sl 0 (List.map Entity.enc (List.set A j (Entity.mk (gt A j).id (gt A j).kind (gt A j).x (gt A j).y (gt A j).vx (gt A j).vy (subH (gt A j).health 10) (gt A j).age (gt A j).owner)))), .i IntKind.i64 ((↑j : Int) + 1) ((↑(j + 1) : Int)), .a _ _] ⟨o_gt rfl (by assumption) (by intro h; cases h), o_a hN, o_gt rfl (by assumption) (by intro h; cases h), o_a hS, o_gt rfl (by assumption) (by intro h; cases h), o_l (nm_set (e := Entity.mk (gt A j).id (gt A j).kind (gt A j).x (gt A j).y (gt A j).vx (gt A j).vy (subH (gt A j).health 10) (gt A j).age (gt A j).owner) rfl rfl), oI, o_a ih1, trivial⟩ ?_
          exact ge
        | false =>
          rw [hq] at hN
          have e : hurtE b (gt A j) = gt A j := by simp [hurtE, hq]
          rw [e, gt_self hlt] at ih1
          refine Wp.ev ?_
          refine gg [.b (decide ((↑j : Int) < (↑(List.length A) : Int))) true, .w ((0 : Int) ≤ (↑j : Int)), .n (Int.toNat (↑j : Int)) j, .w (j < List.length (List.map Entity.enc A)), .b (b.kind == 2) true, .tt, .tt, .tt, .g (List.map Entity.enc A) j (Entity.enc (gt A j)), .tt, .tt, .b ((gt A j).kind == 1) true, .tt, .tt, .tt, .tt] ⟨tP, oW, o_n (by kernel_rfl), o_w (by (simp; omega)), t_bre (by assumption), o_gt rfl (by assumption) (by intro h; cases h), t_bre (by assumption), trivial⟩ ?_
          refine gg [.g (List.map Entity.enc A) j (Entity.enc (gt A j)), .tt, .tt, .tt, .a _ _, .tt, .ff, .i IntKind.i64 ((↑j : Int) + 1) ((↑(j + 1) : Int)), .a _ _] ⟨o_gt rfl (by assumption) (by intro h; cases h), o_a hN, oI, o_a ih1, trivial⟩ ?_
          exact ge
      · have e : hurtE b (gt A j) = gt A j := by simp [hurtE, hp]
        rw [e, gt_self hlt] at ih1
        refine Wp.ev ?_
        refine gg [.b (decide ((↑j : Int) < (↑(List.length A) : Int))) true, .w ((0 : Int) ≤ (↑j : Int)), .n (Int.toNat (↑j : Int)) j, .w (j < List.length (List.map Entity.enc A)), .b (b.kind == 2) true, .tt, .tt, .tt, .g (List.map Entity.enc A) j (Entity.enc (gt A j)), .tt, .tt, .b ((gt A j).kind == 1) false, .ff, .ff, .ff, .ff] ⟨tP, oW, o_n (by kernel_rfl), o_w (by (simp; omega)), t_bre (by assumption), o_gt rfl (by assumption) (by intro h; cases h), f_bre (by assumption), trivial⟩ ?_
        refine gg [.ff, .ff, .ff, .ff, .ff, .i IntKind.i64 ((↑j : Int) + 1) ((↑(j + 1) : Int)), .a _ _] ⟨oI, o_a ih1, trivial⟩ ?_
        exact ge
    · have e : hurtE b (gt A j) = gt A j := by simp [hurtE, hk]
      rw [e, gt_self hlt] at ih1
      refine Wp.ev ?_
      refine gg [.b (decide ((↑j : Int) < (↑(List.length A) : Int))) true, .w ((0 : Int) ≤ (↑j : Int)), .n (Int.toNat (↑j : Int)) j, .w (j < List.length (List.map Entity.enc A)), .b (b.kind == 2) false, .ff, .ff, .ff, .ff, .ff, .ff, .ff, .ff, .ff, .ff, .ff] ⟨tP, oW, o_n (by kernel_rfl), o_w (by (simp; omega)), f_bre (by assumption), trivial⟩ ?_
      refine gg [.ff, .ff, .ff, .ff, .i IntKind.i64 ((↑j : Int) + 1) ((↑(j + 1) : Int)), .a _ _] ⟨oI, o_a ih1, trivial⟩ ?_
      exact ge
theorem f_hitting_Blasts_outer (bl : List Cross) (hb : small bl) : ∀ (d i : Nat) (A : List Entity), i + d = bl.length → small A →
    Is cx (.loop 64 [0, 1, 0, 1, 1] 0 [.all 0 none, .t (.sl 15 (bl.map Cross.enc)), vi bl.length, vi i] [.arr 9 (A.map Entity.enc) none false])
      ⟨.exit 0, [.all 0 none, .t (.sl 15 (bl.map Cross.enc)), vi bl.length, vi bl.length], [.arr 9 ((blastsL A (bl.drop i)).map Entity.enc) none false]⟩ := by
  unfold small at hb
  intro d
  induction d with
  | zero =>
    intro i A hi hn
    rw [drop_end (by omega)]
    refine Wp.ev ?_
    refine gg [.b (decide ((↑i : Int) < (↑(List.length bl) : Int))) false] ⟨fP, trivial⟩ ?_
    refine rt (a := Res.mk (Ex.exit 0) [V.all 0 none, V.t (T.sl 15 (List.map Cross.enc bl)), vi (↑(List.length bl) : Int), vi (↑i : Int)] [Ob.arr 9 (List.map Entity.enc A) none false]) (by kernel_rfl) ?_
    ((have hq : i = bl.length := by omega); subst hq; rfl)
  | succ d ih =>
    intro i A hi hn
    have hlt : i < bl.length := by omega
    have ih1 := ih (i + 1) (A.map (hurtE (gt bl i))) (by omega) (by unfold small at *; simpa using hn)
    have h1 := f_hitting_Blasts_inner (gt bl i) bl i A.length 0 A (by omega) hn
    rw [List.take_zero, List.drop_zero, List.nil_append] at h1
    clear ih
    unfold small at hn
    rw [drop_gt hlt]
    change Is cx _ ⟨_, _, [.arr 9 ((blastsL (A.map (hurtE (gt bl i))) (bl.drop (i + 1))).map Entity.enc) none false]⟩
    generalize A.map (hurtE (gt bl i)) = B at *
    refine Wp.ev ?_
    refine gg [.b (decide ((↑i : Int) < (↑(List.length bl) : Int))) true, .w ((0 : Int) ≤ (↑i : Int)), .n (Int.toNat (↑i : Int)) i, .g (List.map Cross.enc bl) i (Cross.enc (gt bl i)), .n (List.length (List.map Entity.enc A)) (List.length A), .a _ _, .i IntKind.i64 ((↑i : Int) + 1) ((↑(i + 1) : Int)), .a _ _] ⟨tP, oW, o_n (by kernel_rfl), o_gt rfl (by assumption) (by intro h; cases h), o_n (by simp), o_a h1, oI, o_a ih1, trivial⟩ ?_
    exact ge
theorem f_hitting_Blasts (l : List Entity) (bl : List Cross) (hn : small l) (hb : small bl) : Is cx (.call 64 [.t (.sl 9 (l.map Entity.enc)), .t (.sl 15 (bl.map Cross.enc))] []) ⟨.ret, [.all 0 none], [.arr 9 ((blastsL l bl).map Entity.enc) none false]⟩ := by
  have h := f_hitting_Blasts_outer bl hb bl.length 0 l (by omega) hn
  rw [List.drop_zero] at h
  refine Wp.ev ?_
  refine gg [.a _ _, .n (List.length (List.map Cross.enc bl)) (List.length bl), .a _ _] ⟨o_a (f_slices_Clone_Entity l (by assumption)), o_n (by simp), o_a h, trivial⟩ ?_
  exact ge
theorem f_hitting_Fallen_loop (l : List Entity) (hn : small l) : ∀ (d i : Nat) (A : List Int), i + d = l.length → A.length ≤ i →
    Is cx (.loop 123 [0, 1, 0, 1, 1] 1 [.all 1 none, .all 0 none, vi l.length, vi i] [.arr 9 (l.map Entity.enc) none false, .arr 1 (A.map ti) none false])
      ⟨.exit 0, [.all 1 none, .all 0 none, vi l.length, vi l.length], [.arr 9 (l.map Entity.enc) none false, .arr 1 ((A ++ fallenL (l.drop i)).map ti) none false]⟩ := by
  unfold small at hn
  intro d
  induction d with
  | zero =>
    intro i A hi hA
    rw [drop_end (by omega)]
    refine Wp.ev ?_
    refine gg [.b (decide ((↑i : Int) < (↑(List.length l) : Int))) false] ⟨fP, trivial⟩ ?_
    refine rt (a := Res.mk (Ex.exit 0) [V.all 1 none, V.all 0 none, vi (↑(List.length l) : Int), vi (↑i : Int)] [Ob.arr 9 (List.map Entity.enc l) none false, Ob.arr 1 (List.map ti A) none false]) (by kernel_rfl) ?_
    ((have hq : i = l.length := by omega); subst hq; simp [fallenL])
  | succ d ih =>
    intro i A hi hA
    have hlt : i < l.length := by omega
    have ih1 := ih (i + 1) A (by omega) (by omega)
    have ih2 := ih (i + 1) (A ++ [(gt l i).id]) (by omega) (by simp; omega)
    clear ih
    unfold fallenL at *
    rw [filter_gt _ hlt]
    refine Wp.ev ?_
    refine gg [.b (decide ((↑i : Int) < (↑(List.length l) : Int))) true, .w ((0 : Int) ≤ (↑i : Int)), .n (Int.toNat (↑i : Int)) i, .w (i < List.length (List.map Entity.enc l)), .g (List.map Entity.enc l) i (Entity.enc (gt l i))] ⟨tP, oW, o_n (by kernel_rfl), o_w (by (simp [room, appendMax]; omega)), o_gt rfl (by assumption) (by intro h; cases h), trivial⟩ ?_
    refine bre (x := (gt l i).kind) (y := 1) (by kernel_rfl) (fun h1 => ?_) (fun h1 => ?_)
    · refine gg [.tt, .tt, .tt] trivial ?_
      refine brp (p := (gt l i).health ≤ 0) (by kernel_rfl) (fun h2 => ?_) (fun h2 => ?_)
      · refine gg [.w ((0 : Nat) < (8 : Nat)), .t (T.sl 0 [ti (gt l i).id]) (T.sl 0 (List.map (T.int IntKind.i64) [(gt l i).id])), .t (T.sl 0 (List.map ti A ++ List.map (T.int IntKind.i64) [(gt l i).id])) (T.sl 0 (List.map ti (A ++ [(gt l i).id]))), .w (room (List.length (List.map ti (A ++ [(gt l i).id]))) (8 : Nat)), .i IntKind.i64 ((↑i : Int) + 1) ((↑(i + 1) : Int)), .a _ _] ⟨oW, o_l (nm_cons rfl nm_nil), o_l (nm_app rfl rfl), o_w (by (simp [room, appendMax]; omega)), o_i (w64 (by (simp [room, appendMax]; omega))), o_a ih2, trivial⟩ ?_
        refine rt (a := Res.mk (Ex.exit 0) [V.all 1 none, V.all 0 none, vi (↑(List.length l) : Int), vi (↑(List.length l) : Int)] [Ob.arr 9 (List.map Entity.enc l) none false, Ob.arr 1 (List.map ti (A ++ [(gt l i).id] ++ List.map Entity.id (List.filter fallenP (List.drop (i + 1) l)))) none false]) (by kernel_rfl) ?_
        (simp_all [fallenP]; try omega)
      · refine gg [.i IntKind.i64 ((↑i : Int) + 1) ((↑(i + 1) : Int)), .a _ _] ⟨o_i (w64 (by (simp [room, appendMax]; omega))), o_a ih1, trivial⟩ ?_
        refine rt (a := Res.mk (Ex.exit 0) [V.all 1 none, V.all 0 none, vi (↑(List.length l) : Int), vi (↑(List.length l) : Int)] [Ob.arr 9 (List.map Entity.enc l) none false, Ob.arr 1 (List.map ti (A ++ List.map Entity.id (List.filter fallenP (List.drop (i + 1) l)))) none false]) (by kernel_rfl) ?_
        (simp_all [fallenP]; try omega)
    · refine gg [.ff, .ff, .ff, .ff, .i IntKind.i64 ((↑i : Int) + 1) ((↑(i + 1) : Int)), .a _ _] ⟨o_i (w64 (by (simp [room, appendMax]; omega))), o_a ih1, trivial⟩ ?_
      refine rt (a := Res.mk (Ex.exit 0) [V.all 1 none, V.all 0 none, vi (↑(List.length l) : Int), vi (↑(List.length l) : Int)] [Ob.arr 9 (List.map Entity.enc l) none false, Ob.arr 1 (List.map ti (A ++ List.map Entity.id (List.filter fallenP (List.drop (i + 1) l)))) none false]) (by kernel_rfl) ?_
      (simp_all [fallenP]; try omega)
theorem f_hitting_Fallen (l : List Entity) (hn : small l) : Is cx (.call 123 [.all 0 none] [.arr 9 (l.map Entity.enc) none false]) ⟨.ret, [.all 1 none], [.arr 9 (l.map Entity.enc) none false, .arr 1 ((fallenL l).map ti) none false]⟩ := by
  have h := f_hitting_Fallen_loop l hn l.length 0 [] (by omega) (by simp)
  rw [List.drop_zero, List.nil_append] at h
  generalize fallenL l = X at *
  refine Wp.ev ?_
  refine gg [.n (List.length (List.map Entity.enc l)) (List.length l), .a _ _] ⟨o_n (by simp), o_a h, trivial⟩ ?_
  exact ge
end Go.Eva.S3
