/- A reading of the program, proved sound against the model, and what its functions answer by it: part 3. -/
import Derived.Test.YtnoedioeadiafaaEva2
set_option linter.unusedSimpArgs false
set_option linter.unusedVariables false
/- Messages: merged in place. -/
namespace Go.Eva.S1
theorem f_symMerge_bs1 (A : List Cross) (a : Nat) (ha : a < A.length) (hn : small A) : ∀ (d i j : Nat), i ≤ j → j ≤ i + d → j ≤ A.length →
    Is cx (.loop 94 [0, 0, 1, 1, 0, 1, 0] 1 [.all 0 none, vi a, .t (.clo 67 []), vi i, vi j] [.arr 15 (A.map Cross.enc) none false])
      ⟨.exit 0, [.all 0 none, vi a, .t (.clo 67 []), vi (bs (fun h => Cross.less (gt A h) (gt A a)) d i j : Nat), vi (bs (fun h => Cross.less (gt A h) (gt A a)) d i j : Nat)], [.arr 15 (A.map Cross.enc) none false]⟩ := by
  intro d
  induction d with
  | zero =>
    intro i j h1 h2 h3
    obtain rfl : i = j := by omega
    unfold small at hn
    unfold bs
    refine Wp.ev ?_
    refine gg [.b (decide ((↑i : Int) < (↑i : Int))) false] ⟨fP, trivial⟩ ?_
    exact ge
  | succ d ih =>
    intro i j h1 h2 h3
    by_cases hij : i < j
    · obtain ⟨h, hh⟩ : ∃ h, (i + j) / 2 = h := ⟨_, rfl⟩
      have hf : Int.fdiv ((i + j : Nat) : Int) 2 = (h : Nat) := by rw [Int.fdiv_eq_ediv_of_nonneg _ (by omega)]; omega
      have ih1 := ih (h + 1) j (by omega) (by omega) (by omega)
      have ih2 := ih i h (by omega) (by omega) (by omega)
      unfold small at hn
      clear ih
      cases hl : (fun h => Cross.less (gt A h) (gt A a)) h with
      | true =>
        have e : bs (fun h => Cross.less (gt A h) (gt A a)) (d + 1) i j = bs (fun h => Cross.less (gt A h) (gt A a)) d (h + 1) j := by exact bs_t hij hh hl
        rw [e]
        have hl : (gt A h).cmp (gt A a) < 0 := by simpa [Cross.less] using hl
        refine Wp.ev ?_
        refine gg [.b (decide ((↑i : Int) < (↑j : Int))) true, .i IntKind.i64 ((↑i : Int) + (↑j : Int)) ((↑(i + j) : Int)), .i IntKind.u64 ((↑(i + j) : Int)) ((↑(i + j) : Int)), .w ((0 : Int) ≤ (1 : Int)), .t (T.int IntKind.u64 (Int.fdiv (↑(i + j) : Int) 2)) (T.int IntKind.u64 (↑h : Int)), .i IntKind.i64 (↑h : Int) (↑h : Int), .w ((0 : Int) ≤ (↑h : Int)), .n (Int.toNat (↑h : Int)) h, .w (h < List.length (List.map Cross.enc A)), .w ((0 : Int) ≤ (↑a : Int)), .n (Int.toNat (↑a : Int)) a, .w (a < List.length (List.map Cross.enc A)), .g (List.map Cross.enc A) h (Cross.enc (gt A h)), .g (List.map Cross.enc A) a (Cross.enc (gt A a)), .w (isFnB cx (67 : Nat) = true), .a _ _] ⟨tP, oI, oU, oW, o_t (by rw [hf]), oI, oW, o_n (by kernel_rfl), o_w (by (simp; omega)), oW, o_n (by kernel_rfl), o_w (by (simp; omega)), oT, o_gt rfl (by assumption) (by intro h; cases h), o_w (by kernel_rfl), o_a (f_cross_compare (gt A h) (gt A a)), trivial⟩ ?_
        refine gg [.b (decide (Cross.cmp (gt A h) (gt A a) < 0)) true, .i IntKind.i64 ((↑h : Int) + 1) ((↑(h + 1) : Int)), .a _ _] ⟨t_brp (by assumption), oI, o_a ih1, trivial⟩ ?_
        refine rt (a := Res.mk (Ex.exit 0) [V.all 0 none, vi (↑a : Int), V.t (T.clo 67 []), vi (↑(bs (fun (h : Nat) ↦ Cross.less (gt A h) (gt A a)) d (h + 1) j) : Int), vi (↑(bs (fun (h : Nat) ↦ Cross.less (gt A h) (gt A a)) d (h + 1) j) : Int)] [Ob.arr 15 (List.map Cross.enc A) none false]) (by kernel_rfl) ?_
        (first | rfl | omega | (simp_all; done) | (simp_all; omega))
      | false =>
        have e : bs (fun h => Cross.less (gt A h) (gt A a)) (d + 1) i j = bs (fun h => Cross.less (gt A h) (gt A a)) d i h := by exact bs_f hij hh hl
        rw [e]
        have hl : ¬ (gt A h).cmp (gt A a) < 0 := by simpa [Cross.less] using hl
        refine Wp.ev ?_
        refine gg [.b (decide ((↑i : Int) < (↑j : Int))) true, .i IntKind.i64 ((↑i : Int) + (↑j : Int)) ((↑(i + j) : Int)), .i IntKind.u64 ((↑(i + j) : Int)) ((↑(i + j) : Int)), .w ((0 : Int) ≤ (1 : Int)), .t (T.int IntKind.u64 (Int.fdiv (↑(i + j) : Int) 2)) (T.int IntKind.u64 (↑h : Int)), .i IntKind.i64 (↑h : Int) (↑h : Int), .w ((0 : Int) ≤ (↑h : Int)), .n (Int.toNat (↑h : Int)) h, .w (h < List.length (List.map Cross.enc A)), .w ((0 : Int) ≤ (↑a : Int)), .n (Int.toNat (↑a : Int)) a, .w (a < List.length (List.map Cross.enc A)), .g (List.map Cross.enc A) h (Cross.enc (gt A h)), .g (List.map Cross.enc A) a (Cross.enc (gt A a)), .w (isFnB cx (67 : Nat) = true), .a _ _] ⟨tP, oI, oU, oW, o_t (by rw [hf]), oI, oW, o_n (by kernel_rfl), o_w (by (simp; omega)), oW, o_n (by kernel_rfl), o_w (by (simp; omega)), oT, o_gt rfl (by assumption) (by intro h; cases h), o_w (by kernel_rfl), o_a (f_cross_compare (gt A h) (gt A a)), trivial⟩ ?_
        refine gg [.b (decide (Cross.cmp (gt A h) (gt A a) < 0)) false, .a _ _] ⟨f_brp (by assumption), o_a ih2, trivial⟩ ?_
        refine rt (a := Res.mk (Ex.exit 0) [V.all 0 none, vi (↑a : Int), V.t (T.clo 67 []), vi (↑(bs (fun (h : Nat) ↦ Cross.less (gt A h) (gt A a)) d i h) : Int), vi (↑(bs (fun (h : Nat) ↦ Cross.less (gt A h) (gt A a)) d i h) : Int)] [Ob.arr 15 (List.map Cross.enc A) none false]) (by kernel_rfl) ?_
        (first | rfl | omega | (simp_all; done) | (simp_all; omega))
    · obtain rfl : i = j := by omega
      unfold small at hn
      have e : bs (fun h => Cross.less (gt A h) (gt A a)) (d + 1) i i = i := by rw [bs, if_neg hij]
      rw [e]
      refine Wp.ev ?_
      refine gg [.b (decide ((↑i : Int) < (↑i : Int))) false] ⟨fP, trivial⟩ ?_
      exact ge
theorem f_symMerge_bs2 (A : List Cross) (m : Nat) (hm : m < A.length) (hn : small A) : ∀ (d i j : Nat), i ≤ j → j ≤ i + d → j ≤ A.length →
    Is cx (.loop 94 [0, 0, 1, 1, 0, 1, 0, 1] 1 [.all 0 none, vi m, .t (.clo 67 []), vi i, vi j] [.arr 15 (A.map Cross.enc) none false])
      ⟨.exit 4, [.all 0 none, vi m, .t (.clo 67 []), vi (bs (fun h => !Cross.less (gt A m) (gt A h)) d i j : Nat), vi (bs (fun h => !Cross.less (gt A m) (gt A h)) d i j : Nat)], [.arr 15 (A.map Cross.enc) none false]⟩ := by
  intro d
  induction d with
  | zero =>
    intro i j h1 h2 h3
    obtain rfl : i = j := by omega
    unfold small at hn
    unfold bs
    refine Wp.ev ?_
    refine gg [.b (decide ((↑i : Int) < (↑i : Int))) false] ⟨fP, trivial⟩ ?_
    exact ge
  | succ d ih =>
    intro i j h1 h2 h3
    by_cases hij : i < j
    · obtain ⟨h, hh⟩ : ∃ h, (i + j) / 2 = h := ⟨_, rfl⟩
      have hf : Int.fdiv ((i + j : Nat) : Int) 2 = (h : Nat) := by rw [Int.fdiv_eq_ediv_of_nonneg _ (by omega)]; omega
      have ih1 := ih (h + 1) j (by omega) (by omega) (by omega)
      have ih2 := ih i h (by omega) (by omega) (by omega)
      unfold small at hn
      clear ih
      cases hl : (fun h => !Cross.less (gt A m) (gt A h)) h with
      | true =>
        have e : bs (fun h => !Cross.less (gt A m) (gt A h)) (d + 1) i j = bs (fun h => !Cross.less (gt A m) (gt A h)) d (h + 1) j := by exact bs_t hij hh hl
        rw [e]
        have hl : ¬ (gt A m).cmp (gt A h) < 0 := by simpa [Cross.less] using hl
        refine Wp.ev ?_
        refine gg [.b (decide ((↑i : Int) < (↑j : Int))) true, .i IntKind.i64 ((↑i : Int) + (↑j : Int)) ((↑(i + j) : Int)), .i IntKind.u64 ((↑(i + j) : Int)) ((↑(i + j) : Int)), .w ((0 : Int) ≤ (1 : Int)), .t (T.int IntKind.u64 (Int.fdiv (↑(i + j) : Int) 2)) (T.int IntKind.u64 (↑h : Int)), .i IntKind.i64 (↑h : Int) (↑h : Int), .w ((0 : Int) ≤ (↑m : Int)), .n (Int.toNat (↑m : Int)) m, .w (m < List.length (List.map Cross.enc A)), .w ((0 : Int) ≤ (↑h : Int)), .n (Int.toNat (↑h : Int)) h, .w (h < List.length (List.map Cross.enc A)), .g (List.map Cross.enc A) m (Cross.enc (gt A m)), .g (List.map Cross.enc A) h (Cross.enc (gt A h)), .w (isFnB cx (67 : Nat) = true), .a _ _] ⟨tP, oI, oU, oW, o_t (by rw [hf]), oI, oW, o_n (by kernel_rfl), o_w (by (simp; omega)), oW, o_n (by kernel_rfl), o_w (by (simp; omega)), o_gt rfl (by assumption) (by intro h; cases h), oT, o_w (by kernel_rfl), o_a (f_cross_compare (gt A m) (gt A h)), trivial⟩ ?_
        refine brnot (b := decide (Cross.cmp (gt A m) (gt A h) < 0)) (by kernel_rfl) (fun h1 => ?_) (fun h1 => ?_)
        · refine gg [.i IntKind.i64 ((↑h : Int) + 1) ((↑(h + 1) : Int)), .a _ _] ⟨oI, o_a ih1, trivial⟩ ?_
          refine rt (a := Res.mk (Ex.exit 4) [V.all 0 none, vi (↑m : Int), V.t (T.clo 67 []), vi (↑(bs (fun (h : Nat) ↦ !Cross.less (gt A m) (gt A h)) d (h + 1) j) : Int), vi (↑(bs (fun (h : Nat) ↦ !Cross.less (gt A m) (gt A h)) d (h + 1) j) : Int)] [Ob.arr 15 (List.map Cross.enc A) none false]) (by kernel_rfl) ?_
          (first | rfl | omega | (simp_all; done) | (simp_all; omega))
        · refine gg [.a _ _] ⟨o_a ih2, trivial⟩ ?_
          refine rt (a := Res.mk (Ex.exit 4) [V.all 0 none, vi (↑m : Int), V.t (T.clo 67 []), vi (↑(bs (fun (h : Nat) ↦ !Cross.less (gt A m) (gt A h)) d i h) : Int), vi (↑(bs (fun (h : Nat) ↦ !Cross.less (gt A m) (gt A h)) d i h) : Int)] [Ob.arr 15 (List.map Cross.enc A) none false]) (by kernel_rfl) ?_
          (first | rfl | omega | (simp_all; done) | (simp_all; omega))
      | false =>
        have e : bs (fun h => !Cross.less (gt A m) (gt A h)) (d + 1) i j = bs (fun h => !Cross.less (gt A m) (gt A h)) d i h := by exact bs_f hij hh hl
        rw [e]
        have hl : (gt A m).cmp (gt A h) < 0 := by simpa [Cross.less] using hl
        refine Wp.ev ?_
        refine gg [.b (decide ((↑i : Int) < (↑j : Int))) true, .i IntKind.i64 ((↑i : Int) + (↑j : Int)) ((↑(i + j) : Int)), .i IntKind.u64 ((↑(i + j) : Int)) ((↑(i + j) : Int)), .w ((0 : Int) ≤ (1 : Int)), .t (T.int IntKind.u64 (Int.fdiv (↑(i + j) : Int) 2)) (T.int IntKind.u64 (↑h : Int)), .i IntKind.i64 (↑h : Int) (↑h : Int), .w ((0 : Int) ≤ (↑m : Int)), .n (Int.toNat (↑m : Int)) m, .w (m < List.length (List.map Cross.enc A)), .w ((0 : Int) ≤ (↑h : Int)), .n (Int.toNat (↑h : Int)) h, .w (h < List.length (List.map Cross.enc A)), .g (List.map Cross.enc A) m (Cross.enc (gt A m)), .g (List.map Cross.enc A) h (Cross.enc (gt A h)), .w (isFnB cx (67 : Nat) = true), .a _ _] ⟨tP, oI, oU, oW, o_t (by rw [hf]), oI, oW, o_n (by kernel_rfl), o_w (by (simp; omega)), oW, o_n (by kernel_rfl), o_w (by (simp; omega)), o_gt rfl (by assumption) (by intro h; cases h), oT, o_w (by kernel_rfl), o_a (f_cross_compare (gt A m) (gt A h)), trivial⟩ ?_
        refine brnot (b := decide (Cross.cmp (gt A m) (gt A h) < 0)) (by kernel_rfl) (fun h1 => ?_) (fun h1 => ?_)
        · refine gg [.i IntKind.i64 ((↑h : Int) + 1) ((↑(h + 1) : Int)), .a _ _] ⟨oI, o_a ih1, trivial⟩ ?_
          refine rt (a := Res.mk (Ex.exit 4) [V.all 0 none, vi (↑m : Int), V.t (T.clo 67 []), vi (↑(bs (fun (h : Nat) ↦ !Cross.less (gt A m) (gt A h)) d (h + 1) j) : Int), vi (↑(bs (fun (h : Nat) ↦ !Cross.less (gt A m) (gt A h)) d (h + 1) j) : Int)] [Ob.arr 15 (List.map Cross.enc A) none false]) (by kernel_rfl) ?_
          (first | rfl | omega | (simp_all; done) | (simp_all; omega))
        · refine gg [.a _ _] ⟨o_a ih2, trivial⟩ ?_
          refine rt (a := Res.mk (Ex.exit 4) [V.all 0 none, vi (↑m : Int), V.t (T.clo 67 []), vi (↑(bs (fun (h : Nat) ↦ !Cross.less (gt A m) (gt A h)) d i h) : Int), vi (↑(bs (fun (h : Nat) ↦ !Cross.less (gt A m) (gt A h)) d i h) : Int)] [Ob.arr 15 (List.map Cross.enc A) none false]) (by kernel_rfl) ?_
          (first | rfl | omega | (simp_all; done) | (simp_all; omega))
    · obtain rfl : i = j := by omega
      unfold small at hn
      have e : bs (fun h => !Cross.less (gt A m) (gt A h)) (d + 1) i i = i := by rw [bs, if_neg hij]
      rw [e]
      refine Wp.ev ?_
      refine gg [.b (decide ((↑i : Int) < (↑i : Int))) false] ⟨fP, trivial⟩ ?_
      exact ge
theorem f_symMerge_bs3 (A : List Cross) (a m b mid n p : Nat) (hn : small A) : ∀ (d i j : Nat), i ≤ j → j ≤ i + d → j ≤ p + 1 → p < i + A.length → j ≤ A.length →
    Is cx (.loop 94 [0, 0, 1, 1, 1, 1, 1, 1, 1] 1 [.all 0 none, vi a, vi m, vi b, .t (.clo 67 []), vi mid, vi n, vi i, vi j, vi p] [.arr 15 (A.map Cross.enc) none false])
      ⟨.exit 8, [.all 0 none, vi a, vi m, vi b, .t (.clo 67 []), vi mid, vi n, vi (bs (fun c => !Cross.less (gt A (p - c)) (gt A c)) d i j : Nat), vi (bs (fun c => !Cross.less (gt A (p - c)) (gt A c)) d i j : Nat), vi p], [.arr 15 (A.map Cross.enc) none false]⟩ := by
  intro d
  induction d with
  | zero =>
    intro i j h1 h2 h3 h4 h5
    obtain rfl : i = j := by omega
    unfold small at hn
    unfold bs
    refine Wp.ev ?_
    refine gg [.b (decide ((↑i : Int) < (↑i : Int))) false] ⟨fP, trivial⟩ ?_
    exact ge
  | succ d ih =>
    intro i j h1 h2 h3 h4 h5
    by_cases hij : i < j
    · obtain ⟨h, hh⟩ : ∃ h, (i + j) / 2 = h := ⟨_, rfl⟩
      have hf : Int.fdiv ((i + j : Nat) : Int) 2 = (h : Nat) := by rw [Int.fdiv_eq_ediv_of_nonneg _ (by omega)]; omega
      have ih1 := ih (h + 1) j (by omega) (by omega) (by omega) (by omega) (by omega)
      have ih2 := ih i h (by omega) (by omega) (by omega) (by omega) (by omega)
      unfold small at hn
      clear ih
      cases hl : (fun c => !Cross.less (gt A (p - c)) (gt A c)) h with
      | true =>
        have e : bs (fun c => !Cross.less (gt A (p - c)) (gt A c)) (d + 1) i j = bs (fun c => !Cross.less (gt A (p - c)) (gt A c)) d (h + 1) j := by exact bs_t hij hh hl
        rw [e]
        have hl : ¬ (gt A (p - h)).cmp (gt A h) < 0 := by simpa [Cross.less] using hl
        have e1 : (p : Int) - h = (p - h : Nat) := by omega
        refine Wp.ev ?_
        refine gg [.b (decide ((↑i : Int) < (↑j : Int))) true, .i IntKind.i64 ((↑i : Int) + (↑j : Int)) ((↑(i + j) : Int)), .i IntKind.u64 ((↑(i + j) : Int)) ((↑(i + j) : Int)), .w ((0 : Int) ≤ (1 : Int)), .t (T.int IntKind.u64 (Int.fdiv (↑(i + j) : Int) 2)) (T.int IntKind.u64 (↑h : Int)), .i IntKind.i64 (↑h : Int) (↑h : Int), .i IntKind.i64 ((↑p : Int) - (↑h : Int)) ((↑(p - h) : Int)), .w ((0 : Int) ≤ (↑(p - h) : Int)), .n (Int.toNat (↑(p - h) : Int)) (p - h), .w (p - h < List.length (List.map Cross.enc A)), .w ((0 : Int) ≤ (↑h : Int)), .n (Int.toNat (↑h : Int)) h, .w (h < List.length (List.map Cross.enc A)), .g (List.map Cross.enc A) (p - h) (Cross.enc (gt A (p - h))), .g (List.map Cross.enc A) h (Cross.enc (gt A h)), .w (isFnB cx (67 : Nat) = true)] ⟨tP, oI, oU, oW, o_t (by rw [hf]), oI, oI, oW, o_n (by kernel_rfl), o_w (by (simp; omega)), oW, o_n (by kernel_rfl), o_w (by (simp; omega)), oT, oT, o_w (by kernel_rfl), trivial⟩ ?_
        refine gg [.a _ _] ⟨o_a (f_cross_compare (gt A (p - h)) (gt A h)), trivial⟩ ?_
        refine brnot (b := decide (Cross.cmp (gt A (p - h)) (gt A h) < 0)) (by kernel_rfl) (fun h1 => ?_) (fun h1 => ?_)
        · refine gg [.i IntKind.i64 ((↑h : Int) + 1) ((↑(h + 1) : Int)), .a _ _] ⟨oI, o_a ih1, trivial⟩ ?_
          refine rt (a := Res.mk (Ex.exit 8) [V.all 0 none, vi (↑a : Int), vi (↑m : Int), vi (↑b : Int), V.t (T.clo 67 []), vi (↑mid : Int), vi (↑n : Int), vi (↑(bs (fun (c : Nat) ↦ !Cross.less (gt A (p - c)) (gt A c)) d (h + 1) j) : Int), vi (↑(bs (fun (c : Nat) ↦ !Cross.less (gt A (p - c)) (gt A c)) d (h + 1) j) : Int), vi (↑p : Int)] [Ob.arr 15 (List.map Cross.enc A) none false]) (by kernel_rfl) ?_
          (first | rfl | omega | (simp_all; done) | (simp_all; omega))
        · refine gg [.a _ _] ⟨o_a ih2, trivial⟩ ?_
          refine rt (a := Res.mk (Ex.exit 8) [V.all 0 none, vi (↑a : Int), vi (↑m : Int), vi (↑b : Int), V.t (T.clo 67 []), vi (↑mid : Int), vi (↑n : Int), vi (↑(bs (fun (c : Nat) ↦ !Cross.less (gt A (p - c)) (gt A c)) d i h) : Int), vi (↑(bs (fun (c : Nat) ↦ !Cross.less (gt A (p - c)) (gt A c)) d i h) : Int), vi (↑p : Int)] [Ob.arr 15 (List.map Cross.enc A) none false]) (by kernel_rfl) ?_
          (first | rfl | omega | (simp_all; done) | (simp_all; omega))
      | false =>
        have e : bs (fun c => !Cross.less (gt A (p - c)) (gt A c)) (d + 1) i j = bs (fun c => !Cross.less (gt A (p - c)) (gt A c)) d i h := by exact bs_f hij hh hl
        rw [e]
        have hl : (gt A (p - h)).cmp (gt A h) < 0 := by simpa [Cross.less] using hl
        have e1 : (p : Int) - h = (p - h : Nat) := by omega
        refine Wp.ev ?_
        refine gg [.b (decide ((↑i : Int) < (↑j : Int))) true, .i IntKind.i64 ((↑i : Int) + (↑j : Int)) ((↑(i + j) : Int)), .i IntKind.u64 ((↑(i + j) : Int)) ((↑(i + j) : Int)), .w ((0 : Int) ≤ (1 : Int)), .t (T.int IntKind.u64 (Int.fdiv (↑(i + j) : Int) 2)) (T.int IntKind.u64 (↑h : Int)), .i IntKind.i64 (↑h : Int) (↑h : Int), .i IntKind.i64 ((↑p : Int) - (↑h : Int)) ((↑(p - h) : Int)), .w ((0 : Int) ≤ (↑(p - h) : Int)), .n (Int.toNat (↑(p - h) : Int)) (p - h), .w (p - h < List.length (List.map Cross.enc A)), .w ((0 : Int) ≤ (↑h : Int)), .n (Int.toNat (↑h : Int)) h, .w (h < List.length (List.map Cross.enc A)), .g (List.map Cross.enc A) (p - h) (Cross.enc (gt A (p - h))), .g (List.map Cross.enc A) h (Cross.enc (gt A h)), .w (isFnB cx (67 : Nat) = true)] ⟨tP, oI, oU, oW, o_t (by rw [hf]), oI, oI, oW, o_n (by kernel_rfl), o_w (by (simp; omega)), oW, o_n (by kernel_rfl), o_w (by (simp; omega)), oT, oT, o_w (by kernel_rfl), trivial⟩ ?_
        refine gg [.a _ _] ⟨o_a (f_cross_compare (gt A (p - h)) (gt A h)), trivial⟩ ?_
        refine brnot (b := decide (Cross.cmp (gt A (p - h)) (gt A h) < 0)) (by kernel_rfl) (fun h1 => ?_) (fun h1 => ?_)
        · refine gg [.i IntKind.i64 ((↑h : Int) + 1) ((↑(h + 1) : Int)), .a _ _] ⟨oI, o_a ih1, trivial⟩ ?_
          refine rt (a := Res.mk (Ex.exit 8) [V.all 0 none, vi (↑a : Int), vi (↑m : Int), vi (↑b : Int), V.t (T.clo 67 []), vi (↑mid : Int), vi (↑n : Int), vi (↑(bs (fun (c : Nat) ↦ !Cross.less (gt A (p - c)) (gt A c)) d (h + 1) j) : Int), vi (↑(bs (fun (c : Nat) ↦ !Cross.less (gt A (p - c)) (gt A c)) d (h + 1) j) : Int), vi (↑p : Int)] [Ob.arr 15 (List.map Cross.enc A) none false]) (by kernel_rfl) ?_
          (first | rfl | omega | (simp_all; done) | (simp_all; omega))
        · refine gg [.a _ _] ⟨o_a ih2, trivial⟩ ?_
          refine rt (a := Res.mk (Ex.exit 8) [V.all 0 none, vi (↑a : Int), vi (↑m : Int), vi (↑b : Int), V.t (T.clo 67 []), vi (↑mid : Int), vi (↑n : Int), vi (↑(bs (fun (c : Nat) ↦ !Cross.less (gt A (p - c)) (gt A c)) d i h) : Int), vi (↑(bs (fun (c : Nat) ↦ !Cross.less (gt A (p - c)) (gt A c)) d i h) : Int), vi (↑p : Int)] [Ob.arr 15 (List.map Cross.enc A) none false]) (by kernel_rfl) ?_
          (first | rfl | omega | (simp_all; done) | (simp_all; omega))
    · obtain rfl : i = j := by omega
      unfold small at hn
      have e : bs (fun c => !Cross.less (gt A (p - c)) (gt A c)) (d + 1) i i = i := by rw [bs, if_neg hij]
      rw [e]
      refine Wp.ev ?_
      refine gg [.b (decide ((↑i : Int) < (↑i : Int))) false] ⟨fP, trivial⟩ ?_
      exact ge
theorem f_symMerge_up : ∀ (d k i : Nat) (A : List Cross), k + d = i - 1 → i ≤ A.length → small A →
    Is cx (.loop 94 [0, 1, 0, 1, 1, 1, 0, 1, 0] 1 [.all 0 none, vi i, vi k] [.arr 15 (A.map Cross.enc) none false])
      ⟨.exit 2, [.all 0 none, vi i, vi (i - 1 : Nat)], [.arr 15 ((up d A k).map Cross.enc) none false]⟩ := by
  intro d
  induction d with
  | zero =>
    intro k i A h1 h2 hn
    unfold small at hn
    obtain rfl : k = i - 1 := by omega
    unfold up
    refine Wp.ev ?_
    refine gg [.i IntKind.i64 ((↑i : Int) - 1) ((↑i : Int) - 1), .b (decide ((↑(i - 1) : Int) < (↑i : Int) - 1)) false] ⟨oI, fP, trivial⟩ ?_
    exact ge
  | succ d ih =>
    intro k i A h1 h2 hn
    have ih1 := ih (k + 1) i (sw A k (k + 1)) (by omega) (by rw [sw_len]; omega) (by unfold small; rw [sw_len]; exact hn)
    unfold small at hn
    clear ih
    unfold up
    unfold sw at *
    refine Wp.ev ?_
    refine gg [.i IntKind.i64 ((↑i : Int) - 1) ((↑i : Int) - 1), .b (decide ((↑k : Int) < (↑i : Int) - 1)) true, .i IntKind.i64 ((↑k : Int) + 1) ((↑(k + 1) : Int)), .i IntKind.i64 ((↑k : Int) + 1) ((↑(k + 1) : Int)), .w ((0 : Int) ≤ (↑(k + (1 : Nat)) : Int)), .n (Int.toNat (↑(k + 1) : Int)) (k + 1), .w (k + (1 : Nat) < List.length (List.map Cross.enc A)), .w ((0 : Int) ≤ (↑k : Int)), .n (Int.toNat (↑k : Int)) k, .w (k < List.length (List.map Cross.enc A)), .g (List.map Cross.enc A) (k + 1) (Cross.enc (gt A (k + 1))), .g (List.map Cross.enc A) k (Cross.enc (gt A k)), .w ((0 : Int) ≤ (↑k : Int)), .n (Int.toNat (↑k : Int)) k, .w (k < List.length (List.map Cross.enc A)), .w (k < List.length (List.map Cross.enc A))] ⟨oI, tP, oI, oI, oW, o_n (by kernel_rfl), o_w (by (simp; omega)), oW, o_n (by kernel_rfl), o_w (by (simp; omega)), oT, oT, oW, o_n (by kernel_rfl), o_w (by (simp; omega)), o_w (by (simp; omega)), trivial⟩ ?_
    refine gg [.t (T.sl 0 (List.set (List.map Cross.enc A) k (Cross.enc (gt A (k + 1))))) (T.sl 0 (List.map Cross.enc (List.set A k (gt A (k + 1))))), .w ((0 : Int) ≤ (↑(k + (1 : Nat)) : Int)), .n (Int.toNat (↑(k + 1) : Int)) (k + 1), .w (k + (1 : Nat) < List.length (List.map Cross.enc (List.set A k (gt A (k + (1 : Nat)))))), .w (k + (1 : Nat) < List.length (List.map Cross.enc (List.set A k (gt A (k + (1 : Nat)))))), .t (T.sl 0 (List.set (List.map Cross.enc (List.set A k (gt A (k + 1)))) (k + 1) (Cross.enc (gt A k)))) (T.sl 0 (List.map Cross.enc (List.set (List.set A k (gt A (k + 1))) (k + 1) (gt A k)))), .i IntKind.i64 ((↑k : Int) + 1) ((↑(k + 1) : Int)), .a _ _] ⟨o_l (nm_set rfl rfl), oW, o_n (by kernel_rfl), o_w (by (simp; omega)), o_w (by (simp; omega)), o_l (nm_set rfl rfl), oI, o_a ih1, trivial⟩ ?_
    exact ge
theorem f_symMerge_down (i : Nat) : ∀ (d k : Nat) (A : List Cross), k = i + d → k < A.length → small A →
    Is cx (.loop 94 [0, 1, 0, 1, 1, 1, 0, 1, 0, 1] 1 [.all 0 none, vi i, vi k] [.arr 15 (A.map Cross.enc) none false])
      ⟨.exit 6, [.all 0 none, vi i, vi i], [.arr 15 ((down d A k).map Cross.enc) none false]⟩ := by
  intro d
  induction d with
  | zero =>
    intro k A h1 h2 hn
    unfold small at hn
    obtain rfl : k = i := by omega
    unfold down
    refine Wp.ev ?_
    refine gg [.b (decide ((↑k : Int) > (↑k : Int))) false] ⟨fP, trivial⟩ ?_
    exact ge
  | succ d ih =>
    intro k A h1 h2 hn
    have ih1 := ih (k - 1) (sw A k (k - 1)) (by omega) (by rw [sw_len]; omega) (by unfold small; rw [sw_len]; exact hn)
    unfold small at hn
    clear ih
    have e1 : (k : Int) - 1 = (k - 1 : Nat) := by omega
    unfold down
    unfold sw at *
    refine Wp.ev ?_
    refine gg [.b (decide ((↑k : Int) > (↑i : Int))) true, .i IntKind.i64 ((↑k : Int) - 1) ((↑(k - 1) : Int)), .i IntKind.i64 ((↑k : Int) - 1) ((↑(k - 1) : Int)), .w ((0 : Int) ≤ (↑(k - (1 : Nat)) : Int)), .n (Int.toNat (↑(k - 1) : Int)) (k - 1), .w (k - (1 : Nat) < List.length (List.map Cross.enc A)), .w ((0 : Int) ≤ (↑k : Int)), .n (Int.toNat (↑k : Int)) k, .w (k < List.length (List.map Cross.enc A)), .g (List.map Cross.enc A) (k - 1) (Cross.enc (gt A (k - 1))), .g (List.map Cross.enc A) k (Cross.enc (gt A k)), .w ((0 : Int) ≤ (↑k : Int)), .n (Int.toNat (↑k : Int)) k, .w (k < List.length (List.map Cross.enc A)), .w (k < List.length (List.map Cross.enc A)), .t (T.sl 0 (List.set (List.map Cross.enc A) k (Cross.enc (gt A (k - 1))))) (T.sl 0 (List.map Cross.enc (List.set A k (gt A (k - 1)))))] ⟨tP, oI, oI, oW, o_n (by kernel_rfl), o_w (by (simp; omega)), oW, o_n (by kernel_rfl), o_w (by (simp; omega)), oT, o_gt rfl (by assumption) (by intro h; cases h), oW, o_n (by kernel_rfl), o_w (by (simp; omega)), o_w (by (simp; omega)), o_l (nm_set rfl rfl), trivial⟩ ?_
    refine gg [.w ((0 : Int) ≤ (↑(k - (1 : Nat)) : Int)), .n (Int.toNat (↑(k - 1) : Int)) (k - 1), .w (k - (1 : Nat) < List.length (List.map Cross.enc (List.set A k (gt A (k - (1 : Nat)))))), .w (k - (1 : Nat) < List.length (List.map Cross.enc (List.set A k (gt A (k - (1 : Nat)))))), .t (T.sl 0 (List.set (List.map Cross.enc (List.set A k (gt A (k - 1)))) (k - 1) (Cross.enc (gt A k)))) (T.sl 0 (List.map Cross.enc (List.set (List.set A k (gt A (k - 1))) (k - 1) (gt A k)))), .i IntKind.i64 ((↑k : Int) - 1) ((↑(k - 1) : Int)), .a _ _] ⟨oW, o_n (by kernel_rfl), o_w (by (simp; omega)), o_w (by (simp; omega)), o_l (nm_set rfl rfl), oI, o_a ih1, trivial⟩ ?_
    exact ge
end Go.Eva.S1

/- Eva, part 55: merging in place, the steps; in plain lists. -/
namespace Go.Eva
set_option linter.unusedSectionVars false
section
variable {α : Type} [Inhabited α] {lt : α → α → Bool}

theorem gt_in {P U Q : List α} {k : Nat} (h : P.length ≤ k) (h' : k < P.length + U.length) : gt (P ++ U ++ Q) k = gt U (k - P.length) := by
  rw [List.append_assoc, gt_app, if_neg (by omega), gt_app, if_pos (by omega)]
theorem merge_first (hw : Swo lt) {P V Q : List α} {x : α} {a m b d s : Nat} (ha : a = P.length) (hm : m = a + 1) (hb : b = m + V.length) (hd : b ≤ m + d) (hV : Sd lt V)
    (hs : s = bs (fun h => lt (gt (P ++ [x] ++ V ++ Q) h) (gt (P ++ [x] ++ V ++ Q) a)) d m b) :
    m ≤ s ∧ s ≤ b ∧ up (s - 1 - a) (P ++ [x] ++ V ++ Q) a = P ++ sortS lt ([x] ++ V) ++ Q := by
  have ga : gt (P ++ [x] ++ V ++ Q) a = x := by
    have := gt_mid (P := P) (Q := V ++ Q) (x := x) (k := a) ha
    simpa using this
  rw [ga] at hs
  have hg : ∀ h, m ≤ h → h < b → gt (P ++ [x] ++ V ++ Q) h = gt V (h - m) := by
    intro h h1 h2
    rw [gt_in (P := P ++ [x]) (U := V) (by simp; omega) (by simp; omega)]
    congr 1; simp; omega
  have hsd : ∀ h h', m ≤ h → h ≤ h' → h' < b → lt (gt (P ++ [x] ++ V ++ Q) h') (gt (P ++ [x] ++ V ++ Q) h) = false := by
    intro h h' h1 h2 h3
    exact sd_gt (P := P ++ [x]) hV hw (by simp; omega) h2 (by simp; omega)
  obtain ⟨k1, k2, k3, k4⟩ := bs_ok (P := fun h => lt (gt (P ++ [x] ++ V ++ Q) h) x) (d := d) (i := m) (j := b) (by omega) (by omega)
    (fun h h' c1 c2 c3 c4 => hw.le_lt (hsd h h' c1 c2 c3) c4)
  rw [← hs] at k1 k2 k3 k4
  refine ⟨k1, k2, ?_⟩
  have hVs : V = V.take (s - m) ++ V.drop (s - m) := (List.take_append_drop ..).symm
  have l1 : (V.take (s - m)).length = s - m := by simp; omega
  have hV' := hV
  rw [hVs] at hV'
  have c1 : ∀ y ∈ V.take (s - m), lt y x = true := by
    intro y hy
    obtain ⟨i, hi, rfl⟩ := List.getElem_of_mem hy
    have := k3 (m + i) (by omega) (by omega)
    rw [hg _ (by omega) (by omega), Nat.add_sub_cancel_left] at this
    rw [List.getElem_take, ← gt_eq]; exact this
  have c2 : ∀ y ∈ V.drop (s - m), lt y x = false := by
    intro y hy
    obtain ⟨i, hi, rfl⟩ := List.getElem_of_mem hy
    rw [List.length_drop] at hi
    have := k4 (s + i) (by omega) (by omega)
    rw [hg _ (by omega) (by omega)] at this
    rw [List.getElem_drop, ← gt_eq, show s - m + i = s + i - m by omega]; exact this
  have hxV : Sd lt (x :: V.drop (s - m)) := List.pairwise_cons.2 ⟨c2, (List.pairwise_append.1 hV').2.1⟩
  have e := merge_parts hw (U1 := []) (U2 := [x]) (V1 := V.take (s - m)) (V2 := V.drop (s - m)) (by simp [Sd]) hV' (fun y hy z hz => by simp at hz; subst hz; exact c1 y hy) (fun _ h => by simp at h)
  rw [List.take_append_drop, List.nil_append, List.nil_append, sortS_self hw (List.pairwise_append.1 hV').1, List.singleton_append, sortS_self hw hxV] at e
  rw [← e]
  have := up_eq (Q := V.drop (s - m) ++ Q) (x := x) (V := V.take (s - m)) (P := P)
  rw [l1, ← ha] at this
  rw [show s - 1 - a = s - m by omega]
  have e2 : P ++ [x] ++ V ++ Q = P ++ x :: V.take (s - m) ++ (V.drop (s - m) ++ Q) := by
    simp only [List.append_assoc, List.cons_append, List.nil_append]
    rw [← List.append_assoc (V.take _), List.take_append_drop]
  rw [e2, this]
  simp
theorem merge_last (hw : Swo lt) {P U Q : List α} {y : α} {a m d s : Nat} (ha : a = P.length) (hm : m = a + U.length) (hd : m ≤ a + d) (hU : Sd lt U)
    (hs : s = bs (fun h => !lt (gt (P ++ U ++ [y] ++ Q) m) (gt (P ++ U ++ [y] ++ Q) h)) d a m) :
    a ≤ s ∧ s ≤ m ∧ down (m - s) (P ++ U ++ [y] ++ Q) m = P ++ sortS lt (U ++ [y]) ++ Q := by
  have gm : gt (P ++ U ++ [y] ++ Q) m = y := by
    have := gt_mid (P := P ++ U) (Q := Q) (x := y) (k := m) (by simp; omega)
    simpa using this
  rw [gm] at hs
  have hg : ∀ h, a ≤ h → h < m → gt (P ++ U ++ [y] ++ Q) h = gt U (h - a) := by
    intro h h1 h2
    rw [List.append_assoc (P ++ U), gt_in (by omega) (by omega), ha]
  have hsd : ∀ h h', a ≤ h → h ≤ h' → h' < m → lt (gt (P ++ U ++ [y] ++ Q) h') (gt (P ++ U ++ [y] ++ Q) h) = false := by
    intro h h' h1 h2 h3
    rw [List.append_assoc (P ++ U)]
    exact sd_gt hU hw (by omega) h2 (by omega)
  obtain ⟨k1, k2, k3, k4⟩ := bs_ok (P := fun h => !lt y (gt (P ++ U ++ [y] ++ Q) h)) (d := d) (i := a) (j := m) (by omega) (by omega)
    (fun h h' c1 c2 c3 c4 => by
      simp only [Bool.not_eq_true'] at c4 ⊢
      exact hw.ntrans c4 (hsd h h' c1 c2 c3))
  rw [← hs] at k1 k2 k3 k4
  refine ⟨k1, k2, ?_⟩
  have hUs : U = U.take (s - a) ++ U.drop (s - a) := (List.take_append_drop ..).symm
  have l1 : (U.take (s - a)).length = s - a := by simp; omega
  have l2 : (U.drop (s - a)).length = m - s := by simp; omega
  have hU' := hU
  rw [hUs] at hU'
  have c1 : ∀ z ∈ U.take (s - a), lt y z = false := by
    intro z hz
    obtain ⟨i, hi, rfl⟩ := List.getElem_of_mem hz
    have := k3 (a + i) (by omega) (by omega)
    rw [hg _ (by omega) (by omega), Nat.add_sub_cancel_left] at this
    rw [List.getElem_take, ← gt_eq]; simpa using this
  have c2 : ∀ z ∈ U.drop (s - a), lt y z = true := by
    intro z hz
    obtain ⟨i, hi, rfl⟩ := List.getElem_of_mem hz
    rw [List.length_drop] at hi
    have := k4 (s + i) (by omega) (by omega)
    rw [hg _ (by omega) (by omega)] at this
    rw [List.getElem_drop, ← gt_eq, show s - a + i = s + i - a by omega]; simpa using this
  have hUy : Sd lt (U.take (s - a) ++ [y]) := List.pairwise_append.2 ⟨(List.pairwise_append.1 hU').1, by simp, fun z hz w hw' => by simp at hw'; subst hw'; exact c1 z hz⟩
  have e := merge_parts hw (U1 := U.take (s - a)) (U2 := U.drop (s - a)) (V1 := [y]) (V2 := []) hU' (by simp [Sd]) (fun w hw' z hz => by simp at hw'; subst hw'; exact c2 z hz) (fun _ _ _ h => by simp at h)
  rw [List.take_append_drop, List.append_nil, List.append_nil, sortS_self hw (List.pairwise_append.1 hU').2.1, sortS_self hw hUy] at e
  rw [← e]
  have := down_eq (Q := Q) (x := y) (n := m - s) (V := U.drop (s - a)) (P := P ++ U.take (s - a)) (k := m) (by omega) (by simp; omega)
  have e2 : P ++ U ++ [y] ++ Q = P ++ U.take (s - a) ++ U.drop (s - a) ++ y :: Q := by
    simp only [List.append_assoc, List.cons_append, List.nil_append]
    rw [← List.append_assoc (U.take _), List.take_append_drop]
  rw [e2, this]
  simp
end
end Go.Eva

/- Eva, part 56: merging in place, the step of the middle; in plain lists. -/
namespace Go.Eva
set_option linter.unusedSectionVars false
section
variable {α : Type} [Inhabited α] {lt : α → α → Bool}

theorem merge_gen (hw : Swo lt) {P U V Q : List α} {a m b mid s0 r0 d s : Nat} (ha : a = P.length) (hm : m = a + U.length) (hb : b = m + V.length) (hU : Sd lt U) (hV : Sd lt V)
    (h1 : 0 < U.length) (h2 : 0 < V.length) (hmid : (a + b) / 2 = mid) (hs0 : m ≤ mid ∧ s0 = a ∧ r0 = m ∨ mid < m ∧ s0 = mid + m - b ∧ r0 = mid) (hd : r0 ≤ s0 + d)
    (hs : s = bs (fun c => !lt (gt (P ++ U ++ V ++ Q) (mid + m - 1 - c)) (gt (P ++ U ++ V ++ Q) c)) d s0 r0) :
    s0 ≤ s ∧ s ≤ r0 ∧ ∃ U1 U2 V1 V2, U = U1 ++ U2 ∧ V = V1 ++ V2 ∧ U1.length = s - a ∧ V1.length = mid - s ∧ sortS lt (U1 ++ V1) ++ sortS lt (U2 ++ V2) = sortS lt (U ++ V) ∧
      Sd lt U1 ∧ Sd lt U2 ∧ Sd lt V1 ∧ Sd lt V2 := by
  have hgU : ∀ h, a ≤ h → h < m → gt (P ++ U ++ V ++ Q) h = gt U (h - a) := by
    intro h c1 c2
    rw [List.append_assoc (P ++ U), gt_in (by omega) (by omega), ha]
  have hgV : ∀ h, m ≤ h → h < b → gt (P ++ U ++ V ++ Q) h = gt V (h - m) := by
    intro h c1 c2
    rw [gt_in (P := P ++ U) (U := V) (by simp; omega) (by simp; omega)]
    congr 1; simp; omega
  have hsU : ∀ h h', a ≤ h → h ≤ h' → h' < m → lt (gt (P ++ U ++ V ++ Q) h') (gt (P ++ U ++ V ++ Q) h) = false := by
    intro h h' c1 c2 c3
    rw [List.append_assoc (P ++ U)]
    exact sd_gt hU hw (by omega) c2 (by omega)
  have hsV : ∀ h h', m ≤ h → h ≤ h' → h' < b → lt (gt (P ++ U ++ V ++ Q) h') (gt (P ++ U ++ V ++ Q) h) = false := by
    intro h h' c1 c2 c3
    exact sd_gt (P := P ++ U) hV hw (by simp; omega) c2 (by simp; omega)
  obtain ⟨k1, k2, k3, k4⟩ := bs_ok (P := fun c => !lt (gt (P ++ U ++ V ++ Q) (mid + m - 1 - c)) (gt (P ++ U ++ V ++ Q) c)) (d := d) (i := s0) (j := r0) (by omega) (by omega)
    (fun h h' c1 c2 c3 c4 => by
      simp only [Bool.not_eq_true'] at c4 ⊢
      exact hw.ntrans (hw.ntrans (hsV (mid + m - 1 - h') (mid + m - 1 - h) (by omega) (by omega) (by omega)) c4) (hsU h h' (by omega) c2 (by omega)))
  rw [← hs] at k1 k2 k3 k4
  refine ⟨k1, k2, U.take (s - a), U.drop (s - a), V.take (mid - s), V.drop (mid - s), (List.take_append_drop ..).symm, (List.take_append_drop ..).symm, by simp; omega, by simp; omega, ?_⟩
  have hUs : U = U.take (s - a) ++ U.drop (s - a) := (List.take_append_drop ..).symm
  have hVs : V = V.take (mid - s) ++ V.drop (mid - s) := (List.take_append_drop ..).symm
  have hU' := hU
  rw [hUs] at hU'
  have hV' := hV
  rw [hVs] at hV'
  obtain ⟨u1, u2, _⟩ := List.pairwise_append.1 hU'
  obtain ⟨v1, v2, _⟩ := List.pairwise_append.1 hV'
  refine ⟨?_, u1, u2, v1, v2⟩
  have lu1 : (U.take (s - a)).length = s - a := by simp; omega
  have lu2 : (U.drop (s - a)).length = m - s := by simp; omega
  have lv1 : (V.take (mid - s)).length = mid - s := by simp; omega
  have lv2 : (V.drop (mid - s)).length = b - (mid + m - s) := by simp; omega
  have gtk : ∀ {L : List α} {n i : Nat}, i < n → gt (L.take n) i = gt L i := by
    intro L n i h
    unfold gt
    rw [List.getElem?_take, if_pos h]
  have gdr : ∀ {L : List α} {n i : Nat}, gt (L.drop n) i = gt L (n + i) := by
    intro L n i
    unfold gt
    rw [List.getElem?_drop]
  have := merge_parts hw hU' hV' (cross1 hw v1 u2 fun c1 c2 => ?_) (cross2 hw u1 v2 fun c1 c2 => ?_)
  · rw [List.take_append_drop, List.take_append_drop] at this
    exact this
  · have n1 : 0 < mid - s := by rw [← lv1]; exact List.length_pos_iff.2 c1
    have n2 : 0 < m - s := by rw [← lu2]; exact List.length_pos_iff.2 c2
    have := k4 s (Nat.le_refl _) (by omega)
    simp only [Bool.not_eq_false'] at this
    rw [hgV _ (by omega) (by omega), hgU _ (by omega) (by omega)] at this
    rw [gtk (by omega), gdr, lv1, show mid - s - 1 = mid + m - 1 - s - m by omega]
    exact this
  · have n1 : 0 < s - a := by rw [← lu1]; exact List.length_pos_iff.2 c1
    have n2 : 0 < b - (mid + m - s) := by rw [← lv2]; exact List.length_pos_iff.2 c2
    have := k3 (s - 1) (by omega) (by omega)
    simp only [Bool.not_eq_true'] at this
    rw [hgV _ (by omega) (by omega), hgU _ (by omega) (by omega)] at this
    rw [gtk (by omega), gdr, lu1, show mid - s + 0 = mid + m - 1 - (s - 1) - m by omega, show s - a - 1 = s - 1 - a by omega]
    exact this
end
end Go.Eva

/- Messages: merged in place. -/
namespace Go.Eva.S1
theorem f_symMerge_first (P V Q : List Cross) (x : Cross) (a m b : Nat) (ha : a = P.length) (hm : m = a + 1) (hb : b = m + V.length) (h0 : 0 < V.length) (hV : Sd Cross.less V) (hn : small (P ++ [x] ++ V ++ Q)) :
    Is cx (.call 94 [.all 0 none, vi a, vi m, vi b, .t (.clo 67 [])] [.arr 15 ((P ++ [x] ++ V ++ Q).map Cross.enc) none false])
   ⟨.ret, [], [.arr 15 ((P ++ sortS Cross.less ([x] ++ V) ++ Q).map Cross.enc) none false]⟩ := by
  have hl : (P ++ [x] ++ V ++ Q).length = b + Q.length := by simp; omega
  have hbs := f_symMerge_bs1 (P ++ [x] ++ V ++ Q) a (by omega) hn (b - m) m b (by omega) (by omega) (by omega)
  obtain ⟨k1, k2, k3⟩ := merge_first less_swo (Q := Q) (x := x) (d := b - m) ha hm hb (by omega) hV rfl
  generalize bs _ (b - m) m b = s at *
  have hup := f_symMerge_up (s - 1 - a) a s (P ++ [x] ++ V ++ Q) (by omega) (by omega) hn
  rw [k3] at hup
  clear k3 hV
  generalize P ++ [x] ++ V ++ Q = A at *
  generalize P ++ sortS Cross.less ([x] ++ V) ++ Q = B at *
  unfold small at hn
  refine Wp.ev ?_
  refine gg [.i IntKind.i64 ((↑m : Int) - (↑a : Int)) ((↑m : Int) - (↑a : Int)), .b ((↑m : Int) - (↑a : Int) == 1) true, .a _ _, .a _ _] ⟨oI, tE, o_a hbs, o_a hup, trivial⟩ ?_
  exact ge
theorem f_symMerge_last (P U Q : List Cross) (y : Cross) (a m b : Nat) (ha : a = P.length) (hm : m = a + U.length) (hb : b = m + 1) (h0 : 1 < U.length) (hU : Sd Cross.less U) (hn : small (P ++ U ++ [y] ++ Q)) :
    Is cx (.call 94 [.all 0 none, vi a, vi m, vi b, .t (.clo 67 [])] [.arr 15 ((P ++ U ++ [y] ++ Q).map Cross.enc) none false])
   ⟨.ret, [], [.arr 15 ((P ++ sortS Cross.less (U ++ [y]) ++ Q).map Cross.enc) none false]⟩ := by
  have hl : (P ++ U ++ [y] ++ Q).length = b + Q.length := by simp; omega
  have hbs := f_symMerge_bs2 (P ++ U ++ [y] ++ Q) m (by omega) hn (m - a) a m (by omega) (by omega) (by omega)
  obtain ⟨k1, k2, k3⟩ := merge_last less_swo (Q := Q) (y := y) (d := m - a) ha hm (by omega) hU rfl
  generalize bs _ (m - a) a m = s at *
  have hup := f_symMerge_down s (m - s) m (P ++ U ++ [y] ++ Q) (by omega) (by omega) hn
  rw [k3] at hup
  clear k3 hU
  generalize P ++ U ++ [y] ++ Q = A at *
  generalize P ++ sortS Cross.less (U ++ [y]) ++ Q = B at *
  unfold small at hn
  refine Wp.ev ?_
  refine gg [.i IntKind.i64 ((↑m : Int) - (↑a : Int)) ((↑m : Int) - (↑a : Int)), .b ((↑m : Int) - (↑a : Int) == 1) false, .i IntKind.i64 ((↑b : Int) - (↑m : Int)) ((↑b : Int) - (↑m : Int)), .b ((↑b : Int) - (↑m : Int) == 1) true, .a _ _, .a _ _] ⟨oI, fE, oI, tE, o_a hbs, o_a hup, trivial⟩ ?_
  exact ge
end Go.Eva.S1

/- Eva, part 57: rows of sorted blocks; in plain lists. -/
namespace Go.Eva
set_option linter.unusedSectionVars false
section
variable {α : Type} [Inhabited α] {lt : α → α → Bool}

/-- Sorted blocks of one length, the last one shorter maybe. -/
inductive Blks (lt : α → α → Bool) (n : Nat) : List α → Prop
  | last {R : List α} : R.length ≤ n → Sd lt R → Blks lt n R
  | cons {S R : List α} : S.length = n → Sd lt S → Blks lt n R → Blks lt n (S ++ R)
/-- Sorted blocks of one length. -/
inductive Full (lt : α → α → Bool) (n : Nat) : List α → Prop
  | nil : Full lt n []
  | snoc {P S : List α} : Full lt n P → S.length = n → Sd lt S → Full lt n (P ++ S)

theorem Full.blks {n : Nat} {P : List α} (h : Full lt n P) : ∀ {R : List α}, Blks lt n R → Blks lt n (P ++ R) := by
  induction h with
  | nil => intro R h; exact h
  | snoc _ h2 h3 ih => intro R h; rw [List.append_assoc]; exact ih (.cons h2 h3 h)
theorem Blks.more {n : Nat} {R : List α} (h : Blks lt n R) (hl : n < R.length) : ∃ S R', R = S ++ R' ∧ S.length = n ∧ Sd lt S ∧ Blks lt n R' := by
  cases h with
  | last h _ => omega
  | cons h1 h2 h3 => exact ⟨_, _, rfl, h1, h2, h3⟩
theorem Blks.more' {n : Nat} {R : List α} (h : Blks lt n R) (hl : n ≤ R.length) : ∃ S R', R = S ++ R' ∧ S.length = n ∧ Sd lt S ∧ Blks lt n R' := by
  by_cases hx : n < R.length
  · exact h.more hx
  · cases h with
    | last h2 h3 => exact ⟨R, [], by simp, by omega, h3, .last (by simp) (by simp [Sd])⟩
    | cons h1 h2 h3 => exact ⟨_, _, rfl, h1, h2, h3⟩
theorem Blks.sd {n : Nat} {R : List α} (h : Blks lt n R) (hl : R.length ≤ n) : Sd lt R := by
  cases h with
  | last _ h => exact h
  | @cons S R' h1 h2 h3 =>
    have : R' = [] := by
      rw [List.length_append] at hl
      exact List.eq_nil_of_length_eq_zero (by omega)
    subst this
    simpa using h2
/-- Two blocks ahead. -/
theorem Blks.two {n : Nat} {R : List α} (h : Blks lt n R) (hn : 0 < n) (hl : 2 * n ≤ R.length) : ∃ S1 S2 R', R = S1 ++ S2 ++ R' ∧ S1.length = n ∧ S2.length = n ∧ Sd lt S1 ∧ Sd lt S2 ∧ Blks lt n R' := by
  obtain ⟨S1, R1, rfl, h1, h2, h3⟩ := h.more (by omega)
  rw [List.length_append] at hl
  obtain ⟨S2, R2, rfl, h4, h5, h6⟩ := h3.more' (by omega)
  exact ⟨S1, S2, R2, by simp, h1, h4, h2, h5, h6⟩
/-- One, and a rest. -/
theorem Blks.one {n : Nat} {R : List α} (h : Blks lt n R) (hl : n < R.length) (h2 : R.length < 2 * n) : ∃ S1 S2, R = S1 ++ S2 ∧ S1.length = n ∧ Sd lt S1 ∧ Sd lt S2 ∧ 0 < S2.length := by
  obtain ⟨S1, R1, rfl, h3, h4, h5⟩ := h.more hl
  rw [List.length_append] at hl h2
  exact ⟨S1, R1, rfl, h3, h4, h5.sd (by omega), by omega⟩
theorem StEq.mid {P S S' Q : List α} (h : StEq lt S' S) : StEq lt (P ++ S' ++ Q) (P ++ S ++ Q) := ((StEq.refl _).append h).append (.refl _)
theorem split_at (R : List α) {n : Nat} (h : n ≤ R.length) : ∃ S R', R = S ++ R' ∧ S.length = n := ⟨R.take n, R.drop n, (List.take_append_drop ..).symm, by simp; omega⟩

theorem insS_app {x : α} : ∀ {S T : List α}, (∀ z ∈ S, lt x z = false) → insS lt (S ++ T) x = S ++ insS lt T x
  | [], _, _ => rfl
  | z :: S, T, h => by
    simp only [List.cons_append, insS, h z (List.mem_cons_self ..), insS_app fun w hw => h w (List.mem_cons_of_mem _ hw)]
theorem insS_head {x : α} {T : List α} (h : ∀ t ∈ T, lt x t = true) : insS lt T x = x :: T := by
  cases T with
  | nil => rfl
  | cons t T => simp only [insS, h t (List.mem_cons_self ..)]
/-- Where one belongs, looked for from the end on. -/
def bk (lt : α → α → Bool) (x : α) (A : List α) : Nat → Nat
  | 0 => 0
  | k + 1 => match lt x (gt A k) with | true => bk lt x A k | false => k + 1
theorem bk_le {x : α} {A : List α} : ∀ {k : Nat}, bk lt x A k ≤ k
  | 0 => Nat.le_refl _
  | k + 1 => by
    unfold bk
    split
    · have := @bk_le x A k; omega
    · exact Nat.le_refl _
theorem bk_ins (hw : Swo lt) {x : α} : ∀ {n : Nat} {S T : List α}, n = S.length → Sd lt S → (∀ t ∈ T, lt x t = true) → insS lt (S ++ T) x = (S ++ T).take (bk lt x (S ++ T) n) ++ x :: (S ++ T).drop (bk lt x (S ++ T) n) := by
  intro n
  induction n with
  | zero =>
    intro S T h1 _ h2
    have : S = [] := List.eq_nil_of_length_eq_zero h1.symm
    subst this
    simp [bk, insS_head h2]
  | succ n ih =>
    intro S T h1 hs h2
    obtain ⟨S', y, rfl⟩ := snoc_of (U := S) (by intro e; subst e; simp at h1)
    simp only [List.length_append, List.length_cons, List.length_nil] at h1
    have g : gt (S' ++ [y] ++ T) n = y := by
      have := gt_mid (P := S') (Q := T) (x := y) (k := n) (by omega)
      simpa using this
    rw [bk, g]
    cases hl : lt x y with
    | true =>
      simp only
      have := ih (S := S') (T := y :: T) (by omega) (List.pairwise_append.1 hs).1 (fun t ht => by
        rcases List.mem_cons.1 ht with rfl | ht
        · exact hl
        · exact h2 t ht)
      simpa using this
    | false =>
      simp only
      rw [insS_app (S := S' ++ [y]) (T := T) (fun z hz => ?_), insS_head h2]
      · rw [List.take_left' (by simp; omega), List.drop_left' (by simp; omega)]
      · rcases List.mem_append.1 hz with hz | hz
        · exact hw.ntrans hl ((List.pairwise_append.1 hs).2.2 z hz y (by simp))
        · simp at hz; subst hz; exact hl
theorem bk_eq (hw : Swo lt) {x : α} {S : List α} (hs : Sd lt S) : insS lt S x = S.take (bk lt x S S.length) ++ x :: S.drop (bk lt x S S.length) := by
  have := bk_ins hw (x := x) (S := S) (T := []) rfl hs (by simp)
  simpa using this
end
end Go.Eva

/- Messages: merged in place, all cases. -/
namespace Go.Eva.S1
theorem f_symMerge_genA (A0 A1 A2 A3 : List Cross) (a m b mid s : Nat) (hmid : (a + b) / 2 = mid) (hc : m ≤ mid)
    (h1 : a + 1 < m) (h2 : m + 1 < b) (hb : b ≤ A0.length) (hn : small A0) (hs : a ≤ s ∧ s ≤ m)
    (hbs : Is cx (.loop 94 [0, 0, 1, 1, 1, 1, 1, 1, 1] 1 [.all 0 none, vi a, vi m, vi b, .t (.clo 67 []), vi mid, vi (mid + m : Nat), vi a, vi m, vi (mid + m - 1 : Nat)] [.arr 15 (A0.map Cross.enc) none false])
      ⟨.exit 8, [.all 0 none, vi a, vi m, vi b, .t (.clo 67 []), vi mid, vi (mid + m : Nat), vi s, vi s, vi (mid + m - 1 : Nat)], [.arr 15 (A0.map Cross.enc) none false]⟩)
    (k1 : s < m → s < mid → Is cx (.call 98 [.all 0 none, vi s, vi m, vi (mid + m - s : Nat), .t (.clo 67 [])] [.arr 15 (A0.map Cross.enc) none false]) ⟨.ret, [], [.arr 15 (A1.map Cross.enc) none false]⟩)
    (k1' : ¬ (s < m ∧ s < mid) → A0 = A1)
    (k2 : a < s → s < mid → Is cx (.call 94 [.all 0 none, vi a, vi s, vi mid, .t (.clo 67 [])] [.arr 15 (A1.map Cross.enc) none false]) ⟨.ret, [], [.arr 15 (A2.map Cross.enc) none false]⟩)
    (k2' : ¬ (a < s ∧ s < mid) → A1 = A2)
    (k3 : s < m → mid + m < b + s → Is cx (.call 94 [.all 0 none, vi mid, vi (mid + m - s : Nat), vi b, .t (.clo 67 [])] [.arr 15 (A2.map Cross.enc) none false]) ⟨.ret, [], [.arr 15 (A3.map Cross.enc) none false]⟩)
    (k3' : ¬ (s < m ∧ mid + m < b + s) → A2 = A3) :
    Is cx (.call 94 [.all 0 none, vi a, vi m, vi b, .t (.clo 67 [])] [.arr 15 (A0.map Cross.enc) none false])
   ⟨.ret, [], [.arr 15 (A3.map Cross.enc) none false]⟩ := by
  have hf : Int.fdiv ((a + b : Nat) : Int) 2 = (mid : Nat) := by rw [Int.fdiv_eq_ediv_of_nonneg _ (by omega)]; omega
  have hmm : a < mid ∧ mid < b := by omega
  unfold small at hn
  have e1 : ((mid + m : Nat) : Int) - 1 = (mid + m - 1 : Nat) := by omega
  have e2 : ((mid + m : Nat) : Int) - s = (mid + m - s : Nat) := by omega
  by_cases c1 : s < m ∧ s < mid
  · have j1 := k1 c1.1 c1.2
    by_cases c2 : a < s
    · have j2 := k2 c2 c1.2
      by_cases c3 : mid + m < b + s
      · have j3 := k3 c1.1 c3
        clear k1' k2' k3' k1 k2 k3
        refine Wp.ev ?_
        refine gg [.i IntKind.i64 ((↑m : Int) - (↑a : Int)) ((↑m : Int) - (↑a : Int)), .b ((↑m : Int) - (↑a : Int) == 1) false, .i IntKind.i64 ((↑b : Int) - (↑m : Int)) ((↑b : Int) - (↑m : Int)), .b ((↑b : Int) - (↑m : Int) == 1) false, .i IntKind.i64 ((↑a : Int) + (↑b : Int)) ((↑(a + b) : Int)), .i IntKind.u64 ((↑(a + b) : Int)) ((↑(a + b) : Int)), .w ((0 : Int) ≤ (1 : Int)), .t (T.int IntKind.u64 (Int.fdiv (↑(a + b) : Int) 2)) (T.int IntKind.u64 (↑mid : Int)), .i IntKind.i64 (↑mid : Int) (↑mid : Int), .i IntKind.i64 ((↑mid : Int) + (↑m : Int)) ((↑(mid + m) : Int)), .b (decide ((↑m : Int) > (↑mid : Int))) false, .i IntKind.i64 ((↑(mid + m) : Int) - 1) ((↑(mid + m - 1) : Int)), .a _ _, .i IntKind.i64 ((↑(mid + m) : Int) - (↑s : Int)) ((↑(mid + m - s) : Int)), .b (decide ((↑s : Int) < (↑m : Int))) true, .tt] ⟨oI, fE, oI, fE, oI, oU, oW, o_t (by rw [hf]), oI, oI, fP, oI, o_a hbs, oI, tP, trivial⟩ ?_
        refine gg [.tt, .tt, .b (decide ((↑m : Int) < (↑(mid + m - s) : Int))) true, .a _ _, .b (decide ((↑a : Int) < (↑s : Int))) true, .tt, .tt, .tt, .b (decide ((↑s : Int) < (↑mid : Int))) true, .a _ _, .b (decide ((↑mid : Int) < (↑(mid + m - s) : Int))) true, .tt, .tt, .tt, .b (decide ((↑(mid + m - s) : Int) < (↑b : Int))) true, .a _ _] ⟨tP, o_a j1, tP, tP, o_a j2, tP, tP, o_a j3, trivial⟩ ?_
        exact ge
      · obtain rfl := k3' (fun h => c3 h.2)
        clear k1' k2' k3' k1 k2 k3
        omega
    · obtain rfl := k2' (fun h => c2 h.1)
      by_cases c3 : mid + m < b + s
      · have j3 := k3 c1.1 c3
        clear k1' k2' k3' k1 k2 k3
        refine Wp.ev ?_
        refine gg [.i IntKind.i64 ((↑m : Int) - (↑a : Int)) ((↑m : Int) - (↑a : Int)), .b ((↑m : Int) - (↑a : Int) == 1) false, .i IntKind.i64 ((↑b : Int) - (↑m : Int)) ((↑b : Int) - (↑m : Int)), .b ((↑b : Int) - (↑m : Int) == 1) false, .i IntKind.i64 ((↑a : Int) + (↑b : Int)) ((↑(a + b) : Int)), .i IntKind.u64 ((↑(a + b) : Int)) ((↑(a + b) : Int)), .w ((0 : Int) ≤ (1 : Int)), .t (T.int IntKind.u64 (Int.fdiv (↑(a + b) : Int) 2)) (T.int IntKind.u64 (↑mid : Int)), .i IntKind.i64 (↑mid : Int) (↑mid : Int), .i IntKind.i64 ((↑mid : Int) + (↑m : Int)) ((↑(mid + m) : Int)), .b (decide ((↑m : Int) > (↑mid : Int))) false, .i IntKind.i64 ((↑(mid + m) : Int) - 1) ((↑(mid + m - 1) : Int)), .a _ _, .i IntKind.i64 ((↑(mid + m) : Int) - (↑s : Int)) ((↑(mid + m - s) : Int)), .b (decide ((↑s : Int) < (↑m : Int))) true, .tt] ⟨oI, fE, oI, fE, oI, oU, oW, o_t (by rw [hf]), oI, oI, fP, oI, o_a hbs, oI, tP, trivial⟩ ?_
        refine gg [.tt, .tt, .b (decide ((↑m : Int) < (↑(mid + m - s) : Int))) true, .a _ _, .b (decide ((↑a : Int) < (↑s : Int))) false, .ff, .ff, .ff, .ff, .b (decide ((↑mid : Int) < (↑(mid + m - s) : Int))) true, .tt, .tt, .tt, .b (decide ((↑(mid + m - s) : Int) < (↑b : Int))) true, .a _ _] ⟨tP, o_a j1, fP, tP, tP, o_a j3, trivial⟩ ?_
        exact ge
      · obtain rfl := k3' (fun h => c3 h.2)
        clear k1' k2' k3' k1 k2 k3
        refine Wp.ev ?_
        refine gg [.i IntKind.i64 ((↑m : Int) - (↑a : Int)) ((↑m : Int) - (↑a : Int)), .b ((↑m : Int) - (↑a : Int) == 1) false, .i IntKind.i64 ((↑b : Int) - (↑m : Int)) ((↑b : Int) - (↑m : Int)), .b ((↑b : Int) - (↑m : Int) == 1) false, .i IntKind.i64 ((↑a : Int) + (↑b : Int)) ((↑(a + b) : Int)), .i IntKind.u64 ((↑(a + b) : Int)) ((↑(a + b) : Int)), .w ((0 : Int) ≤ (1 : Int)), .t (T.int IntKind.u64 (Int.fdiv (↑(a + b) : Int) 2)) (T.int IntKind.u64 (↑mid : Int)), .i IntKind.i64 (↑mid : Int) (↑mid : Int), .i IntKind.i64 ((↑mid : Int) + (↑m : Int)) ((↑(mid + m) : Int)), .b (decide ((↑m : Int) > (↑mid : Int))) false, .i IntKind.i64 ((↑(mid + m) : Int) - 1) ((↑(mid + m - 1) : Int)), .a _ _, .i IntKind.i64 ((↑(mid + m) : Int) - (↑s : Int)) ((↑(mid + m - s) : Int)), .b (decide ((↑s : Int) < (↑m : Int))) true, .tt] ⟨oI, fE, oI, fE, oI, oU, oW, o_t (by rw [hf]), oI, oI, fP, oI, o_a hbs, oI, tP, trivial⟩ ?_
        refine gg [.tt, .tt, .b (decide ((↑m : Int) < (↑(mid + m - s) : Int))) true, .a _ _, .b (decide ((↑a : Int) < (↑s : Int))) false, .ff, .ff, .ff, .ff, .b (decide ((↑mid : Int) < (↑(mid + m - s) : Int))) true, .tt, .tt, .tt, .b (decide ((↑(mid + m - s) : Int) < (↑b : Int))) false] ⟨tP, o_a j1, fP, tP, fP, trivial⟩ ?_
        exact ge
  · obtain rfl := k1' c1
    by_cases c0 : s < m
    · have c4 : ¬ s < mid := fun h => c1 ⟨c0, h⟩
      obtain rfl := k2' (fun h => c4 h.2)
      by_cases c3 : mid + m < b + s
      · have j3 := k3 c0 c3
        clear k1' k2' k3' k1 k2 k3
        by_cases c2 : a < s
        · omega
        · omega
      · obtain rfl := k3' (fun h => c3 h.2)
        clear k1' k2' k3' k1 k2 k3
        by_cases c2 : a < s
        · omega
        · omega
    · obtain rfl := k3' (fun h => c0 h.1)
      by_cases c4 : s < mid
      · have j2 := k2 (by omega) c4
        clear k1' k2' k3' k1 k2 k3
        refine Wp.ev ?_
        refine gg [.i IntKind.i64 ((↑m : Int) - (↑a : Int)) ((↑m : Int) - (↑a : Int)), .b ((↑m : Int) - (↑a : Int) == 1) false, .i IntKind.i64 ((↑b : Int) - (↑m : Int)) ((↑b : Int) - (↑m : Int)), .b ((↑b : Int) - (↑m : Int) == 1) false, .i IntKind.i64 ((↑a : Int) + (↑b : Int)) ((↑(a + b) : Int)), .i IntKind.u64 ((↑(a + b) : Int)) ((↑(a + b) : Int)), .w ((0 : Int) ≤ (1 : Int)), .t (T.int IntKind.u64 (Int.fdiv (↑(a + b) : Int) 2)) (T.int IntKind.u64 (↑mid : Int)), .i IntKind.i64 (↑mid : Int) (↑mid : Int), .i IntKind.i64 ((↑mid : Int) + (↑m : Int)) ((↑(mid + m) : Int)), .b (decide ((↑m : Int) > (↑mid : Int))) false, .i IntKind.i64 ((↑(mid + m) : Int) - 1) ((↑(mid + m - 1) : Int)), .a _ _, .i IntKind.i64 ((↑(mid + m) : Int) - (↑s : Int)) ((↑(mid + m - s) : Int)), .b (decide ((↑s : Int) < (↑m : Int))) false, .ff] ⟨oI, fE, oI, fE, oI, oU, oW, o_t (by rw [hf]), oI, oI, fP, oI, o_a hbs, oI, fP, trivial⟩ ?_
        refine gg [.ff, .ff, .ff, .b (decide ((↑a : Int) < (↑s : Int))) true, .tt, .tt, .tt, .b (decide ((↑s : Int) < (↑mid : Int))) true, .a _ _, .b (decide ((↑mid : Int) < (↑(mid + m - s) : Int))) false, .ff, .ff, .ff, .ff] ⟨tP, tP, o_a j2, fP, trivial⟩ ?_
        exact ge
      · obtain rfl := k2' (fun h => c4 h.2)
        clear k1' k2' k3' k1 k2 k3
        by_cases c2 : a < s
        · refine Wp.ev ?_
          refine gg [.i IntKind.i64 ((↑m : Int) - (↑a : Int)) ((↑m : Int) - (↑a : Int)), .b ((↑m : Int) - (↑a : Int) == 1) false, .i IntKind.i64 ((↑b : Int) - (↑m : Int)) ((↑b : Int) - (↑m : Int)), .b ((↑b : Int) - (↑m : Int) == 1) false, .i IntKind.i64 ((↑a : Int) + (↑b : Int)) ((↑(a + b) : Int)), .i IntKind.u64 ((↑(a + b) : Int)) ((↑(a + b) : Int)), .w ((0 : Int) ≤ (1 : Int)), .t (T.int IntKind.u64 (Int.fdiv (↑(a + b) : Int) 2)) (T.int IntKind.u64 (↑mid : Int)), .i IntKind.i64 (↑mid : Int) (↑mid : Int), .i IntKind.i64 ((↑mid : Int) + (↑m : Int)) ((↑(mid + m) : Int)), .b (decide ((↑m : Int) > (↑mid : Int))) false, .i IntKind.i64 ((↑(mid + m) : Int) - 1) ((↑(mid + m - 1) : Int)), .a _ _, .i IntKind.i64 ((↑(mid + m) : Int) - (↑s : Int)) ((↑(mid + m - s) : Int)), .b (decide ((↑s : Int) < (↑m : Int))) false, .ff] ⟨oI, fE, oI, fE, oI, oU, oW, o_t (by rw [hf]), oI, oI, fP, oI, o_a hbs, oI, fP, trivial⟩ ?_
          refine gg [.ff, .ff, .ff, .b (decide ((↑a : Int) < (↑s : Int))) true, .tt, .tt, .tt, .b (decide ((↑s : Int) < (↑mid : Int))) false, .b (decide ((↑mid : Int) < (↑(mid + m - s) : Int))) false, .ff, .ff, .ff, .ff] ⟨tP, fP, fP, trivial⟩ ?_
          exact ge
        · omega
theorem f_symMerge_genB (A0 A1 A2 A3 : List Cross) (a m b mid s : Nat) (hmid : (a + b) / 2 = mid) (hc : mid < m)
    (h1 : a + 1 < m) (h2 : m + 1 < b) (hb : b ≤ A0.length) (hn : small A0) (hs : mid + m - b ≤ s ∧ s ≤ mid)
    (hbs : Is cx (.loop 94 [0, 0, 1, 1, 1, 1, 1, 1, 1] 1 [.all 0 none, vi a, vi m, vi b, .t (.clo 67 []), vi mid, vi (mid + m : Nat), vi (mid + m - b : Nat), vi mid, vi (mid + m - 1 : Nat)] [.arr 15 (A0.map Cross.enc) none false])
      ⟨.exit 8, [.all 0 none, vi a, vi m, vi b, .t (.clo 67 []), vi mid, vi (mid + m : Nat), vi s, vi s, vi (mid + m - 1 : Nat)], [.arr 15 (A0.map Cross.enc) none false]⟩)
    (k1 : s < m → s < mid → Is cx (.call 98 [.all 0 none, vi s, vi m, vi (mid + m - s : Nat), .t (.clo 67 [])] [.arr 15 (A0.map Cross.enc) none false]) ⟨.ret, [], [.arr 15 (A1.map Cross.enc) none false]⟩)
    (k1' : ¬ (s < m ∧ s < mid) → A0 = A1)
    (k2 : a < s → s < mid → Is cx (.call 94 [.all 0 none, vi a, vi s, vi mid, .t (.clo 67 [])] [.arr 15 (A1.map Cross.enc) none false]) ⟨.ret, [], [.arr 15 (A2.map Cross.enc) none false]⟩)
    (k2' : ¬ (a < s ∧ s < mid) → A1 = A2)
    (k3 : s < m → mid + m < b + s → Is cx (.call 94 [.all 0 none, vi mid, vi (mid + m - s : Nat), vi b, .t (.clo 67 [])] [.arr 15 (A2.map Cross.enc) none false]) ⟨.ret, [], [.arr 15 (A3.map Cross.enc) none false]⟩)
    (k3' : ¬ (s < m ∧ mid + m < b + s) → A2 = A3) :
    Is cx (.call 94 [.all 0 none, vi a, vi m, vi b, .t (.clo 67 [])] [.arr 15 (A0.map Cross.enc) none false])
   ⟨.ret, [], [.arr 15 (A3.map Cross.enc) none false]⟩ := by
  have hf : Int.fdiv ((a + b : Nat) : Int) 2 = (mid : Nat) := by rw [Int.fdiv_eq_ediv_of_nonneg _ (by omega)]; omega
  have hmm : a < mid ∧ mid < b := by omega
  unfold small at hn
  have e1 : ((mid + m : Nat) : Int) - 1 = (mid + m - 1 : Nat) := by omega
  have e2 : ((mid + m : Nat) : Int) - s = (mid + m - s : Nat) := by omega
  have e3 : ((mid + m : Nat) : Int) - b = (mid + m - b : Nat) := by omega
  by_cases c1 : s < m ∧ s < mid
  · have j1 := k1 c1.1 c1.2
    by_cases c2 : a < s
    · have j2 := k2 c2 c1.2
      by_cases c3 : mid + m < b + s
      · have j3 := k3 c1.1 c3
        clear k1' k2' k3' k1 k2 k3
        refine Wp.ev ?_
        refine gg [.i IntKind.i64 ((↑m : Int) - (↑a : Int)) ((↑m : Int) - (↑a : Int)), .b ((↑m : Int) - (↑a : Int) == 1) false, .i IntKind.i64 ((↑b : Int) - (↑m : Int)) ((↑b : Int) - (↑m : Int)), .b ((↑b : Int) - (↑m : Int) == 1) false, .i IntKind.i64 ((↑a : Int) + (↑b : Int)) ((↑(a + b) : Int)), .i IntKind.u64 ((↑(a + b) : Int)) ((↑(a + b) : Int)), .w ((0 : Int) ≤ (1 : Int)), .t (T.int IntKind.u64 (Int.fdiv (↑(a + b) : Int) 2)) (T.int IntKind.u64 (↑mid : Int)), .i IntKind.i64 (↑mid : Int) (↑mid : Int), .i IntKind.i64 ((↑mid : Int) + (↑m : Int)) ((↑(mid + m) : Int)), .b (decide ((↑m : Int) > (↑mid : Int))) true, .i IntKind.i64 ((↑(mid + m) : Int) - (↑b : Int)) ((↑(mid + m - b) : Int)), .i IntKind.i64 ((↑(mid + m) : Int) - 1) ((↑(mid + m - 1) : Int)), .a _ _, .i IntKind.i64 ((↑(mid + m) : Int) - (↑s : Int)) ((↑(mid + m - s) : Int)), .b (decide ((↑s : Int) < (↑m : Int))) true] ⟨oI, fE, oI, fE, oI, oU, oW, o_t (by rw [hf]), oI, oI, tP, oI, oI, o_a hbs, oI, tP, trivial⟩ ?_
        refine gg [.tt, .tt, .tt, .b (decide ((↑m : Int) < (↑(mid + m - s) : Int))) true, .a _ _, .b (decide ((↑a : Int) < (↑s : Int))) true, .tt, .tt, .tt, .b (decide ((↑s : Int) < (↑mid : Int))) true, .a _ _, .b (decide ((↑mid : Int) < (↑(mid + m - s) : Int))) true, .tt, .tt, .tt, .b (decide ((↑(mid + m - s) : Int) < (↑b : Int))) true] ⟨tP, o_a j1, tP, tP, o_a j2, tP, tP, trivial⟩ ?_
        refine gg [.a _ _] ⟨o_a j3, trivial⟩ ?_
        exact ge
      · obtain rfl := k3' (fun h => c3 h.2)
        clear k1' k2' k3' k1 k2 k3
        refine Wp.ev ?_
        refine gg [.i IntKind.i64 ((↑m : Int) - (↑a : Int)) ((↑m : Int) - (↑a : Int)), .b ((↑m : Int) - (↑a : Int) == 1) false, .i IntKind.i64 ((↑b : Int) - (↑m : Int)) ((↑b : Int) - (↑m : Int)), .b ((↑b : Int) - (↑m : Int) == 1) false, .i IntKind.i64 ((↑a : Int) + (↑b : Int)) ((↑(a + b) : Int)), .i IntKind.u64 ((↑(a + b) : Int)) ((↑(a + b) : Int)), .w ((0 : Int) ≤ (1 : Int)), .t (T.int IntKind.u64 (Int.fdiv (↑(a + b) : Int) 2)) (T.int IntKind.u64 (↑mid : Int)), .i IntKind.i64 (↑mid : Int) (↑mid : Int), .i IntKind.i64 ((↑mid : Int) + (↑m : Int)) ((↑(mid + m) : Int)), .b (decide ((↑m : Int) > (↑mid : Int))) true, .i IntKind.i64 ((↑(mid + m) : Int) - (↑b : Int)) ((↑(mid + m - b) : Int)), .i IntKind.i64 ((↑(mid + m) : Int) - 1) ((↑(mid + m - 1) : Int)), .a _ _, .i IntKind.i64 ((↑(mid + m) : Int) - (↑s : Int)) ((↑(mid + m - s) : Int)), .b (decide ((↑s : Int) < (↑m : Int))) true] ⟨oI, fE, oI, fE, oI, oU, oW, o_t (by rw [hf]), oI, oI, tP, oI, oI, o_a hbs, oI, tP, trivial⟩ ?_
        refine gg [.tt, .tt, .tt, .b (decide ((↑m : Int) < (↑(mid + m - s) : Int))) true, .a _ _, .b (decide ((↑a : Int) < (↑s : Int))) true, .tt, .tt, .tt, .b (decide ((↑s : Int) < (↑mid : Int))) true, .a _ _, .b (decide ((↑mid : Int) < (↑(mid + m - s) : Int))) true, .tt, .tt, .tt, .b (decide ((↑(mid + m - s) : Int) < (↑b : Int))) false] ⟨tP, o_a j1, tP, tP, o_a j2, tP, fP, trivial⟩ ?_
        exact ge
    · obtain rfl := k2' (fun h => c2 h.1)
      by_cases c3 : mid + m < b + s
      · have j3 := k3 c1.1 c3
        clear k1' k2' k3' k1 k2 k3
        omega
      · obtain rfl := k3' (fun h => c3 h.2)
        clear k1' k2' k3' k1 k2 k3
        refine Wp.ev ?_
        refine gg [.i IntKind.i64 ((↑m : Int) - (↑a : Int)) ((↑m : Int) - (↑a : Int)), .b ((↑m : Int) - (↑a : Int) == 1) false, .i IntKind.i64 ((↑b : Int) - (↑m : Int)) ((↑b : Int) - (↑m : Int)), .b ((↑b : Int) - (↑m : Int) == 1) false, .i IntKind.i64 ((↑a : Int) + (↑b : Int)) ((↑(a + b) : Int)), .i IntKind.u64 ((↑(a + b) : Int)) ((↑(a + b) : Int)), .w ((0 : Int) ≤ (1 : Int)), .t (T.int IntKind.u64 (Int.fdiv (↑(a + b) : Int) 2)) (T.int IntKind.u64 (↑mid : Int)), .i IntKind.i64 (↑mid : Int) (↑mid : Int), .i IntKind.i64 ((↑mid : Int) + (↑m : Int)) ((↑(mid + m) : Int)), .b (decide ((↑m : Int) > (↑mid : Int))) true, .i IntKind.i64 ((↑(mid + m) : Int) - (↑b : Int)) ((↑(mid + m - b) : Int)), .i IntKind.i64 ((↑(mid + m) : Int) - 1) ((↑(mid + m - 1) : Int)), .a _ _, .i IntKind.i64 ((↑(mid + m) : Int) - (↑s : Int)) ((↑(mid + m - s) : Int)), .b (decide ((↑s : Int) < (↑m : Int))) true] ⟨oI, fE, oI, fE, oI, oU, oW, o_t (by rw [hf]), oI, oI, tP, oI, oI, o_a hbs, oI, tP, trivial⟩ ?_
        refine gg [.tt, .tt, .tt, .b (decide ((↑m : Int) < (↑(mid + m - s) : Int))) true, .a _ _, .b (decide ((↑a : Int) < (↑s : Int))) false, .ff, .ff, .ff, .ff, .b (decide ((↑mid : Int) < (↑(mid + m - s) : Int))) true, .tt, .tt, .tt, .b (decide ((↑(mid + m - s) : Int) < (↑b : Int))) false] ⟨tP, o_a j1, fP, tP, fP, trivial⟩ ?_
        exact ge
  · obtain rfl := k1' c1
    by_cases c0 : s < m
    · have c4 : ¬ s < mid := fun h => c1 ⟨c0, h⟩
      obtain rfl := k2' (fun h => c4 h.2)
      by_cases c3 : mid + m < b + s
      · have j3 := k3 c0 c3
        clear k1' k2' k3' k1 k2 k3
        by_cases c2 : a < s
        · refine Wp.ev ?_
          refine gg [.i IntKind.i64 ((↑m : Int) - (↑a : Int)) ((↑m : Int) - (↑a : Int)), .b ((↑m : Int) - (↑a : Int) == 1) false, .i IntKind.i64 ((↑b : Int) - (↑m : Int)) ((↑b : Int) - (↑m : Int)), .b ((↑b : Int) - (↑m : Int) == 1) false, .i IntKind.i64 ((↑a : Int) + (↑b : Int)) ((↑(a + b) : Int)), .i IntKind.u64 ((↑(a + b) : Int)) ((↑(a + b) : Int)), .w ((0 : Int) ≤ (1 : Int)), .t (T.int IntKind.u64 (Int.fdiv (↑(a + b) : Int) 2)) (T.int IntKind.u64 (↑mid : Int)), .i IntKind.i64 (↑mid : Int) (↑mid : Int), .i IntKind.i64 ((↑mid : Int) + (↑m : Int)) ((↑(mid + m) : Int)), .b (decide ((↑m : Int) > (↑mid : Int))) true, .i IntKind.i64 ((↑(mid + m) : Int) - (↑b : Int)) ((↑(mid + m - b) : Int)), .i IntKind.i64 ((↑(mid + m) : Int) - 1) ((↑(mid + m - 1) : Int)), .a _ _, .i IntKind.i64 ((↑(mid + m) : Int) - (↑s : Int)) ((↑(mid + m - s) : Int)), .b (decide ((↑s : Int) < (↑m : Int))) true] ⟨oI, fE, oI, fE, oI, oU, oW, o_t (by rw [hf]), oI, oI, tP, oI, oI, o_a hbs, oI, tP, trivial⟩ ?_
          refine gg [.tt, .tt, .tt, .b (decide ((↑m : Int) < (↑(mid + m - s) : Int))) false, .b (decide ((↑a : Int) < (↑s : Int))) true, .tt, .tt, .tt, .b (decide ((↑s : Int) < (↑mid : Int))) false, .b (decide ((↑mid : Int) < (↑(mid + m - s) : Int))) true, .tt, .tt, .tt, .b (decide ((↑(mid + m - s) : Int) < (↑b : Int))) true, .a _ _] ⟨fP, tP, fP, tP, tP, o_a j3, trivial⟩ ?_
          exact ge
        · omega
      · obtain rfl := k3' (fun h => c3 h.2)
        clear k1' k2' k3' k1 k2 k3
        by_cases c2 : a < s
        · omega
        · omega
    · obtain rfl := k3' (fun h => c0 h.1)
      by_cases c4 : s < mid
      · have j2 := k2 (by omega) c4
        clear k1' k2' k3' k1 k2 k3
        omega
      · obtain rfl := k2' (fun h => c4 h.2)
        clear k1' k2' k3' k1 k2 k3
        by_cases c2 : a < s
        · omega
        · omega
theorem f_symMerge : ∀ (n : Nat) (P U V Q : List Cross) (a m b : Nat), U.length + V.length ≤ n → a = P.length → m = a + U.length → b = m + V.length → 0 < U.length → 0 < V.length → Sd Cross.less U → Sd Cross.less V → small (P ++ U ++ V ++ Q) →
    Is cx (.call 94 [.all 0 none, vi a, vi m, vi b, .t (.clo 67 [])] [.arr 15 ((P ++ U ++ V ++ Q).map Cross.enc) none false])
   ⟨.ret, [], [.arr 15 ((P ++ sortS Cross.less (U ++ V) ++ Q).map Cross.enc) none false]⟩ := by
  intro n
  induction n with
  | zero => intros; omega
  | succ n ih =>
    intro P U V Q a m b hl ha hm hb hu hv hU hV hn
    by_cases hu1 : U.length = 1
    · obtain ⟨x, rfl⟩ := List.length_eq_one_iff.1 hu1
      exact f_symMerge_first P V Q x a m b ha (by simpa using hm) hb hv hV hn
    · by_cases hv1 : V.length = 1
      · obtain ⟨y, rfl⟩ := List.length_eq_one_iff.1 hv1
        exact f_symMerge_last P U Q y a m b ha hm (by simpa using hb) (by omega) hU hn
      · obtain ⟨mid, hmid⟩ : ∃ mid, (a + b) / 2 = mid := ⟨_, rfl⟩
        obtain ⟨s0, r0, hs0⟩ : ∃ s0 r0, m ≤ mid ∧ s0 = a ∧ r0 = m ∨ mid < m ∧ s0 = mid + m - b ∧ r0 = mid := by
          by_cases h : m ≤ mid
          · exact ⟨a, m, .inl ⟨h, rfl, rfl⟩⟩
          · exact ⟨mid + m - b, mid, .inr ⟨by omega, rfl, rfl⟩⟩
        have hlen : (P ++ U ++ V ++ Q).length = b + Q.length := by simp; omega
        have hbs := f_symMerge_bs3 (P ++ U ++ V ++ Q) a m b mid (mid + m) (mid + m - 1) hn (r0 - s0) s0 r0 (by omega) (by omega) (by omega) (by omega) (by omega)
        have hp : (fun c => !Cross.less (gt (P ++ U ++ V ++ Q) (mid + m - 1 - c)) (gt (P ++ U ++ V ++ Q) c)) = fun c => !Cross.less (gt (P ++ U ++ V ++ Q) (mid + m - 1 - c)) (gt (P ++ U ++ V ++ Q) c) := rfl
        obtain ⟨k1, k2, U1, U2, V1, V2, e1, e2, l1, l2, e3, u1, u2, v1, v2⟩ := merge_gen less_swo (Q := Q) ha hm hb hU hV hu hv hmid hs0 (d := r0 - s0) (by omega) rfl
        generalize bs _ (r0 - s0) s0 r0 = s at *
        subst e1 e2
        simp only [List.length_append] at hl hm hb hu hv hlen hu1 hv1
        have hsm : ∀ {X Y : List Cross}, X.length = Y.length → small Y → small X := fun h k => by unfold small at *; rw [h]; exact k
        have g1 : s < m → s < mid → Is cx (.call 98 [.all 0 none, vi s, vi m, vi (mid + m - s : Nat), .t (.clo 67 [])] [.arr 15 ((P ++ (U1 ++ U2) ++ (V1 ++ V2) ++ Q).map Cross.enc) none false]) ⟨.ret, [], [.arr 15 ((P ++ U1 ++ V1 ++ (U2 ++ V2 ++ Q)).map Cross.enc) none false]⟩ := by
          intro c1 c2
          have := f_rotate (P ++ (U1 ++ U2) ++ (V1 ++ V2) ++ Q) s m (mid + m - s) c1 (by omega) (by simp; omega) hn
          have e : (P ++ (U1 ++ U2) ++ (V1 ++ V2) ++ Q).take s ++ seg (P ++ (U1 ++ U2) ++ (V1 ++ V2) ++ Q) m (mid + m - s) ++ seg (P ++ (U1 ++ U2) ++ (V1 ++ V2) ++ Q) s m ++ (P ++ (U1 ++ U2) ++ (V1 ++ V2) ++ Q).drop (mid + m - s) = P ++ U1 ++ V1 ++ (U2 ++ V2 ++ Q) := by
            have f1 : P ++ (U1 ++ U2) ++ (V1 ++ V2) ++ Q = (P ++ U1) ++ (U2 ++ (V1 ++ (V2 ++ Q))) := by simp
            have f2 : P ++ (U1 ++ U2) ++ (V1 ++ V2) ++ Q = (P ++ U1 ++ U2) ++ (V1 ++ (V2 ++ Q)) := by simp
            have f3 : P ++ (U1 ++ U2) ++ (V1 ++ V2) ++ Q = (P ++ U1 ++ U2 ++ V1) ++ (V2 ++ Q) := by simp
            have g1 : (P ++ (U1 ++ U2) ++ (V1 ++ V2) ++ Q).take s = P ++ U1 := by rw [f1, List.take_left' (by simp; omega)]
            have g2 : seg (P ++ (U1 ++ U2) ++ (V1 ++ V2) ++ Q) m (mid + m - s) = V1 := by unfold seg; rw [f2, List.drop_left' (by simp; omega), List.take_left' (by omega)]
            have g3 : seg (P ++ (U1 ++ U2) ++ (V1 ++ V2) ++ Q) s m = U2 := by unfold seg; rw [f1, List.drop_left' (by simp; omega), List.take_left' (by omega)]
            have g4 : (P ++ (U1 ++ U2) ++ (V1 ++ V2) ++ Q).drop (mid + m - s) = V2 ++ Q := by rw [f3, List.drop_left' (by simp; omega)]
            rw [g1, g2, g3, g4]; simp
          rw [e] at this
          exact this
        have g1' : ¬ (s < m ∧ s < mid) → (P ++ (U1 ++ U2) ++ (V1 ++ V2) ++ Q) = (P ++ U1 ++ V1 ++ (U2 ++ V2 ++ Q)) := by
          intro c
          have : U2 = [] ∨ V1 = [] := by
            by_cases h : s < m
            · right; exact List.eq_nil_of_length_eq_zero (by omega)
            · left; exact List.eq_nil_of_length_eq_zero (by omega)
          rcases this with rfl | rfl <;> simp
        have g2 : a < s → s < mid → Is cx (.call 94 [.all 0 none, vi a, vi s, vi mid, .t (.clo 67 [])] [.arr 15 ((P ++ U1 ++ V1 ++ (U2 ++ V2 ++ Q)).map Cross.enc) none false]) ⟨.ret, [], [.arr 15 ((P ++ sortS Cross.less (U1 ++ V1) ++ (U2 ++ V2 ++ Q)).map Cross.enc) none false]⟩ := by
          intro c1 c2
          exact ih P U1 V1 (U2 ++ V2 ++ Q) a s mid (by omega) ha (by omega) (by omega) (by omega) (by omega) u1 v1 (hsm (by simp; omega) hn)
        have g2' : ¬ (a < s ∧ s < mid) → (P ++ U1 ++ V1 ++ (U2 ++ V2 ++ Q)) = (P ++ sortS Cross.less (U1 ++ V1) ++ (U2 ++ V2 ++ Q)) := by
          intro c
          have : U1 = [] ∨ V1 = [] := by
            by_cases h : a < s
            · right; exact List.eq_nil_of_length_eq_zero (by omega)
            · left; exact List.eq_nil_of_length_eq_zero (by omega)
          rcases this with rfl | rfl
          · simp [sortS_self less_swo v1]
          · simp [sortS_self less_swo u1]
        have g3 : s < m → mid + m < b + s → Is cx (.call 94 [.all 0 none, vi mid, vi (mid + m - s : Nat), vi b, .t (.clo 67 [])] [.arr 15 ((P ++ sortS Cross.less (U1 ++ V1) ++ (U2 ++ V2 ++ Q)).map Cross.enc) none false]) ⟨.ret, [], [.arr 15 ((P ++ sortS Cross.less ((U1 ++ U2) ++ (V1 ++ V2)) ++ Q).map Cross.enc) none false]⟩ := by
          intro c1 c2
          have hL : (sortS Cross.less (U1 ++ V1)).length = U1.length + V1.length := by rw [sortS_len less_swo]; simp
          have := ih (P ++ sortS Cross.less (U1 ++ V1)) U2 V2 Q mid (mid + m - s) b (by omega) (by simp; omega) (by omega) (by omega) (by omega) (by omega) u2 v2 (hsm (by simp; omega) hn)
          rw [← e3]
          simpa using this
        have g3' : ¬ (s < m ∧ mid + m < b + s) → (P ++ sortS Cross.less (U1 ++ V1) ++ (U2 ++ V2 ++ Q)) = (P ++ sortS Cross.less ((U1 ++ U2) ++ (V1 ++ V2)) ++ Q) := by
          intro c
          have : U2 = [] ∨ V2 = [] := by
            by_cases h : s < m
            · right; exact List.eq_nil_of_length_eq_zero (by omega)
            · left; exact List.eq_nil_of_length_eq_zero (by omega)
          rw [← e3]
          rcases this with rfl | rfl
          · simp [sortS_self less_swo v2]
          · simp [sortS_self less_swo u2]
        rcases hs0 with ⟨hc, rfl, rfl⟩ | ⟨hc, rfl, rfl⟩
        · exact f_symMerge_genA _ _ _ _ s0 r0 b mid s hmid hc (by omega) (by omega) (by simp; omega) hn ⟨k1, k2⟩ hbs g1 g1' g2 g2' g3 g3'
        · exact f_symMerge_genB _ _ _ _ a m b r0 s hmid hc (by omega) (by omega) (by simp; omega) hn ⟨k1, k2⟩ hbs g1 g1' g2 g2' g3 g3'
end Go.Eva.S1

/- Messages: sorted. -/
namespace Go.Eva.S1
theorem f_stable_first (n : Nat) (hn : n ≤ 1000000) : ∀ (d : Nat) (P R : List Cross) (a : Nat), a = P.length → R.length ≤ d → (P ++ R).length = n → Full Cross.less 20 P →
    ∃ (P' R' : List Cross), Is cx (.loop 85 [0, 0, 1, 1] 1 [.all 0 none, vi n, .t (.clo 67 []), vi 20, vi a, vi (a + 20 : Nat)] [.arr 15 ((P ++ R).map Cross.enc) none false])
      ⟨.exit 0, [.all 0 none, vi n, .t (.clo 67 []), vi 20, vi P'.length, vi (P'.length + 20 : Nat)], [.arr 15 ((P' ++ R').map Cross.enc) none false]⟩ ∧
      Full Cross.less 20 P' ∧ R'.length < 20 ∧ StEq Cross.less (P' ++ R') (P ++ R) ∧ (P' ++ R').length = n := by
  intro d
  induction d with
  | zero =>
    intro P R a ha hR hl hP
    refine ⟨P, R, ?_, hP, by omega, .refl _, hl⟩
    rw [List.length_append] at hl
    subst ha
    refine Wp.ev ?_
    refine gg [.b (decide ((↑(List.length P + 20) : Int) ≤ (↑n : Int))) false] ⟨fP, trivial⟩ ?_
    exact ge
  | succ d ih =>
    intro P R a ha hR hl hP
    by_cases h : 20 ≤ R.length
    · obtain ⟨S, R, rfl, hS⟩ := split_at R h
      rw [List.length_append] at hR
      have hs : (sortS Cross.less S).length = 20 := by rw [sortS_len less_swo, hS]
      have hl' : ((P ++ sortS Cross.less S) ++ R).length = n := by rw [← hl]; simp; omega
      obtain ⟨P', R', h1, h2, h3, h4, h5⟩ := ih (P ++ sortS Cross.less S) R (a + 20) (by simp; omega) (by omega) hl' (.snoc hP hs (sortS_sd less_swo S))
      refine ⟨P', R', ?_, h2, h3, ?_, h5⟩
      · clear ih
        have hA : (P ++ (S ++ R)).length = n := hl
        have hi := f_insertionSort (P ++ (S ++ R)) a (a + 20) (by omega) (by simp; omega) (by unfold small; omega)
        rw [show srt Cross.less (P ++ (S ++ R)) a (a + 20) = P ++ sortS Cross.less S ++ R by rw [← List.append_assoc]; exact srt_app P S R ha (by omega)] at hi
        simp only [List.length_append] at hA
        generalize P ++ (S ++ R) = A at *
        generalize P ++ sortS Cross.less S ++ R = B at *
        refine Wp.ev ?_
        refine gg [.b (decide ((↑(a + 20) : Int) ≤ (↑n : Int))) true, .a _ _, .i IntKind.i64 ((↑(a + 20) : Int) + 20) ((↑(a + 20 + 20) : Int)), .a _ _] ⟨tP, o_a hi, oI, o_a h1, trivial⟩ ?_
        exact ge
      · refine h4.trans ?_
        have := StEq.mid (P := P) (Q := R) (sortS_st less_swo S)
        simpa using this
    · refine ⟨P, R, ?_, hP, by omega, .refl _, hl⟩
      rw [List.length_append] at hl
      subst ha
      clear ih
      refine Wp.ev ?_
      refine gg [.b (decide ((↑(List.length P + 20) : Int) ≤ (↑n : Int))) false] ⟨fP, trivial⟩ ?_
      exact ge
theorem f_stable_inner (n bs : Nat) (hn : n ≤ 1000000) (hb : 20 ≤ bs) (hbs : bs ≤ n) : ∀ (d : Nat) (P R : List Cross) (a : Nat), a = P.length → R.length ≤ d → (P ++ R).length = n → Full Cross.less (2 * bs) P → Blks Cross.less bs R →
    ∃ (P' R' : List Cross), Is cx (.loop 85 [0, 0, 1, 0, 1, 0, 0, 1, 1, 1, 1] 1 [.all 0 none, vi n, .t (.clo 67 []), vi bs, vi a, vi (a + 2 * bs : Nat)] [.arr 15 ((P ++ R).map Cross.enc) none false])
      ⟨.exit 4, [.all 0 none, vi n, .t (.clo 67 []), vi bs, vi P'.length, vi (P'.length + 2 * bs : Nat)], [.arr 15 ((P' ++ R').map Cross.enc) none false]⟩ ∧
      Full Cross.less (2 * bs) P' ∧ Blks Cross.less bs R' ∧ R'.length < 2 * bs ∧ StEq Cross.less (P' ++ R') (P ++ R) ∧ (P' ++ R').length = n := by
  intro d
  induction d with
  | zero =>
    intro P R a ha hR hl hP hB
    refine ⟨P, R, ?_, hP, hB, by omega, .refl _, hl⟩
    rw [List.length_append] at hl
    subst ha
    refine Wp.ev ?_
    refine gg [.b (decide ((↑(List.length P + 2 * bs) : Int) ≤ (↑n : Int))) false] ⟨fP, trivial⟩ ?_
    exact ge
  | succ d ih =>
    intro P R a ha hR hl hP hB
    by_cases h : 2 * bs ≤ R.length
    · obtain ⟨S1, S2, R, rfl, l1, l2, s1, s2, hB⟩ := hB.two (by omega) h
      simp only [List.length_append] at hR h
      have hs : (sortS Cross.less (S1 ++ S2)).length = 2 * bs := by rw [sortS_len less_swo]; simp; omega
      have hl' : ((P ++ sortS Cross.less (S1 ++ S2)) ++ R).length = n := by rw [← hl]; simp; omega
      obtain ⟨P', R', h1, h2, h3, h4, h5, h6⟩ := ih (P ++ sortS Cross.less (S1 ++ S2)) R (a + 2 * bs) (by simp; omega) (by omega) hl' (.snoc hP hs (sortS_sd less_swo _)) hB
      refine ⟨P', R', ?_, h2, h3, h4, ?_, h6⟩
      · clear ih
        have hA : (P ++ (S1 ++ S2 ++ R)).length = n := hl
        have hi := f_symMerge (S1.length + S2.length) P S1 S2 R a (a + bs) (a + 2 * bs) (Nat.le_refl _) ha (by omega) (by omega) (by omega) (by omega) s1 s2 (by unfold small; simp at hA ⊢; omega)
        rw [show P ++ S1 ++ S2 ++ R = P ++ (S1 ++ S2 ++ R) by simp] at hi
        simp only [List.length_append] at hA
        generalize P ++ (S1 ++ S2 ++ R) = A at *
        generalize P ++ sortS Cross.less (S1 ++ S2) ++ R = B at *
        refine Wp.ev ?_
        refine gg [.b (decide ((↑(a + 2 * bs) : Int) ≤ (↑n : Int))) true, .i IntKind.i64 ((↑a : Int) + (↑bs : Int)) ((↑(a + bs) : Int)), .a _ _, .i IntKind.i64 (2 * (↑bs : Int)) ((↑(2 * bs) : Int)), .i IntKind.i64 ((↑(a + 2 * bs) : Int) + (↑(2 * bs) : Int)) ((↑(a + 2 * bs + 2 * bs) : Int)), .a _ _] ⟨tP, oI, o_a hi, oI, oI, o_a h1, trivial⟩ ?_
        exact ge
      · refine h5.trans ?_
        have := StEq.mid (P := P) (Q := R) (sortS_st less_swo (S1 ++ S2))
        simpa using this
    · refine ⟨P, R, ?_, hP, hB, by omega, .refl _, hl⟩
      rw [List.length_append] at hl
      subst ha
      clear ih
      refine Wp.ev ?_
      refine gg [.b (decide ((↑(List.length P + 2 * bs) : Int) ≤ (↑n : Int))) false] ⟨fP, trivial⟩ ?_
      exact ge
theorem f_stable_outer (n : Nat) (hn : n ≤ 1000000) : ∀ (d bs : Nat) (A : List Cross), n ≤ bs + d → 20 ≤ bs → bs ≤ 2000000 → A.length = n → Blks Cross.less bs A →
    ∃ (bs' : Nat) (B : List Cross), Is cx (.loop 85 [0, 1, 1, 1, 1] 1 [.all 0 none, vi n, .t (.clo 67 []), vi bs] [.arr 15 (A.map Cross.enc) none false])
      ⟨.exit 2, [.all 0 none, vi n, .t (.clo 67 []), vi bs'], [.arr 15 (B.map Cross.enc) none false]⟩ ∧ Sd Cross.less B ∧ StEq Cross.less B A := by
  intro d
  induction d with
  | zero =>
    intro bs A h1 h2 h3 hl hB
    refine ⟨bs, A, ?_, hB.sd (by omega), .refl _⟩
    refine Wp.ev ?_
    refine gg [.b (decide ((↑bs : Int) < (↑n : Int))) false] ⟨fP, trivial⟩ ?_
    exact ge
  | succ d ih =>
    intro bs A h1 h2 h3 hl hB
    by_cases h : bs < n
    · obtain ⟨P, R, k1, k2, k3, k4, k5, k6⟩ := f_stable_inner n bs hn h2 (by omega) A.length [] A 0 rfl (Nat.le_refl _) (by simpa using hl) .nil hB
      rw [List.nil_append, Nat.zero_add] at k1
      rw [List.nil_append] at k5
      by_cases hr : bs < R.length
      · obtain ⟨S1, S2, rfl, l1, s1, s2, l2⟩ := k3.one hr k4
        have hm := f_symMerge (S1.length + S2.length) P S1 S2 [] P.length (P.length + bs) n (Nat.le_refl _) rfl (by omega) (by simp at k6; omega) (by omega) l2 s1 s2 (by unfold small; simp at k6 ⊢; omega)
        simp only [List.append_nil] at hm
        rw [List.append_assoc] at hm
        simp only [List.length_append] at k4 k6 hr
        have hs : (sortS Cross.less (S1 ++ S2)).length = S1.length + S2.length := by rw [sortS_len less_swo]; simp
        obtain ⟨bs', B, j1, j2, j3⟩ := ih (bs * 2) (P ++ sortS Cross.less (S1 ++ S2)) (by omega) (by omega) (by omega) (by simp; omega) (by rw [Nat.mul_comm]; exact k2.blks (.last (by omega) (sortS_sd less_swo _)))
        refine ⟨bs', B, ?_, j2, j3.trans (StEq.trans ?_ k5)⟩
        · clear ih j2 j3 k2 k3 k5
          have e1 : (P ++ (S1 ++ S2)).length = n := by simp; omega
          have e2 : (P ++ sortS Cross.less (S1 ++ S2)).length = n := by simp; omega
          generalize P ++ (S1 ++ S2) = X at *
          generalize P ++ sortS Cross.less (S1 ++ S2) = Y at *
          refine Wp.ev ?_
          refine gg [.b (decide ((↑bs : Int) < (↑n : Int))) true, .i IntKind.i64 (2 * (↑bs : Int)) ((↑(2 * bs) : Int)), .a _ _, .i IntKind.i64 ((↑(List.length P) : Int) + (↑bs : Int)) ((↑(List.length P + bs) : Int)), .b (decide ((↑(List.length P + bs) : Int) < (↑n : Int))) true, .a _ _, .i IntKind.i64 ((↑bs : Int) * 2) ((↑(bs * 2) : Int)), .a _ _] ⟨tP, oI, o_a k1, oI, tP, o_a hm, oI, o_a j1, trivial⟩ ?_
          exact ge
        · exact (StEq.refl _).append (sortS_st less_swo _)
      · obtain ⟨bs', B, j1, j2, j3⟩ := ih (bs * 2) (P ++ R) (by omega) (by omega) (by omega) k6 (by rw [Nat.mul_comm]; exact k2.blks (.last (by omega) (k3.sd (by omega))))
        refine ⟨bs', B, ?_, j2, j3.trans k5⟩
        clear ih j2 j3 k2 k3 k5
        rw [List.length_append] at k6
        generalize P ++ R = X at *
        refine Wp.ev ?_
        refine gg [.b (decide ((↑bs : Int) < (↑n : Int))) true, .i IntKind.i64 (2 * (↑bs : Int)) ((↑(2 * bs) : Int)), .a _ _, .i IntKind.i64 ((↑(List.length P) : Int) + (↑bs : Int)) ((↑(List.length P + bs) : Int)), .b (decide ((↑(List.length P + bs) : Int) < (↑n : Int))) false, .i IntKind.i64 ((↑bs : Int) * 2) ((↑(bs * 2) : Int)), .a _ _] ⟨tP, oI, o_a k1, oI, fP, oI, o_a j1, trivial⟩ ?_
        exact ge
    · refine ⟨bs, A, ?_, hB.sd (by omega), .refl _⟩
      clear ih
      refine Wp.ev ?_
      refine gg [.b (decide ((↑bs : Int) < (↑n : Int))) false] ⟨fP, trivial⟩ ?_
      exact ge
theorem f_stableCmpFunc (A : List Cross) (hn : small A) : Is cx (.call 85 [.all 0 none, vi A.length, .t (.clo 67 [])] [.arr 15 (A.map Cross.enc) none false])
   ⟨.ret, [], [.arr 15 ((sortS Cross.less A).map Cross.enc) none false]⟩ := by
  unfold small at hn
  obtain ⟨P, R, k1, k2, k3, k4, k5⟩ := f_stable_first A.length hn A.length [] A 0 rfl (Nat.le_refl _) (by simp) .nil
  rw [List.nil_append, Nat.zero_add] at k1
  rw [List.nil_append] at k4
  rw [List.length_append] at k5
  have hi := f_insertionSort (P ++ R) P.length A.length (by omega) (by simp; omega) (by unfold small; simp; omega)
  rw [show srt Cross.less (P ++ R) P.length A.length = P ++ sortS Cross.less R by have := srt_app (lt := Cross.less) P R [] rfl k5.symm; simpa using this] at hi
  have hs : (sortS Cross.less R).length = R.length := sortS_len less_swo R
  obtain ⟨bs, B, j1, j2, j3⟩ := f_stable_outer A.length hn A.length 20 (P ++ sortS Cross.less R) (by omega) (by omega) (by omega) (by simp; omega) (k2.blks (.last (by omega) (sortS_sd less_swo _)))
  rw [sortS_eq less_swo j2 (j3.trans (((StEq.refl _).append (sortS_st less_swo _)).trans k4))] at j1
  clear j2 j3 k2 k4
  have e1 : (P ++ R).length = A.length := by simp; omega
  have e2 : (P ++ sortS Cross.less R).length = A.length := by simp; omega
  generalize P ++ R = X at *
  generalize P ++ sortS Cross.less R = Y at *
  refine Wp.ev ?_
  refine gg [.a _ _, .a _ _, .a _ _] ⟨o_a k1, o_a hi, o_a j1, trivial⟩ ?_
  exact ge
theorem f_SortStableFunc (A : List Cross) (hn : small A) : Is cx (.call 66 [.all 0 none, .t (.clo 67 [])] [.arr 15 (A.map Cross.enc) none false])
   ⟨.ret, [], [.arr 15 ((sortS Cross.less A).map Cross.enc) none false]⟩ := by
  have h := f_stableCmpFunc A hn
  unfold small at hn
  refine Wp.ev ?_
  refine gg [.n (List.length (List.map Cross.enc A)) (List.length A), .a _ _] ⟨o_n (by simp), o_a h, trivial⟩ ?_
  exact ge
end Go.Eva.S1

/- Eva, part 50: regions that are near; which messages are right. -/
namespace Go.Eva

/-- Numbers of some columns of a row. -/
def colsL (base col : Int) : Nat → List Int
  | 0 => []
  | d + 1 => (base + col) :: colsL base (col + 1) d
def rowsL (cols lo : Int) (w : Nat) (row : Int) : Nat → List Int
  | 0 => []
  | d + 1 => colsL (row * cols) lo w ++ rowsL cols lo w (row + 1) d
def loI (q : Int) : Int := maxI (q - 1) 0
def hiI (q n : Int) : Int := minI (q + 1) (n - 1)
def nearP (cols rows r : Int) : List Int :=
  rowsL cols (loI (r.tmod cols)) (hiI (r.tmod cols) cols + 1 - loI (r.tmod cols)).toNat (loI (r.tdiv cols)) (hiI (r.tdiv cols) rows + 1 - loI (r.tdiv cols)).toNat
def isNear (cols r n : Int) : Bool := decide (-1 ≤ n.tmod cols - r.tmod cols ∧ n.tmod cols - r.tmod cols ≤ 1 ∧ -1 ≤ n.tdiv cols - r.tdiv cols ∧ n.tdiv cols - r.tdiv cols ≤ 1)
def nearR (cols r : Int) (n : Int) : Nat → List Int
  | 0 => []
  | d + 1 => (if isNear cols r n = true then [n] else []) ++ nearR cols r (n + 1) d
def Config.near (c : Config) (r : Int) : List Int := if c.is r = true then nearP c.cols c.rows r else []

theorem near_eq {cols rows r : Int} (hc : 1 ≤ cols ∧ cols ≤ 4) (hr : 1 ≤ rows ∧ rows ≤ 4) (h : 0 ≤ r ∧ r < cols * rows) : nearR cols r 0 (cols * rows).toNat = nearP cols rows r := by
  have key : ∀ a ∈ [1, 2, 3, 4], ∀ b ∈ [1, 2, 3, 4], ∀ k ∈ List.range (a * b), nearR (a : Nat) (k : Nat) 0 ((a : Int) * (b : Nat)).toNat = nearP (a : Nat) (b : Nat) (k : Nat) := by decide +kernel
  obtain ⟨a, rfl⟩ : ∃ a : Nat, cols = a := ⟨cols.toNat, by omega⟩
  obtain ⟨b, rfl⟩ : ∃ b : Nat, rows = b := ⟨rows.toNat, by omega⟩
  obtain ⟨k, rfl⟩ : ∃ k : Nat, r = k := ⟨r.toNat, by omega⟩
  refine key a ?_ b ?_ k ?_
  · have : a = 1 ∨ a = 2 ∨ a = 3 ∨ a = 4 := by omega
    simpa using this
  · have : b = 1 ∨ b = 2 ∨ b = 3 ∨ b = 4 := by omega
    simpa using this
  · rw [List.mem_range]
    have := h.2
    exact_mod_cast this
theorem near_len {cols rows r : Int} (hc : 1 ≤ cols ∧ cols ≤ 4) (hr : 1 ≤ rows ∧ rows ≤ 4) (h : 0 ≤ r ∧ r < cols * rows) : (nearP cols rows r).length ≤ 9 := by
  have key : ∀ a ∈ [1, 2, 3, 4], ∀ b ∈ [1, 2, 3, 4], ∀ k ∈ List.range (a * b), (nearP (a : Nat) (b : Nat) (k : Nat)).length ≤ 9 := by decide +kernel
  obtain ⟨a, rfl⟩ : ∃ a : Nat, cols = a := ⟨cols.toNat, by omega⟩
  obtain ⟨b, rfl⟩ : ∃ b : Nat, rows = b := ⟨rows.toNat, by omega⟩
  obtain ⟨k, rfl⟩ : ∃ k : Nat, r = k := ⟨r.toNat, by omega⟩
  refine key a ?_ b ?_ k ?_
  · have : a = 1 ∨ a = 2 ∨ a = 3 ∨ a = 4 := by omega
    simpa using this
  · have : b = 1 ∨ b = 2 ∨ b = 3 ∨ b = 4 := by omega
    simpa using this
  · rw [List.mem_range]
    have := h.2
    exact_mod_cast this
theorem Config.is_iff {c : Config} {r : Int} (h : c.right = true) : c.is r = true ↔ 0 ≤ r ∧ r < c.cols * c.rows := by
  simp only [Config.is, within_iff, Config.regions, h, if_true]; omega
theorem Config.is_right {c : Config} {r : Int} (h : c.is r = true) : c.right = true := by
  cases hr : c.right with
  | true => rfl
  | false =>
    exfalso
    simp only [Config.is, within_iff, Config.regions, hr, Bool.false_eq_true, if_false] at h
    omega
theorem near_small {c : Config} {r : Int} : (c.near r).length ≤ 9 := by
  unfold Config.near
  split
  · rename_i h
    have hr := Config.is_right h
    obtain ⟨hc, hrr, _⟩ := Config.right_iff.1 hr
    exact near_len hc hrr ((Config.is_iff hr).1 h)
  · simp
def Entity.zero : Entity := ⟨0, 0, 0, 0, 0, 0, 0, 0, 0⟩
def Cross.right (c : Config) (m : Cross) : Bool := has (c.near m.frm) m.to && within m.frame 0 9999 &&
  (if m.kind = 1 then m.ent.right c && decide (c.of m.ent.x m.ent.y = m.to) && decide (m.x = 0) && decide (m.y = 0) && !decide (m.to = m.frm)
   else if m.kind = 2 then c.inside m.x m.y && decide (m.ent = Entity.zero) else false)
theorem teq_zero {e : Entity} : teq e.enc (.agg [ti 0, ti 0, ti 0, ti 0, ti 0, ti 0, ti 0, ti 0, ti 0]) = decide (e = Entity.zero) := teq_ent (b := Entity.zero)
theorem teq_zero' {e : Entity} : teq (.agg [ti e.id, ti e.kind, ti e.x, ti e.y, ti e.vx, ti e.vy, ti e.health, ti e.age, ti e.owner]) (.agg [ti 0, ti 0, ti 0, ti 0, ti 0, ti 0, ti 0, ti 0, ti 0]) = decide (e = Entity.zero) := teq_ent (b := Entity.zero)
theorem Config.grid_of_not {c : Config} (h : c.right = false) : c.grid = Config.zero := by simp [Config.grid, h]
theorem Config.is_false {c : Config} {r : Int} (h : c.right = false) : c.is r = false := by
  cases hi : c.is r with
  | false => rfl
  | true => rw [Config.is_right hi] at h; contradiction
theorem near_grid {c : Config} {r : Int} : c.grid.near r = c.near r := by
  cases h : c.right with
  | true => rw [Config.grid_of h]
  | false => rw [Config.grid_of_not h]; simp [Config.near, Config.is_false h, Config.is_false (c := Config.zero) rfl]
theorem Cross.right_grid {c : Config} {m : Cross} : Cross.right c.grid m = Cross.right c m := by
  cases h : c.right with
  | true => rw [Config.grid_of h]
  | false =>
    have h1 : c.near m.frm = [] := by simp [Config.near, Config.is_false h]
    have h2 : c.grid.near m.frm = [] := by rw [near_grid, h1]
    simp [Cross.right, h1, h2, has]
end Go.Eva

/- Eva, part 58: lists of messages, sorted and parted, in plain words. -/
namespace Go.Eva

def encL (l : List Cross) : T := .sl 15 (l.map Cross.enc)
/-- How many there are in all. -/
def total (ls : List (List Cross)) : Nat := (ls.map List.length).sum
theorem total_gt {ls : List (List Cross)} {i : Nat} (h : i < ls.length) : total (ls.drop i) = (gt ls i).length + total (ls.drop (i + 1)) := by
  unfold total; rw [drop_gt h]; simp
theorem total_end {ls : List (List Cross)} {i : Nat} (h : ls.length ≤ i) : total (ls.drop i) = 0 := by
  unfold total; rw [drop_end h]; rfl
theorem flat_gt {ls : List (List Cross)} {i : Nat} (h : i < ls.length) : (ls.drop i).flatten = gt ls i ++ (ls.drop (i + 1)).flatten := by
  rw [drop_gt h]; simp
theorem flat_len {ls : List (List Cross)} : ls.flatten.length = total ls := by
  unfold total; simp [List.length_flatten]
theorem sd_adj {α : Type} [Inhabited α] {lt : α → α → Bool} (hw : Swo lt) {l : List α} (h : Sd lt l) {i : Nat} (hi : i + 1 < l.length) : lt (gt l (i + 1)) (gt l i) = false := by
  rw [gt_eq hi, gt_eq (by omega)]
  exact List.pairwise_iff_getElem.1 h _ _ (by omega) hi (by omega)
theorem sortS_mem {α : Type} {lt : α → α → Bool} (hw : Swo lt) {l : List α} {x : α} : x ∈ sortS lt l ↔ x ∈ l :=
  ⟨fun h => (sortS_st hw l).mem hw h, fun h => (sortS_st hw l).symm.mem hw h⟩
/-- A message whose goal is brought below six. -/
def six (c : Cross) : Cross := { c with to := (IntKind.u64.wrap c.to).tmod 6 }
theorem six_to (c : Cross) : 0 ≤ (six c).to ∧ (six c).to < 6 := u64_tmod (by decide)
/-- What goes to some regions, one behind the other. -/
def parts (s : List Cross) (r : Int) : Nat → List Cross
  | 0 => []
  | d + 1 => toL s r ++ parts s (r + 1) d
theorem toL_none {s : List Cross} {r : Int} (h : ∀ c ∈ s, c.to ≠ r) : toL s r = [] := by
  unfold toL; rw [List.filter_eq_nil_iff]; intro c hc; simpa using h c hc
theorem toL_all {s : List Cross} {r : Int} (h : ∀ c ∈ s, c.to = r) : toL s r = s := by
  unfold toL; rw [List.filter_eq_self]; intro c hc; simpa using h c hc
theorem toL_len {s : List Cross} {r : Int} : (toL s r).length ≤ s.length := List.length_filter_le ..
theorem to_le {s : List Cross} (h : Sd Cross.less s) : s.Pairwise fun a b => a.to ≤ b.to := by
  refine List.Pairwise.imp ?_ h
  intro a b hab
  rw [← Bool.not_eq_true, less_iff] at hab
  omega
theorem parts_eq : ∀ {d : Nat} {s : List Cross} {r : Int}, (s.Pairwise fun a b => a.to ≤ b.to) → (∀ c ∈ s, r ≤ c.to ∧ c.to < r + d) → parts s r d = s
  | 0, s, r, _, h => by
    cases s with
    | nil => rfl
    | cons c s => have := h c (List.mem_cons_self ..); omega
  | d + 1, s, r, hs, h => by
    have key : ∀ {s : List Cross}, (s.Pairwise fun a b => a.to ≤ b.to) → (∀ c ∈ s, r ≤ c.to) → ∃ a b, s = a ++ b ∧ (∀ c ∈ a, c.to = r) ∧ (∀ c ∈ b, r + 1 ≤ c.to) := by
      intro s
      induction s with
      | nil => intro _ _; exact ⟨[], [], rfl, by simp, by simp⟩
      | cons c s ih =>
        intro hs h
        obtain ⟨h1, h2⟩ := List.pairwise_cons.1 hs
        by_cases hc : c.to = r
        · obtain ⟨a, b, rfl, ha, hb⟩ := ih h2 fun x hx => h x (List.mem_cons_of_mem _ hx)
          refine ⟨c :: a, b, rfl, fun x hx => ?_, hb⟩
          rcases List.mem_cons.1 hx with rfl | hx
          · exact hc
          · exact ha x hx
        · refine ⟨[], c :: s, rfl, by simp, fun x hx => ?_⟩
          have h0 := h c (List.mem_cons_self ..)
          rcases List.mem_cons.1 hx with rfl | hx
          · omega
          · have := h1 x hx; omega
    obtain ⟨a, b, rfl, ha, hb⟩ := key hs fun c hc => (h c hc).1
    have e1 : toL (a ++ b) r = a := by
      unfold toL
      rw [List.filter_append]
      have h1 := toL_all ha
      have h2 := toL_none (r := r) fun c hc e => by have := hb c hc; omega
      unfold toL at h1 h2
      rw [h1, h2, List.append_nil]
    have e2 : ∀ (k : Nat) (q : Int), r + 1 ≤ q → parts (a ++ b) q k = parts b q k := by
      intro k
      induction k with
      | zero => intro q _; rfl
      | succ k ih =>
        intro q hq
        simp only [parts]
        rw [ih (q + 1) (by omega)]
        congr 1
        unfold toL
        rw [List.filter_append]
        have h1 := toL_none (r := q) (s := a) fun c hc e => by have := ha c hc; omega
        unfold toL at h1
        rw [h1, List.nil_append]
    simp only [parts]
    rw [e1, e2 d (r + 1) (Int.le_refl _), parts_eq (d := d) (s := b) (r := r + 1) (List.pairwise_append.1 hs).2.1 fun c hc => ?_]
    have h1 := hb c hc
    have h2 := (h c (List.mem_append_right _ hc)).2
    omega
theorem toL_sortS_none {s : List Cross} (h : ∀ c ∈ s, 0 ≤ c.to ∧ c.to < 6) : toL s 6 = [] := toL_none fun c hc e => by have := h c hc; omega
/-- Messages alike, but where they come from and when. -/
def alike (l : List Cross) (x : Cross) : Nat → List Cross
  | 0 => []
  | d + 1 => alike l x d ++ [{ x with frame := (d : Int), frm := (gt l d).frm }]
theorem alike_len {l : List Cross} {x : Cross} : ∀ {d : Nat}, (alike l x d).length = d
  | 0 => rfl
  | d + 1 => by simp [alike, @alike_len l x d]
theorem alike_mem {l : List Cross} {x : Cross} : ∀ {d : Nat}, ∀ c ∈ alike l x d, c.to = x.to ∧ c.kind = x.kind ∧ c.ent = x.ent ∧ c.x = x.x ∧ c.y = x.y
  | 0, c, h => by simp [alike] at h
  | d + 1, c, h => by
    simp only [alike, List.mem_append, List.mem_singleton] at h
    rcases h with h | h
    · exact alike_mem c h
    · subst h; simp
theorem alike_sd {l : List Cross} {x : Cross} {d : Nat} : Sd Cross.less (alike l x d) := by
  refine List.pairwise_iff_forall_sublist.2 fun {a b} h => ?_
  have ha := alike_mem a (h.subset (by simp))
  have hb := alike_mem b (h.subset (by simp))
  rw [← Bool.not_eq_true, less_iff, ha.1, ha.2.1, ha.2.2.1, ha.2.2.2.1, ha.2.2.2.2, hb.1, hb.2.1, hb.2.2.1, hb.2.2.2.1, hb.2.2.2.2]
  omega
end Go.Eva

/- Messages: lists put together, and sorted. -/
namespace Go.Eva.S1
theorem f_slices_Grow (n : Nat) (hn : n ≤ 1000000) : Is cx (.call 84 [.fit 15 [], vi n] []) ⟨.ret, [.all 0 none], [.arr 15 [] none false]⟩ := by
  refine Wp.ev ?_
  refine gg [.b (decide ((↑n : Int) < 0)) false, .l 0, .l 0, .i IntKind.i64 0 0, .i IntKind.i64 ((↑n : Int) - 0) ((↑n : Int) - 0)] ⟨o_b (by kernel_rfl), oK, o_i (w64 (by (simp [room, appendMax]; omega))), trivial⟩ ?_
  refine brp (p := (↑n : Int) - 0 > 0) (by kernel_rfl) (fun h1 => ?_) (fun h1 => ?_)
  · refine gg [.l 0, .w ((0 : Int) ≤ (0 : Int)), .l 0, .w ((0 : Nat) ≤ (0 : Nat) ∧ (0 : Nat) ≤ (0 : Nat)), .b (decide (0 = 0)) true, .s (T.sl 15 []), .w ((0 : Int) ≤ (↑n : Int) - (0 : Int) ∧ room (Int.toNat ((↑n : Int) - (0 : Int))) (120 : Nat)), .n (Int.toNat ((↑n : Int) - 0)) n, .s (T.sl 0 (List.replicate n (T.agg [ti 0, ti 0, ti 0, ti 0, ti 0, ti 0, ti 0, ti 0, ti 0, ti 0, ti 0, ti 0, ti 0, ti 0, ti 0]))), .w (room (List.length (List.replicate n (T.agg [ti (0 : Int), ti (0 : Int), ti (0 : Int), ti (0 : Int), ti (0 : Int), ti (0 : Int), ti (0 : Int), ti (0 : Int), ti (0 : Int), ti (0 : Int), ti (0 : Int), ti (0 : Int), ti (0 : Int), ti (0 : Int), ti (0 : Int)]))) (120 : Nat)), .l 0, .w ((0 : Int) ≤ (0 : Int)), .l 0, .w ((0 : Nat) ≤ (0 : Nat) ∧ (0 : Nat) ≤ List.length (List.replicate n (T.agg [ti (0 : Int), ti (0 : Int), ti (0 : Int), ti (0 : Int), ti (0 : Int), ti (0 : Int), ti (0 : Int), ti (0 : Int), ti (0 : Int), ti (0 : Int), ti (0 : Int), ti (0 : Int), ti (0 : Int), ti (0 : Int), ti (0 : Int)]))), .l 0, .l 0] ⟨oW, o_w ⟨(Nat.le_of_ble_eq_true (by kernel_rfl)), (Nat.le_of_ble_eq_true (by kernel_rfl))⟩, o_b (by kernel_rfl), o_w ⟨(by omega), (by (simp [room, appendMax]; omega))⟩, o_n (by kernel_rfl), o_w (by (simp [room, appendMax]; omega)), oW, o_w ⟨(Nat.le_of_ble_eq_true (by kernel_rfl)), (by omega)⟩, trivial⟩ ?_
    refine gg [.s (T.sl 0 [])] trivial ?_
    refine rt (a := Res.mk Ex.ret [V.all 0 none] [Ob.arr 15 [] none false]) (by kernel_rfl) ?_
    simp
  · refine rt (a := Res.mk Ex.ret [V.all 0 none] [Ob.arr 15 [] none false]) (by kernel_rfl) ?_
    simp
theorem f_slices_Concat_count (ls : List (List Cross)) (hl : ls.length ≤ 1000) (ht : total ls ≤ 1000000) : ∀ (d i s : Nat), i + d = ls.length → s + total (ls.drop i) = total ls →
    Is cx (.loop 65 [0, 1, 0, 1, 1] 0 [.t (.sl 1 (ls.map encL)), vi s, .t (.sl 1 (ls.map encL)), vi ls.length, vi i] [])
      ⟨.exit 0, [.t (.sl 1 (ls.map encL)), vi (total ls), .t (.sl 1 (ls.map encL)), vi ls.length, vi ls.length], []⟩ := by
  intro d
  induction d with
  | zero =>
    intro i s hi hs
    rw [total_end (by omega)] at hs
    refine Wp.ev ?_
    refine gg [.b (decide ((↑i : Int) < (↑(List.length ls) : Int))) false] ⟨fP, trivial⟩ ?_
    refine rt (a := Res.mk (Ex.exit 0) [V.t (T.sl 1 (List.map encL ls)), vi (↑s : Int), V.t (T.sl 1 (List.map encL ls)), vi (↑(List.length ls) : Int), vi (↑i : Int)] []) (by kernel_rfl) ?_
    ((have hq : i = ls.length := by omega); subst hq; (have hq2 : s = total ls := by omega); subst hq2; rfl)
  | succ d ih =>
    intro i s hi hs
    have hlt : i < ls.length := by omega
    rw [total_gt hlt] at hs
    have ih1 := ih (i + 1) (s + (gt ls i).length) (by omega) (by omega)
    clear ih
    refine Wp.ev ?_
    refine gg [.b (decide ((↑i : Int) < (↑(List.length ls) : Int))) true, .w ((0 : Int) ≤ (↑i : Int)), .n (Int.toNat (↑i : Int)) i, .g (List.map encL ls) i (encL (gt ls i)), .n (List.length (List.map Cross.enc (gt ls i))) (List.length (gt ls i)), .i IntKind.i64 ((↑s : Int) + (↑(List.length (gt ls i)) : Int)) ((↑(s + List.length (gt ls i)) : Int)), .b (decide ((↑(s + List.length (gt ls i)) : Int) < 0)) false, .i IntKind.i64 ((↑i : Int) + 1) ((↑(i + 1) : Int)), .a _ _] ⟨tP, oW, o_n (by kernel_rfl), o_gt rfl (by assumption) (by intro h; cases h), o_n (by simp), oI, o_b (by kernel_rfl), oI, o_a ih1, trivial⟩ ?_
    exact ge
theorem f_slices_Concat_add (ls : List (List Cross)) (hl : ls.length ≤ 1000) (ht : total ls ≤ 1000000) : ∀ (d i : Nat) (A : List Cross), i + d = ls.length → A.length + total (ls.drop i) = total ls →
    Is cx (.loop 65 [0, 1, 0, 1, 1, 1, 1] 0 [.all 0 none, .t (.sl 1 (ls.map encL)), vi ls.length, vi i] [.arr 15 (A.map Cross.enc) none false])
      ⟨.exit 2, [.all 0 none, .t (.sl 1 (ls.map encL)), vi ls.length, vi ls.length], [.arr 15 ((A ++ (ls.drop i).flatten).map Cross.enc) none false]⟩ := by
  intro d
  induction d with
  | zero =>
    intro i A hi hs
    rw [drop_end (by omega)]
    refine Wp.ev ?_
    refine gg [.b (decide ((↑i : Int) < (↑(List.length ls) : Int))) false] ⟨fP, trivial⟩ ?_
    refine rt (a := Res.mk (Ex.exit 2) [V.all 0 none, V.t (T.sl 1 (List.map encL ls)), vi (↑(List.length ls) : Int), vi (↑i : Int)] [Ob.arr 15 (List.map Cross.enc A) none false]) (by kernel_rfl) ?_
    ((have hq : i = ls.length := by omega); subst hq; simp)
  | succ d ih =>
    intro i A hi hs
    have hlt : i < ls.length := by omega
    rw [total_gt hlt] at hs
    have ih1 := ih (i + 1) (A ++ gt ls i) (by omega) (by simp; omega)
    clear ih
    rw [flat_gt hlt]
    refine Wp.ev ?_
    refine gg [.b (decide ((↑i : Int) < (↑(List.length ls) : Int))) true, .w ((0 : Int) ≤ (↑i : Int)), .n (Int.toNat (↑i : Int)) i, .g (List.map encL ls) i (encL (gt ls i)), .w ((0 : Nat) < (120 : Nat)), .s (T.sl 0 (List.map Cross.enc (gt ls i))), .t (T.sl 0 (List.map Cross.enc A ++ List.map Cross.enc (gt ls i))) (T.sl 0 (List.map Cross.enc (A ++ gt ls i))), .w (room (List.length (List.map Cross.enc (A ++ gt ls i))) (120 : Nat)), .i IntKind.i64 ((↑i : Int) + 1) ((↑(i + 1) : Int)), .a _ _] ⟨tP, oW, o_n (by kernel_rfl), o_gt rfl (by assumption) (by intro h; cases h), oW, o_l (nm_app rfl rfl), o_w (by (simp [room, appendMax]; omega)), o_i (w64 (by (simp [room, appendMax]; omega))), o_a ih1, trivial⟩ ?_
    refine rt (a := Res.mk (Ex.exit 2) [V.all 0 none, V.t (T.sl 1 (List.map encL ls)), vi (↑(List.length ls) : Int), vi (↑(List.length ls) : Int)] [Ob.arr 15 (List.map Cross.enc (A ++ gt ls i ++ List.flatten (List.drop (i + 1) ls))) none false]) (by kernel_rfl) ?_
    simp
theorem f_slices_Concat (ls : List (List Cross)) (hl : ls.length ≤ 1000) (ht : total ls ≤ 1000000) :
    Is cx (.call 65 [.t (.sl 1 (ls.map encL))] []) ⟨.ret, [.all 0 none], [.arr 15 (ls.flatten.map Cross.enc) none false]⟩ := by
  have h1 := f_slices_Concat_count ls hl ht ls.length 0 0 (by omega) (by simp)
  have h2 := f_slices_Concat_add ls hl ht ls.length 0 [] (by omega) (by simp)
  rw [List.drop_zero, List.nil_append] at h2
  have h3 := f_slices_Grow (total ls) ht
  refine Wp.ev ?_
  refine gg [.n (List.length (List.map encL ls)) (List.length ls), .a _ _, .a _ _, .n (List.length (List.map encL ls)) (List.length ls), .a _ _] ⟨o_n (by simp), o_a h1, o_a h3, o_n (by simp), o_a h2, trivial⟩ ?_
  exact ge
theorem f_cross_Sort (ls : List (List Cross)) (hl : ls.length ≤ 1000) (ht : total ls ≤ 1000000) :
    Is cx (.call 32 [.t (.sl 1 (ls.map encL))] []) ⟨.ret, [.all 0 none], [.arr 15 ((sortS Cross.less ls.flatten).map Cross.enc) none false]⟩ := by
  have h1 := f_slices_Concat ls hl ht
  have h2 := f_SortStableFunc ls.flatten (by unfold small; rw [flat_len]; exact ht)
  refine Wp.ev ?_
  refine gg [.a _ _, .a _ _] ⟨o_a h1, o_a h2, trivial⟩ ?_
  exact ge
theorem f_cross_Sort_0 : Is cx (.call 32 [.t (.sl 1 [])] []) ⟨.ret, [.all 0 none], [.arr 15 [] none false]⟩ := f_cross_Sort [] (by decide) (by decide)
theorem f_cross_Sort_1 (l : List Cross) (h : small l) : Is cx (.call 32 [.t (.sl 1 [.sl 15 (l.map Cross.enc)])] []) ⟨.ret, [.all 0 none], [.arr 15 ((sortS Cross.less l).map Cross.enc) none false]⟩ := by
  have := f_cross_Sort [l] (by simp) (by unfold small at h; simpa [total] using h)
  rw [show [l].flatten = l by simp] at this
  exact this
theorem f_cross_Sort_2 (l m : List Cross) (h : l.length + m.length ≤ 1000000) : Is cx (.call 32 [.t (.sl 1 [.sl 15 (l.map Cross.enc), .sl 15 (m.map Cross.enc)])] []) ⟨.ret, [.all 0 none], [.arr 15 ((sortS Cross.less (l ++ m)).map Cross.enc) none false]⟩ := by
  have := f_cross_Sort [l, m] (by simp) (by simpa [total] using h)
  rw [show [l, m].flatten = l ++ m by simp] at this
  exact this
theorem f_joustref05_Sort_inner (l A : List Cross) (i : Nat) (hi : i < l.length) (hn : small l) (hA : small A) : ∀ (k : Nat), k ≤ A.length →
    Is cx (.loop 41 [0, 0, 1, 0, 0, 1, 0, 0, 1, 0, 1, 1] 0 [.t (.sl 15 (l.map Cross.enc)), .all 0 none, vi i, vi k] [.arr 15 (A.map Cross.enc) none false])
      ⟨.exit 2, [.t (.sl 15 (l.map Cross.enc)), .all 0 none, vi i, vi (bk Cross.less (gt l i) A k : Nat)], [.arr 15 (A.map Cross.enc) none false]⟩ := by
  unfold small at hn hA
  intro k
  induction k with
  | zero =>
    intro hk
    refine Wp.ev ?_
    refine gg [.b (decide (0 > 0)) false, .ff, .ff, .ff, .ff, .ff, .ff, .ff, .ff, .ff, .ff, .ff] ⟨o_b (by kernel_rfl), trivial⟩ ?_
    exact ge
  | succ k ih =>
    intro hk
    have ih1 := ih (by omega)
    clear ih
    have ek : ((k + 1 : Nat) : Int) - 1 = (k : Nat) := by omega
    cases hl : Cross.less (gt l i) (gt A k) with
    | true =>
      have e : bk Cross.less (gt l i) A (k + 1) = bk Cross.less (gt l i) A k := by rw [bk, hl]
      rw [e]
      refine Wp.ev ?_
      refine gg [.b (decide ((↑(k + 1) : Int) > 0)) true, .tt, .tt, .w ((0 : Int) ≤ (↑i : Int)), .n (Int.toNat (↑i : Int)) i, .g (List.map Cross.enc l) i (Cross.enc (gt l i)), .tt, .tt, .tt, .i IntKind.i64 ((↑(k + 1) : Int) - 1) (↑k : Int), .tt, .w ((0 : Int) ≤ (↑k : Int)), .n (Int.toNat (↑k : Int)) k, .w (k < List.length (List.map Cross.enc A)), .tt, .tt] ⟨tP, oW, o_n (by kernel_rfl), o_gt rfl (by assumption) (by intro h; cases h), oI, oW, o_n (by kernel_rfl), o_w (by (simp; omega)), trivial⟩ ?_
      refine gg [.g (List.map Cross.enc A) k (Cross.enc (gt A k)), .tt, .a _ _, .tt, .b (Cross.less (gt l i) (gt A k)) true, .i IntKind.i64 ((↑(k + 1) : Int) - 1) (↑k : Int), .a _ _] ⟨o_gt rfl (by assumption) (by intro h; cases h), o_a (f_joustref05_Less (gt l i) (gt A k)), tB, oI, o_a ih1, trivial⟩ ?_
      exact ge
    | false =>
      have e : bk Cross.less (gt l i) A (k + 1) = k + 1 := by rw [bk, hl]
      rw [e]
      refine Wp.ev ?_
      refine gg [.b (decide ((↑(k + 1) : Int) > 0)) true, .tt, .tt, .w ((0 : Int) ≤ (↑i : Int)), .n (Int.toNat (↑i : Int)) i, .g (List.map Cross.enc l) i (Cross.enc (gt l i)), .tt, .tt, .tt, .i IntKind.i64 ((↑(k + 1) : Int) - 1) (↑k : Int), .tt, .w ((0 : Int) ≤ (↑k : Int)), .n (Int.toNat (↑k : Int)) k, .w (k < List.length (List.map Cross.enc A)), .tt, .tt] ⟨tP, oW, o_n (by kernel_rfl), o_gt rfl (by assumption) (by intro h; cases h), oI, oW, o_n (by kernel_rfl), o_w (by (simp; omega)), trivial⟩ ?_
      refine gg [.g (List.map Cross.enc A) k (Cross.enc (gt A k)), .tt, .a _ _, .tt, .b (Cross.less (gt l i) (gt A k)) false] ⟨o_gt rfl (by assumption) (by intro h; cases h), o_a (f_joustref05_Less (gt l i) (gt A k)), fB, trivial⟩ ?_
      exact ge
theorem f_joustref05_Sort_loop (l : List Cross) (hn : small l) : ∀ (d i : Nat) (A : List Cross), i + d = l.length → A.length = i → Sd Cross.less A →
    Is cx (.loop 41 [0, 1, 0, 1, 1] 0 [.t (.sl 15 (l.map Cross.enc)), .all 0 none, vi i] [.arr 15 (A.map Cross.enc) none false])
      ⟨.exit 0, [.t (.sl 15 (l.map Cross.enc)), .all 0 none, vi l.length], [.arr 15 (((l.drop i).foldl (insS Cross.less) A).map Cross.enc) none false]⟩ := by
  unfold small at hn
  intro d
  induction d with
  | zero =>
    intro i A hi hA hs
    rw [drop_end (by omega)]
    refine Wp.ev ?_
    refine gg [.n (List.length (List.map Cross.enc l)) (List.length l), .b (decide ((↑i : Int) < (↑(List.length l) : Int))) false] ⟨o_n (by simp), fP, trivial⟩ ?_
    refine rt (a := Res.mk (Ex.exit 0) [V.t (T.sl 15 (List.map Cross.enc l)), V.all 0 none, vi (↑i : Int)] [Ob.arr 15 (List.map Cross.enc A) none false]) (by kernel_rfl) ?_
    ((have hq : i = l.length := by omega); subst hq; rfl)
  | succ d ih =>
    intro i A hi hA hs
    have hlt : i < l.length := by omega
    have hlen : (insS Cross.less A (gt l i)).length = i + 1 := by rw [(insS_st less_swo hs).len less_swo (insS_sd less_swo hs)]; simp; omega
    have ih1 := ih (i + 1) (insS Cross.less A (gt l i)) (by omega) hlen (insS_sd less_swo hs)
    clear ih
    rw [drop_gt hlt, List.foldl_cons]
    have hI := f_joustref05_Sort_inner l A i hlt hn (by unfold small; omega) A.length (Nat.le_refl _)
    have hk := @bk_le _ _ Cross.less (gt l i) A A.length
    rw [bk_eq less_swo hs] at ih1 ⊢
    rw [bk_eq less_swo hs] at hlen
    generalize bk Cross.less (gt l i) A A.length = k at *
    rw [List.append_cons] at ih1 ⊢
    rw [List.append_cons] at hlen
    have ht : List.take (A.length - k) (A.drop k) = A.drop k := List.take_of_length_le (by simp)
    refine Wp.ev ?_
    refine gg [.n (List.length (List.map Cross.enc l)) (List.length l), .b (decide ((↑i : Int) < (↑(List.length l) : Int))) true, .n (List.length (List.map Cross.enc A)) (List.length A), .a _ _, .w ((0 : Int) ≤ (↑k : Int)), .n (Int.toNat (↑k : Int)) k, .w ((0 : Nat) ≤ k ∧ k ≤ List.length (List.map Cross.enc A)), .l 0, .n (k - 0) k, .w ((0 : Int) ≤ (↑i : Int)), .n (Int.toNat (↑i : Int)) i, .g (List.map Cross.enc l) i (Cross.enc (gt l i)), .w ((0 : Int) ≤ (↑k : Int)), .n (Int.toNat (↑k : Int)) k, .w (k ≤ List.length (List.map Cross.enc A) ∧ List.length (List.map Cross.enc A) ≤ List.length (List.map Cross.enc A)), .n (0 + k) k] ⟨o_n (by simp), tP, o_n (by simp), o_a hI, oW, o_n (by kernel_rfl), o_w ⟨(by omega), (by (simp [room, appendMax]; omega))⟩, o_n (by kernel_rfl), oW, o_n (by kernel_rfl), o_gt rfl (by assumption) (by intro h; cases h), oW, o_n (by kernel_rfl), o_w ⟨(by (simp [room, appendMax]; omega)), (by omega)⟩, oN, trivial⟩ ?_
    refine gg [.n (List.length (List.map Cross.enc A) - k) (List.length A - k)] ⟨o_n (by simp), trivial⟩ ?_
    refine bo (by kernel_rfl) ?_ ?_
    · refine gg [.w ((0 : Nat) < (120 : Nat)), .t (T.sl 0 (List.take k (List.drop 0 (List.map Cross.enc A)))) (T.sl 0 (List.map Cross.enc (List.take k A))), .s (T.sl 0 (List.map Cross.enc (List.take k A))), .w (room (List.length (List.map Cross.enc (List.take k A))) (120 : Nat)), .w ((0 : Nat) < (120 : Nat)), .t (T.sl 0 [Cross.enc (gt l i)]) (T.sl 0 (List.map Cross.enc [gt l i])), .t (T.sl 0 (List.map Cross.enc (List.take k A) ++ List.map Cross.enc [gt l i])) (T.sl 0 (List.map Cross.enc (List.take k A ++ [gt l i]))), .w (room (List.length (List.map Cross.enc (List.take k A ++ [gt l i]))) (120 : Nat)), .w ((0 : Nat) < (120 : Nat)), .t (T.sl 0 (List.take (List.length A - k) (List.drop k (List.map Cross.enc A)))) (T.sl 0 (List.map Cross.enc (List.drop k A))), .t (T.sl 0 (List.map Cross.enc (List.take k A ++ [gt l i]) ++ List.map Cross.enc (List.drop k A))) (T.sl 0 (List.map Cross.enc (List.take k A ++ [gt l i] ++ List.drop k A))), .w (room (List.length (List.map Cross.enc (List.take k A ++ [gt l i] ++ List.drop k A))) (120 : Nat)), .i IntKind.i64 ((↑i : Int) + 1) ((↑(i + 1) : Int)), .a _ _] ⟨oW, o_l (nm_eq (nm_take (nm_drop rfl)) (by kernel_rfl)), o_w (by (simp [room, appendMax]; omega)), oW, o_l (nm_cons rfl nm_nil), o_l (nm_app rfl rfl), o_w (by (simp [room, appendMax]; omega)), oW, o_l (nm_eq (nm_take (nm_drop rfl)) (by assumption)), o_l (nm_app rfl rfl), o_w (by (simp [room, appendMax]; omega)), o_i (w64 (by (simp [room, appendMax]; omega))), o_a ih1, trivial⟩ ?_
      exact ge
    · refine gg [.w ((0 : Nat) < (120 : Nat)), .t (T.sl 0 (List.take k (List.drop 0 (List.map Cross.enc A)))) (T.sl 0 (List.map Cross.enc (List.take k A))), .s (T.sl 0 (List.map Cross.enc (List.take k A))), .w (room (List.length (List.map Cross.enc (List.take k A))) (120 : Nat)), .w ((0 : Nat) < (120 : Nat)), .t (T.sl 0 [Cross.enc (gt l i)]) (T.sl 0 (List.map Cross.enc [gt l i])), .t (T.sl 0 (List.map Cross.enc (List.take k A) ++ List.map Cross.enc [gt l i])) (T.sl 0 (List.map Cross.enc (List.take k A ++ [gt l i]))), .w (room (List.length (List.map Cross.enc (List.take k A ++ [gt l i]))) (120 : Nat)), .w ((0 : Nat) < (120 : Nat)), .t (T.sl 0 (List.take (List.length A - k) (List.drop k (List.map Cross.enc A)))) (T.sl 0 (List.map Cross.enc (List.drop k A))), .t (T.sl 0 (List.map Cross.enc (List.take k A ++ [gt l i]) ++ List.map Cross.enc (List.drop k A))) (T.sl 0 (List.map Cross.enc (List.take k A ++ [gt l i] ++ List.drop k A))), .w (room (List.length (List.map Cross.enc (List.take k A ++ [gt l i] ++ List.drop k A))) (120 : Nat)), .i IntKind.i64 ((↑i : Int) + 1) ((↑(i + 1) : Int)), .a _ _] ⟨oW, o_l (nm_eq (nm_take (nm_drop rfl)) (by kernel_rfl)), o_w (by (simp [room, appendMax]; omega)), oW, o_l (nm_cons rfl nm_nil), o_l (nm_app rfl rfl), o_w (by (simp [room, appendMax]; omega)), oW, o_l (nm_eq (nm_take (nm_drop rfl)) (by assumption)), o_l (nm_app rfl rfl), o_w (by (simp [room, appendMax]; omega)), o_i (w64 (by (simp [room, appendMax]; omega))), o_a ih1, trivial⟩ ?_
      exact ge
theorem f_joustref05_Sort (l : List Cross) (hn : small l) : Fn cx 41 [.sl 15 (l.map Cross.enc)] (.sl 15 ((sortS Cross.less l).map Cross.enc)) := by
  have h := f_joustref05_Sort_loop l hn l.length 0 [] (by omega) rfl (by simp [Sd])
  rw [List.drop_zero] at h
  change Is cx _ ⟨_, _, [.arr 15 ((sortS Cross.less l).map Cross.enc) none false]⟩ at h
  refine Wp.ev ?_
  refine gg [.a _ _] ⟨o_a h, trivial⟩ ?_
  exact ge
end Go.Eva.S1

/- The statements of the messages. -/
namespace Go.Eva.S1
theorem f_jousthelp_In_Cross (l : List Cross) (x : Cross) (hn : small l) : Fn cx 35 [.sl 15 (l.map Cross.enc), x.enc] (.bool (l.any fun y => decide (y = x))) := by
  obtain ⟨k, h⟩ := f_jousthelp_In_loop_Cross l x hn l.length 0 (by omega)
  rw [List.drop_zero] at h
  unfold small at hn
  cases hq : l.any fun y => decide (y = x) with
  | true =>
    rw [hq] at h
    refine Wp.ev ?_
    refine gg [.a _ _] ⟨o_a h, trivial⟩ ?_
    exact ge
  | false =>
    rw [hq] at h
    refine Wp.ev ?_
    refine gg [.a _ _] ⟨o_a h, trivial⟩ ?_
    exact ge
def goal1 (t : Int) : Cross := ⟨0, 0, t, 0, Entity.zero, 0, 0⟩
theorem f_joustlaw06_awake : Fn cx 31 [] (.bool true) := by
  have h1 := f_cross_Sort_2 [goal1 2] [goal1 1] (by decide)
  rw [show sortS Cross.less ([goal1 2] ++ [goal1 1]) = [goal1 1, goal1 2] by decide] at h1
  have h2 := f_cross_Less (goal1 1) (goal1 2)
  rw [show Cross.less (goal1 1) (goal1 2) = true by decide] at h2
  have h3 := f_cross_To [goal1 1, goal1 2] 2 (by simp [small])
  rw [show toL [goal1 1, goal1 2] 2 = [goal1 2] by decide] at h3
  simp only [goal1, Entity.zero] at h1 h2 h3
  refine Wp.ev ?_
  refine gg [.a _ _, .l 2, .b (2 == 2) true, .tt, .w ((0 : Int) ≤ (0 : Int)), .l 0, .w ((0 : Nat) < (2 : Nat)), .tt, .tt, .g [Cross.enc (Cross.mk 0 0 1 0 (Entity.mk 0 0 0 0 0 0 0 0 0) 0 0), Cross.enc (Cross.mk 0 0 2 0 (Entity.mk 0 0 0 0 0 0 0 0 0) 0 0)] 0 (Cross.enc (Cross.mk 0 0 1 0 (Entity.mk 0 0 0 0 0 0 0 0 0) 0 0)), .tt, .tt, .b (1 == 1) true, .tt, .w ((0 : Int) ≤ (0 : Int)), .l 0] ⟨o_a h1, o_b (by kernel_rfl), oW, oW, oG, o_b (by kernel_rfl), oW, trivial⟩ ?_
  refine gg [.w ((0 : Nat) < (2 : Nat)), .tt, .tt, .w ((0 : Int) ≤ (1 : Int)), .l 1, .w ((1 : Nat) < (2 : Nat)), .tt, .g [Cross.enc (Cross.mk 0 0 1 0 (Entity.mk 0 0 0 0 0 0 0 0 0) 0 0), Cross.enc (Cross.mk 0 0 2 0 (Entity.mk 0 0 0 0 0 0 0 0 0) 0 0)] 0 (Cross.enc (Cross.mk 0 0 1 0 (Entity.mk 0 0 0 0 0 0 0 0 0) 0 0)), .tt, .g [Cross.enc (Cross.mk 0 0 1 0 (Entity.mk 0 0 0 0 0 0 0 0 0) 0 0), Cross.enc (Cross.mk 0 0 2 0 (Entity.mk 0 0 0 0 0 0 0 0 0) 0 0)] 1 (Cross.enc (Cross.mk 0 0 2 0 (Entity.mk 0 0 0 0 0 0 0 0 0) 0 0)), .tt, .a _ _, .tt, .tt, .tt, .a _ _] ⟨oW, oW, oW, oG, oG, o_a h2, o_a h3, trivial⟩ ?_
  refine gg [.tt, .l 1, .tt, .tt] trivial ?_
  exact ge
theorem f_joustlaw06_CrossOrder (a b c : Cross) : Fn cx 8 [a.enc, b.enc, c.enc] (.bool true) := by
  have ha := f_joustlaw06_awake
  have h1 := f_cross_Less a b
  have h2 := f_cross_Less b c
  have h3 := f_cross_Less a c
  have h4 := f_cross_Less b a
  cases q1 : Cross.less a b with
  | true =>
    rw [q1] at h1
    rw [less_swo.asymm q1] at h4
    cases q2 : Cross.less b c with
    | true =>
      rw [q2] at h2
      rw [less_swo.trans q1 q2] at h3
      refine Wp.ev ?_
      refine gg [.a _ _, .a _ _, .a _ _, .a _ _, .tt, .tt, .tt, .tt, .tt, .a _ _, .tt, .tt, .tt, .tt, .b (!false) true, .tt] ⟨o_a h1, o_a h2, o_a h3, o_a ha, o_a h4, o_b (by kernel_rfl), trivial⟩ ?_
      refine gg [.tt, .b (!true) false, .ff, .tt, .ff, .tt, .b (!true) false, .tt, .ff, .tt] ⟨o_b (by kernel_rfl), o_b (by kernel_rfl), trivial⟩ ?_
      exact ge
    | false =>
      rw [q2] at h2
      generalize Cross.less a c = q3 at *
      refine Wp.ev ?_
      refine gg [.a _ _, .a _ _, .a _ _, .a _ _, .tt, .tt, .tt, .tt, .tt, .a _ _, .tt, .tt, .tt, .tt, .b (!false) true, .tt] ⟨o_a h1, o_a h2, o_a h3, o_a ha, o_a h4, o_b (by kernel_rfl), trivial⟩ ?_
      refine gg [.tt, .b (!true) false, .ff, .tt, .ff, .tt, .b (!false) true, .tt, .tt, .tt] ⟨o_b (by kernel_rfl), o_b (by kernel_rfl), trivial⟩ ?_
      exact ge
  | false =>
    rw [q1] at h1
    generalize Cross.less a c = q3 at *
    generalize Cross.less b c = q2 at *
    refine Wp.ev ?_
    refine gg [.a _ _, .a _ _, .a _ _, .a _ _, .tt, .tt, .ff, .ff, .ff, .tt, .ff, .tt, .tt, .b (!false) true, .tt, .tt] ⟨o_a h1, o_a h2, o_a h3, o_a ha, o_b (by kernel_rfl), trivial⟩ ?_
    refine gg [.b (!false) true, .tt, .tt, .tt, .tt, .tt, .tt, .tt, .tt] ⟨o_b (by kernel_rfl), trivial⟩ ?_
    exact ge
theorem f_joustlaw06_CrossSorts_loop0 (l x : List Cross) (hx : x.length ≤ 80) (hs : Sd Cross.less x) (r : Bool) : ∀ (d i : Nat), i + d = x.length → 1 ≤ i →
    Is cx (.loop 7 [0, 1, 0, 1, 1, 1, 1] 0 [.t (.sl 15 (l.map Cross.enc)), vb false, .all 0 none, vi i] [.arr 15 (x.map Cross.enc) none r])
      ⟨.exit 0, [.t (.sl 15 (l.map Cross.enc)), vb false, .all 0 none, vi x.length], [.arr 15 (x.map Cross.enc) none r]⟩ := by
  intro d
  induction d with
  | zero =>
    intro i hi h1
    refine Wp.ev ?_
    refine gg [.n (List.length (List.map Cross.enc x)) (List.length x), .b (decide ((↑i : Int) < (↑(List.length x) : Int))) false] ⟨o_n (by simp), fP, trivial⟩ ?_
    refine rt (a := Res.mk (Ex.exit 0) [V.t (T.sl 15 (List.map Cross.enc l)), vb false, V.all 0 none, vi (↑i : Int)] [Ob.arr 15 (List.map Cross.enc x) none r]) (by kernel_rfl) ?_
    ((have hq : i = x.length := by omega); subst hq; rfl)
  | succ d ih =>
    intro i hi h1
    have ih1 := ih (i + 1) (by omega) (by omega)
    clear ih
    obtain ⟨j, rfl⟩ : ∃ j, i = j + 1 := ⟨i - 1, by omega⟩
    have k1 := f_cross_Less (gt x (j + 1)) (gt x j)
    rw [sd_adj less_swo hs (i := j) (by omega)] at k1
    have k2 := f_cross_Less (gt x (j + 1)) (gt x (j + 1))
    rw [less_swo.irr] at k2
    have ej : ((j + 1 : Nat) : Int) - 1 = (j : Nat) := by omega
    refine Wp.ev ?_
    refine gg [.n (List.length (List.map Cross.enc x)) (List.length x), .b (decide ((↑(j + 1) : Int) < (↑(List.length x) : Int))) true, .w ((0 : Int) ≤ (↑(j + (1 : Nat)) : Int)), .n (Int.toNat (↑(j + 1) : Int)) (j + 1), .w (j + (1 : Nat) < List.length (List.map Cross.enc x)), .i IntKind.i64 ((↑(j + 1) : Int) - 1) (↑j : Int), .w ((0 : Int) ≤ (↑j : Int)), .n (Int.toNat (↑j : Int)) j, .w (j < List.length (List.map Cross.enc x)), .g (List.map Cross.enc x) (j + 1) (Cross.enc (gt x (j + 1))), .g (List.map Cross.enc x) j (Cross.enc (gt x j)), .a _ _, .ff, .ff, .ff, .w ((0 : Int) ≤ (↑(j + (1 : Nat)) : Int))] ⟨o_n (by simp), tP, oW, o_n (by kernel_rfl), o_w (by (simp; omega)), oI, oW, o_n (by kernel_rfl), o_w (by (simp; omega)), oT, oT, o_a k1, oW, trivial⟩ ?_
    refine gg [.n (Int.toNat (↑(j + 1) : Int)) (j + 1), .w (j + (1 : Nat) < List.length (List.map Cross.enc x)), .ff, .ff, .ff, .w ((0 : Int) ≤ (↑(j + (1 : Nat)) : Int)), .n (Int.toNat (↑(j + 1) : Int)) (j + 1), .w (j + (1 : Nat) < List.length (List.map Cross.enc x)), .ff, .g (List.map Cross.enc x) (j + 1) (Cross.enc (gt x (j + 1))), .ff, .g (List.map Cross.enc x) (j + 1) (Cross.enc (gt x (j + 1))), .ff, .a _ _, .ff, .ff] ⟨o_n (by kernel_rfl), o_w (by (simp; omega)), oW, o_n (by kernel_rfl), o_w (by (simp; omega)), oT, oT, o_a k2, trivial⟩ ?_
    refine gg [.i IntKind.i64 ((↑(j + 1) : Int) + 1) ((↑(j + 1 + 1) : Int)), .a _ _] ⟨oI, o_a ih1, trivial⟩ ?_
    exact ge
theorem f_joustlaw06_CrossSorts_loop1 (l x : List Cross) (hl : l.length ≤ 40) (hx : x.length ≤ 80) (hm : ∀ e ∈ l, e ∈ x) (r : Bool) : ∀ (d i : Nat), i + d = l.length →
    Is cx (.loop 7 [0, 1, 0, 1, 1, 1, 1, 1] 0 [.t (.sl 15 (l.map Cross.enc)), vb false, .all 0 none, vi i] [.arr 15 (x.map Cross.enc) none r])
      ⟨.exit 2, [.t (.sl 15 (l.map Cross.enc)), vb false, .all 0 none, vi l.length], [.arr 15 (x.map Cross.enc) none r]⟩ := by
  intro d
  induction d with
  | zero =>
    intro i hi
    refine Wp.ev ?_
    refine gg [.n (List.length (List.map Cross.enc l)) (List.length l), .b (decide ((↑i : Int) < (↑(List.length l) : Int))) false] ⟨o_n (by simp), fP, trivial⟩ ?_
    refine rt (a := Res.mk (Ex.exit 2) [V.t (T.sl 15 (List.map Cross.enc l)), vb false, V.all 0 none, vi (↑i : Int)] [Ob.arr 15 (List.map Cross.enc x) none r]) (by kernel_rfl) ?_
    ((have hq : i = l.length := by omega); subst hq; rfl)
  | succ d ih =>
    intro i hi
    have hlt : i < l.length := by omega
    have ih1 := ih (i + 1) (by omega)
    clear ih
    have k := f_jousthelp_In_Cross x (gt l i) (by unfold small; omega)
    rw [show (x.any fun y => decide (y = gt l i)) = true by rw [List.any_eq_true]; exact ⟨_, hm _ (gt_mem hlt), by simp⟩] at k
    refine Wp.ev ?_
    refine gg [.n (List.length (List.map Cross.enc l)) (List.length l), .b (decide ((↑i : Int) < (↑(List.length l) : Int))) true, .w ((0 : Int) ≤ (↑i : Int)), .n (Int.toNat (↑i : Int)) i, .g (List.map Cross.enc l) i (Cross.enc (gt l i)), .a _ _, .b (flats [T.bool true]) true, .b (!true) false, .i IntKind.i64 ((↑i : Int) + 1) ((↑(i + 1) : Int)), .a _ _] ⟨o_n (by simp), tP, oW, o_n (by kernel_rfl), o_gt rfl (by assumption) (by intro h; cases h), o_a k, o_b (by kernel_rfl), o_b (by kernel_rfl), oI, o_a ih1, trivial⟩ ?_
    exact ge
theorem f_joustlaw06_CrossSorts (l m : List Cross) : Fn cx 7 [.sl 15 (l.map Cross.enc), .sl 15 (m.map Cross.enc)] (.bool true) := by
  have ha := f_joustlaw06_awake
  by_cases hl : l.length ≤ 40
  · by_cases hm : m.length ≤ 40
    · have h1 := f_cross_Sort_2 l m (by omega)
      have hlen : (sortS Cross.less (l ++ m)).length = l.length + m.length := by rw [sortS_len less_swo]; simp
      have hs := sortS_sd less_swo (l ++ m)
      have hmem : ∀ e ∈ l, e ∈ sortS Cross.less (l ++ m) := fun e he => (sortS_mem less_swo).2 (List.mem_append_left _ he)
      generalize sortS Cross.less (l ++ m) = x at *
      have hx : small x := by unfold small; omega
      have h2 := f_cross_Sort_1 x hx
      rw [sortS_self less_swo hs] at h2
      have h3 := f_cross_Sort_0
      have hP := f_jousthelp_Plain_Cross x x hx
      rw [show plain x x = true by simp [plain]] at hP
      have hL := f_joustlaw06_CrossSorts_loop1 l x hl (by omega) hmem true l.length 0 (by omega)
      by_cases h0 : x.length = 0
      · have h0l : l.length = 0 := by omega
        have : x = [] := List.eq_nil_of_length_eq_zero h0
        subst this
        have hK : Is cx (.loop 7 [0, 1, 0, 1, 1, 1, 1] 0 [.t (.sl 15 (l.map Cross.enc)), vb false, .all 0 none, vi 1] [.arr 15 [] none true])
          ⟨.exit 0, [.t (.sl 15 (l.map Cross.enc)), vb false, .all 0 none, vi 1], [.arr 15 [] none true]⟩ := by
          refine Wp.ev ?_
          refine gg [.l 0, .b (decide (1 < 0)) false] ⟨o_b (by kernel_rfl), trivial⟩ ?_
          exact ge
        refine Wp.ev ?_
        refine gg [.n (List.length (List.map Cross.enc l)) (List.length l), .b (decide ((↑(List.length l) : Int) > 40)) false, .ff, .n (List.length (List.map Cross.enc m)) (List.length m), .ff, .ff, .b (decide ((↑(List.length m) : Int) > 40)) false, .a _ _, .a _ _, .b (!true) false, .ff, .l 0, .ff, .ff, .n (List.length (List.map Cross.enc l)) (List.length l), .ff] ⟨o_n (by simp), fP, o_n (by simp), fP, o_a h1, o_a ha, o_b (by kernel_rfl), o_n (by simp), trivial⟩ ?_
        refine gg [.ff, .n (List.length (List.map Cross.enc m)) (List.length m), .ff, .i IntKind.i64 ((↑(List.length l) : Int) + (↑(List.length m) : Int)) ((↑(List.length l + List.length m) : Int)), .ff, .ff, .b (0 != (↑(List.length l + List.length m) : Int)) false, .ff, .s (T.sl 15 []), .ff, .a _ _, .ff, .ff, .a _ _, .b (flats [T.bool true]) true, .ff] ⟨o_n (by simp), oI, fN, o_a h2, o_a hP, o_b (by kernel_rfl), trivial⟩ ?_
        refine gg [.ff, .b (!true) false, .a _ _, .a _ _, .a _ _, .l 0] ⟨o_b (by kernel_rfl), o_a hK, o_a hL, o_a h3, trivial⟩ ?_
        exact ge
      · have hK := f_joustlaw06_CrossSorts_loop0 l x (by omega) hs true (x.length - 1) 1 (by omega) (by omega)
        refine Wp.ev ?_
        refine gg [.n (List.length (List.map Cross.enc l)) (List.length l), .b (decide ((↑(List.length l) : Int) > 40)) false, .ff, .n (List.length (List.map Cross.enc m)) (List.length m), .ff, .ff, .b (decide ((↑(List.length m) : Int) > 40)) false, .a _ _, .a _ _, .b (!true) false, .ff, .n (List.length (List.map Cross.enc x)) (List.length x), .ff, .ff, .n (List.length (List.map Cross.enc l)) (List.length l), .ff] ⟨o_n (by simp), fP, o_n (by simp), fP, o_a h1, o_a ha, o_b (by kernel_rfl), o_n (by simp), o_n (by simp), trivial⟩ ?_
        refine gg [.ff, .n (List.length (List.map Cross.enc m)) (List.length m), .ff, .i IntKind.i64 ((↑(List.length l) : Int) + (↑(List.length m) : Int)) ((↑(List.length l + List.length m) : Int)), .ff, .ff, .b ((↑(List.length x) : Int) != (↑(List.length l + List.length m) : Int)) false, .ff, .s (T.sl 15 (List.map Cross.enc x)), .ff, .a _ _, .ff, .ff, .a _ _, .b (flats [T.bool true]) true, .ff] ⟨o_n (by simp), oI, fN, o_a h2, o_a hP, o_b (by kernel_rfl), trivial⟩ ?_
        refine gg [.ff, .b (!true) false, .a _ _, .a _ _, .a _ _, .l 0] ⟨o_b (by kernel_rfl), o_a hK, o_a hL, o_a h3, trivial⟩ ?_
        exact ge
    · refine Wp.ev ?_
      refine gg [.n (List.length (List.map Cross.enc l)) (List.length l), .b (decide ((↑(List.length l) : Int) > 40)) false, .ff, .n (List.length (List.map Cross.enc m)) (List.length m), .ff, .ff, .b (decide ((↑(List.length m) : Int) > 40)) true, .a _ _] ⟨o_n (by simp), fP, o_n (by simp), tP, o_a ha, trivial⟩ ?_
      exact ge
  · refine Wp.ev ?_
    refine gg [.n (List.length (List.map Cross.enc l)) (List.length l), .b (decide ((↑(List.length l) : Int) > 40)) true, .tt, .tt, .tt, .tt, .a _ _] ⟨o_n (by simp), tP, o_a ha, trivial⟩ ?_
    exact ge
theorem f_joustlaw06_CrossParts_loop0 (l : List Cross) (hl : l.length ≤ 40) : ∀ (d i : Nat) (A : List Cross), i + d = l.length → A.length = i →
    Is cx (.loop 9 [0, 1, 0, 1, 1, 1] 0 [.t (.sl 15 (l.map Cross.enc)), .all 0 none, vi i] [.arr 15 (A.map Cross.enc) none false])
      ⟨.exit 0, [.t (.sl 15 (l.map Cross.enc)), .all 0 none, vi l.length], [.arr 15 ((A ++ (l.drop i).map six).map Cross.enc) none false]⟩ := by
  intro d
  induction d with
  | zero =>
    intro i A hi hA
    rw [drop_end (by omega)]
    refine Wp.ev ?_
    refine gg [.n (List.length (List.map Cross.enc l)) (List.length l), .b (decide ((↑i : Int) < (↑(List.length l) : Int))) false] ⟨o_n (by simp), fP, trivial⟩ ?_
    refine rt (a := Res.mk (Ex.exit 0) [V.t (T.sl 15 (List.map Cross.enc l)), V.all 0 none, vi (↑i : Int)] [Ob.arr 15 (List.map Cross.enc A) none false]) (by kernel_rfl) ?_
    ((have hq : i = l.length := by omega); subst hq; simp)
  | succ d ih =>
    intro i A hi hA
    have hlt : i < l.length := by omega
    have ih1 := ih (i + 1) (A ++ [six (gt l i)]) (by omega) (by simp; omega)
    clear ih
    rw [drop_gt hlt, List.map_cons, List.append_cons]
    have k : 0 ≤ (IntKind.u64.wrap (gt l i).to).tmod 6 ∧ (IntKind.u64.wrap (gt l i).to).tmod 6 < 6 := u64_tmod (by decide)
    unfold six at ih1 ⊢
    refine Wp.ev ?_
    refine gg [.n (List.length (List.map Cross.enc l)) (List.length l), .b (decide ((↑i : Int) < (↑(List.length l) : Int))) true, .w ((0 : Int) ≤ (↑i : Int)), .n (Int.toNat (↑i : Int)) i, .g (List.map Cross.enc l) i (Cross.enc (gt l i)), .i IntKind.u64 ((gt l i).to) (IntKind.wrap IntKind.u64 (gt l i).to), .w ((6 : Int) ≠ (0 : Int)), .s (T.int IntKind.u64 (Int.tmod (IntKind.wrap IntKind.u64 (gt l i).to) 6)), .i IntKind.i64 (Int.tmod (IntKind.wrap IntKind.u64 (gt l i).to) 6) (Int.tmod (IntKind.wrap IntKind.u64 (gt l i).to) 6), .w ((0 : Nat) < (120 : Nat)), .s (T.sl 0 [T.agg [ti (gt l i).kind, ti (gt l i).frm, ti (Int.tmod (IntKind.wrap IntKind.u64 (gt l i).to) 6), ti (gt l i).frame, ti (gt l i).ent.id, ti (gt l i).ent.kind, ti (gt l i).ent.x, ti (gt l i).ent.y, ti (gt l i).ent.vx, ti (gt l i).ent.vy, ti (gt l i).ent.health, ti (gt l i).ent.age, ti (gt l i).ent.owner, ti (gt l i).x, ti (gt l i).y]]), .t (T.sl 0 (List.map Cross.enc A ++ [T.agg [ti (gt l i).kind, ti (gt l i).frm, ti (Int.tmod (IntKind.wrap IntKind.u64 (gt l i).to) 6), ti (gt l i).frame, ti (gt l i).ent.id, ti (gt l i).ent.kind, ti (gt l i).ent.x, ti (gt l i).ent.y, ti (gt l i).ent.vx, ti (gt l i).ent.vy, ti (gt l i).ent.health, ti (gt l i).ent.age, ti (gt l i).ent.owner, ti (gt l i).x, ti (gt l i).y]])) (T.sl 0 (List.map Cross.enc (A ++ [Cross.mk (gt l i).kind (gt l i).frm (Int.tmod (IntKind.wrap IntKind.u64 (gt l i).to) 6) (gt l i).frame (gt l i).ent (gt l i).x (gt l i).y]))), .w (room (List.length (List.map Cross.enc (A ++ [Cross.mk (gt l i).kind (gt l i).frm (Int.tmod (IntKind.wrap IntKind.u64 (gt l i).to) (6 : Int)) (gt l i).frame (gt l i).ent (gt l i).x (gt l i).y]))) (120 : Nat)), .i IntKind.i64 ((↑i : Int) + 1) ((↑(i + 1) : Int)), .a _ _] ⟨o_n (by simp), tP, oW, o_n (by kernel_rfl), o_gt rfl (by assumption) (by intro h; cases h), o_i rfl, o_w (by intro h; cases h), o_i (w64 (by (simp [room, appendMax]; omega))), oW, o_l (nm_app rfl (nm_cons (e := Cross.mk (gt l i).kind (gt l i).frm (Int.tmod (IntKind.wrap IntKind.u64 (gt l i).to) 6) (gt l i).frame (gt l i).ent (gt l i).x (gt l i).y) rfl nm_nil)), o_w (by (simp [room, appendMax]; omega)), o_i (w64 (by (simp [room, appendMax]; omega))), o_a ih1, trivial⟩ ?_
    exact ge
theorem f_joustlaw06_CrossParts_loop1 (s : List Cross) (hs : s.length ≤ 40) : ∀ (d i : Nat) (A : List Cross) (b : Bool), i + d = 6 → A.length ≤ 40 * i →
    ∃ b' : Bool, Is cx (.loop 9 [0, 1, 0, 1, 1, 1, 1, 1, 1] 0 [.all 0 none, .all 1 none, vi i] [.arr 15 (s.map Cross.enc) none b, .arr 15 (A.map Cross.enc) none false])
      ⟨.exit 2, [.all 0 none, .all 1 none, vi 6], [.arr 15 (s.map Cross.enc) none b', .arr 15 ((A ++ parts s i d).map Cross.enc) none false]⟩ := by
  intro d
  induction d with
  | zero =>
    intro i A b hi hA
    refine ⟨b, ?_⟩
    obtain rfl : i = 6 := by omega
    simp only [parts, List.append_nil]
    refine Wp.ev ?_
    refine gg [.b (decide (6 < 6)) false] ⟨o_b (by kernel_rfl), trivial⟩ ?_
    exact ge
  | succ d ih =>
    intro i A b hi hA
    have hk := @toL_len s i
    obtain ⟨b', ih1⟩ := ih (i + 1) (A ++ toL s i) true (by omega) (by simp; omega)
    clear ih
    refine ⟨b', ?_⟩
    have h1 := f_cross_To s i (by unfold small; omega)
    simp only [parts]
    rw [← List.append_assoc, show (i : Int) + 1 = ((i + 1 : Nat) : Int) by omega]
    refine Wp.ev ?_
    refine gg [.b (decide ((↑i : Int) < 6)) true, .a _ _, .w ((0 : Nat) < (120 : Nat)), .s (T.sl 0 (List.map Cross.enc (toL s (↑i : Int)))), .t (T.sl 0 (List.map Cross.enc A ++ List.map Cross.enc (toL s (↑i : Int)))) (T.sl 0 (List.map Cross.enc (A ++ toL s (↑i : Int)))), .w (room (List.length (List.map Cross.enc (A ++ toL s (↑i : Int)))) (120 : Nat)), .i IntKind.i64 ((↑i : Int) + 1) ((↑(i + 1) : Int)), .a _ _] ⟨tP, o_a h1, oW, o_l (nm_app rfl rfl), o_w (by (simp [room, appendMax]; omega)), o_i (w64 (by (simp [room, appendMax]; omega))), o_a ih1, trivial⟩ ?_
    exact ge
theorem f_joustlaw06_CrossParts (l : List Cross) : Fn cx 9 [.sl 15 (l.map Cross.enc)] (.bool true) := by
  have ha := f_joustlaw06_awake
  by_cases hl : l.length ≤ 40
  · have h0 := f_joustlaw06_CrossParts_loop0 l hl l.length 0 [] (by omega) rfl
    rw [List.drop_zero, List.nil_append] at h0
    have hk : ∀ c ∈ l.map six, 0 ≤ c.to ∧ c.to < 6 := fun c hc => by
      obtain ⟨x, _, rfl⟩ := List.mem_map.1 hc
      exact six_to x
    have hlen : (l.map six).length = l.length := List.length_map ..
    generalize l.map six = m at *
    have h1 := f_cross_Sort_1 m (by unfold small; omega)
    have hs := sortS_sd less_swo m
    have hk2 : ∀ c ∈ sortS Cross.less m, 0 ≤ c.to ∧ c.to < 6 := fun c hc => hk c ((sortS_mem less_swo).1 hc)
    have hlen2 : (sortS Cross.less m).length = l.length := by rw [sortS_len less_swo]; exact hlen
    generalize sortS Cross.less m = s at *
    obtain ⟨b', h2⟩ := f_joustlaw06_CrossParts_loop1 s (by omega) 6 0 [] false (by omega) (by simp)
    rw [List.nil_append, show parts s ((0 : Nat) : Int) 6 = s from parts_eq (to_le hs) fun c hc => by have := hk2 c hc; omega] at h2
    have h3 := f_cross_To s 6 (by unfold small; omega)
    rw [toL_sortS_none hk2] at h3
    have hP := f_jousthelp_Plain_Cross s s (by unfold small; omega)
    rw [show plain s s = true by simp [plain]] at hP
    refine Wp.ev ?_
    refine gg [.n (List.length (List.map Cross.enc l)) (List.length l), .b (decide ((↑(List.length l) : Int) > 40)) false, .a _ _, .s (T.sl 15 (List.map Cross.enc m)), .a _ _, .a _ _, .a _ _, .tt, .tt, .tt, .a _ _, .b (flats [T.bool true]) true, .tt, .tt, .tt, .a _ _] ⟨o_n (by simp), fP, o_a h0, o_a h1, o_a h2, o_a ha, o_a hP, o_b (by kernel_rfl), o_a h3, trivial⟩ ?_
    refine gg [.tt, .l 0, .tt, .tt] trivial ?_
    exact ge
  · refine Wp.ev ?_
    refine gg [.n (List.length (List.map Cross.enc l)) (List.length l), .b (decide ((↑(List.length l) : Int) > 40)) true, .a _ _] ⟨o_n (by simp), tP, o_a ha, trivial⟩ ?_
    exact ge
end Go.Eva.S1

/- Regions that are near; which messages are right. -/
namespace Go.Eva.S1
theorem f_grid_Near_inner (c : Config) (r q H row : Int) (hc : 1 ≤ c.cols ∧ c.cols ≤ 4) (hq : r.tmod c.cols = q) (hH : minI (q + 1) (c.cols - 1) = H) (hq1 : 0 ≤ q ∧ q ≤ 3) (hH1 : H ≤ 3) (hrow : 0 ≤ row ∧ row ≤ 3) (hm : 0 ≤ row * c.cols ∧ row * c.cols ≤ 16) :
    ∀ (d : Nat) (col : Int) (A : List Int), 0 ≤ col → col + d = H + 1 → A.length + d ≤ 1000 →
    Is cx (.loop 73 [0, 1, 0, 0, 1, 0, 0, 1, 0, 1, 1, 1] 0 [vi r, .ptr 0 0 0, .all 1 none, vi row, vi col] [.one 5 (.t c.enc) false, .arr 1 (A.map ti) none false])
      ⟨.exit 2, [vi r, .ptr 0 0 0, .all 1 none, vi row, vi (H + 1)], [.one 5 (.t c.enc) false, .arr 1 ((A ++ colsL (row * c.cols) col d).map ti) none false]⟩ := by
  intro d
  induction d with
  | zero =>
    intro col A h0 h1 h2
    refine Wp.ev ?_
    refine gg [.w (c.cols ≠ (0 : Int)), .t (ti (Int.tmod r c.cols)) (ti q), .i IntKind.i64 (q + 1) (q + 1), .i IntKind.i64 (c.cols - 1) (c.cols - 1), .t (ti (minI (q + 1) (c.cols - 1))) (ti H), .b (decide (col ≤ H)) false] ⟨oW, o_t (by rw [hq]), oI, oI, o_t (by rw [hH]), fP, trivial⟩ ?_
    refine rt (a := Res.mk (Ex.exit 2) [vi r, V.ptr 0 0 0, V.all 1 none, vi row, vi col] [Ob.one 5 (V.t (Config.enc c)) false, Ob.arr 1 (List.map ti A) none false]) (by kernel_rfl) ?_
    ((have e : col = H + 1 := by omega); subst e; simp [colsL])
  | succ d ih =>
    intro col A h0 h1 h2
    have ih1 := ih (col + 1) (A ++ [row * c.cols + col]) (by omega) (by omega) (by simp; omega)
    clear ih
    refine Wp.ev ?_
    refine gg [.w (c.cols ≠ (0 : Int)), .t (ti (Int.tmod r c.cols)) (ti q), .i IntKind.i64 (q + 1) (q + 1), .i IntKind.i64 (c.cols - 1) (c.cols - 1), .t (ti (minI (q + 1) (c.cols - 1))) (ti H), .b (decide (col ≤ H)) true, .i IntKind.i64 (row * c.cols) (row * c.cols), .i IntKind.i64 (row * c.cols + col) (row * c.cols + col), .w ((0 : Nat) < (8 : Nat)), .t (T.sl 0 [ti (row * c.cols + col)]) (T.sl 0 (List.map (T.int IntKind.i64) [row * c.cols + col])), .t (T.sl 0 (List.map ti A ++ List.map (T.int IntKind.i64) [row * c.cols + col])) (T.sl 0 (List.map ti (A ++ [row * c.cols + col]))), .w (room (List.length (List.map ti (A ++ [row * c.cols + col]))) (8 : Nat)), .i IntKind.i64 (col + 1) (col + 1), .a _ _] ⟨o_w (by (simp [room, appendMax]; omega)), o_t (by rw [hq]), o_i (w64 (by (simp [room, appendMax]; omega))), o_i (w64 (by (simp [room, appendMax]; omega))), o_t (by rw [hH]), tP, o_i (w64 (by (simp [room, appendMax]; omega))), o_i (w64 (by (simp [room, appendMax]; omega))), oW, o_l (nm_cons rfl nm_nil), o_l (nm_app rfl rfl), o_w (by (simp [room, appendMax]; omega)), o_i (w64 (by (simp [room, appendMax]; omega))), o_a ih1, trivial⟩ ?_
    refine rt (a := Res.mk (Ex.exit 2) [vi r, V.ptr 0 0 0, V.all 1 none, vi row, vi (H + 1)] [Ob.one 5 (V.t (Config.enc c)) false, Ob.arr 1 (List.map ti (A ++ [row * c.cols + col] ++ colsL (row * c.cols) (col + 1) d)) none false]) (by kernel_rfl) ?_
    simp [colsL]
theorem colsL_len (b : Int) : ∀ (d : Nat) (c : Int), (colsL b c d).length = d
  | 0, _ => rfl
  | d + 1, c => by simp [colsL, colsL_len b d]
theorem f_grid_Near_outer (c : Config) (r q H p G : Int) (w : Nat) (hc : 1 ≤ c.cols ∧ c.cols ≤ 4) (hr0 : 1 ≤ c.rows ∧ c.rows ≤ 4) (hq : r.tmod c.cols = q) (hp : r.tdiv c.cols = p) (hH : minI (q + 1) (c.cols - 1) = H) (hG : minI (p + 1) (c.rows - 1) = G) (hq1 : 0 ≤ q ∧ q ≤ 3) (hp1 : 0 ≤ p ∧ p ≤ 3) (hH1 : H ≤ 3) (hG1 : G ≤ 3) (hw : maxI (q - 1) 0 + w = H + 1) (hl : 0 ≤ maxI (q - 1) 0) :
    ∀ (d : Nat) (row : Int) (A : List Int), 0 ≤ row → row + d = G + 1 → A.length + d * 100 ≤ 900 →
    Is cx (.loop 73 [0, 1, 0, 1, 1, 1] 0 [vi r, .ptr 0 0 0, .all 1 none, vi row] [.one 5 (.t c.enc) false, .arr 1 (A.map ti) none false])
      ⟨.exit 0, [vi r, .ptr 0 0 0, .all 1 none, vi (G + 1)], [.one 5 (.t c.enc) false, .arr 1 ((A ++ rowsL c.cols (maxI (q - 1) 0) w row d).map ti) none false]⟩ := by
  intro d
  induction d with
  | zero =>
    intro row A h0 h1 h2
    refine Wp.ev ?_
    refine gg [.w (c.cols ≠ (0 : Int)), .i IntKind.i64 (Int.tdiv r c.cols) p, .i IntKind.i64 (p + 1) (p + 1), .i IntKind.i64 (c.rows - 1) (c.rows - 1), .t (ti (minI (p + 1) (c.rows - 1))) (ti G), .b (decide (row ≤ G)) false] ⟨oW, oI, oI, oI, o_t (by rw [hG]), fP, trivial⟩ ?_
    refine rt (a := Res.mk (Ex.exit 0) [vi r, V.ptr 0 0 0, V.all 1 none, vi row] [Ob.one 5 (V.t (Config.enc c)) false, Ob.arr 1 (List.map ti A) none false]) (by kernel_rfl) ?_
    ((have e : row = G + 1 := by omega); subst e; simp [rowsL])
  | succ d ih =>
    intro row A h0 h1 h2
    have hm := mul4 (a := row) (b := c.cols) (by omega) (by omega)
    have hi := f_grid_Near_inner c r q H row hc hq hH hq1 hH1 (by omega) hm w (maxI (q - 1) 0) A hl hw (by omega)
    have ih1 := ih (row + 1) (A ++ colsL (row * c.cols) (maxI (q - 1) 0) w) (by omega) (by omega) (by simp [colsL_len]; omega)
    clear ih
    refine Wp.ev ?_
    refine gg [.w (c.cols ≠ (0 : Int)), .i IntKind.i64 (Int.tdiv r c.cols) p, .i IntKind.i64 (p + 1) (p + 1), .i IntKind.i64 (c.rows - 1) (c.rows - 1), .t (ti (minI (p + 1) (c.rows - 1))) (ti G), .b (decide (row ≤ G)) true, .w (c.cols ≠ (0 : Int)), .t (ti (Int.tmod r c.cols)) (ti q), .i IntKind.i64 (q - 1) (q - 1), .s (ti (maxI (q - 1) 0)), .a _ _, .i IntKind.i64 (row + 1) (row + 1), .a _ _] ⟨oW, oI, oI, oI, o_t (by rw [hG]), tP, oW, o_t (by rw [hq]), oI, o_a hi, oI, o_a ih1, trivial⟩ ?_
    refine rt (a := Res.mk (Ex.exit 0) [vi r, V.ptr 0 0 0, V.all 1 none, vi (G + 1)] [Ob.one 5 (V.t (Config.enc c)) false, Ob.arr 1 (List.map ti (A ++ colsL (row * c.cols) (maxI (q - 1) 0) w ++ rowsL c.cols (maxI (q - 1) 0) w (row + 1) d)) none false]) (by kernel_rfl) ?_
    simp [rowsL]
theorem f_grid_Near (c : Config) (r : Int) : Fn cx 73 [c.enc, ti r] (.sl 1 ((c.near r).map ti)) := by
  cases h : c.is r with
  | false =>
    have hN : c.near r = [] := by simp [Config.near, h]
    rw [hN]
    refine Wp.ev ?_
    refine gg [.a _ _, .b (!Config.is c r) true] ⟨o_a (f_grid_is c r), t_brnot (by assumption), trivial⟩ ?_
    exact ge
  | true =>
    have hr := Config.is_right h
    have hi := (Config.is_iff hr).1 h
    obtain ⟨hc, hrr, _⟩ := Config.right_iff.1 hr
    have hml := Config.mul_le hr
    have hN : c.near r = nearP c.cols c.rows r := by simp [Config.near, h]
    rw [hN]
    have k1 := tdiv_le (v := r) (k := c.cols) (m := c.rows) (by omega) (by omega) (by omega)
    have k2 := tmod_le (v := r) (k := c.cols) (by omega) (by omega)
    have hH1 : minI (r.tmod c.cols + 1) (c.cols - 1) ≤ 3 ∧ maxI (r.tmod c.cols - 1) 0 ≤ minI (r.tmod c.cols + 1) (c.cols - 1) ∧ 0 ≤ maxI (r.tmod c.cols - 1) 0 := by unfold minI maxI; split <;> split <;> omega
    have hG1 : minI (r.tdiv c.cols + 1) (c.rows - 1) ≤ 3 ∧ maxI (r.tdiv c.cols - 1) 0 ≤ minI (r.tdiv c.cols + 1) (c.rows - 1) ∧ 0 ≤ maxI (r.tdiv c.cols - 1) 0 := by unfold minI maxI; split <;> split <;> omega
    have hO := f_grid_Near_outer c r _ _ _ _ (minI (r.tmod c.cols + 1) (c.cols - 1) + 1 - maxI (r.tmod c.cols - 1) 0).toNat hc hrr rfl rfl rfl rfl (by omega) (by omega) hH1.1 hG1.1 (by omega) hH1.2.2
      (minI (r.tdiv c.cols + 1) (c.rows - 1) + 1 - maxI (r.tdiv c.cols - 1) 0).toNat (maxI (r.tdiv c.cols - 1) 0) [] (by omega) (by omega) (by simp; omega)
    rw [List.nil_append] at hO
    refine Wp.ev ?_
    refine gg [.a _ _, .b (!Config.is c r) false, .w (c.cols ≠ (0 : Int)), .i IntKind.i64 (Int.tdiv r c.cols) (Int.tdiv r c.cols), .i IntKind.i64 (Int.tdiv r c.cols - 1) (Int.tdiv r c.cols - 1), .s (ti (maxI (Int.tdiv r c.cols - 1) 0)), .a _ _] ⟨o_a (f_grid_is c r), f_brnot (by assumption), oW, oI, oI, o_a hO, trivial⟩ ?_
    exact ge
end Go.Eva.S1

/- Regions that are near, by the reference; which messages are right. -/
namespace Go.Eva.S1
theorem f_joustref03_Near_loop (c : Config) (r q p : Int) (hr : c.right = true) (his : c.is r = true) (hq : r.tmod c.cols = q) (hp : r.tdiv c.cols = p) (hq1 : 0 ≤ q ∧ q ≤ 3) (hp1 : 0 ≤ p ∧ p ≤ 3) :
    ∀ (d : Nat) (n : Int) (A : List Int), 0 ≤ n → n + d = c.regions → A.length + d ≤ 1000 →
    Is cx (.loop 45 [0, 1, 0, 1, 1] 0 [vi r, .ptr 0 0 0, .all 1 none, vi n] [.one 5 (.t c.enc) false, .arr 1 (A.map ti) none false])
      ⟨.exit 0, [vi r, .ptr 0 0 0, .all 1 none, vi c.regions], [.one 5 (.t c.enc) false, .arr 1 ((A ++ nearR c.cols r n d).map ti) none false]⟩ := by
  obtain ⟨hc, hrr, _⟩ := Config.right_iff.1 hr
  have hml := @Config.regions_le c
  have hrg : c.regions = c.cols * c.rows := by simp [Config.regions, hr]
  intro d
  induction d with
  | zero =>
    intro n A h0 h1 h2
    refine Wp.ev ?_
    refine gg [.a _ _, .b (decide (n < Config.regions c)) false, .ff, .ff, .ff, .ff] ⟨o_a (f_joustref03_Regions c), fP, trivial⟩ ?_
    refine rt (a := Res.mk (Ex.exit 0) [vi r, V.ptr 0 0 0, V.all 1 none, vi n] [Ob.one 5 (V.t (Config.enc c)) false, Ob.arr 1 (List.map ti A) none false]) (by kernel_rfl) ?_
    ((have e : n = c.regions := by omega); subst e; simp [nearR])
  | succ d ih =>
    intro n A h0 h1 h2
    have ih1 := ih (n + 1) A (by omega) (by omega) (by omega)
    have ih2 := ih (n + 1) (A ++ [n]) (by omega) (by omega) (by simp; omega)
    clear ih
    have k1 := tdiv_le (v := n) (k := c.cols) (m := c.rows) (by omega) h0 (by omega)
    have k2 := tmod_le (v := n) (k := c.cols) (by omega) h0
    cases hn : isNear c.cols r n with
    | true =>
      have hn' : -1 ≤ n.tmod c.cols - q ∧ n.tmod c.cols - q ≤ 1 ∧ -1 ≤ n.tdiv c.cols - p ∧ n.tdiv c.cols - p ≤ 1 := by rw [← hq, ← hp]; simpa [isNear] using hn
      refine Wp.ev ?_
      refine gg [.a _ _, .b (decide (n < Config.regions c)) true, .tt, .tt, .a _ _, .tt, .b (Config.is c r) true, .w (c.cols ≠ (0 : Int)), .s (ti (Int.tmod n c.cols)), .w (c.cols ≠ (0 : Int)), .t (ti (Int.tmod r c.cols)) (ti q), .i IntKind.i64 (Int.tmod n c.cols - q) (Int.tmod n c.cols - q), .w (c.cols ≠ (0 : Int)), .i IntKind.i64 (Int.tdiv n c.cols) (Int.tdiv n c.cols), .w (c.cols ≠ (0 : Int)), .i IntKind.i64 (Int.tdiv r c.cols) p] ⟨o_a (f_joustref03_Regions c), tP, o_a (f_joustref03_Is c r), tB, o_w (by (simp [room, appendMax]; omega)), o_w (by (simp [room, appendMax]; omega)), o_t (by rw [hq]), o_i (w64 (by (simp [room, appendMax]; omega))), o_w (by (simp [room, appendMax]; omega)), o_i (w64 (by (simp [room, appendMax]; omega))), o_w (by (simp [room, appendMax]; omega)), oI, trivial⟩ ?_
      refine gg [.i IntKind.i64 (Int.tdiv n c.cols - p) (Int.tdiv n c.cols - p), .b (decide (Int.tmod n c.cols - q ≥ -1)) true, .tt, .tt, .b (decide (Int.tmod n c.cols - q ≤ 1)) true, .tt, .tt, .b (decide (Int.tdiv n c.cols - p ≥ -1)) true, .tt, .tt, .b (decide (Int.tdiv n c.cols - p ≤ 1)) true, .w ((0 : Nat) < (8 : Nat)), .t (T.sl 0 [ti n]) (T.sl 0 (List.map (T.int IntKind.i64) [n])), .t (T.sl 0 (List.map ti A ++ List.map (T.int IntKind.i64) [n])) (T.sl 0 (List.map ti (A ++ [n]))), .w (room (List.length (List.map ti (A ++ [n]))) (8 : Nat)), .i IntKind.i64 (n + 1) (n + 1)] ⟨o_i (w64 (by (simp [room, appendMax]; omega))), tP, tP, tP, tP, oW, o_l (nm_cons rfl nm_nil), o_l (nm_app rfl rfl), o_w (by (simp [room, appendMax]; omega)), o_i (w64 (by (simp [room, appendMax]; omega))), trivial⟩ ?_
      refine gg [.a _ _] ⟨o_a ih2, trivial⟩ ?_
      refine rt (a := Res.mk (Ex.exit 0) [vi r, V.ptr 0 0 0, V.all 1 none, vi (Config.regions c)] [Ob.one 5 (V.t (Config.enc c)) false, Ob.arr 1 (List.map ti (A ++ [n] ++ nearR c.cols r (n + 1) d)) none false]) (by kernel_rfl) ?_
      simp [nearR, hn]
    | false =>
      have hn' : ¬ (-1 ≤ n.tmod c.cols - q ∧ n.tmod c.cols - q ≤ 1 ∧ -1 ≤ n.tdiv c.cols - p ∧ n.tdiv c.cols - p ≤ 1) := by rw [← hq, ← hp]; simpa [isNear] using hn
      refine Wp.ev ?_
      refine gg [.a _ _, .b (decide (n < Config.regions c)) true, .tt, .tt, .a _ _, .tt, .b (Config.is c r) true, .w (c.cols ≠ (0 : Int)), .s (ti (Int.tmod n c.cols)), .w (c.cols ≠ (0 : Int)), .t (ti (Int.tmod r c.cols)) (ti q), .i IntKind.i64 (Int.tmod n c.cols - q) (Int.tmod n c.cols - q), .w (c.cols ≠ (0 : Int)), .i IntKind.i64 (Int.tdiv n c.cols) (Int.tdiv n c.cols), .w (c.cols ≠ (0 : Int)), .i IntKind.i64 (Int.tdiv r c.cols) p] ⟨o_a (f_joustref03_Regions c), tP, o_a (f_joustref03_Is c r), tB, o_w (by (simp [room, appendMax]; omega)), o_w (by (simp [room, appendMax]; omega)), o_t (by rw [hq]), o_i (w64 (by (simp [room, appendMax]; omega))), o_w (by (simp [room, appendMax]; omega)), o_i (w64 (by (simp [room, appendMax]; omega))), o_w (by (simp [room, appendMax]; omega)), oI, trivial⟩ ?_
      refine gg [.i IntKind.i64 (Int.tdiv n c.cols - p) (Int.tdiv n c.cols - p)] ⟨o_i (w64 (by (simp [room, appendMax]; omega))), trivial⟩ ?_
      refine brp (p := Int.tmod n c.cols - q ≥ -1) (by kernel_rfl) (fun h1 => ?_) (fun h1 => ?_)
      · refine gg [.tt, .tt] trivial ?_
        refine brp (p := Int.tmod n c.cols - q ≤ 1) (by kernel_rfl) (fun h2 => ?_) (fun h2 => ?_)
        · refine gg [.tt, .tt] trivial ?_
          refine brp (p := Int.tdiv n c.cols - p ≥ -1) (by kernel_rfl) (fun h3 => ?_) (fun h3 => ?_)
          · refine gg [.tt, .tt, .b (decide (Int.tdiv n c.cols - p ≤ 1)) false, .i IntKind.i64 (n + 1) (n + 1), .a _ _] ⟨fP, o_i (w64 (by (simp [room, appendMax]; omega))), o_a ih1, trivial⟩ ?_
            refine rt (a := Res.mk (Ex.exit 0) [vi r, V.ptr 0 0 0, V.all 1 none, vi (Config.regions c)] [Ob.one 5 (V.t (Config.enc c)) false, Ob.arr 1 (List.map ti (A ++ nearR c.cols r (n + 1) d)) none false]) (by kernel_rfl) ?_
            simp [nearR, hn]
          · refine gg [.ff, .ff, .ff, .i IntKind.i64 (n + 1) (n + 1), .a _ _] ⟨o_i (w64 (by (simp [room, appendMax]; omega))), o_a ih1, trivial⟩ ?_
            refine rt (a := Res.mk (Ex.exit 0) [vi r, V.ptr 0 0 0, V.all 1 none, vi (Config.regions c)] [Ob.one 5 (V.t (Config.enc c)) false, Ob.arr 1 (List.map ti (A ++ nearR c.cols r (n + 1) d)) none false]) (by kernel_rfl) ?_
            simp [nearR, hn]
        · refine gg [.ff, .ff, .ff, .ff, .ff, .ff, .i IntKind.i64 (n + 1) (n + 1), .a _ _] ⟨o_i (w64 (by (simp [room, appendMax]; omega))), o_a ih1, trivial⟩ ?_
          refine rt (a := Res.mk (Ex.exit 0) [vi r, V.ptr 0 0 0, V.all 1 none, vi (Config.regions c)] [Ob.one 5 (V.t (Config.enc c)) false, Ob.arr 1 (List.map ti (A ++ nearR c.cols r (n + 1) d)) none false]) (by kernel_rfl) ?_
          simp [nearR, hn]
      · refine gg [.ff, .ff, .ff, .ff, .ff, .ff, .ff, .ff, .ff, .i IntKind.i64 (n + 1) (n + 1), .a _ _] ⟨o_i (w64 (by (simp [room, appendMax]; omega))), o_a ih1, trivial⟩ ?_
        refine rt (a := Res.mk (Ex.exit 0) [vi r, V.ptr 0 0 0, V.all 1 none, vi (Config.regions c)] [Ob.one 5 (V.t (Config.enc c)) false, Ob.arr 1 (List.map ti (A ++ nearR c.cols r (n + 1) d)) none false]) (by kernel_rfl) ?_
        simp [nearR, hn]
theorem f_joustref03_Near (c : Config) (r : Int) : Fn cx 45 [c.enc, ti r] (.sl 1 ((c.near r).map ti)) := by
  cases h : c.is r with
  | false =>
    have hN : c.near r = [] := by simp [Config.near, h]
    rw [hN]
    have hl : Is cx (.loop 45 [0, 1, 0, 1, 1] 0 [vi r, .ptr 0 0 0, .all 1 none, vi 0] [.one 5 (.t c.enc) false, .arr 1 [] none false]) ⟨.exit 0, [vi r, .ptr 0 0 0, .all 1 none, vi 0], [.one 5 (.t c.enc) false, .arr 1 [] none false]⟩ := by
      refine Wp.ev ?_
      refine gg [.a _ _] ⟨o_a (f_joustref03_Regions c), trivial⟩ ?_
      refine brp (p := 0 < Config.regions c) (by kernel_rfl) (fun h1 => ?_) (fun h1 => ?_)
      · refine gg [.tt, .tt, .a _ _, .tt, .b (Config.is c r) false] ⟨o_a (f_joustref03_Is c r), fB, trivial⟩ ?_
        exact ge
      · refine gg [.ff, .ff, .ff, .ff] trivial ?_
        exact ge
    refine Wp.ev ?_
    refine gg [.a _ _] ⟨o_a hl, trivial⟩ ?_
    exact ge
  | true =>
    have hr := Config.is_right h
    have hi := (Config.is_iff hr).1 h
    obtain ⟨hc, hrr, _⟩ := Config.right_iff.1 hr
    have hml := Config.mul_le hr
    have hrg : c.regions = c.cols * c.rows := by simp [Config.regions, hr]
    have k1 := tdiv_le (v := r) (k := c.cols) (m := c.rows) (by omega) (by omega) (by omega)
    have k2 := tmod_le (v := r) (k := c.cols) (by omega) (by omega)
    have hN : c.near r = nearR c.cols r 0 (c.cols * c.rows).toNat := by rw [near_eq hc hrr hi]; simp [Config.near, h]
    rw [hN]
    have hL := f_joustref03_Near_loop c r _ _ hr h rfl rfl (by omega) (by omega) (c.cols * c.rows).toNat 0 [] (by omega) (by omega) (by simp; omega)
    rw [List.nil_append] at hL
    refine Wp.ev ?_
    refine gg [.a _ _] ⟨o_a hL, trivial⟩ ?_
    exact ge
theorem f_cross_Right (c : Config) (m : Cross) : Fn cx 38 [c.enc, m.enc] (.bool (m.right c)) := by
  have hn := @near_small c m.frm
  have hs : small (c.near m.frm) := by unfold small; omega
  refine Wp.ev ?_
  refine gg [.a _ _, .a _ _] ⟨o_a (f_grid_Near c m.frm), o_a (f_slices_Contains_int (Config.near c m.frm) m.to (by assumption)), trivial⟩ ?_
  refine brnot (b := has (Config.near c m.frm) m.to) (by kernel_rfl) (fun h1 => ?_) (fun h1 => ?_)
  · refine gg [.tt, .tt, .tt, .tt, .tt, .tt, .tt, .tt] trivial ?_
    refine rt (a := Res.mk Ex.ret [vb false] []) (by kernel_rfl) ?_
    (simp_all [Cross.right, within, beqd, bned, teq_zero, teq_zero']; try omega)
  · refine gg [.ff, .ff, .ff] trivial ?_
    refine brp (p := m.frame < 0) (by kernel_rfl) (fun h2 => ?_) (fun h2 => ?_)
    · refine gg [.tt, .tt, .tt, .tt] trivial ?_
      refine rt (a := Res.mk Ex.ret [vb false] []) (by kernel_rfl) ?_
      (simp_all [Cross.right, within, beqd, bned, teq_zero, teq_zero']; try omega)
    · refine gg [.ff, .ff, .ff] trivial ?_
      refine brp (p := m.frame ≥ 10000) (by kernel_rfl) (fun h3 => ?_) (fun h3 => ?_)
      · refine rt (a := Res.mk Ex.ret [vb false] []) (by kernel_rfl) ?_
        (simp_all [Cross.right, within, beqd, bned, teq_zero, teq_zero']; try omega)
      · refine bre (x := m.kind) (y := 1) (by kernel_rfl) (fun h4 => ?_) (fun h4 => ?_)
        · refine gg [.a _ _] ⟨o_a (f_entity_Right c m.ent), trivial⟩ ?_
          refine br (b := Entity.right c m.ent) (by kernel_rfl) (fun h5 => ?_) (fun h5 => ?_)
          · refine gg [.tt, .tt, .tt, .tt, .tt, .tt, .tt, .tt, .tt, .a _ _, .tt, .tt] ⟨o_a (f_grid_Of c m.ent.x m.ent.y), trivial⟩ ?_
            refine bre (x := Config.of c m.ent.x m.ent.y) (y := m.to) (by kernel_rfl) (fun h6 => ?_) (fun h6 => ?_)
            · refine gg [.tt, .tt, .tt] trivial ?_
              refine bre (x := m.x) (y := 0) (by kernel_rfl) (fun h7 => ?_) (fun h7 => ?_)
              · refine gg [.tt, .tt, .tt] trivial ?_
                refine bre (x := m.y) (y := 0) (by kernel_rfl) (fun h8 => ?_) (fun h8 => ?_)
                · refine gg [.tt, .tt, .tt, .tt, .tt] trivial ?_
                  refine rt (a := Res.mk Ex.ret [vb (m.to != m.frm)] []) (by kernel_rfl) ?_
                  (simp_all [Cross.right, within, beqd, bned, teq_zero, teq_zero']; try omega)
                · refine gg [.ff, .ff, .ff, .ff, .ff] trivial ?_
                  refine rt (a := Res.mk Ex.ret [vb false] []) (by kernel_rfl) ?_
                  (simp_all [Cross.right, within, beqd, bned, teq_zero, teq_zero']; try omega)
              · refine gg [.ff, .ff, .ff, .ff, .ff, .ff, .ff, .ff, .ff] trivial ?_
                refine rt (a := Res.mk Ex.ret [vb false] []) (by kernel_rfl) ?_
                (simp_all [Cross.right, within, beqd, bned, teq_zero, teq_zero']; try omega)
            · refine gg [.ff, .ff, .ff, .ff, .ff, .ff, .ff, .ff, .ff, .ff, .ff, .ff, .ff] trivial ?_
              refine rt (a := Res.mk Ex.ret [vb false] []) (by kernel_rfl) ?_
              (simp_all [Cross.right, within, beqd, bned, teq_zero, teq_zero']; try omega)
          · refine gg [.ff, .ff, .ff, .ff, .ff, .ff, .ff, .ff, .ff, .ff, .ff, .ff, .ff, .ff, .ff, .ff] trivial ?_
            refine gg [.ff, .ff, .ff, .ff, .ff, .ff, .ff, .ff, .ff] trivial ?_
            refine rt (a := Res.mk Ex.ret [vb false] []) (by kernel_rfl) ?_
            (simp_all [Cross.right, within, beqd, bned, teq_zero, teq_zero']; try omega)
        · refine bre (x := m.kind) (y := 2) (by kernel_rfl) (fun h5 => ?_) (fun h5 => ?_)
          · refine gg [.a _ _] ⟨o_a (f_grid_Inside c m.x m.y), trivial⟩ ?_
            refine br (b := Config.inside c m.x m.y) (by kernel_rfl) (fun h6 => ?_) (fun h6 => ?_)
            · refine gg [.tt, .tt, .tt, .w (conform cx (40 : Nat) (28 : Nat) (T.agg [ti m.ent.id, ti m.ent.kind, ti m.ent.x, ti m.ent.y, ti m.ent.vx, ti m.ent.vy, ti m.ent.health, ti m.ent.age, ti m.ent.owner]) = true ∧ conform cx (40 : Nat) (28 : Nat) (T.agg [ti (0 : Int), ti (0 : Int), ti (0 : Int), ti (0 : Int), ti (0 : Int), ti (0 : Int), ti (0 : Int), ti (0 : Int), ti (0 : Int)]) = true), .tt] ⟨o_w ⟨(by kernel_rfl), (by kernel_rfl)⟩, trivial⟩ ?_
              refine rt (a := Res.mk Ex.ret [vb (teq (T.agg [ti m.ent.id, ti m.ent.kind, ti m.ent.x, ti m.ent.y, ti m.ent.vx, ti m.ent.vy, ti m.ent.health, ti m.ent.age, ti m.ent.owner]) (T.agg [ti 0, ti 0, ti 0, ti 0, ti 0, ti 0, ti 0, ti 0, ti 0]))] []) (by kernel_rfl) ?_
              (simp_all [Cross.right, within, beqd, bned, teq_zero, teq_zero']; try omega)
            · refine gg [.ff, .ff, .ff, .ff] trivial ?_
              refine rt (a := Res.mk Ex.ret [vb false] []) (by kernel_rfl) ?_
              (simp_all [Cross.right, within, beqd, bned, teq_zero, teq_zero']; try omega)
          · refine rt (a := Res.mk Ex.ret [vb false] []) (by kernel_rfl) ?_
            (simp_all [Cross.right, within, beqd, bned, teq_zero, teq_zero']; try omega)
theorem f_joustref05_Cross (c : Config) (m : Cross) : Fn cx 39 [c.enc, m.enc] (.bool (m.right c)) := by
  have hn := @near_small c m.frm
  have hs : small (c.near m.frm) := by unfold small; omega
  refine Wp.ev ?_
  refine gg [.a _ _] ⟨o_a (f_joustref03_Is c m.frm), trivial⟩ ?_
  refine brnot (b := Config.is c m.frm) (by kernel_rfl) (fun h1 => ?_) (fun h1 => ?_)
  · refine gg [.tt, .tt, .tt, .tt, .tt, .tt, .tt, .tt, .tt, .tt, .tt, .tt, .tt, .tt] trivial ?_
    refine rt (a := Res.mk Ex.ret [vb false] []) (by kernel_rfl) ?_
    (first | ((have hnn : c.near m.frm = [] := by simp [Config.near, h1]); simp [Cross.right, hnn, has]; done) | (simp_all [Cross.right, within, beqd, bned, teq_zero, teq_zero']; try omega))
  · refine gg [.ff, .ff, .ff, .ff, .ff, .a _ _, .ff, .a _ _, .ff, .ff] ⟨o_a (f_joustref03_Near c m.frm), o_a (f_jousthelp_In_int (Config.near c m.frm) m.to (by assumption)), trivial⟩ ?_
    refine brnot (b := has (Config.near c m.frm) m.to) (by kernel_rfl) (fun h2 => ?_) (fun h2 => ?_)
    · refine gg [.tt, .tt, .tt, .tt, .tt] trivial ?_
      refine rt (a := Res.mk Ex.ret [vb false] []) (by kernel_rfl) ?_
      (first | ((have hnn : c.near m.frm = [] := by simp [Config.near, h1]); simp [Cross.right, hnn, has]; done) | (simp_all [Cross.right, within, beqd, bned, teq_zero, teq_zero']; try omega))
    · refine gg [.ff, .ff, .a _ _, .ff, .ff] ⟨o_a (f_joustref05_within m.frame 0 9999), trivial⟩ ?_
      refine brnot (b := within m.frame 0 9999) (by kernel_rfl) (fun h3 => ?_) (fun h3 => ?_)
      · refine rt (a := Res.mk Ex.ret [vb false] []) (by kernel_rfl) ?_
        (first | ((have hnn : c.near m.frm = [] := by simp [Config.near, h1]); simp [Cross.right, hnn, has]; done) | (simp_all [Cross.right, within, beqd, bned, teq_zero, teq_zero']; try omega))
      · refine bre (x := m.kind) (y := 1) (by kernel_rfl) (fun h4 => ?_) (fun h4 => ?_)
        · refine gg [.a _ _] ⟨o_a (f_joustref05_Right c m.ent), trivial⟩ ?_
          refine br (b := Entity.right c m.ent) (by kernel_rfl) (fun h5 => ?_) (fun h5 => ?_)
          · refine gg [.tt, .tt, .tt, .tt, .tt, .tt, .tt, .tt, .tt, .a _ _, .tt, .tt] ⟨o_a (f_joustref03_Of c m.ent.x m.ent.y), trivial⟩ ?_
            refine bre (x := Config.of c m.ent.x m.ent.y) (y := m.to) (by kernel_rfl) (fun h6 => ?_) (fun h6 => ?_)
            · refine gg [.tt, .tt, .tt] trivial ?_
              refine bre (x := m.x) (y := 0) (by kernel_rfl) (fun h7 => ?_) (fun h7 => ?_)
              · refine gg [.tt, .tt, .tt] trivial ?_
                refine bre (x := m.y) (y := 0) (by kernel_rfl) (fun h8 => ?_) (fun h8 => ?_)
                · refine gg [.tt, .tt, .tt, .tt, .tt] trivial ?_
                  refine rt (a := Res.mk Ex.ret [vb (m.to != m.frm)] []) (by kernel_rfl) ?_
                  (first | ((have hnn : c.near m.frm = [] := by simp [Config.near, h1]); simp [Cross.right, hnn, has]; done) | (simp_all [Cross.right, within, beqd, bned, teq_zero, teq_zero']; try omega))
                · refine gg [.ff, .ff, .ff, .ff, .ff] trivial ?_
                  refine rt (a := Res.mk Ex.ret [vb false] []) (by kernel_rfl) ?_
                  (first | ((have hnn : c.near m.frm = [] := by simp [Config.near, h1]); simp [Cross.right, hnn, has]; done) | (simp_all [Cross.right, within, beqd, bned, teq_zero, teq_zero']; try omega))
              · refine gg [.ff, .ff, .ff, .ff, .ff, .ff, .ff, .ff, .ff] trivial ?_
                refine rt (a := Res.mk Ex.ret [vb false] []) (by kernel_rfl) ?_
                (first | ((have hnn : c.near m.frm = [] := by simp [Config.near, h1]); simp [Cross.right, hnn, has]; done) | (simp_all [Cross.right, within, beqd, bned, teq_zero, teq_zero']; try omega))
            · refine gg [.ff, .ff, .ff, .ff, .ff, .ff, .ff, .ff, .ff, .ff, .ff, .ff, .ff] trivial ?_
              refine rt (a := Res.mk Ex.ret [vb false] []) (by kernel_rfl) ?_
              (first | ((have hnn : c.near m.frm = [] := by simp [Config.near, h1]); simp [Cross.right, hnn, has]; done) | (simp_all [Cross.right, within, beqd, bned, teq_zero, teq_zero']; try omega))
          · refine gg [.ff, .ff, .ff, .ff, .ff, .ff, .ff, .ff, .ff, .ff, .ff, .ff, .ff, .ff, .ff, .ff] trivial ?_
            refine gg [.ff, .ff, .ff, .ff, .ff, .ff, .ff, .ff, .ff] trivial ?_
            refine rt (a := Res.mk Ex.ret [vb false] []) (by kernel_rfl) ?_
            (first | ((have hnn : c.near m.frm = [] := by simp [Config.near, h1]); simp [Cross.right, hnn, has]; done) | (simp_all [Cross.right, within, beqd, bned, teq_zero, teq_zero']; try omega))
        · refine bre (x := m.kind) (y := 2) (by kernel_rfl) (fun h5 => ?_) (fun h5 => ?_)
          · refine gg [.a _ _] ⟨o_a (f_joustref03_Inside c m.x m.y), trivial⟩ ?_
            refine br (b := Config.inside c m.x m.y) (by kernel_rfl) (fun h6 => ?_) (fun h6 => ?_)
            · refine gg [.tt, .tt, .tt, .w (conform cx (40 : Nat) (28 : Nat) (T.agg [ti m.ent.id, ti m.ent.kind, ti m.ent.x, ti m.ent.y, ti m.ent.vx, ti m.ent.vy, ti m.ent.health, ti m.ent.age, ti m.ent.owner]) = true ∧ conform cx (40 : Nat) (28 : Nat) (T.agg [ti (0 : Int), ti (0 : Int), ti (0 : Int), ti (0 : Int), ti (0 : Int), ti (0 : Int), ti (0 : Int), ti (0 : Int), ti (0 : Int)]) = true), .tt] ⟨o_w ⟨(by kernel_rfl), (by kernel_rfl)⟩, trivial⟩ ?_
              refine rt (a := Res.mk Ex.ret [vb (teq (T.agg [ti m.ent.id, ti m.ent.kind, ti m.ent.x, ti m.ent.y, ti m.ent.vx, ti m.ent.vy, ti m.ent.health, ti m.ent.age, ti m.ent.owner]) (T.agg [ti 0, ti 0, ti 0, ti 0, ti 0, ti 0, ti 0, ti 0, ti 0]))] []) (by kernel_rfl) ?_
              (first | ((have hnn : c.near m.frm = [] := by simp [Config.near, h1]); simp [Cross.right, hnn, has]; done) | (simp_all [Cross.right, within, beqd, bned, teq_zero, teq_zero']; try omega))
            · refine gg [.ff, .ff, .ff, .ff] trivial ?_
              refine rt (a := Res.mk Ex.ret [vb false] []) (by kernel_rfl) ?_
              (first | ((have hnn : c.near m.frm = [] := by simp [Config.near, h1]); simp [Cross.right, hnn, has]; done) | (simp_all [Cross.right, within, beqd, bned, teq_zero, teq_zero']; try omega))
          · refine rt (a := Res.mk Ex.ret [vb false] []) (by kernel_rfl) ?_
            (first | ((have hnn : c.near m.frm = [] := by simp [Config.near, h1]); simp [Cross.right, hnn, has]; done) | (simp_all [Cross.right, within, beqd, bned, teq_zero, teq_zero']; try omega))
end Go.Eva.S1

/- The statements of the messages, more. -/
namespace Go.Eva.S1
theorem f_joustlaw06_CrossStable_loop (l : List Cross) (x : Cross) (hl : l.length ≤ 20) : ∀ (d i : Nat), i + d = l.length →
    Is cx (.loop 10 [0, 1, 0, 1, 1, 1] 0 [.t (.sl 15 (l.map Cross.enc)), .ptr 0 0 0, .all 1 none, vi i] [.one 15 (.t x.enc) false, .arr 15 ((alike l x i).map Cross.enc) none false])
      ⟨.exit 0, [.t (.sl 15 (l.map Cross.enc)), .ptr 0 0 0, .all 1 none, vi l.length], [.one 15 (.t x.enc) false, .arr 15 ((alike l x l.length).map Cross.enc) none false]⟩ := by
  intro d
  induction d with
  | zero =>
    intro i hi
    have hA := @alike_len l x i
    refine Wp.ev ?_
    refine gg [.n (List.length (List.map Cross.enc l)) (List.length l), .b (decide ((↑i : Int) < (↑(List.length l) : Int))) false] ⟨o_n (by simp), fP, trivial⟩ ?_
    refine rt (a := Res.mk (Ex.exit 0) [V.t (T.sl 15 (List.map Cross.enc l)), V.ptr 0 0 0, V.all 1 none, vi (↑i : Int)] [Ob.one 15 (V.t (Cross.enc x)) false, Ob.arr 15 (List.map Cross.enc (alike l x i)) none false]) (by kernel_rfl) ?_
    ((have hq : i = l.length := by omega); subst hq; rfl)
  | succ d ih =>
    intro i hi
    have hlt : i < l.length := by omega
    have hA := @alike_len l x i
    have ih1 := ih (i + 1) (by omega)
    clear ih
    rw [show alike l x (i + 1) = alike l x i ++ [{ x with frame := (i : Int), frm := (gt l i).frm }] from rfl] at ih1
    refine Wp.ev ?_
    refine gg [.n (List.length (List.map Cross.enc l)) (List.length l), .b (decide ((↑i : Int) < (↑(List.length l) : Int))) true, .w ((0 : Int) ≤ (↑i : Int)), .n (Int.toNat (↑i : Int)) i, .g (List.map Cross.enc l) i (Cross.enc (gt l i))] ⟨o_n (by simp), tP, oW, o_n (by kernel_rfl), o_gt rfl (by assumption) (by intro h; cases h), trivial⟩ ?_
    refine bo (by kernel_rfl) ?_ ?_
    · refine gg [.w ((0 : Nat) < (120 : Nat)), .s (T.sl 0 [T.agg [ti x.kind, ti (gt l i).frm, ti x.to, ti (↑i : Int), ti x.ent.id, ti x.ent.kind, ti x.ent.x, ti x.ent.y, ti x.ent.vx, ti x.ent.vy, ti x.ent.health, ti x.ent.age, ti x.ent.owner, ti x.x, ti x.y]]), .t (T.sl 0 (List.map Cross.enc (alike l x i) ++ [T.agg [ti x.kind, ti (gt l i).frm, ti x.to, ti (↑i : Int), ti x.ent.id, ti x.ent.kind, ti x.ent.x, ti x.ent.y, ti x.ent.vx, ti x.ent.vy, ti x.ent.health, ti x.ent.age, ti x.ent.owner, ti x.x, ti x.y]])) (T.sl 0 (List.map Cross.enc (alike l x i ++ [Cross.mk x.kind (gt l i).frm x.to (↑i : Int) x.ent x.x x.y]))), .w (room (List.length (List.map Cross.enc (alike l x i ++ [Cross.mk x.kind (gt l i).frm x.to (↑i : Int) x.ent x.x x.y]))) (120 : Nat)), .i IntKind.i64 ((↑i : Int) + 1) ((↑(i + 1) : Int)), .a _ _] ⟨oW, o_l (nm_app rfl (nm_cons (e := Cross.mk x.kind (gt l i).frm x.to (↑i : Int) x.ent x.x x.y) rfl nm_nil)), o_w (by (simp [room, appendMax]; omega)), o_i (w64 (by (simp [room, appendMax]; omega))), o_a ih1, trivial⟩ ?_
      exact ge
    · refine gg [.w ((0 : Nat) < (120 : Nat)), .s (T.sl 0 [T.agg [ti x.kind, ti (gt l i).frm, ti x.to, ti (↑i : Int), ti x.ent.id, ti x.ent.kind, ti x.ent.x, ti x.ent.y, ti x.ent.vx, ti x.ent.vy, ti x.ent.health, ti x.ent.age, ti x.ent.owner, ti x.x, ti x.y]]), .t (T.sl 0 (List.map Cross.enc (alike l x i) ++ [T.agg [ti x.kind, ti (gt l i).frm, ti x.to, ti (↑i : Int), ti x.ent.id, ti x.ent.kind, ti x.ent.x, ti x.ent.y, ti x.ent.vx, ti x.ent.vy, ti x.ent.health, ti x.ent.age, ti x.ent.owner, ti x.x, ti x.y]])) (T.sl 0 (List.map Cross.enc (alike l x i ++ [Cross.mk x.kind (gt l i).frm x.to (↑i : Int) x.ent x.x x.y]))), .w (room (List.length (List.map Cross.enc (alike l x i ++ [Cross.mk x.kind (gt l i).frm x.to (↑i : Int) x.ent x.x x.y]))) (120 : Nat)), .i IntKind.i64 ((↑i : Int) + 1) ((↑(i + 1) : Int)), .a _ _] ⟨oW, o_l (nm_app rfl (nm_cons (e := Cross.mk x.kind (gt l i).frm x.to (↑i : Int) x.ent x.x x.y) rfl nm_nil)), o_w (by (simp [room, appendMax]; omega)), o_i (w64 (by (simp [room, appendMax]; omega))), o_a ih1, trivial⟩ ?_
      exact ge
theorem f_joustlaw06_CrossStable (l : List Cross) (x : Cross) : Fn cx 10 [.sl 15 (l.map Cross.enc), x.enc] (.bool true) := by
  have ha := f_joustlaw06_awake
  by_cases hl : l.length ≤ 20
  · have h0 := f_joustlaw06_CrossStable_loop l x hl l.length 0 (by omega)
    rw [show alike l x 0 = [] from rfl] at h0
    have hlen := @alike_len l x l.length
    have hs : Sd Cross.less (alike l x l.length) := alike_sd
    generalize alike l x l.length = s at *
    obtain ⟨k, hk⟩ : ∃ k, s.length / 2 = k := ⟨_, rfl⟩
    have e1 : Int.tdiv (s.length : Int) 2 = (k : Nat) := by rw [Int.tdiv_eq_ediv_of_nonneg (by omega)]; omega
    have h1 := f_cross_Sort_2 (s.take k) (s.drop k) (by simp; omega)
    rw [List.take_append_drop, sortS_self less_swo hs] at h1
    have ht : List.take (s.length - k) (s.drop k) = s.drop k := List.take_of_length_le (by simp)
    have hP := f_jousthelp_Plain_Cross s s (by unfold small; omega)
    rw [show plain s s = true by simp [plain]] at hP
    refine Wp.ev ?_
    refine gg [.n (List.length (List.map Cross.enc l)) (List.length l), .b (decide ((↑(List.length l) : Int) > 20)) false, .a _ _, .n (List.length (List.map Cross.enc s)) (List.length s), .w ((2 : Int) ≠ (0 : Int)), .i IntKind.i64 (Int.tdiv (↑(List.length s) : Int) 2) (↑k : Int), .a _ _, .tt, .tt, .tt, .w ((0 : Int) ≤ (↑k : Int)), .n (Int.toNat (↑k : Int)) k, .w ((0 : Nat) ≤ k ∧ k ≤ List.length (List.map Cross.enc s)), .l 0, .n (k - 0) k, .tt] ⟨o_n (by simp), fP, o_a h0, o_n (by simp), o_w (by intro h; cases h), oI, o_a ha, oW, o_n (by kernel_rfl), o_w ⟨(by omega), (by (simp; omega))⟩, o_n (by kernel_rfl), trivial⟩ ?_
    refine gg [.tt, .tt, .w ((0 : Int) ≤ (↑k : Int)), .n (Int.toNat (↑k : Int)) k, .w (k ≤ List.length (List.map Cross.enc s) ∧ List.length (List.map Cross.enc s) ≤ List.length (List.map Cross.enc s)), .n (0 + k) k, .n (List.length (List.map Cross.enc s) - k) (List.length s - k), .tt, .tt, .t (T.sl 15 (List.take k (List.drop 0 (List.map Cross.enc s)))) (T.sl 15 (List.map Cross.enc (List.take k s))), .t (T.sl 15 (List.take (List.length s - k) (List.drop k (List.map Cross.enc s)))) (T.sl 15 (List.map Cross.enc (List.drop k s))), .tt, .a _ _, .tt, .a _ _, .b (flats [T.bool true]) true] ⟨oW, o_n (by kernel_rfl), o_w ⟨(by (simp; omega)), (by omega)⟩, oN, o_n (by simp), o_l (nm_eq (nm_take (nm_drop rfl)) (by kernel_rfl)), o_l (nm_eq (nm_take (nm_drop rfl)) (by assumption)), o_a h1, o_a hP, o_b (by kernel_rfl), trivial⟩ ?_
    refine gg [.tt] trivial ?_
    exact ge
  · refine Wp.ev ?_
    refine gg [.n (List.length (List.map Cross.enc l)) (List.length l), .b (decide ((↑(List.length l) : Int) > 20)) true, .a _ _] ⟨o_n (by simp), tP, o_a ha, trivial⟩ ?_
    exact ge
theorem f_joustlaw06_CrossTells (c : Config) (a b : Cross) (l m : List Cross) (r : Int) : Fn cx 11 [c.enc, a.enc, b.enc, .sl 15 (l.map Cross.enc), .sl 15 (m.map Cross.enc), ti r] (.bool true) := by
  have ha := f_joustlaw06_awake
  by_cases hl : l.length ≤ 40
  · by_cases hm : m.length ≤ 40
    · have hs : small l := by unfold small; omega
      let f : Cross := goal1 71
      have hR := f_cross_Right c.grid a
      rw [Cross.right_grid] at hR
      have hR2 := f_joustref05_Cross c a
      have el : (l ++ [f, f, f]).take l.length = l := by simp
      have hS := f_cross_Sort_2 ((l ++ [f, f, f]).take l.length) m (by rw [el]; omega)
      rw [show sortS Cross.less ((l ++ [f, f, f]).take l.length ++ m) = sortS Cross.less (l ++ m) by rw [el]] at hS
      have hS2 := f_joustref05_Sort (l ++ m) (by unfold small; simp; omega)
      have hT := f_cross_To ((l ++ [f, f, f]).take l.length) r (by rw [el]; exact hs)
      rw [show toL ((l ++ [f, f, f]).take l.length) r = toL l r by rw [el]] at hT
      have hT2 := f_joustref05_To l r hs
      have hL := f_cross_Less a b
      have hL2 := f_joustref05_Less a b
      have hQ := f_jousthelp_Plain_Cross (sortS Cross.less (l ++ m)) (sortS Cross.less (l ++ m)) (by unfold small; rw [sortS_len less_swo]; simp; omega)
      rw [show plain (sortS Cross.less (l ++ m)) (sortS Cross.less (l ++ m)) = true by simp [plain]] at hQ
      have hk := @toL_len l r
      have hQ2 := f_jousthelp_Plain_Cross (toL l r) (toL l r) (by unfold small; omega)
      rw [show plain (toL l r) (toL l r) = true by simp [plain]] at hQ2
      have hK := f_jousthelp_Kept_Cross l f (by omega) true
      have hO := f_jousthelp_Own_Cross l f (by omega)
      have hN := f_grid_New c
      clear el
      generalize toL l r = q1 at *
      generalize a.right c = q3 at *
      generalize Cross.less a b = q4 at *
      generalize sortS Cross.less (l ++ m) = q2 at *
      refine Wp.ev ?_
      refine gg [.n (List.length (List.map Cross.enc l)) (List.length l), .b (decide ((↑(List.length l) : Int) > 40)) false, .ff, .n (List.length (List.map Cross.enc m)) (List.length m), .ff, .ff, .b (decide ((↑(List.length m) : Int) > 40)) false, .a _ _, .a _ _, .w ((0 : Nat) < (120 : Nat)), .s (T.sl 0 (List.map Cross.enc l)), .s (T.sl 0 (List.map Cross.enc l)), .w (room (List.length (List.map Cross.enc l)) (120 : Nat)), .w ((0 : Nat) < (120 : Nat)), .s (T.sl 0 (List.map Cross.enc m)), .t (T.sl 0 (List.map Cross.enc l ++ List.map Cross.enc m)) (T.sl 0 (List.map Cross.enc (l ++ m)))] ⟨o_n (by simp), fP, o_n (by simp), fP, o_a hN, o_a hO, oW, o_w (by (simp [room, appendMax]; omega)), oW, o_l (nm_app rfl rfl), trivial⟩ ?_
      refine gg [.w (room (List.length (List.map Cross.enc (l ++ m))) (120 : Nat)), .a _ _, .tt, .tt, .tt, .tt, .tt, .a _ _, .tt, .a _ _, .tt, .w (isBool cx (4 : Nat) = true), .tt, .b (q3 == q3) true, .tt, .tt] ⟨o_w (by (simp [room, appendMax]; omega)), o_a ha, o_a hR, o_a hR2, o_w (by kernel_rfl), t_br (by simp), trivial⟩ ?_
      refine gg [.tt, .tt, .a _ _, .tt, .a _ _, .tt, .w (isBool cx (4 : Nat) = true), .tt, .b (q4 == q4) true, .tt, .tt, .tt, .t (T.sl 15 (List.take (List.length l) (List.drop 0 (List.map Cross.enc (l ++ [f, f, f]))))) (T.sl 15 (List.map Cross.enc (List.take (List.length l) (l ++ [f, f, f])))), .tt, .a _ _, .tt] ⟨o_a hL, o_a hL2, o_w (by kernel_rfl), t_br (by simp), o_l (nm_eq (nm_take (nm_drop rfl)) (by kernel_rfl)), o_a hS, trivial⟩ ?_
      refine gg [.a _ _, .b (flats [T.sl 15 (List.map Cross.enc q2)]) false, .tt, .a _ _, .b (flats [T.bool true]) true, .tt, .tt, .tt, .tt, .tt, .tt, .t (T.sl 15 (List.take (List.length l) (List.drop 0 (List.map Cross.enc (l ++ [f, f, f]))))) (T.sl 15 (List.map Cross.enc (List.take (List.length l) (l ++ [f, f, f])))), .a _ _, .tt, .a _ _, .tt] ⟨o_a hS2, o_b (by kernel_rfl), o_a hQ, o_b (by kernel_rfl), o_l (nm_eq (nm_take (nm_drop rfl)) (by kernel_rfl)), o_a hT, o_a hT2, trivial⟩ ?_
      refine gg [.a _ _, .b (flats [T.bool true]) true, .tt, .tt, .tt, .tt, .tt, .a _ _, .tt] ⟨o_a hQ2, o_b (by kernel_rfl), o_a hK, trivial⟩ ?_
      exact ge
    · refine Wp.ev ?_
      refine gg [.n (List.length (List.map Cross.enc l)) (List.length l), .b (decide ((↑(List.length l) : Int) > 40)) false, .ff, .n (List.length (List.map Cross.enc m)) (List.length m), .ff, .ff, .b (decide ((↑(List.length m) : Int) > 40)) true, .a _ _] ⟨o_n (by simp), fP, o_n (by simp), tP, o_a ha, trivial⟩ ?_
      exact ge
  · refine Wp.ev ?_
    refine gg [.n (List.length (List.map Cross.enc l)) (List.length l), .b (decide ((↑(List.length l) : Int) > 40)) true, .tt, .tt, .tt, .tt, .a _ _] ⟨o_n (by simp), tP, o_a ha, trivial⟩ ?_
    exact ge
theorem f_joustlaw06_CrossNear (c : Config) (m : Cross) : Fn cx 12 [c.enc, m.enc] (.bool true) := by
  have ha := f_joustlaw06_awake
  obtain ⟨hr, h1, h2, h3, h4⟩ := @Config.play_ok c
  have hC := f_joustplay_Config c
  generalize c.play = g at *
  have hN := f_grid_New g
  rw [Config.grid_of hr, Config.err_of hr] at hN
  have hnr := f_joustref03_Near g m.frm
  have hns := @near_small g m.frm
  have hI := f_jousthelp_In_int (g.near m.frm) m.to (by unfold small; omega)
  have hO := f_joustref03_Of g m.ent.x m.ent.y
  have hR := f_cross_Right g m
  cases hq : m.right g with
  | false =>
    rw [hq] at hR
    refine Wp.ev ?_
    refine gg [.a _ _, .a _ _, .a _ _, .b (!true) false, .ff, .ff, .b (0 != 0) false, .ff, .ff, .a _ _, .ff, .ff, .b (!false) true, .a _ _, .tt, .tt] ⟨o_a hC, o_a hN, o_a ha, o_b (by kernel_rfl), o_b (by kernel_rfl), o_a hR, o_b (by kernel_rfl), o_a ha, trivial⟩ ?_
    refine gg [.tt] trivial ?_
    exact ge
  | true =>
    rw [hq] at hR
    simp only [Cross.right, Bool.and_eq_true] at hq
    obtain ⟨⟨q1, _⟩, q2⟩ := hq
    rw [q1] at hI
    by_cases hk : m.kind = 2
    · refine Wp.ev ?_
      refine gg [.a _ _, .a _ _, .a _ _, .b (!true) false, .ff, .ff, .b (0 != 0) false, .ff, .ff, .a _ _, .ff, .ff, .b (!true) false, .a _ _, .a _ _, .b (m.kind == 2) true] ⟨o_a hC, o_a hN, o_a ha, o_b (by kernel_rfl), o_b (by kernel_rfl), o_a hR, o_b (by kernel_rfl), o_a hnr, o_a hI, t_bre (by assumption), trivial⟩ ?_
      exact ge
    · by_cases hk1 : m.kind = 1
      · rw [if_pos hk1] at q2
        simp only [Bool.and_eq_true, decide_eq_true_eq, Bool.not_eq_true', decide_eq_false_iff_not] at q2
        obtain ⟨⟨⟨⟨_, q3⟩, _⟩, _⟩, q4⟩ := q2
        rw [q3] at hO
        refine Wp.ev ?_
        refine gg [.a _ _, .a _ _, .a _ _, .b (!true) false, .ff, .ff, .b (0 != 0) false, .ff, .ff, .a _ _, .ff, .ff, .b (!true) false, .a _ _, .a _ _, .b (m.kind == 2) false] ⟨o_a hC, o_a hN, o_a ha, o_b (by kernel_rfl), o_b (by kernel_rfl), o_a hR, o_b (by kernel_rfl), o_a hnr, o_a hI, f_bre (by assumption), trivial⟩ ?_
        refine gg [.tt, .tt, .tt, .tt, .b (m.kind == 1) true, .tt, .tt, .tt, .tt, .tt, .b (m.to != m.frm) true, .tt, .tt, .tt, .tt, .tt] ⟨t_bre (by assumption), t_brn (by assumption), trivial⟩ ?_
        refine gg [.tt, .tt, .tt, .tt, .a _ _, .tt, .tt] ⟨o_a hO, trivial⟩ ?_
        refine rt (a := Res.mk Ex.ret [vb (m.to == m.to)] []) (by kernel_rfl) ?_
        simp
      · rw [if_neg hk1, if_neg hk] at q2
        contradiction
end Go.Eva.S1

namespace Go.Eva.S1
open Go.Proofs
theorem cxTy : CxTy Try.prog cx := cxTy_of (by decide +kernel) (by decide +kernel) (⟨⟨Try.f78, rfl, by decide, rfl, by kernel_rfl, by kernel_rfl, rfl, 28, rfl⟩, trivial⟩)
theorem ok3 : FnOK Try.prog cx 3 fi3 Try.f3 := ⟨rfl, by decide, rfl, rfl, rfl, by decide +kernel⟩
theorem ok4 : FnOK Try.prog cx 4 fi4 Try.f4 := ⟨rfl, by decide, rfl, rfl, rfl, by decide +kernel⟩
theorem ok5 : FnOK Try.prog cx 5 fi5 Try.f5 := ⟨rfl, by decide, rfl, rfl, rfl, by decide +kernel⟩
theorem ok6 : FnOK Try.prog cx 6 fi6 Try.f6 := ⟨rfl, by decide, rfl, rfl, rfl, by decide +kernel⟩
theorem ok7 : FnOK Try.prog cx 7 fi7 Try.f7 := ⟨rfl, by decide, rfl, rfl, rfl, by decide +kernel⟩
theorem ok8 : FnOK Try.prog cx 8 fi8 Try.f8 := ⟨rfl, by decide, rfl, rfl, rfl, by decide +kernel⟩
theorem ok9 : FnOK Try.prog cx 9 fi9 Try.f9 := ⟨rfl, by decide, rfl, rfl, rfl, by decide +kernel⟩
theorem ok10 : FnOK Try.prog cx 10 fi10 Try.f10 := ⟨rfl, by decide, rfl, rfl, rfl, by decide +kernel⟩
theorem ok11 : FnOK Try.prog cx 11 fi11 Try.f11 := ⟨rfl, by decide, rfl, rfl, rfl, by decide +kernel⟩
theorem ok12 : FnOK Try.prog cx 12 fi12 Try.f12 := ⟨rfl, by decide, rfl, rfl, rfl, by decide +kernel⟩
theorem ok13 : FnOK Try.prog cx 13 fi13 Try.f13 := ⟨rfl, by decide, rfl, rfl, rfl, by decide +kernel⟩
theorem ok14 : FnOK Try.prog cx 14 fi14 Try.f14 := ⟨rfl, by decide, rfl, rfl, rfl, by decide +kernel⟩
theorem ok15 : FnOK Try.prog cx 15 fi15 Try.f15 := ⟨rfl, by decide, rfl, rfl, rfl, by decide +kernel⟩
theorem ok16 : FnOK Try.prog cx 16 fi16 Try.f16 := ⟨rfl, by decide, rfl, rfl, rfl, by decide +kernel⟩
theorem ok17 : FnOK Try.prog cx 17 fi17 Try.f17 := ⟨rfl, by decide, rfl, rfl, rfl, by decide +kernel⟩
theorem ok18 : FnOK Try.prog cx 18 fi18 Try.f18 := ⟨rfl, by decide, rfl, rfl, rfl, by decide +kernel⟩
theorem ok19 : FnOK Try.prog cx 19 fi19 Try.f19 := ⟨rfl, by decide, rfl, rfl, rfl, by decide +kernel⟩
theorem ok20 : FnOK Try.prog cx 20 fi20 Try.f20 := ⟨rfl, by decide, rfl, rfl, rfl, by decide +kernel⟩
theorem ok21 : FnOK Try.prog cx 21 fi21 Try.f21 := ⟨rfl, by decide, rfl, rfl, rfl, by decide +kernel⟩
theorem ok22 : FnOK Try.prog cx 22 fi22 Try.f22 := ⟨rfl, by decide, rfl, rfl, rfl, by decide +kernel⟩
theorem ok23 : FnOK Try.prog cx 23 fi23 Try.f23 := ⟨rfl, by decide, rfl, rfl, rfl, by decide +kernel⟩
theorem ok24 : FnOK Try.prog cx 24 fi24 Try.f24 := ⟨rfl, by decide, rfl, rfl, rfl, by decide +kernel⟩
theorem ok25 : FnOK Try.prog cx 25 fi25 Try.f25 := ⟨rfl, by decide, rfl, rfl, rfl, by decide +kernel⟩
theorem ok26 : FnOK Try.prog cx 26 fi26 Try.f26 := ⟨rfl, by decide, rfl, rfl, rfl, by decide +kernel⟩
theorem ok27 : FnOK Try.prog cx 27 fi27 Try.f27 := ⟨rfl, by decide, rfl, rfl, rfl, by decide +kernel⟩
theorem ok28 : FnOK Try.prog cx 28 fi28 Try.f28 := ⟨rfl, by decide, rfl, rfl, rfl, by decide +kernel⟩
theorem ok29 : FnOK Try.prog cx 29 fi29 Try.f29 := ⟨rfl, by decide, rfl, rfl, rfl, by decide +kernel⟩
theorem ok30 : FnOK Try.prog cx 30 fi30 Try.f30 := ⟨rfl, by decide, rfl, rfl, rfl, by decide +kernel⟩
theorem ok31 : FnOK Try.prog cx 31 fi31 Try.f31 := ⟨rfl, by decide, rfl, rfl, rfl, by decide +kernel⟩
theorem ok32 : FnOK Try.prog cx 32 fi32 Try.f32 := ⟨rfl, by decide, rfl, rfl, rfl, by decide +kernel⟩
theorem ok33 : FnOK Try.prog cx 33 fi33 Try.f33 := ⟨rfl, by decide, rfl, rfl, rfl, by decide +kernel⟩
theorem ok34 : FnOK Try.prog cx 34 fi34 Try.f34 := ⟨rfl, by decide, rfl, rfl, rfl, by decide +kernel⟩
theorem ok35 : FnOK Try.prog cx 35 fi35 Try.f35 := ⟨rfl, by decide, rfl, rfl, rfl, by decide +kernel⟩
theorem ok36 : FnOK Try.prog cx 36 fi36 Try.f36 := ⟨rfl, by decide, rfl, rfl, rfl, by decide +kernel⟩
theorem ok37 : FnOK Try.prog cx 37 fi37 Try.f37 := ⟨rfl, by decide, rfl, rfl, rfl, by decide +kernel⟩
theorem ok38 : FnOK Try.prog cx 38 fi38 Try.f38 := ⟨rfl, by decide, rfl, rfl, rfl, by decide +kernel⟩
theorem ok39 : FnOK Try.prog cx 39 fi39 Try.f39 := ⟨rfl, by decide, rfl, rfl, rfl, by decide +kernel⟩
theorem ok40 : FnOK Try.prog cx 40 fi40 Try.f40 := ⟨rfl, by decide, rfl, rfl, rfl, by decide +kernel⟩
theorem ok41 : FnOK Try.prog cx 41 fi41 Try.f41 := ⟨rfl, by decide, rfl, rfl, rfl, by decide +kernel⟩
theorem ok42 : FnOK Try.prog cx 42 fi42 Try.f42 := ⟨rfl, by decide, rfl, rfl, rfl, by decide +kernel⟩
theorem ok43 : FnOK Try.prog cx 43 fi43 Try.f43 := ⟨rfl, by decide, rfl, rfl, rfl, by decide +kernel⟩
theorem ok44 : FnOK Try.prog cx 44 fi44 Try.f44 := ⟨rfl, by decide, rfl, rfl, rfl, by decide +kernel⟩
theorem ok45 : FnOK Try.prog cx 45 fi45 Try.f45 := ⟨rfl, by decide, rfl, rfl, rfl, by decide +kernel⟩
theorem ok46 : FnOK Try.prog cx 46 fi46 Try.f46 := ⟨rfl, by decide, rfl, rfl, rfl, by decide +kernel⟩
theorem ok47 : FnOK Try.prog cx 47 fi47 Try.f47 := ⟨rfl, by decide, rfl, rfl, rfl, by decide +kernel⟩
theorem ok48 : FnOK Try.prog cx 48 fi48 Try.f48 := ⟨rfl, by decide, rfl, rfl, rfl, by decide +kernel⟩
theorem ok49 : FnOK Try.prog cx 49 fi49 Try.f49 := ⟨rfl, by decide, rfl, rfl, rfl, by decide +kernel⟩
theorem ok50 : FnOK Try.prog cx 50 fi50 Try.f50 := ⟨rfl, by decide, rfl, rfl, rfl, by decide +kernel⟩
theorem ok51 : FnOK Try.prog cx 51 fi51 Try.f51 := ⟨rfl, by decide, rfl, rfl, rfl, by decide +kernel⟩
theorem ok52 : FnOK Try.prog cx 52 fi52 Try.f52 := ⟨rfl, by decide, rfl, rfl, rfl, by decide +kernel⟩
theorem ok53 : FnOK Try.prog cx 53 fi53 Try.f53 := ⟨rfl, by decide, rfl, rfl, rfl, by decide +kernel⟩
theorem ok54 : FnOK Try.prog cx 54 fi54 Try.f54 := ⟨rfl, by decide, rfl, rfl, rfl, by decide +kernel⟩
theorem ok55 : FnOK Try.prog cx 55 fi55 Try.f55 := ⟨rfl, by decide, rfl, rfl, rfl, by decide +kernel⟩
theorem ok56 : FnOK Try.prog cx 56 fi56 Try.f56 := ⟨rfl, by decide, rfl, rfl, rfl, by decide +kernel⟩
theorem ok57 : FnOK Try.prog cx 57 fi57 Try.f57 := ⟨rfl, by decide, rfl, rfl, rfl, by decide +kernel⟩
theorem ok58 : FnOK Try.prog cx 58 fi58 Try.f58 := ⟨rfl, by decide, rfl, rfl, rfl, by decide +kernel⟩
theorem ok59 : FnOK Try.prog cx 59 fi59 Try.f59 := ⟨rfl, by decide, rfl, rfl, rfl, by decide +kernel⟩
theorem ok60 : FnOK Try.prog cx 60 fi60 Try.f60 := ⟨rfl, by decide, rfl, rfl, rfl, by decide +kernel⟩
theorem ok61 : FnOK Try.prog cx 61 fi61 Try.f61 := ⟨rfl, by decide, rfl, rfl, rfl, by decide +kernel⟩
theorem ok62 : FnOK Try.prog cx 62 fi62 Try.f62 := ⟨rfl, by decide, rfl, rfl, rfl, by decide +kernel⟩
theorem ok63 : FnOK Try.prog cx 63 fi63 Try.f63 := ⟨rfl, by decide, rfl, rfl, rfl, by decide +kernel⟩
theorem ok64 : FnOK Try.prog cx 64 fi64 Try.f64 := ⟨rfl, by decide, rfl, rfl, rfl, by decide +kernel⟩
theorem ok65 : FnOK Try.prog cx 65 fi65 Try.f65 := ⟨rfl, by decide, rfl, rfl, rfl, by decide +kernel⟩
theorem ok66 : FnOK Try.prog cx 66 fi66 Try.f66 := ⟨rfl, by decide, rfl, rfl, rfl, by decide +kernel⟩
theorem ok67 : FnOK Try.prog cx 67 fi67 Try.f67 := ⟨rfl, by decide, rfl, rfl, rfl, by decide +kernel⟩
theorem ok68 : FnOK Try.prog cx 68 fi68 Try.f68 := ⟨rfl, by decide, rfl, rfl, rfl, by decide +kernel⟩
theorem ok69 : FnOK Try.prog cx 69 fi69 Try.f69 := ⟨rfl, by decide, rfl, rfl, rfl, by decide +kernel⟩
theorem ok70 : FnOK Try.prog cx 70 fi70 Try.f70 := ⟨rfl, by decide, rfl, rfl, rfl, by decide +kernel⟩
theorem ok71 : FnOK Try.prog cx 71 fi71 Try.f71 := ⟨rfl, by decide, rfl, rfl, rfl, by decide +kernel⟩
theorem ok72 : FnOK Try.prog cx 72 fi72 Try.f72 := ⟨rfl, by decide, rfl, rfl, rfl, by decide +kernel⟩
theorem ok73 : FnOK Try.prog cx 73 fi73 Try.f73 := ⟨rfl, by decide, rfl, rfl, rfl, by decide +kernel⟩
theorem ok74 : FnOK Try.prog cx 74 fi74 Try.f74 := ⟨rfl, by decide, rfl, rfl, rfl, by decide +kernel⟩
theorem ok75 : FnOK Try.prog cx 75 fi75 Try.f75 := ⟨rfl, by decide, rfl, rfl, rfl, by decide +kernel⟩
theorem ok76 : FnOK Try.prog cx 76 fi76 Try.f76 := ⟨rfl, by decide, rfl, rfl, rfl, by decide +kernel⟩
theorem ok77 : FnOK Try.prog cx 77 fi77 Try.f77 := ⟨rfl, by decide, rfl, rfl, rfl, by decide +kernel⟩
theorem ok79 : FnOK Try.prog cx 79 fi79 Try.f79 := ⟨rfl, by decide, rfl, rfl, rfl, by decide +kernel⟩
theorem ok80 : FnOK Try.prog cx 80 fi80 Try.f80 := ⟨rfl, by decide, rfl, rfl, rfl, by decide +kernel⟩
theorem ok81 : FnOK Try.prog cx 81 fi81 Try.f81 := ⟨rfl, by decide, rfl, rfl, rfl, by decide +kernel⟩
theorem ok82 : FnOK Try.prog cx 82 fi82 Try.f82 := ⟨rfl, by decide, rfl, rfl, rfl, by decide +kernel⟩
theorem ok83 : FnOK Try.prog cx 83 fi83 Try.f83 := ⟨rfl, by decide, rfl, rfl, rfl, by decide +kernel⟩
theorem ok84 : FnOK Try.prog cx 84 fi84 Try.f84 := ⟨rfl, by decide, rfl, rfl, rfl, by decide +kernel⟩
theorem ok85 : FnOK Try.prog cx 85 fi85 Try.f85 := ⟨rfl, by decide, rfl, rfl, rfl, by decide +kernel⟩
theorem ok86 : FnOK Try.prog cx 86 fi86 Try.f86 := ⟨rfl, by decide, rfl, rfl, rfl, by decide +kernel⟩
theorem ok87 : FnOK Try.prog cx 87 fi87 Try.f87 := ⟨rfl, by decide, rfl, rfl, rfl, by decide +kernel⟩
theorem ok88 : FnOK Try.prog cx 88 fi88 Try.f88 := ⟨rfl, by decide, rfl, rfl, rfl, by decide +kernel⟩
theorem ok89 : FnOK Try.prog cx 89 fi89 Try.f89 := ⟨rfl, by decide, rfl, rfl, rfl, by decide +kernel⟩
theorem ok90 : FnOK Try.prog cx 90 fi90 Try.f90 := ⟨rfl, by decide, rfl, rfl, rfl, by decide +kernel⟩
theorem ok91 : FnOK Try.prog cx 91 fi91 Try.f91 := ⟨rfl, by decide, rfl, rfl, rfl, by decide +kernel⟩
theorem ok92 : FnOK Try.prog cx 92 fi92 Try.f92 := ⟨rfl, by decide, rfl, rfl, rfl, by decide +kernel⟩
theorem ok93 : FnOK Try.prog cx 93 fi93 Try.f93 := ⟨rfl, by decide, rfl, rfl, rfl, by decide +kernel⟩
theorem ok94 : FnOK Try.prog cx 94 fi94 Try.f94 := ⟨rfl, by decide, rfl, rfl, rfl, by decide +kernel⟩
theorem ok95 : FnOK Try.prog cx 95 fi95 Try.f95 := ⟨rfl, by decide, rfl, rfl, rfl, by decide +kernel⟩
theorem ok96 : FnOK Try.prog cx 96 fi96 Try.f96 := ⟨rfl, by decide, rfl, rfl, rfl, by decide +kernel⟩
theorem ok97 : FnOK Try.prog cx 97 fi97 Try.f97 := ⟨rfl, by decide, rfl, rfl, rfl, by decide +kernel⟩
theorem ok98 : FnOK Try.prog cx 98 fi98 Try.f98 := ⟨rfl, by decide, rfl, rfl, rfl, by decide +kernel⟩
theorem ok99 : FnOK Try.prog cx 99 fi99 Try.f99 := ⟨rfl, by decide, rfl, rfl, rfl, by decide +kernel⟩
theorem fnsOK : FnsOK Try.prog cx := fnsOK_of (⟨none_ok _, ⟨none_ok _, ⟨some_ok ok3, ⟨some_ok ok7, ⟨some_ok ok15, ⟨some_ok ok31, ⟨some_ok ok63, trivial, trivial⟩, ⟨some_ok ok95, trivial, trivial⟩⟩, ⟨some_ok ok47, ⟨some_ok ok79, trivial, trivial⟩, ⟨none_ok _, trivial, trivial⟩⟩⟩, ⟨some_ok ok23, ⟨some_ok ok39, ⟨some_ok ok71, trivial, trivial⟩, ⟨none_ok _, trivial, trivial⟩⟩, ⟨some_ok ok55, ⟨some_ok ok87, trivial, trivial⟩, trivial⟩⟩⟩, ⟨some_ok ok11, ⟨some_ok ok19, ⟨some_ok ok35, ⟨some_ok ok67, trivial, trivial⟩, ⟨some_ok ok99, trivial, trivial⟩⟩, ⟨some_ok ok51, ⟨some_ok ok83, trivial, trivial⟩, ⟨none_ok _, trivial, trivial⟩⟩⟩, ⟨some_ok ok27, ⟨some_ok ok43, ⟨some_ok ok75, trivial, trivial⟩, ⟨none_ok _, trivial, trivial⟩⟩, ⟨some_ok ok59, ⟨some_ok ok91, trivial, trivial⟩, trivial⟩⟩⟩⟩, ⟨some_ok ok5, ⟨some_ok ok9, ⟨some_ok ok17, ⟨some_ok ok33, ⟨some_ok ok65, trivial, trivial⟩, ⟨some_ok ok97, trivial, trivial⟩⟩, ⟨some_ok ok49, ⟨some_ok ok81, trivial, trivial⟩, ⟨none_ok _, trivial, trivial⟩⟩⟩, ⟨some_ok ok25, ⟨some_ok ok41, ⟨some_ok ok73, trivial, trivial⟩, ⟨none_ok _, trivial, trivial⟩⟩, ⟨some_ok ok57, ⟨some_ok ok89, trivial, trivial⟩, trivial⟩⟩⟩, ⟨some_ok ok13, ⟨some_ok ok21, ⟨some_ok ok37, ⟨some_ok ok69, trivial, trivial⟩, ⟨none_ok _, trivial, trivial⟩⟩, ⟨some_ok ok53, ⟨some_ok ok85, trivial, trivial⟩, trivial⟩⟩, ⟨some_ok ok29, ⟨some_ok ok45, ⟨some_ok ok77, trivial, trivial⟩, ⟨none_ok _, trivial, trivial⟩⟩, ⟨some_ok ok61, ⟨some_ok ok93, trivial, trivial⟩, trivial⟩⟩⟩⟩⟩, ⟨none_ok _, ⟨some_ok ok4, ⟨some_ok ok8, ⟨some_ok ok16, ⟨some_ok ok32, ⟨some_ok ok64, trivial, trivial⟩, ⟨some_ok ok96, trivial, trivial⟩⟩, ⟨some_ok ok48, ⟨some_ok ok80, trivial, trivial⟩, ⟨none_ok _, trivial, trivial⟩⟩⟩, ⟨some_ok ok24, ⟨some_ok ok40, ⟨some_ok ok72, trivial, trivial⟩, ⟨none_ok _, trivial, trivial⟩⟩, ⟨some_ok ok56, ⟨some_ok ok88, trivial, trivial⟩, trivial⟩⟩⟩, ⟨some_ok ok12, ⟨some_ok ok20, ⟨some_ok ok36, ⟨some_ok ok68, trivial, trivial⟩, ⟨none_ok _, trivial, trivial⟩⟩, ⟨some_ok ok52, ⟨some_ok ok84, trivial, trivial⟩, trivial⟩⟩, ⟨some_ok ok28, ⟨some_ok ok44, ⟨some_ok ok76, trivial, trivial⟩, ⟨none_ok _, trivial, trivial⟩⟩, ⟨some_ok ok60, ⟨some_ok ok92, trivial, trivial⟩, trivial⟩⟩⟩⟩, ⟨some_ok ok6, ⟨some_ok ok10, ⟨some_ok ok18, ⟨some_ok ok34, ⟨some_ok ok66, trivial, trivial⟩, ⟨some_ok ok98, trivial, trivial⟩⟩, ⟨some_ok ok50, ⟨some_ok ok82, trivial, trivial⟩, ⟨none_ok _, trivial, trivial⟩⟩⟩, ⟨some_ok ok26, ⟨some_ok ok42, ⟨some_ok ok74, trivial, trivial⟩, ⟨none_ok _, trivial, trivial⟩⟩, ⟨some_ok ok58, ⟨some_ok ok90, trivial, trivial⟩, trivial⟩⟩⟩, ⟨some_ok ok14, ⟨some_ok ok22, ⟨some_ok ok38, ⟨some_ok ok70, trivial, trivial⟩, ⟨none_ok _, trivial, trivial⟩⟩, ⟨some_ok ok54, ⟨some_ok ok86, trivial, trivial⟩, trivial⟩⟩, ⟨some_ok ok30, ⟨some_ok ok46, ⟨none_ok _, trivial, trivial⟩, ⟨none_ok _, trivial, trivial⟩⟩, ⟨some_ok ok62, ⟨some_ok ok94, trivial, trivial⟩, trivial⟩⟩⟩⟩⟩⟩)
end Go.Eva.S1

/- Eva, part 47: what arguments of the program's plain types are. -/
namespace Go.Eva

section
variable {cx : Cx} {t m : Nat} {ts : List T} {i : TI}

theorem conf_int (hti : cx.ti.get t = some i) (hk : i.ty = .int .i64) (h : Conf cx m t ts) : ∃ n, ts = [ti n] ∧ i64 n := by
  cases m with
  | zero => exact h.elim
  | succ m =>
    simp only [Conf, hti, hk] at h
    obtain ⟨n, rfl, hw⟩ := h
    refine ⟨n, rfl, ?_⟩
    simp [Lit.wf, IntKind.min, IntKind.max, IntKind.signed, IntKind.bits] at hw
    exact ⟨by omega, by omega⟩
theorem conf_u64 (hti : cx.ti.get t = some i) (hk : i.ty = .int .u64) (h : Conf cx m t ts) : ∃ n, ts = [.int .u64 n] ∧ 0 ≤ n ∧ n ≤ 18446744073709551615 := by
  cases m with
  | zero => exact h.elim
  | succ m =>
    simp only [Conf, hti, hk] at h
    obtain ⟨n, rfl, hw⟩ := h
    refine ⟨n, rfl, ?_⟩
    simp [Lit.wf, IntKind.min, IntKind.max, IntKind.signed, IntKind.bits] at hw
    exact ⟨by omega, by omega⟩
theorem conf_bool (hti : cx.ti.get t = some i) (hk : i.ty = .bool) (h : Conf cx m t ts) : ∃ b, ts = [.bool b] := by
  cases m with
  | zero => exact h.elim
  | succ m => simpa only [Conf, hti, hk] using h
theorem conf_struct {fs : List (Nat × Nat)} (hti : cx.ti.get t = some i) (hk : i.ty = .struct fs) (h : Conf cx (m + 1) t ts) : ts.length = i.size ∧ ∀ p ∈ fs, Conf cx m p.2 ((ts.drop p.1).take (sizeOf cx p.2)) := by
  simpa only [Conf, hti, hk] using h
theorem conf_slice {e : Nat} (hti : cx.ti.get t = some i) (hk : i.ty = .slice e) (h : Conf cx (m + 1) t ts) :
    ∃ xs, ts = [.sl (sizeOf cx e) xs] ∧ xs.length ≤ maxLen ∧ xs.length * bytesOf cx e ≤ reachBytes ∧ ∀ x ∈ xs, x ≠ .any ∧ (isStruct cx e = true → ∃ l, x = .agg l) ∧ (isStruct cx e = false → x.cells = [x]) ∧ Conf cx m e x.cells := by
  simpa only [Conf, hti, hk] using h

/-- A field that is a whole number. -/
theorem conf_at {j k : Nat} {fs : List (Nat × Nat)} (hi : cx.ti.get k = some i) (hk : i.ty = .int .i64) (hs : sizeOf cx k = 1) (h : ∀ p ∈ fs, Conf cx m p.2 ((ts.drop p.1).take (sizeOf cx p.2))) (hp : (j, k) ∈ fs) : ∃ n, ts[j]? = some (ti n) ∧ i64 n := by
  have := h _ hp
  simp only [hs] at this
  obtain ⟨n, h1, h2⟩ := conf_int hi hk this
  refine ⟨n, ?_, h2⟩
  have h3 := congrArg (fun l => l[0]?) h1
  simpa [List.getElem?_take, List.getElem?_drop] using h3

theorem list_of {α : Type} {f : α → T} {P : α → Prop} : ∀ {xs : List T}, (∀ x ∈ xs, ∃ e, x = f e ∧ P e) → ∃ l : List α, xs = l.map f ∧ ∀ e ∈ l, P e
  | [], _ => ⟨[], rfl, by simp⟩
  | x :: xs, h => by
    obtain ⟨e, rfl, he⟩ := h x (List.mem_cons_self ..)
    obtain ⟨l, rfl, hl⟩ := list_of fun y hy => h y (List.mem_cons_of_mem _ hy)
    exact ⟨e :: l, rfl, fun y hy => by
      rcases List.mem_cons.1 hy with rfl | hy
      · exact he
      · exact hl y hy⟩

def Entity.ok (e : Entity) : Prop := i64 e.id ∧ i64 e.kind ∧ i64 e.x ∧ i64 e.y ∧ i64 e.vx ∧ i64 e.vy ∧ i64 e.health ∧ i64 e.age ∧ i64 e.owner
def Input.ok (e : Input) : Prop := i64 e.dx ∧ i64 e.dy
def Cross.ok (c : Cross) : Prop := i64 c.kind ∧ i64 c.frm ∧ i64 c.to ∧ i64 c.frame ∧ c.ent.ok ∧ i64 c.x ∧ i64 c.y

theorem nine {ts : List T} (h : ts.length = 9) {a0 a1 a2 a3 a4 a5 a6 a7 a8 : T} (h0 : ts[0]? = some a0) (h1 : ts[1]? = some a1) (h2 : ts[2]? = some a2) (h3 : ts[3]? = some a3) (h4 : ts[4]? = some a4)
    (h5 : ts[5]? = some a5) (h6 : ts[6]? = some a6) (h7 : ts[7]? = some a7) (h8 : ts[8]? = some a8) : ts = [a0, a1, a2, a3, a4, a5, a6, a7, a8] := by
  match ts, h with
  | [_, _, _, _, _, _, _, _, _], _ => simp_all

/-- An entity's cells. -/
theorem conf_entity {k : Nat} {j : TI} (hk : cx.ti.get k = some j) (hkt : j.ty = .int .i64) (hs : sizeOf cx k = 1) (hti : cx.ti.get t = some i) (hty : i.ty = .struct [(0, k), (1, k), (2, k), (3, k), (4, k), (5, k), (6, k), (7, k), (8, k)]) (hsz : i.size = 9)
    (h : Conf cx (m + 1) t ts) : ∃ e : Entity, ts = e.enc.cells ∧ e.ok := by
  obtain ⟨h1, h2⟩ := conf_struct hti hty h
  rw [hsz] at h1
  obtain ⟨n0, a0, b0⟩ := conf_at (j := 0) hk hkt hs h2 (by simp)
  obtain ⟨n1, a1, b1⟩ := conf_at (j := 1) hk hkt hs h2 (by simp)
  obtain ⟨n2, a2, b2⟩ := conf_at (j := 2) hk hkt hs h2 (by simp)
  obtain ⟨n3, a3, b3⟩ := conf_at (j := 3) hk hkt hs h2 (by simp)
  obtain ⟨n4, a4, b4⟩ := conf_at (j := 4) hk hkt hs h2 (by simp)
  obtain ⟨n5, a5, b5⟩ := conf_at (j := 5) hk hkt hs h2 (by simp)
  obtain ⟨n6, a6, b6⟩ := conf_at (j := 6) hk hkt hs h2 (by simp)
  obtain ⟨n7, a7, b7⟩ := conf_at (j := 7) hk hkt hs h2 (by simp)
  obtain ⟨n8, a8, b8⟩ := conf_at (j := 8) hk hkt hs h2 (by simp)
  exact ⟨⟨n0, n1, n2, n3, n4, n5, n6, n7, n8⟩, nine h1 a0 a1 a2 a3 a4 a5 a6 a7 a8, b0, b1, b2, b3, b4, b5, b6, b7, b8⟩

theorem conf_config {k u : Nat} {j v : TI} (hk : cx.ti.get k = some j) (hkt : j.ty = .int .i64) (hs : sizeOf cx k = 1) (hu : cx.ti.get u = some v) (hut : v.ty = .int .u64) (hus : sizeOf cx u = 1) (hti : cx.ti.get t = some i)
    (hty : i.ty = .struct [(0, k), (1, k), (2, k), (3, k), (4, u)]) (hsz : i.size = 5) (h : Conf cx (m + 1) t ts) : ∃ c : Config, ts = c.enc.cells ∧ c.ok := by
  obtain ⟨h1, h2⟩ := conf_struct hti hty h
  rw [hsz] at h1
  obtain ⟨n0, a0, b0⟩ := conf_at (j := 0) hk hkt hs h2 (by simp)
  obtain ⟨n1, a1, b1⟩ := conf_at (j := 1) hk hkt hs h2 (by simp)
  obtain ⟨n2, a2, b2⟩ := conf_at (j := 2) hk hkt hs h2 (by simp)
  obtain ⟨n3, a3, b3⟩ := conf_at (j := 3) hk hkt hs h2 (by simp)
  have h4 := h2 (4, u) (by simp)
  simp only [hus] at h4
  obtain ⟨n4, a4, b4⟩ := conf_u64 hu hut h4
  refine ⟨⟨n0, n1, n2, n3, n4⟩, ?_, b0, b1, b2, b3, b4⟩
  match ts, h1 with
  | [_, _, _, _, _], _ => simp_all [Config.enc, T.cells]

theorem conf_input {k u : Nat} {j v : TI} (hk : cx.ti.get k = some j) (hkt : j.ty = .int .i64) (hs : sizeOf cx k = 1) (hu : cx.ti.get u = some v) (hut : v.ty = .bool) (hus : sizeOf cx u = 1) (hti : cx.ti.get t = some i)
    (hty : i.ty = .struct [(0, k), (1, k), (2, u)]) (hsz : i.size = 3) (h : Conf cx (m + 1) t ts) : ∃ c : Input, ts = c.enc.cells ∧ c.ok := by
  obtain ⟨h1, h2⟩ := conf_struct hti hty h
  rw [hsz] at h1
  obtain ⟨n0, a0, b0⟩ := conf_at (j := 0) hk hkt hs h2 (by simp)
  obtain ⟨n1, a1, b1⟩ := conf_at (j := 1) hk hkt hs h2 (by simp)
  have h4 := h2 (2, u) (by simp)
  simp only [hus] at h4
  obtain ⟨n2, a2⟩ := conf_bool hu hut h4
  refine ⟨⟨n0, n1, n2⟩, ?_, b0, b1⟩
  match ts, h1 with
  | [_, _, _], _ => simp_all [Input.enc, T.cells]
theorem conf_cross {k u : Nat} {j v : TI} (hk : cx.ti.get k = some j) (hkt : j.ty = .int .i64) (hs : sizeOf cx k = 1) (hu : cx.ti.get u = some v) (hut : v.ty = .struct [(0, k), (1, k), (2, k), (3, k), (4, k), (5, k), (6, k), (7, k), (8, k)]) (hus : sizeOf cx u = 9) (hti : cx.ti.get t = some i)
    (hty : i.ty = .struct [(0, k), (1, k), (2, k), (3, k), (4, u), (13, k), (14, k)]) (hsz : i.size = 15) (h : Conf cx (m + 2) t ts) : ∃ c : Cross, ts = c.enc.cells ∧ c.ok := by
  obtain ⟨h1, h2⟩ := conf_struct hti hty h
  rw [hsz] at h1
  obtain ⟨n0, a0, b0⟩ := conf_at (j := 0) hk hkt hs h2 (by simp)
  obtain ⟨n1, a1, b1⟩ := conf_at (j := 1) hk hkt hs h2 (by simp)
  obtain ⟨n2, a2, b2⟩ := conf_at (j := 2) hk hkt hs h2 (by simp)
  obtain ⟨n3, a3, b3⟩ := conf_at (j := 3) hk hkt hs h2 (by simp)
  obtain ⟨n5, a5, b5⟩ := conf_at (j := 13) hk hkt hs h2 (by simp)
  obtain ⟨n6, a6, b6⟩ := conf_at (j := 14) hk hkt hs h2 (by simp)
  have h4 := h2 (4, u) (by simp)
  simp only [hus] at h4
  have hvs : v.size = 9 := by
    have := hus
    unfold sizeOf at this
    rw [hu] at this
    exact this
  obtain ⟨e, a4, b4⟩ := conf_entity hk hkt hs hu hut hvs h4
  refine ⟨⟨n0, n1, n2, n3, e, n5, n6⟩, ?_, b0, b1, b2, b3, b4, b5, b6⟩
  match ts, h1 with
  | [_, _, _, _, _, _, _, _, _, _, _, _, _, _, _], _ =>
    simp only [Entity.enc, T.cells, List.drop_succ_cons, List.drop_zero, List.take_succ_cons, List.take_zero, List.cons.injEq, and_true] at a4
    simp_all [Cross.enc, T.cells]

theorem not_struct (hti : cx.ti.get t = some i) (h : ∀ fs, i.ty ≠ .struct fs) : isStruct cx t = false := by
  unfold isStruct
  rw [hti]
  cases i with
  | mk ty s b q => cases ty <;> simp_all
theorem is_struct {fs : List (Nat × Nat)} (hti : cx.ti.get t = some i) (h : i.ty = .struct fs) : isStruct cx t = true := by
  unfold isStruct
  rw [hti]
  cases i with
  | mk ty s b q => simp only at h; subst h; rfl

/-- Arguments. -/
theorem arg_int (hti : cx.ti.get t = some i) (hk : i.ty = .int .i64) {x : T} (h : Arg cx m t x) : ∃ n, x = ti n ∧ i64 n := by
  obtain ⟨h1, h2, h3, h4⟩ := h
  obtain ⟨n, h5, h6⟩ := conf_int hti hk h4
  rw [h3 (not_struct hti (by rw [hk]; simp))] at h5
  exact ⟨n, by simpa using h5, h6⟩
theorem arg_bool (hti : cx.ti.get t = some i) (hk : i.ty = .bool) {x : T} (h : Arg cx m t x) : ∃ b, x = .bool b := by
  obtain ⟨h1, h2, h3, h4⟩ := h
  obtain ⟨n, h5⟩ := conf_bool hti hk h4
  rw [h3 (not_struct hti (by rw [hk]; simp))] at h5
  exact ⟨n, by simpa using h5⟩
/-- A struct, by its cells. -/
theorem arg_of {α : Type} {f : α → T} {P : α → Prop} {fs : List (Nat × Nat)} (hti : cx.ti.get t = some i) (hk : i.ty = .struct fs) (hf : ∀ e, ∃ l, f e = .agg l) (hc : ∀ {ts}, Conf cx m t ts → ∃ e, ts = (f e).cells ∧ P e) {x : T} (h : Arg cx m t x) : ∃ e, x = f e ∧ P e := by
  obtain ⟨h1, h2, h3, h4⟩ := h
  obtain ⟨l, rfl⟩ := h2 (is_struct hti hk)
  obtain ⟨e, h5, h6⟩ := hc h4
  obtain ⟨l', hl⟩ := hf e
  rw [hl] at h5
  simp only [T.cells] at h5
  exact ⟨e, by rw [hl, h5], h6⟩
/-- A slice, by its members. -/
theorem arg_slice {α : Type} {f : α → T} {P : α → Prop} {e s : Nat} (hti : cx.ti.get t = some i) (hk : i.ty = .slice e) (hs : sizeOf cx e = s) (hc : ∀ {x}, Arg cx m e x → ∃ a, x = f a ∧ P a) {x : T} (h : Arg cx (m + 1) t x) :
    ∃ l : List α, x = .sl s (l.map f) ∧ (∀ a ∈ l, P a) ∧ l.length ≤ maxLen ∧ l.length * bytesOf cx e ≤ reachBytes := by
  obtain ⟨h1, h2, h3, h4⟩ := h
  obtain ⟨xs, h5, h6, h7, h8⟩ := conf_slice hti hk h4
  rw [h3 (not_struct hti (by rw [hk]; simp))] at h5
  obtain ⟨l, rfl, hl⟩ := list_of (f := f) (P := P) fun x hx => hc (h8 x hx)
  refine ⟨l, ?_, hl, by simpa using h6, by simpa using h7⟩
  rw [← hs]
  simpa using h5
end
end Go.Eva
