/- A reading of the program, proved sound against the model, and what its functions answer by it: part 4. -/
import Derived.Test.YtdlmgaiiheeigaaEva3
set_option linter.unusedSimpArgs false
set_option linter.unusedVariables false
/- Messages: merged in place. -/
namespace Go.Eva.S2
theorem f_symMerge_bs1_Cross (A : List Cross) (a : Nat) (ha : a < A.length) (hn : small A) : ∀ (d i j : Nat), i ≤ j → j ≤ i + d → j ≤ A.length →
    Is cx (.loop 111 [0, 0, 1, 1, 0, 1, 0] 1 [.all 0 none, vi a, .t (.clo 80 []), vi i, vi j] [.arr 15 (A.map Cross.enc) none false])
      ⟨.exit 0, [.all 0 none, vi a, .t (.clo 80 []), vi (bs (fun h => Cross.less (gt A h) (gt A a)) d i j : Nat), vi (bs (fun h => Cross.less (gt A h) (gt A a)) d i j : Nat)], [.arr 15 (A.map Cross.enc) none false]⟩ := by
  intro d
  induction d with
  | zero =>
    intro i j h1 h2 h3
    obtain rfl : i = j := by omega
    unfold small at hn
    unfold bs
    refine Wp.ev ?_
    refine gg [.b (decide ((↑i : Int) < (↑i : Int))) false] ⟨fP, trivial⟩ ?_
    exact ge
  | succ d ih =>
    intro i j h1 h2 h3
    by_cases hij : i < j
    · obtain ⟨h, hh⟩ : ∃ h, (i + j) / 2 = h := ⟨_, rfl⟩
      have hf : Int.fdiv ((i + j : Nat) : Int) 2 = (h : Nat) := by rw [Int.fdiv_eq_ediv_of_nonneg _ (by omega)]; omega
      have ih1 := ih (h + 1) j (by omega) (by omega) (by omega)
      have ih2 := ih i h (by omega) (by omega) (by omega)
      unfold small at hn
      clear ih
      cases hl : (fun h => Cross.less (gt A h) (gt A a)) h with
      | true =>
        have e : bs (fun h => Cross.less (gt A h) (gt A a)) (d + 1) i j = bs (fun h => Cross.less (gt A h) (gt A a)) d (h + 1) j := by exact bs_t hij hh hl
        rw [e]
        have hl : (gt A h).cmp (gt A a) < 0 := by simpa [Cross.less] using hl
        refine Wp.ev ?_
        refine gg [.b (decide ((↑i : Int) < (↑j : Int))) true, .i IntKind.i64 ((↑i : Int) + (↑j : Int)) ((↑(i + j) : Int)), .i IntKind.u64 ((↑(i + j) : Int)) ((↑(i + j) : Int)), .w ((0 : Int) ≤ (1 : Int)), .t (T.int IntKind.u64 (Int.fdiv (↑(i + j) : Int) 2)) (T.int IntKind.u64 (↑h : Int)), .i IntKind.i64 (↑h : Int) (↑h : Int), .w ((0 : Int) ≤ (↑h : Int)), .n (Int.toNat (↑h : Int)) h, .w (h < List.length (List.map Cross.enc A)), .w ((0 : Int) ≤ (↑a : Int)), .n (Int.toNat (↑a : Int)) a, .w (a < List.length (List.map Cross.enc A)), .g (List.map Cross.enc A) h (Cross.enc (gt A h)), .g (List.map Cross.enc A) a (Cross.enc (gt A a)), .w (isFnB cx (80 : Nat) = true), .a _ _] ⟨tP, oI, oU, oW, o_t (by rw [hf]), oI, oW, o_n (by kernel_rfl), o_w (by (simp; omega)), oW, o_n (by kernel_rfl), o_w (by (simp; omega)), oT, o_gt rfl (by assumption) (by intro h; cases h), o_w (by kernel_rfl), o_a (f_cross_compare (gt A h) (gt A a)), trivial⟩ ?_
        refine gg [.b (decide (Cross.cmp (gt A h) (gt A a) < 0)) true, .i IntKind.i64 ((↑h : Int) + 1) ((↑(h + 1) : Int)), .a _ _] ⟨t_brp (by assumption), oI, o_a ih1, trivial⟩ ?_
        refine rt (a := Res.mk (Ex.exit 0) [V.all 0 none, vi (↑a : Int), V.t (T.clo 80 []), vi (↑(bs (fun (h : Nat) ↦ Cross.less (gt A h) (gt A a)) d (h + 1) j) : Int), vi (↑(bs (fun (h : Nat) ↦ Cross.less (gt A h) (gt A a)) d (h + 1) j) : Int)] [Ob.arr 15 (List.map Cross.enc A) none false]) (by kernel_rfl) ?_
        (first | rfl | omega | (simp_all; done) | (simp_all; omega))
      | false =>
        have e : bs (fun h => Cross.less (gt A h) (gt A a)) (d + 1) i j = bs (fun h => Cross.less (gt A h) (gt A a)) d i h := by exact bs_f hij hh hl
        rw [e]
        have hl : ¬ (gt A h).cmp (gt A a) < 0 := by simpa [Cross.less] using hl
        refine Wp.ev ?_
        refine gg [.b (decide ((↑i : Int) < (↑j : Int))) true, .i IntKind.i64 ((↑i : Int) + (↑j : Int)) ((↑(i + j) : Int)), .i IntKind.u64 ((↑(i + j) : Int)) ((↑(i + j) : Int)), .w ((0 : Int) ≤ (1 : Int)), .t (T.int IntKind.u64 (Int.fdiv (↑(i + j) : Int) 2)) (T.int IntKind.u64 (↑h : Int)), .i IntKind.i64 (↑h : Int) (↑h : Int), .w ((0 : Int) ≤ (↑h : Int)), .n (Int.toNat (↑h : Int)) h, .w (h < List.length (List.map Cross.enc A)), .w ((0 : Int) ≤ (↑a : Int)), .n (Int.toNat (↑a : Int)) a, .w (a < List.length (List.map Cross.enc A)), .g (List.map Cross.enc A) h (Cross.enc (gt A h)), .g (List.map Cross.enc A) a (Cross.enc (gt A a)), .w (isFnB cx (80 : Nat) = true), .a _ _] ⟨tP, oI, oU, oW, o_t (by rw [hf]), oI, oW, o_n (by kernel_rfl), o_w (by (simp; omega)), oW, o_n (by kernel_rfl), o_w (by (simp; omega)), oT, o_gt rfl (by assumption) (by intro h; cases h), o_w (by kernel_rfl), o_a (f_cross_compare (gt A h) (gt A a)), trivial⟩ ?_
        refine gg [.b (decide (Cross.cmp (gt A h) (gt A a) < 0)) false, .a _ _] ⟨f_brp (by assumption), o_a ih2, trivial⟩ ?_
        refine rt (a := Res.mk (Ex.exit 0) [V.all 0 none, vi (↑a : Int), V.t (T.clo 80 []), vi (↑(bs (fun (h : Nat) ↦ Cross.less (gt A h) (gt A a)) d i h) : Int), vi (↑(bs (fun (h : Nat) ↦ Cross.less (gt A h) (gt A a)) d i h) : Int)] [Ob.arr 15 (List.map Cross.enc A) none false]) (by kernel_rfl) ?_
        (first | rfl | omega | (simp_all; done) | (simp_all; omega))
    · obtain rfl : i = j := by omega
      unfold small at hn
      have e : bs (fun h => Cross.less (gt A h) (gt A a)) (d + 1) i i = i := by rw [bs, if_neg hij]
      rw [e]
      refine Wp.ev ?_
      refine gg [.b (decide ((↑i : Int) < (↑i : Int))) false] ⟨fP, trivial⟩ ?_
      exact ge
theorem f_symMerge_bs2_Cross (A : List Cross) (m : Nat) (hm : m < A.length) (hn : small A) : ∀ (d i j : Nat), i ≤ j → j ≤ i + d → j ≤ A.length →
    Is cx (.loop 111 [0, 0, 1, 1, 0, 1, 0, 1] 1 [.all 0 none, vi m, .t (.clo 80 []), vi i, vi j] [.arr 15 (A.map Cross.enc) none false])
      ⟨.exit 4, [.all 0 none, vi m, .t (.clo 80 []), vi (bs (fun h => !Cross.less (gt A m) (gt A h)) d i j : Nat), vi (bs (fun h => !Cross.less (gt A m) (gt A h)) d i j : Nat)], [.arr 15 (A.map Cross.enc) none false]⟩ := by
  intro d
  induction d with
  | zero =>
    intro i j h1 h2 h3
    obtain rfl : i = j := by omega
    unfold small at hn
    unfold bs
    refine Wp.ev ?_
    refine gg [.b (decide ((↑i : Int) < (↑i : Int))) false] ⟨fP, trivial⟩ ?_
    exact ge
  | succ d ih =>
    intro i j h1 h2 h3
    by_cases hij : i < j
    · obtain ⟨h, hh⟩ : ∃ h, (i + j) / 2 = h := ⟨_, rfl⟩
      have hf : Int.fdiv ((i + j : Nat) : Int) 2 = (h : Nat) := by rw [Int.fdiv_eq_ediv_of_nonneg _ (by omega)]; omega
      have ih1 := ih (h + 1) j (by omega) (by omega) (by omega)
      have ih2 := ih i h (by omega) (by omega) (by omega)
      unfold small at hn
      clear ih
      cases hl : (fun h => !Cross.less (gt A m) (gt A h)) h with
      | true =>
        have e : bs (fun h => !Cross.less (gt A m) (gt A h)) (d + 1) i j = bs (fun h => !Cross.less (gt A m) (gt A h)) d (h + 1) j := by exact bs_t hij hh hl
        rw [e]
        have hl : ¬ (gt A m).cmp (gt A h) < 0 := by simpa [Cross.less] using hl
        refine Wp.ev ?_
        refine gg [.b (decide ((↑i : Int) < (↑j : Int))) true, .i IntKind.i64 ((↑i : Int) + (↑j : Int)) ((↑(i + j) : Int)), .i IntKind.u64 ((↑(i + j) : Int)) ((↑(i + j) : Int)), .w ((0 : Int) ≤ (1 : Int)), .t (T.int IntKind.u64 (Int.fdiv (↑(i + j) : Int) 2)) (T.int IntKind.u64 (↑h : Int)), .i IntKind.i64 (↑h : Int) (↑h : Int), .w ((0 : Int) ≤ (↑m : Int)), .n (Int.toNat (↑m : Int)) m, .w (m < List.length (List.map Cross.enc A)), .w ((0 : Int) ≤ (↑h : Int)), .n (Int.toNat (↑h : Int)) h, .w (h < List.length (List.map Cross.enc A)), .g (List.map Cross.enc A) m (Cross.enc (gt A m)), .g (List.map Cross.enc A) h (Cross.enc (gt A h)), .w (isFnB cx (80 : Nat) = true), .a _ _] ⟨tP, oI, oU, oW, o_t (by rw [hf]), oI, oW, o_n (by kernel_rfl), o_w (by (simp; omega)), oW, o_n (by kernel_rfl), o_w (by (simp; omega)), o_gt rfl (by assumption) (by intro h; cases h), oT, o_w (by kernel_rfl), o_a (f_cross_compare (gt A m) (gt A h)), trivial⟩ ?_
        refine brnot (b := decide (Cross.cmp (gt A m) (gt A h) < 0)) (by kernel_rfl) (fun h1 => ?_) (fun h1 => ?_)
        · refine gg [.i IntKind.i64 ((↑h : Int) + 1) ((↑(h + 1) : Int)), .a _ _] ⟨oI, o_a ih1, trivial⟩ ?_
          refine rt (a := Res.mk (Ex.exit 4) [V.all 0 none, vi (↑m : Int), V.t (T.clo 80 []), vi (↑(bs (fun (h : Nat) ↦ !Cross.less (gt A m) (gt A h)) d (h + 1) j) : Int), vi (↑(bs (fun (h : Nat) ↦ !Cross.less (gt A m) (gt A h)) d (h + 1) j) : Int)] [Ob.arr 15 (List.map Cross.enc A) none false]) (by kernel_rfl) ?_
          (first | rfl | omega | (simp_all; done) | (simp_all; omega))
        · refine gg [.a _ _] ⟨o_a ih2, trivial⟩ ?_
          refine rt (a := Res.mk (Ex.exit 4) [V.all 0 none, vi (↑m : Int), V.t (T.clo 80 []), vi (↑(bs (fun (h : Nat) ↦ !Cross.less (gt A m) (gt A h)) d i h) : Int), vi (↑(bs (fun (h : Nat) ↦ !Cross.less (gt A m) (gt A h)) d i h) : Int)] [Ob.arr 15 (List.map Cross.enc A) none false]) (by kernel_rfl) ?_
          (first | rfl | omega | (simp_all; done) | (simp_all; omega))
      | false =>
        have e : bs (fun h => !Cross.less (gt A m) (gt A h)) (d + 1) i j = bs (fun h => !Cross.less (gt A m) (gt A h)) d i h := by exact bs_f hij hh hl
        rw [e]
        have hl : (gt A m).cmp (gt A h) < 0 := by simpa [Cross.less] using hl
        refine Wp.ev ?_
        refine gg [.b (decide ((↑i : Int) < (↑j : Int))) true, .i IntKind.i64 ((↑i : Int) + (↑j : Int)) ((↑(i + j) : Int)), .i IntKind.u64 ((↑(i + j) : Int)) ((↑(i + j) : Int)), .w ((0 : Int) ≤ (1 : Int)), .t (T.int IntKind.u64 (Int.fdiv (↑(i + j) : Int) 2)) (T.int IntKind.u64 (↑h : Int)), .i IntKind.i64 (↑h : Int) (↑h : Int), .w ((0 : Int) ≤ (↑m : Int)), .n (Int.toNat (↑m : Int)) m, .w (m < List.length (List.map Cross.enc A)), .w ((0 : Int) ≤ (↑h : Int)), .n (Int.toNat (↑h : Int)) h, .w (h < List.length (List.map Cross.enc A)), .g (List.map Cross.enc A) m (Cross.enc (gt A m)), .g (List.map Cross.enc A) h (Cross.enc (gt A h)), .w (isFnB cx (80 : Nat) = true), .a _ _] ⟨tP, oI, oU, oW, o_t (by rw [hf]), oI, oW, o_n (by kernel_rfl), o_w (by (simp; omega)), oW, o_n (by kernel_rfl), o_w (by (simp; omega)), o_gt rfl (by assumption) (by intro h; cases h), oT, o_w (by kernel_rfl), o_a (f_cross_compare (gt A m) (gt A h)), trivial⟩ ?_
        refine brnot (b := decide (Cross.cmp (gt A m) (gt A h) < 0)) (by kernel_rfl) (fun h1 => ?_) (fun h1 => ?_)
        · refine gg [.i IntKind.i64 ((↑h : Int) + 1) ((↑(h + 1) : Int)), .a _ _] ⟨oI, o_a ih1, trivial⟩ ?_
          refine rt (a := Res.mk (Ex.exit 4) [V.all 0 none, vi (↑m : Int), V.t (T.clo 80 []), vi (↑(bs (fun (h : Nat) ↦ !Cross.less (gt A m) (gt A h)) d (h + 1) j) : Int), vi (↑(bs (fun (h : Nat) ↦ !Cross.less (gt A m) (gt A h)) d (h + 1) j) : Int)] [Ob.arr 15 (List.map Cross.enc A) none false]) (by kernel_rfl) ?_
          (first | rfl | omega | (simp_all; done) | (simp_all; omega))
        · refine gg [.a _ _] ⟨o_a ih2, trivial⟩ ?_
          refine rt (a := Res.mk (Ex.exit 4) [V.all 0 none, vi (↑m : Int), V.t (T.clo 80 []), vi (↑(bs (fun (h : Nat) ↦ !Cross.less (gt A m) (gt A h)) d i h) : Int), vi (↑(bs (fun (h : Nat) ↦ !Cross.less (gt A m) (gt A h)) d i h) : Int)] [Ob.arr 15 (List.map Cross.enc A) none false]) (by kernel_rfl) ?_
          (first | rfl | omega | (simp_all; done) | (simp_all; omega))
    · obtain rfl : i = j := by omega
      unfold small at hn
      have e : bs (fun h => !Cross.less (gt A m) (gt A h)) (d + 1) i i = i := by rw [bs, if_neg hij]
      rw [e]
      refine Wp.ev ?_
      refine gg [.b (decide ((↑i : Int) < (↑i : Int))) false] ⟨fP, trivial⟩ ?_
      exact ge
theorem f_symMerge_bs3_Cross (A : List Cross) (a m b mid n p : Nat) (hn : small A) : ∀ (d i j : Nat), i ≤ j → j ≤ i + d → j ≤ p + 1 → p < i + A.length → j ≤ A.length →
    Is cx (.loop 111 [0, 0, 1, 1, 1, 1, 1, 1, 1] 1 [.all 0 none, vi a, vi m, vi b, .t (.clo 80 []), vi mid, vi n, vi i, vi j, vi p] [.arr 15 (A.map Cross.enc) none false])
      ⟨.exit 8, [.all 0 none, vi a, vi m, vi b, .t (.clo 80 []), vi mid, vi n, vi (bs (fun c => !Cross.less (gt A (p - c)) (gt A c)) d i j : Nat), vi (bs (fun c => !Cross.less (gt A (p - c)) (gt A c)) d i j : Nat), vi p], [.arr 15 (A.map Cross.enc) none false]⟩ := by
  intro d
  induction d with
  | zero =>
    intro i j h1 h2 h3 h4 h5
    obtain rfl : i = j := by omega
    unfold small at hn
    unfold bs
    refine Wp.ev ?_
    refine gg [.b (decide ((↑i : Int) < (↑i : Int))) false] ⟨fP, trivial⟩ ?_
    exact ge
  | succ d ih =>
    intro i j h1 h2 h3 h4 h5
    by_cases hij : i < j
    · obtain ⟨h, hh⟩ : ∃ h, (i + j) / 2 = h := ⟨_, rfl⟩
      have hf : Int.fdiv ((i + j : Nat) : Int) 2 = (h : Nat) := by rw [Int.fdiv_eq_ediv_of_nonneg _ (by omega)]; omega
      have ih1 := ih (h + 1) j (by omega) (by omega) (by omega) (by omega) (by omega)
      have ih2 := ih i h (by omega) (by omega) (by omega) (by omega) (by omega)
      unfold small at hn
      clear ih
      cases hl : (fun c => !Cross.less (gt A (p - c)) (gt A c)) h with
      | true =>
        have e : bs (fun c => !Cross.less (gt A (p - c)) (gt A c)) (d + 1) i j = bs (fun c => !Cross.less (gt A (p - c)) (gt A c)) d (h + 1) j := by exact bs_t hij hh hl
        rw [e]
        have hl : ¬ (gt A (p - h)).cmp (gt A h) < 0 := by simpa [Cross.less] using hl
        have e1 : (p : Int) - h = (p - h : Nat) := by omega
        refine Wp.ev ?_
        refine gg [.b (decide ((↑i : Int) < (↑j : Int))) true, .i IntKind.i64 ((↑i : Int) + (↑j : Int)) ((↑(i + j) : Int)), .i IntKind.u64 ((↑(i + j) : Int)) ((↑(i + j) : Int)), .w ((0 : Int) ≤ (1 : Int)), .t (T.int IntKind.u64 (Int.fdiv (↑(i + j) : Int) 2)) (T.int IntKind.u64 (↑h : Int)), .i IntKind.i64 (↑h : Int) (↑h : Int), .i IntKind.i64 ((↑p : Int) - (↑h : Int)) ((↑(p - h) : Int)), .w ((0 : Int) ≤ (↑(p - h) : Int)), .n (Int.toNat (↑(p - h) : Int)) (p - h), .w (p - h < List.length (List.map Cross.enc A)), .w ((0 : Int) ≤ (↑h : Int)), .n (Int.toNat (↑h : Int)) h, .w (h < List.length (List.map Cross.enc A)), .g (List.map Cross.enc A) (p - h) (Cross.enc (gt A (p - h))), .g (List.map Cross.enc A) h (Cross.enc (gt A h)), .w (isFnB cx (80 : Nat) = true)] ⟨tP, oI, oU, oW, o_t (by rw [hf]), oI, oI, oW, o_n (by kernel_rfl), o_w (by (simp; omega)), oW, o_n (by kernel_rfl), o_w (by (simp; omega)), oT, oT, o_w (by kernel_rfl), trivial⟩ ?_
        refine gg [.a _ _] ⟨o_a (f_cross_compare (gt A (p - h)) (gt A h)), trivial⟩ ?_
        refine brnot (b := decide (Cross.cmp (gt A (p - h)) (gt A h) < 0)) (by kernel_rfl) (fun h1 => ?_) (fun h1 => ?_)
        · refine gg [.i IntKind.i64 ((↑h : Int) + 1) ((↑(h + 1) : Int)), .a _ _] ⟨oI, o_a ih1, trivial⟩ ?_
          refine rt (a := Res.mk (Ex.exit 8) [V.all 0 none, vi (↑a : Int), vi (↑m : Int), vi (↑b : Int), V.t (T.clo 80 []), vi (↑mid : Int), vi (↑n : Int), vi (↑(bs (fun (c : Nat) ↦ !Cross.less (gt A (p - c)) (gt A c)) d (h + 1) j) : Int), vi (↑(bs (fun (c : Nat) ↦ !Cross.less (gt A (p - c)) (gt A c)) d (h + 1) j) : Int), vi (↑p : Int)] [Ob.arr 15 (List.map Cross.enc A) none false]) (by kernel_rfl) ?_
          (first | rfl | omega | (simp_all; done) | (simp_all; omega))
        · refine gg [.a _ _] ⟨o_a ih2, trivial⟩ ?_
          refine rt (a := Res.mk (Ex.exit 8) [V.all 0 none, vi (↑a : Int), vi (↑m : Int), vi (↑b : Int), V.t (T.clo 80 []), vi (↑mid : Int), vi (↑n : Int), vi (↑(bs (fun (c : Nat) ↦ !Cross.less (gt A (p - c)) (gt A c)) d i h) : Int), vi (↑(bs (fun (c : Nat) ↦ !Cross.less (gt A (p - c)) (gt A c)) d i h) : Int), vi (↑p : Int)] [Ob.arr 15 (List.map Cross.enc A) none false]) (by kernel_rfl) ?_
          (first | rfl | omega | (simp_all; done) | (simp_all; omega))
      | false =>
        have e : bs (fun c => !Cross.less (gt A (p - c)) (gt A c)) (d + 1) i j = bs (fun c => !Cross.less (gt A (p - c)) (gt A c)) d i h := by exact bs_f hij hh hl
        rw [e]
        have hl : (gt A (p - h)).cmp (gt A h) < 0 := by simpa [Cross.less] using hl
        have e1 : (p : Int) - h = (p - h : Nat) := by omega
        refine Wp.ev ?_
        refine gg [.b (decide ((↑i : Int) < (↑j : Int))) true, .i IntKind.i64 ((↑i : Int) + (↑j : Int)) ((↑(i + j) : Int)), .i IntKind.u64 ((↑(i + j) : Int)) ((↑(i + j) : Int)), .w ((0 : Int) ≤ (1 : Int)), .t (T.int IntKind.u64 (Int.fdiv (↑(i + j) : Int) 2)) (T.int IntKind.u64 (↑h : Int)), .i IntKind.i64 (↑h : Int) (↑h : Int), .i IntKind.i64 ((↑p : Int) - (↑h : Int)) ((↑(p - h) : Int)), .w ((0 : Int) ≤ (↑(p - h) : Int)), .n (Int.toNat (↑(p - h) : Int)) (p - h), .w (p - h < List.length (List.map Cross.enc A)), .w ((0 : Int) ≤ (↑h : Int)), .n (Int.toNat (↑h : Int)) h, .w (h < List.length (List.map Cross.enc A)), .g (List.map Cross.enc A) (p - h) (Cross.enc (gt A (p - h))), .g (List.map Cross.enc A) h (Cross.enc (gt A h)), .w (isFnB cx (80 : Nat) = true)] ⟨tP, oI, oU, oW, o_t (by rw [hf]), oI, oI, oW, o_n (by kernel_rfl), o_w (by (simp; omega)), oW, o_n (by kernel_rfl), o_w (by (simp; omega)), oT, oT, o_w (by kernel_rfl), trivial⟩ ?_
        refine gg [.a _ _] ⟨o_a (f_cross_compare (gt A (p - h)) (gt A h)), trivial⟩ ?_
        refine brnot (b := decide (Cross.cmp (gt A (p - h)) (gt A h) < 0)) (by kernel_rfl) (fun h1 => ?_) (fun h1 => ?_)
        · refine gg [.i IntKind.i64 ((↑h : Int) + 1) ((↑(h + 1) : Int)), .a _ _] ⟨oI, o_a ih1, trivial⟩ ?_
          refine rt (a := Res.mk (Ex.exit 8) [V.all 0 none, vi (↑a : Int), vi (↑m : Int), vi (↑b : Int), V.t (T.clo 80 []), vi (↑mid : Int), vi (↑n : Int), vi (↑(bs (fun (c : Nat) ↦ !Cross.less (gt A (p - c)) (gt A c)) d (h + 1) j) : Int), vi (↑(bs (fun (c : Nat) ↦ !Cross.less (gt A (p - c)) (gt A c)) d (h + 1) j) : Int), vi (↑p : Int)] [Ob.arr 15 (List.map Cross.enc A) none false]) (by kernel_rfl) ?_
          (first | rfl | omega | (simp_all; done) | (simp_all; omega))
        · refine gg [.a _ _] ⟨o_a ih2, trivial⟩ ?_
          refine rt (a := Res.mk (Ex.exit 8) [V.all 0 none, vi (↑a : Int), vi (↑m : Int), vi (↑b : Int), V.t (T.clo 80 []), vi (↑mid : Int), vi (↑n : Int), vi (↑(bs (fun (c : Nat) ↦ !Cross.less (gt A (p - c)) (gt A c)) d i h) : Int), vi (↑(bs (fun (c : Nat) ↦ !Cross.less (gt A (p - c)) (gt A c)) d i h) : Int), vi (↑p : Int)] [Ob.arr 15 (List.map Cross.enc A) none false]) (by kernel_rfl) ?_
          (first | rfl | omega | (simp_all; done) | (simp_all; omega))
    · obtain rfl : i = j := by omega
      unfold small at hn
      have e : bs (fun c => !Cross.less (gt A (p - c)) (gt A c)) (d + 1) i i = i := by rw [bs, if_neg hij]
      rw [e]
      refine Wp.ev ?_
      refine gg [.b (decide ((↑i : Int) < (↑i : Int))) false] ⟨fP, trivial⟩ ?_
      exact ge
theorem f_symMerge_up_Cross : ∀ (d k i : Nat) (A : List Cross), k + d = i - 1 → i ≤ A.length → small A →
    Is cx (.loop 111 [0, 1, 0, 1, 1, 1, 0, 1, 0] 1 [.all 0 none, vi i, vi k] [.arr 15 (A.map Cross.enc) none false])
      ⟨.exit 2, [.all 0 none, vi i, vi (i - 1 : Nat)], [.arr 15 ((up d A k).map Cross.enc) none false]⟩ := by
  intro d
  induction d with
  | zero =>
    intro k i A h1 h2 hn
    unfold small at hn
    obtain rfl : k = i - 1 := by omega
    unfold up
    refine Wp.ev ?_
    refine gg [.i IntKind.i64 ((↑i : Int) - 1) ((↑i : Int) - 1), .b (decide ((↑(i - 1) : Int) < (↑i : Int) - 1)) false] ⟨oI, fP, trivial⟩ ?_
    exact ge
  | succ d ih =>
    intro k i A h1 h2 hn
    have ih1 := ih (k + 1) i (sw A k (k + 1)) (by omega) (by rw [sw_len]; omega) (by unfold small; rw [sw_len]; exact hn)
    unfold small at hn
    clear ih
    unfold up
    unfold sw at *
    refine Wp.ev ?_
    refine gg [.i IntKind.i64 ((↑i : Int) - 1) ((↑i : Int) - 1), .b (decide ((↑k : Int) < (↑i : Int) - 1)) true, .i IntKind.i64 ((↑k : Int) + 1) ((↑(k + 1) : Int)), .i IntKind.i64 ((↑k : Int) + 1) ((↑(k + 1) : Int)), .w ((0 : Int) ≤ (↑(k + (1 : Nat)) : Int)), .n (Int.toNat (↑(k + 1) : Int)) (k + 1), .w (k + (1 : Nat) < List.length (List.map Cross.enc A)), .w ((0 : Int) ≤ (↑k : Int)), .n (Int.toNat (↑k : Int)) k, .w (k < List.length (List.map Cross.enc A)), .g (List.map Cross.enc A) (k + 1) (Cross.enc (gt A (k + 1))), .g (List.map Cross.enc A) k (Cross.enc (gt A k)), .w ((0 : Int) ≤ (↑k : Int)), .n (Int.toNat (↑k : Int)) k, .w (k < List.length (List.map Cross.enc A)), .w (k < List.length (List.map Cross.enc A))] ⟨oI, tP, oI, oI, oW, o_n (by kernel_rfl), o_w (by (simp; omega)), oW, o_n (by kernel_rfl), o_w (by (simp; omega)), oT, oT, oW, o_n (by kernel_rfl), o_w (by (simp; omega)), o_w (by (simp; omega)), trivial⟩ ?_
    refine gg [.t (T.sl 0 (List.set (List.map Cross.enc A) k (Cross.enc (gt A (k + 1))))) (T.sl 0 (List.map Cross.enc (List.set A k (gt A (k + 1))))), .w ((0 : Int) ≤ (↑(k + (1 : Nat)) : Int)), .n (Int.toNat (↑(k + 1) : Int)) (k + 1), .w (k + (1 : Nat) < List.length (List.map Cross.enc (List.set A k (gt A (k + (1 : Nat)))))), .w (k + (1 : Nat) < List.length (List.map Cross.enc (List.set A k (gt A (k + (1 : Nat)))))), .t (T.sl 0 (List.set (List.map Cross.enc (List.set A k (gt A (k + 1)))) (k + 1) (Cross.enc (gt A k)))) (T.sl 0 (List.map Cross.enc (List.set (List.set A k (gt A (k + 1))) (k + 1) (gt A k)))), .i IntKind.i64 ((↑k : Int) + 1) ((↑(k + 1) : Int)), .a _ _] ⟨o_l (nm_set rfl rfl), oW, o_n (by kernel_rfl), o_w (by (simp; omega)), o_w (by (simp; omega)), o_l (nm_set rfl rfl), oI, o_a ih1, trivial⟩ ?_
    exact ge
theorem f_symMerge_down_Cross (i : Nat) : ∀ (d k : Nat) (A : List Cross), k = i + d → k < A.length → small A →
    Is cx (.loop 111 [0, 1, 0, 1, 1, 1, 0, 1, 0, 1] 1 [.all 0 none, vi i, vi k] [.arr 15 (A.map Cross.enc) none false])
      ⟨.exit 6, [.all 0 none, vi i, vi i], [.arr 15 ((down d A k).map Cross.enc) none false]⟩ := by
  intro d
  induction d with
  | zero =>
    intro k A h1 h2 hn
    unfold small at hn
    obtain rfl : k = i := by omega
    unfold down
    refine Wp.ev ?_
    refine gg [.b (decide ((↑k : Int) > (↑k : Int))) false] ⟨fP, trivial⟩ ?_
    exact ge
  | succ d ih =>
    intro k A h1 h2 hn
    have ih1 := ih (k - 1) (sw A k (k - 1)) (by omega) (by rw [sw_len]; omega) (by unfold small; rw [sw_len]; exact hn)
    unfold small at hn
    clear ih
    have e1 : (k : Int) - 1 = (k - 1 : Nat) := by omega
    unfold down
    unfold sw at *
    refine Wp.ev ?_
    refine gg [.b (decide ((↑k : Int) > (↑i : Int))) true, .i IntKind.i64 ((↑k : Int) - 1) ((↑(k - 1) : Int)), .i IntKind.i64 ((↑k : Int) - 1) ((↑(k - 1) : Int)), .w ((0 : Int) ≤ (↑(k - (1 : Nat)) : Int)), .n (Int.toNat (↑(k - 1) : Int)) (k - 1), .w (k - (1 : Nat) < List.length (List.map Cross.enc A)), .w ((0 : Int) ≤ (↑k : Int)), .n (Int.toNat (↑k : Int)) k, .w (k < List.length (List.map Cross.enc A)), .g (List.map Cross.enc A) (k - 1) (Cross.enc (gt A (k - 1))), .g (List.map Cross.enc A) k (Cross.enc (gt A k)), .w ((0 : Int) ≤ (↑k : Int)), .n (Int.toNat (↑k : Int)) k, .w (k < List.length (List.map Cross.enc A)), .w (k < List.length (List.map Cross.enc A)), .t (T.sl 0 (List.set (List.map Cross.enc A) k (Cross.enc (gt A (k - 1))))) (T.sl 0 (List.map Cross.enc (List.set A k (gt A (k - 1)))))] ⟨tP, oI, oI, oW, o_n (by kernel_rfl), o_w (by (simp; omega)), oW, o_n (by kernel_rfl), o_w (by (simp; omega)), oT, o_gt rfl (by assumption) (by intro h; cases h), oW, o_n (by kernel_rfl), o_w (by (simp; omega)), o_w (by (simp; omega)), o_l (nm_set rfl rfl), trivial⟩ ?_
    refine gg [.w ((0 : Int) ≤ (↑(k - (1 : Nat)) : Int)), .n (Int.toNat (↑(k - 1) : Int)) (k - 1), .w (k - (1 : Nat) < List.length (List.map Cross.enc (List.set A k (gt A (k - (1 : Nat)))))), .w (k - (1 : Nat) < List.length (List.map Cross.enc (List.set A k (gt A (k - (1 : Nat)))))), .t (T.sl 0 (List.set (List.map Cross.enc (List.set A k (gt A (k - 1)))) (k - 1) (Cross.enc (gt A k)))) (T.sl 0 (List.map Cross.enc (List.set (List.set A k (gt A (k - 1))) (k - 1) (gt A k)))), .i IntKind.i64 ((↑k : Int) - 1) ((↑(k - 1) : Int)), .a _ _] ⟨oW, o_n (by kernel_rfl), o_w (by (simp; omega)), o_w (by (simp; omega)), o_l (nm_set rfl rfl), oI, o_a ih1, trivial⟩ ?_
    exact ge
theorem f_symMerge_bs1_Entity (A : List Entity) (a : Nat) (ha : a < A.length) (hn : small A) : ∀ (d i j : Nat), i ≤ j → j ≤ i + d → j ≤ A.length →
    Is cx (.loop 89 [0, 0, 1, 1, 0, 1, 0] 1 [.all 0 none, vi a, .t (.clo 22 []), vi i, vi j] [.arr 9 (A.map Entity.enc) none false])
      ⟨.exit 0, [.all 0 none, vi a, .t (.clo 22 []), vi (bs (fun h => Entity.less (gt A h) (gt A a)) d i j : Nat), vi (bs (fun h => Entity.less (gt A h) (gt A a)) d i j : Nat)], [.arr 9 (A.map Entity.enc) none false]⟩ := by
  intro d
  induction d with
  | zero =>
    intro i j h1 h2 h3
    obtain rfl : i = j := by omega
    unfold small at hn
    unfold bs
    refine Wp.ev ?_
    refine gg [.b (decide ((↑i : Int) < (↑i : Int))) false] ⟨fP, trivial⟩ ?_
    exact ge
  | succ d ih =>
    intro i j h1 h2 h3
    by_cases hij : i < j
    · obtain ⟨h, hh⟩ : ∃ h, (i + j) / 2 = h := ⟨_, rfl⟩
      have hf : Int.fdiv ((i + j : Nat) : Int) 2 = (h : Nat) := by rw [Int.fdiv_eq_ediv_of_nonneg _ (by omega)]; omega
      have ih1 := ih (h + 1) j (by omega) (by omega) (by omega)
      have ih2 := ih i h (by omega) (by omega) (by omega)
      unfold small at hn
      clear ih
      cases hl : (fun h => Entity.less (gt A h) (gt A a)) h with
      | true =>
        have e : bs (fun h => Entity.less (gt A h) (gt A a)) (d + 1) i j = bs (fun h => Entity.less (gt A h) (gt A a)) d (h + 1) j := by exact bs_t hij hh hl
        rw [e]
        have hl : (gt A h).cmp (gt A a) < 0 := by simpa [Entity.less] using hl
        refine Wp.ev ?_
        refine gg [.b (decide ((↑i : Int) < (↑j : Int))) true, .i IntKind.i64 ((↑i : Int) + (↑j : Int)) ((↑(i + j) : Int)), .i IntKind.u64 ((↑(i + j) : Int)) ((↑(i + j) : Int)), .w ((0 : Int) ≤ (1 : Int)), .t (T.int IntKind.u64 (Int.fdiv (↑(i + j) : Int) 2)) (T.int IntKind.u64 (↑h : Int)), .i IntKind.i64 (↑h : Int) (↑h : Int), .w ((0 : Int) ≤ (↑h : Int)), .n (Int.toNat (↑h : Int)) h, .w (h < List.length (List.map Entity.enc A)), .w ((0 : Int) ≤ (↑a : Int)), .n (Int.toNat (↑a : Int)) a, .w (a < List.length (List.map Entity.enc A)), .g (List.map Entity.enc A) h (Entity.enc (gt A h)), .g (List.map Entity.enc A) a (Entity.enc (gt A a)), .w (isFnB cx (22 : Nat) = true), .a _ _] ⟨tP, oI, oU, oW, o_t (by rw [hf]), oI, oW, o_n (by kernel_rfl), o_w (by (simp; omega)), oW, o_n (by kernel_rfl), o_w (by (simp; omega)), oT, o_gt rfl (by assumption) (by intro h; cases h), o_w (by kernel_rfl), o_a (f_arena_All_1 (gt A h) (gt A a)), trivial⟩ ?_
        refine gg [.b (decide (Entity.cmp (gt A h) (gt A a) < 0)) true, .i IntKind.i64 ((↑h : Int) + 1) ((↑(h + 1) : Int)), .a _ _] ⟨t_brp (by assumption), oI, o_a ih1, trivial⟩ ?_
        refine rt (a := Res.mk (Ex.exit 0) [V.all 0 none, vi (↑a : Int), V.t (T.clo 22 []), vi (↑(bs (fun (h : Nat) ↦ Entity.less (gt A h) (gt A a)) d (h + 1) j) : Int), vi (↑(bs (fun (h : Nat) ↦ Entity.less (gt A h) (gt A a)) d (h + 1) j) : Int)] [Ob.arr 9 (List.map Entity.enc A) none false]) (by kernel_rfl) ?_
        (first | rfl | omega | (simp_all; done) | (simp_all; omega))
      | false =>
        have e : bs (fun h => Entity.less (gt A h) (gt A a)) (d + 1) i j = bs (fun h => Entity.less (gt A h) (gt A a)) d i h := by exact bs_f hij hh hl
        rw [e]
        have hl : ¬ (gt A h).cmp (gt A a) < 0 := by simpa [Entity.less] using hl
        refine Wp.ev ?_
        refine gg [.b (decide ((↑i : Int) < (↑j : Int))) true, .i IntKind.i64 ((↑i : Int) + (↑j : Int)) ((↑(i + j) : Int)), .i IntKind.u64 ((↑(i + j) : Int)) ((↑(i + j) : Int)), .w ((0 : Int) ≤ (1 : Int)), .t (T.int IntKind.u64 (Int.fdiv (↑(i + j) : Int) 2)) (T.int IntKind.u64 (↑h : Int)), .i IntKind.i64 (↑h : Int) (↑h : Int), .w ((0 : Int) ≤ (↑h : Int)), .n (Int.toNat (↑h : Int)) h, .w (h < List.length (List.map Entity.enc A)), .w ((0 : Int) ≤ (↑a : Int)), .n (Int.toNat (↑a : Int)) a, .w (a < List.length (List.map Entity.enc A)), .g (List.map Entity.enc A) h (Entity.enc (gt A h)), .g (List.map Entity.enc A) a (Entity.enc (gt A a)), .w (isFnB cx (22 : Nat) = true), .a _ _] ⟨tP, oI, oU, oW, o_t (by rw [hf]), oI, oW, o_n (by kernel_rfl), o_w (by (simp; omega)), oW, o_n (by kernel_rfl), o_w (by (simp; omega)), oT, o_gt rfl (by assumption) (by intro h; cases h), o_w (by kernel_rfl), o_a (f_arena_All_1 (gt A h) (gt A a)), trivial⟩ ?_
        refine gg [.b (decide (Entity.cmp (gt A h) (gt A a) < 0)) false, .a _ _] ⟨f_brp (by assumption), o_a ih2, trivial⟩ ?_
        refine rt (a := Res.mk (Ex.exit 0) [V.all 0 none, vi (↑a : Int), V.t (T.clo 22 []), vi (↑(bs (fun (h : Nat) ↦ Entity.less (gt A h) (gt A a)) d i h) : Int), vi (↑(bs (fun (h : Nat) ↦ Entity.less (gt A h) (gt A a)) d i h) : Int)] [Ob.arr 9 (List.map Entity.enc A) none false]) (by kernel_rfl) ?_
        (first | rfl | omega | (simp_all; done) | (simp_all; omega))
    · obtain rfl : i = j := by omega
      unfold small at hn
      have e : bs (fun h => Entity.less (gt A h) (gt A a)) (d + 1) i i = i := by rw [bs, if_neg hij]
      rw [e]
      refine Wp.ev ?_
      refine gg [.b (decide ((↑i : Int) < (↑i : Int))) false] ⟨fP, trivial⟩ ?_
      exact ge
theorem f_symMerge_bs2_Entity (A : List Entity) (m : Nat) (hm : m < A.length) (hn : small A) : ∀ (d i j : Nat), i ≤ j → j ≤ i + d → j ≤ A.length →
    Is cx (.loop 89 [0, 0, 1, 1, 0, 1, 0, 1] 1 [.all 0 none, vi m, .t (.clo 22 []), vi i, vi j] [.arr 9 (A.map Entity.enc) none false])
      ⟨.exit 4, [.all 0 none, vi m, .t (.clo 22 []), vi (bs (fun h => !Entity.less (gt A m) (gt A h)) d i j : Nat), vi (bs (fun h => !Entity.less (gt A m) (gt A h)) d i j : Nat)], [.arr 9 (A.map Entity.enc) none false]⟩ := by
  intro d
  induction d with
  | zero =>
    intro i j h1 h2 h3
    obtain rfl : i = j := by omega
    unfold small at hn
    unfold bs
    refine Wp.ev ?_
    refine gg [.b (decide ((↑i : Int) < (↑i : Int))) false] ⟨fP, trivial⟩ ?_
    exact ge
  | succ d ih =>
    intro i j h1 h2 h3
    by_cases hij : i < j
    · obtain ⟨h, hh⟩ : ∃ h, (i + j) / 2 = h := ⟨_, rfl⟩
      have hf : Int.fdiv ((i + j : Nat) : Int) 2 = (h : Nat) := by rw [Int.fdiv_eq_ediv_of_nonneg _ (by omega)]; omega
      have ih1 := ih (h + 1) j (by omega) (by omega) (by omega)
      have ih2 := ih i h (by omega) (by omega) (by omega)
      unfold small at hn
      clear ih
      cases hl : (fun h => !Entity.less (gt A m) (gt A h)) h with
      | true =>
        have e : bs (fun h => !Entity.less (gt A m) (gt A h)) (d + 1) i j = bs (fun h => !Entity.less (gt A m) (gt A h)) d (h + 1) j := by exact bs_t hij hh hl
        rw [e]
        have hl : ¬ (gt A m).cmp (gt A h) < 0 := by simpa [Entity.less] using hl
        refine Wp.ev ?_
        refine gg [.b (decide ((↑i : Int) < (↑j : Int))) true, .i IntKind.i64 ((↑i : Int) + (↑j : Int)) ((↑(i + j) : Int)), .i IntKind.u64 ((↑(i + j) : Int)) ((↑(i + j) : Int)), .w ((0 : Int) ≤ (1 : Int)), .t (T.int IntKind.u64 (Int.fdiv (↑(i + j) : Int) 2)) (T.int IntKind.u64 (↑h : Int)), .i IntKind.i64 (↑h : Int) (↑h : Int), .w ((0 : Int) ≤ (↑m : Int)), .n (Int.toNat (↑m : Int)) m, .w (m < List.length (List.map Entity.enc A)), .w ((0 : Int) ≤ (↑h : Int)), .n (Int.toNat (↑h : Int)) h, .w (h < List.length (List.map Entity.enc A)), .g (List.map Entity.enc A) m (Entity.enc (gt A m)), .g (List.map Entity.enc A) h (Entity.enc (gt A h)), .w (isFnB cx (22 : Nat) = true), .a _ _] ⟨tP, oI, oU, oW, o_t (by rw [hf]), oI, oW, o_n (by kernel_rfl), o_w (by (simp; omega)), oW, o_n (by kernel_rfl), o_w (by (simp; omega)), o_gt rfl (by assumption) (by intro h; cases h), oT, o_w (by kernel_rfl), o_a (f_arena_All_1 (gt A m) (gt A h)), trivial⟩ ?_
        refine brnot (b := decide (Entity.cmp (gt A m) (gt A h) < 0)) (by kernel_rfl) (fun h1 => ?_) (fun h1 => ?_)
        · refine gg [.i IntKind.i64 ((↑h : Int) + 1) ((↑(h + 1) : Int)), .a _ _] ⟨oI, o_a ih1, trivial⟩ ?_
          refine rt (a := Res.mk (Ex.exit 4) [V.all 0 none, vi (↑m : Int), V.t (T.clo 22 []), vi (↑(bs (fun (h : Nat) ↦ !Entity.less (gt A m) (gt A h)) d (h + 1) j) : Int), vi (↑(bs (fun (h : Nat) ↦ !Entity.less (gt A m) (gt A h)) d (h + 1) j) : Int)] [Ob.arr 9 (List.map Entity.enc A) none false]) (by kernel_rfl) ?_
          (first | rfl | omega | (simp_all; done) | (simp_all; omega))
        · refine gg [.a _ _] ⟨o_a ih2, trivial⟩ ?_
          refine rt (a := Res.mk (Ex.exit 4) [V.all 0 none, vi (↑m : Int), V.t (T.clo 22 []), vi (↑(bs (fun (h : Nat) ↦ !Entity.less (gt A m) (gt A h)) d i h) : Int), vi (↑(bs (fun (h : Nat) ↦ !Entity.less (gt A m) (gt A h)) d i h) : Int)] [Ob.arr 9 (List.map Entity.enc A) none false]) (by kernel_rfl) ?_
          (first | rfl | omega | (simp_all; done) | (simp_all; omega))
      | false =>
        have e : bs (fun h => !Entity.less (gt A m) (gt A h)) (d + 1) i j = bs (fun h => !Entity.less (gt A m) (gt A h)) d i h := by exact bs_f hij hh hl
        rw [e]
        have hl : (gt A m).cmp (gt A h) < 0 := by simpa [Entity.less] using hl
        refine Wp.ev ?_
        refine gg [.b (decide ((↑i : Int) < (↑j : Int))) true, .i IntKind.i64 ((↑i : Int) + (↑j : Int)) ((↑(i + j) : Int)), .i IntKind.u64 ((↑(i + j) : Int)) ((↑(i + j) : Int)), .w ((0 : Int) ≤ (1 : Int)), .t (T.int IntKind.u64 (Int.fdiv (↑(i + j) : Int) 2)) (T.int IntKind.u64 (↑h : Int)), .i IntKind.i64 (↑h : Int) (↑h : Int), .w ((0 : Int) ≤ (↑m : Int)), .n (Int.toNat (↑m : Int)) m, .w (m < List.length (List.map Entity.enc A)), .w ((0 : Int) ≤ (↑h : Int)), .n (Int.toNat (↑h : Int)) h, .w (h < List.length (List.map Entity.enc A)), .g (List.map Entity.enc A) m (Entity.enc (gt A m)), .g (List.map Entity.enc A) h (Entity.enc (gt A h)), .w (isFnB cx (22 : Nat) = true), .a _ _] ⟨tP, oI, oU, oW, o_t (by rw [hf]), oI, oW, o_n (by kernel_rfl), o_w (by (simp; omega)), oW, o_n (by kernel_rfl), o_w (by (simp; omega)), o_gt rfl (by assumption) (by intro h; cases h), oT, o_w (by kernel_rfl), o_a (f_arena_All_1 (gt A m) (gt A h)), trivial⟩ ?_
        refine brnot (b := decide (Entity.cmp (gt A m) (gt A h) < 0)) (by kernel_rfl) (fun h1 => ?_) (fun h1 => ?_)
        · refine gg [.i IntKind.i64 ((↑h : Int) + 1) ((↑(h + 1) : Int)), .a _ _] ⟨oI, o_a ih1, trivial⟩ ?_
          refine rt (a := Res.mk (Ex.exit 4) [V.all 0 none, vi (↑m : Int), V.t (T.clo 22 []), vi (↑(bs (fun (h : Nat) ↦ !Entity.less (gt A m) (gt A h)) d (h + 1) j) : Int), vi (↑(bs (fun (h : Nat) ↦ !Entity.less (gt A m) (gt A h)) d (h + 1) j) : Int)] [Ob.arr 9 (List.map Entity.enc A) none false]) (by kernel_rfl) ?_
          (first | rfl | omega | (simp_all; done) | (simp_all; omega))
        · refine gg [.a _ _] ⟨o_a ih2, trivial⟩ ?_
          refine rt (a := Res.mk (Ex.exit 4) [V.all 0 none, vi (↑m : Int), V.t (T.clo 22 []), vi (↑(bs (fun (h : Nat) ↦ !Entity.less (gt A m) (gt A h)) d i h) : Int), vi (↑(bs (fun (h : Nat) ↦ !Entity.less (gt A m) (gt A h)) d i h) : Int)] [Ob.arr 9 (List.map Entity.enc A) none false]) (by kernel_rfl) ?_
          (first | rfl | omega | (simp_all; done) | (simp_all; omega))
    · obtain rfl : i = j := by omega
      unfold small at hn
      have e : bs (fun h => !Entity.less (gt A m) (gt A h)) (d + 1) i i = i := by rw [bs, if_neg hij]
      rw [e]
      refine Wp.ev ?_
      refine gg [.b (decide ((↑i : Int) < (↑i : Int))) false] ⟨fP, trivial⟩ ?_
      exact ge
theorem f_symMerge_bs3_Entity (A : List Entity) (a m b mid n p : Nat) (hn : small A) : ∀ (d i j : Nat), i ≤ j → j ≤ i + d → j ≤ p + 1 → p < i + A.length → j ≤ A.length →
    Is cx (.loop 89 [0, 0, 1, 1, 1, 1, 1, 1, 1] 1 [.all 0 none, vi a, vi m, vi b, .t (.clo 22 []), vi mid, vi n, vi i, vi j, vi p] [.arr 9 (A.map Entity.enc) none false])
      ⟨.exit 8, [.all 0 none, vi a, vi m, vi b, .t (.clo 22 []), vi mid, vi n, vi (bs (fun c => !Entity.less (gt A (p - c)) (gt A c)) d i j : Nat), vi (bs (fun c => !Entity.less (gt A (p - c)) (gt A c)) d i j : Nat), vi p], [.arr 9 (A.map Entity.enc) none false]⟩ := by
  intro d
  induction d with
  | zero =>
    intro i j h1 h2 h3 h4 h5
    obtain rfl : i = j := by omega
    unfold small at hn
    unfold bs
    refine Wp.ev ?_
    refine gg [.b (decide ((↑i : Int) < (↑i : Int))) false] ⟨fP, trivial⟩ ?_
    exact ge
  | succ d ih =>
    intro i j h1 h2 h3 h4 h5
    by_cases hij : i < j
    · obtain ⟨h, hh⟩ : ∃ h, (i + j) / 2 = h := ⟨_, rfl⟩
      have hf : Int.fdiv ((i + j : Nat) : Int) 2 = (h : Nat) := by rw [Int.fdiv_eq_ediv_of_nonneg _ (by omega)]; omega
      have ih1 := ih (h + 1) j (by omega) (by omega) (by omega) (by omega) (by omega)
      have ih2 := ih i h (by omega) (by omega) (by omega) (by omega) (by omega)
      unfold small at hn
      clear ih
      cases hl : (fun c => !Entity.less (gt A (p - c)) (gt A c)) h with
      | true =>
        have e : bs (fun c => !Entity.less (gt A (p - c)) (gt A c)) (d + 1) i j = bs (fun c => !Entity.less (gt A (p - c)) (gt A c)) d (h + 1) j := by exact bs_t hij hh hl
        rw [e]
        have hl : ¬ (gt A (p - h)).cmp (gt A h) < 0 := by simpa [Entity.less] using hl
        have e1 : (p : Int) - h = (p - h : Nat) := by omega
        refine Wp.ev ?_
        refine gg [.b (decide ((↑i : Int) < (↑j : Int))) true, .i IntKind.i64 ((↑i : Int) + (↑j : Int)) ((↑(i + j) : Int)), .i IntKind.u64 ((↑(i + j) : Int)) ((↑(i + j) : Int)), .w ((0 : Int) ≤ (1 : Int)), .t (T.int IntKind.u64 (Int.fdiv (↑(i + j) : Int) 2)) (T.int IntKind.u64 (↑h : Int)), .i IntKind.i64 (↑h : Int) (↑h : Int), .i IntKind.i64 ((↑p : Int) - (↑h : Int)) ((↑(p - h) : Int)), .w ((0 : Int) ≤ (↑(p - h) : Int)), .n (Int.toNat (↑(p - h) : Int)) (p - h), .w (p - h < List.length (List.map Entity.enc A)), .w ((0 : Int) ≤ (↑h : Int)), .n (Int.toNat (↑h : Int)) h, .w (h < List.length (List.map Entity.enc A)), .g (List.map Entity.enc A) (p - h) (Entity.enc (gt A (p - h))), .g (List.map Entity.enc A) h (Entity.enc (gt A h)), .w (isFnB cx (22 : Nat) = true)] ⟨tP, oI, oU, oW, o_t (by rw [hf]), oI, oI, oW, o_n (by kernel_rfl), o_w (by (simp; omega)), oW, o_n (by kernel_rfl), o_w (by (simp; omega)), oT, oT, o_w (by kernel_rfl), trivial⟩ ?_
        refine gg [.a _ _] ⟨o_a (f_arena_All_1 (gt A (p - h)) (gt A h)), trivial⟩ ?_
        refine brnot (b := decide (Entity.cmp (gt A (p - h)) (gt A h) < 0)) (by kernel_rfl) (fun h1 => ?_) (fun h1 => ?_)
        · refine gg [.i IntKind.i64 ((↑h : Int) + 1) ((↑(h + 1) : Int)), .a _ _] ⟨oI, o_a ih1, trivial⟩ ?_
          refine rt (a := Res.mk (Ex.exit 8) [V.all 0 none, vi (↑a : Int), vi (↑m : Int), vi (↑b : Int), V.t (T.clo 22 []), vi (↑mid : Int), vi (↑n : Int), vi (↑(bs (fun (c : Nat) ↦ !Entity.less (gt A (p - c)) (gt A c)) d (h + 1) j) : Int), vi (↑(bs (fun (c : Nat) ↦ !Entity.less (gt A (p - c)) (gt A c)) d (h + 1) j) : Int), vi (↑p : Int)] [Ob.arr 9 (List.map Entity.enc A) none false]) (by kernel_rfl) ?_
          (first | rfl | omega | (simp_all; done) | (simp_all; omega))
        · refine gg [.a _ _] ⟨o_a ih2, trivial⟩ ?_
          refine rt (a := Res.mk (Ex.exit 8) [V.all 0 none, vi (↑a : Int), vi (↑m : Int), vi (↑b : Int), V.t (T.clo 22 []), vi (↑mid : Int), vi (↑n : Int), vi (↑(bs (fun (c : Nat) ↦ !Entity.less (gt A (p - c)) (gt A c)) d i h) : Int), vi (↑(bs (fun (c : Nat) ↦ !Entity.less (gt A (p - c)) (gt A c)) d i h) : Int), vi (↑p : Int)] [Ob.arr 9 (List.map Entity.enc A) none false]) (by kernel_rfl) ?_
          (first | rfl | omega | (simp_all; done) | (simp_all; omega))
      | false =>
        have e : bs (fun c => !Entity.less (gt A (p - c)) (gt A c)) (d + 1) i j = bs (fun c => !Entity.less (gt A (p - c)) (gt A c)) d i h := by exact bs_f hij hh hl
        rw [e]
        have hl : (gt A (p - h)).cmp (gt A h) < 0 := by simpa [Entity.less] using hl
        have e1 : (p : Int) - h = (p - h : Nat) := by omega
        refine Wp.ev ?_
        refine gg [.b (decide ((↑i : Int) < (↑j : Int))) true, .i IntKind.i64 ((↑i : Int) + (↑j : Int)) ((↑(i + j) : Int)), .i IntKind.u64 ((↑(i + j) : Int)) ((↑(i + j) : Int)), .w ((0 : Int) ≤ (1 : Int)), .t (T.int IntKind.u64 (Int.fdiv (↑(i + j) : Int) 2)) (T.int IntKind.u64 (↑h : Int)), .i IntKind.i64 (↑h : Int) (↑h : Int), .i IntKind.i64 ((↑p : Int) - (↑h : Int)) ((↑(p - h) : Int)), .w ((0 : Int) ≤ (↑(p - h) : Int)), .n (Int.toNat (↑(p - h) : Int)) (p - h), .w (p - h < List.length (List.map Entity.enc A)), .w ((0 : Int) ≤ (↑h : Int)), .n (Int.toNat (↑h : Int)) h, .w (h < List.length (List.map Entity.enc A)), .g (List.map Entity.enc A) (p - h) (Entity.enc (gt A (p - h))), .g (List.map Entity.enc A) h (Entity.enc (gt A h)), .w (isFnB cx (22 : Nat) = true)] ⟨tP, oI, oU, oW, o_t (by rw [hf]), oI, oI, oW, o_n (by kernel_rfl), o_w (by (simp; omega)), oW, o_n (by kernel_rfl), o_w (by (simp; omega)), oT, oT, o_w (by kernel_rfl), trivial⟩ ?_
        refine gg [.a _ _] ⟨o_a (f_arena_All_1 (gt A (p - h)) (gt A h)), trivial⟩ ?_
        refine brnot (b := decide (Entity.cmp (gt A (p - h)) (gt A h) < 0)) (by kernel_rfl) (fun h1 => ?_) (fun h1 => ?_)
        · refine gg [.i IntKind.i64 ((↑h : Int) + 1) ((↑(h + 1) : Int)), .a _ _] ⟨oI, o_a ih1, trivial⟩ ?_
          refine rt (a := Res.mk (Ex.exit 8) [V.all 0 none, vi (↑a : Int), vi (↑m : Int), vi (↑b : Int), V.t (T.clo 22 []), vi (↑mid : Int), vi (↑n : Int), vi (↑(bs (fun (c : Nat) ↦ !Entity.less (gt A (p - c)) (gt A c)) d (h + 1) j) : Int), vi (↑(bs (fun (c : Nat) ↦ !Entity.less (gt A (p - c)) (gt A c)) d (h + 1) j) : Int), vi (↑p : Int)] [Ob.arr 9 (List.map Entity.enc A) none false]) (by kernel_rfl) ?_
          (first | rfl | omega | (simp_all; done) | (simp_all; omega))
        · refine gg [.a _ _] ⟨o_a ih2, trivial⟩ ?_
          refine rt (a := Res.mk (Ex.exit 8) [V.all 0 none, vi (↑a : Int), vi (↑m : Int), vi (↑b : Int), V.t (T.clo 22 []), vi (↑mid : Int), vi (↑n : Int), vi (↑(bs (fun (c : Nat) ↦ !Entity.less (gt A (p - c)) (gt A c)) d i h) : Int), vi (↑(bs (fun (c : Nat) ↦ !Entity.less (gt A (p - c)) (gt A c)) d i h) : Int), vi (↑p : Int)] [Ob.arr 9 (List.map Entity.enc A) none false]) (by kernel_rfl) ?_
          (first | rfl | omega | (simp_all; done) | (simp_all; omega))
    · obtain rfl : i = j := by omega
      unfold small at hn
      have e : bs (fun c => !Entity.less (gt A (p - c)) (gt A c)) (d + 1) i i = i := by rw [bs, if_neg hij]
      rw [e]
      refine Wp.ev ?_
      refine gg [.b (decide ((↑i : Int) < (↑i : Int))) false] ⟨fP, trivial⟩ ?_
      exact ge
theorem f_symMerge_up_Entity : ∀ (d k i : Nat) (A : List Entity), k + d = i - 1 → i ≤ A.length → small A →
    Is cx (.loop 89 [0, 1, 0, 1, 1, 1, 0, 1, 0] 1 [.all 0 none, vi i, vi k] [.arr 9 (A.map Entity.enc) none false])
      ⟨.exit 2, [.all 0 none, vi i, vi (i - 1 : Nat)], [.arr 9 ((up d A k).map Entity.enc) none false]⟩ := by
  intro d
  induction d with
  | zero =>
    intro k i A h1 h2 hn
    unfold small at hn
    obtain rfl : k = i - 1 := by omega
    unfold up
    refine Wp.ev ?_
    refine gg [.i IntKind.i64 ((↑i : Int) - 1) ((↑i : Int) - 1), .b (decide ((↑(i - 1) : Int) < (↑i : Int) - 1)) false] ⟨oI, fP, trivial⟩ ?_
    exact ge
  | succ d ih =>
    intro k i A h1 h2 hn
    have ih1 := ih (k + 1) i (sw A k (k + 1)) (by omega) (by rw [sw_len]; omega) (by unfold small; rw [sw_len]; exact hn)
    unfold small at hn
    clear ih
    unfold up
    unfold sw at *
    refine Wp.ev ?_
    refine gg [.i IntKind.i64 ((↑i : Int) - 1) ((↑i : Int) - 1), .b (decide ((↑k : Int) < (↑i : Int) - 1)) true, .i IntKind.i64 ((↑k : Int) + 1) ((↑(k + 1) : Int)), .i IntKind.i64 ((↑k : Int) + 1) ((↑(k + 1) : Int)), .w ((0 : Int) ≤ (↑(k + (1 : Nat)) : Int)), .n (Int.toNat (↑(k + 1) : Int)) (k + 1), .w (k + (1 : Nat) < List.length (List.map Entity.enc A)), .w ((0 : Int) ≤ (↑k : Int)), .n (Int.toNat (↑k : Int)) k, .w (k < List.length (List.map Entity.enc A)), .g (List.map Entity.enc A) (k + 1) (Entity.enc (gt A (k + 1))), .g (List.map Entity.enc A) k (Entity.enc (gt A k)), .w ((0 : Int) ≤ (↑k : Int)), .n (Int.toNat (↑k : Int)) k, .w (k < List.length (List.map Entity.enc A)), .w (k < List.length (List.map Entity.enc A))] ⟨oI, tP, oI, oI, oW, o_n (by kernel_rfl), o_w (by (simp; omega)), oW, o_n (by kernel_rfl), o_w (by (simp; omega)), oT, oT, oW, o_n (by kernel_rfl), o_w (by (simp; omega)), o_w (by (simp; omega)), trivial⟩ ?_
    refine gg [.t (T.sl 0 (List.set (List.map Entity.enc A) k (Entity.enc (gt A (k + 1))))) (T.sl 0 (List.map Entity.enc (List.set A k (gt A (k + 1))))), .w ((0 : Int) ≤ (↑(k + (1 : Nat)) : Int)), .n (Int.toNat (↑(k + 1) : Int)) (k + 1), .w (k + (1 : Nat) < List.length (List.map Entity.enc (List.set A k (gt A (k + (1 : Nat)))))), .w (k + (1 : Nat) < List.length (List.map Entity.enc (List.set A k (gt A (k + (1 : Nat)))))), .t (T.sl 0 (List.set (List.map Entity.enc (List.set A k (gt A (k + 1)))) (k + 1) (Entity.enc (gt A k)))) (T.sl 0 (List.map Entity.enc (List.set (List.set A k (gt A (k + 1))) (k + 1) (gt A k)))), .i IntKind.i64 ((↑k : Int) + 1) ((↑(k + 1) : Int)), .a _ _] ⟨o_l (nm_set rfl rfl), oW, o_n (by kernel_rfl), o_w (by (simp; omega)), o_w (by (simp; omega)), o_l (nm_set rfl rfl), oI, o_a ih1, trivial⟩ ?_
    exact ge
theorem f_symMerge_down_Entity (i : Nat) : ∀ (d k : Nat) (A : List Entity), k = i + d → k < A.length → small A →
    Is cx (.loop 89 [0, 1, 0, 1, 1, 1, 0, 1, 0, 1] 1 [.all 0 none, vi i, vi k] [.arr 9 (A.map Entity.enc) none false])
      ⟨.exit 6, [.all 0 none, vi i, vi i], [.arr 9 ((down d A k).map Entity.enc) none false]⟩ := by
  intro d
  induction d with
  | zero =>
    intro k A h1 h2 hn
    unfold small at hn
    obtain rfl : k = i := by omega
    unfold down
    refine Wp.ev ?_
    refine gg [.b (decide ((↑k : Int) > (↑k : Int))) false] ⟨fP, trivial⟩ ?_
    exact ge
  | succ d ih =>
    intro k A h1 h2 hn
    have ih1 := ih (k - 1) (sw A k (k - 1)) (by omega) (by rw [sw_len]; omega) (by unfold small; rw [sw_len]; exact hn)
    unfold small at hn
    clear ih
    have e1 : (k : Int) - 1 = (k - 1 : Nat) := by omega
    unfold down
    unfold sw at *
    refine Wp.ev ?_
    refine gg [.b (decide ((↑k : Int) > (↑i : Int))) true, .i IntKind.i64 ((↑k : Int) - 1) ((↑(k - 1) : Int)), .i IntKind.i64 ((↑k : Int) - 1) ((↑(k - 1) : Int)), .w ((0 : Int) ≤ (↑(k - (1 : Nat)) : Int)), .n (Int.toNat (↑(k - 1) : Int)) (k - 1), .w (k - (1 : Nat) < List.length (List.map Entity.enc A)), .w ((0 : Int) ≤ (↑k : Int)), .n (Int.toNat (↑k : Int)) k, .w (k < List.length (List.map Entity.enc A)), .g (List.map Entity.enc A) (k - 1) (Entity.enc (gt A (k - 1))), .g (List.map Entity.enc A) k (Entity.enc (gt A k)), .w ((0 : Int) ≤ (↑k : Int)), .n (Int.toNat (↑k : Int)) k, .w (k < List.length (List.map Entity.enc A)), .w (k < List.length (List.map Entity.enc A)), .t (T.sl 0 (List.set (List.map Entity.enc A) k (Entity.enc (gt A (k - 1))))) (T.sl 0 (List.map Entity.enc (List.set A k (gt A (k - 1)))))] ⟨tP, oI, oI, oW, o_n (by kernel_rfl), o_w (by (simp; omega)), oW, o_n (by kernel_rfl), o_w (by (simp; omega)), oT, o_gt rfl (by assumption) (by intro h; cases h), oW, o_n (by kernel_rfl), o_w (by (simp; omega)), o_w (by (simp; omega)), o_l (nm_set rfl rfl), trivial⟩ ?_
    refine gg [.w ((0 : Int) ≤ (↑(k - (1 : Nat)) : Int)), .n (Int.toNat (↑(k - 1) : Int)) (k - 1), .w (k - (1 : Nat) < List.length (List.map Entity.enc (List.set A k (gt A (k - (1 : Nat)))))), .w (k - (1 : Nat) < List.length (List.map Entity.enc (List.set A k (gt A (k - (1 : Nat)))))), .t (T.sl 0 (List.set (List.map Entity.enc (List.set A k (gt A (k - 1)))) (k - 1) (Entity.enc (gt A k)))) (T.sl 0 (List.map Entity.enc (List.set (List.set A k (gt A (k - 1))) (k - 1) (gt A k)))), .i IntKind.i64 ((↑k : Int) - 1) ((↑(k - 1) : Int)), .a _ _] ⟨oW, o_n (by kernel_rfl), o_w (by (simp; omega)), o_w (by (simp; omega)), o_l (nm_set rfl rfl), oI, o_a ih1, trivial⟩ ?_
    exact ge
end Go.Eva.S2

/- Messages: merged in place. -/
namespace Go.Eva.S2
theorem f_symMerge_first_Cross (P V Q : List Cross) (x : Cross) (a m b : Nat) (ha : a = P.length) (hm : m = a + 1) (hb : b = m + V.length) (h0 : 0 < V.length) (hV : Sd Cross.less V) (hn : small (P ++ [x] ++ V ++ Q)) :
    Is cx (.call 111 [.all 0 none, vi a, vi m, vi b, .t (.clo 80 [])] [.arr 15 ((P ++ [x] ++ V ++ Q).map Cross.enc) none false])
   ⟨.ret, [], [.arr 15 ((P ++ sortS Cross.less ([x] ++ V) ++ Q).map Cross.enc) none false]⟩ := by
  have hl : (P ++ [x] ++ V ++ Q).length = b + Q.length := by simp; omega
  have hbs := f_symMerge_bs1_Cross (P ++ [x] ++ V ++ Q) a (by omega) hn (b - m) m b (by omega) (by omega) (by omega)
  obtain ⟨k1, k2, k3⟩ := merge_first Cross_swo (Q := Q) (x := x) (d := b - m) ha hm hb (by omega) hV rfl
  generalize bs _ (b - m) m b = s at *
  have hup := f_symMerge_up_Cross (s - 1 - a) a s (P ++ [x] ++ V ++ Q) (by omega) (by omega) hn
  rw [k3] at hup
  clear k3 hV
  generalize P ++ [x] ++ V ++ Q = A at *
  generalize P ++ sortS Cross.less ([x] ++ V) ++ Q = B at *
  unfold small at hn
  refine Wp.ev ?_
  refine gg [.i IntKind.i64 ((↑m : Int) - (↑a : Int)) ((↑m : Int) - (↑a : Int)), .b ((↑m : Int) - (↑a : Int) == 1) true, .a _ _, .a _ _] ⟨oI, tE, o_a hbs, o_a hup, trivial⟩ ?_
  exact ge
theorem f_symMerge_last_Cross (P U Q : List Cross) (y : Cross) (a m b : Nat) (ha : a = P.length) (hm : m = a + U.length) (hb : b = m + 1) (h0 : 1 < U.length) (hU : Sd Cross.less U) (hn : small (P ++ U ++ [y] ++ Q)) :
    Is cx (.call 111 [.all 0 none, vi a, vi m, vi b, .t (.clo 80 [])] [.arr 15 ((P ++ U ++ [y] ++ Q).map Cross.enc) none false])
   ⟨.ret, [], [.arr 15 ((P ++ sortS Cross.less (U ++ [y]) ++ Q).map Cross.enc) none false]⟩ := by
  have hl : (P ++ U ++ [y] ++ Q).length = b + Q.length := by simp; omega
  have hbs := f_symMerge_bs2_Cross (P ++ U ++ [y] ++ Q) m (by omega) hn (m - a) a m (by omega) (by omega) (by omega)
  obtain ⟨k1, k2, k3⟩ := merge_last Cross_swo (Q := Q) (y := y) (d := m - a) ha hm (by omega) hU rfl
  generalize bs _ (m - a) a m = s at *
  have hup := f_symMerge_down_Cross s (m - s) m (P ++ U ++ [y] ++ Q) (by omega) (by omega) hn
  rw [k3] at hup
  clear k3 hU
  generalize P ++ U ++ [y] ++ Q = A at *
  generalize P ++ sortS Cross.less (U ++ [y]) ++ Q = B at *
  unfold small at hn
  refine Wp.ev ?_
  refine gg [.i IntKind.i64 ((↑m : Int) - (↑a : Int)) ((↑m : Int) - (↑a : Int)), .b ((↑m : Int) - (↑a : Int) == 1) false, .i IntKind.i64 ((↑b : Int) - (↑m : Int)) ((↑b : Int) - (↑m : Int)), .b ((↑b : Int) - (↑m : Int) == 1) true, .a _ _, .a _ _] ⟨oI, fE, oI, tE, o_a hbs, o_a hup, trivial⟩ ?_
  exact ge
theorem f_symMerge_first_Entity (P V Q : List Entity) (x : Entity) (a m b : Nat) (ha : a = P.length) (hm : m = a + 1) (hb : b = m + V.length) (h0 : 0 < V.length) (hV : Sd Entity.less V) (hn : small (P ++ [x] ++ V ++ Q)) :
    Is cx (.call 89 [.all 0 none, vi a, vi m, vi b, .t (.clo 22 [])] [.arr 9 ((P ++ [x] ++ V ++ Q).map Entity.enc) none false])
   ⟨.ret, [], [.arr 9 ((P ++ sortS Entity.less ([x] ++ V) ++ Q).map Entity.enc) none false]⟩ := by
  have hl : (P ++ [x] ++ V ++ Q).length = b + Q.length := by simp; omega
  have hbs := f_symMerge_bs1_Entity (P ++ [x] ++ V ++ Q) a (by omega) hn (b - m) m b (by omega) (by omega) (by omega)
  obtain ⟨k1, k2, k3⟩ := merge_first Entity_swo (Q := Q) (x := x) (d := b - m) ha hm hb (by omega) hV rfl
  generalize bs _ (b - m) m b = s at *
  have hup := f_symMerge_up_Entity (s - 1 - a) a s (P ++ [x] ++ V ++ Q) (by omega) (by omega) hn
  rw [k3] at hup
  clear k3 hV
  generalize P ++ [x] ++ V ++ Q = A at *
  generalize P ++ sortS Entity.less ([x] ++ V) ++ Q = B at *
  unfold small at hn
  refine Wp.ev ?_
  refine gg [.i IntKind.i64 ((↑m : Int) - (↑a : Int)) ((↑m : Int) - (↑a : Int)), .b ((↑m : Int) - (↑a : Int) == 1) true, .a _ _, .a _ _] ⟨oI, tE, o_a hbs, o_a hup, trivial⟩ ?_
  exact ge
theorem f_symMerge_last_Entity (P U Q : List Entity) (y : Entity) (a m b : Nat) (ha : a = P.length) (hm : m = a + U.length) (hb : b = m + 1) (h0 : 1 < U.length) (hU : Sd Entity.less U) (hn : small (P ++ U ++ [y] ++ Q)) :
    Is cx (.call 89 [.all 0 none, vi a, vi m, vi b, .t (.clo 22 [])] [.arr 9 ((P ++ U ++ [y] ++ Q).map Entity.enc) none false])
   ⟨.ret, [], [.arr 9 ((P ++ sortS Entity.less (U ++ [y]) ++ Q).map Entity.enc) none false]⟩ := by
  have hl : (P ++ U ++ [y] ++ Q).length = b + Q.length := by simp; omega
  have hbs := f_symMerge_bs2_Entity (P ++ U ++ [y] ++ Q) m (by omega) hn (m - a) a m (by omega) (by omega) (by omega)
  obtain ⟨k1, k2, k3⟩ := merge_last Entity_swo (Q := Q) (y := y) (d := m - a) ha hm (by omega) hU rfl
  generalize bs _ (m - a) a m = s at *
  have hup := f_symMerge_down_Entity s (m - s) m (P ++ U ++ [y] ++ Q) (by omega) (by omega) hn
  rw [k3] at hup
  clear k3 hU
  generalize P ++ U ++ [y] ++ Q = A at *
  generalize P ++ sortS Entity.less (U ++ [y]) ++ Q = B at *
  unfold small at hn
  refine Wp.ev ?_
  refine gg [.i IntKind.i64 ((↑m : Int) - (↑a : Int)) ((↑m : Int) - (↑a : Int)), .b ((↑m : Int) - (↑a : Int) == 1) false, .i IntKind.i64 ((↑b : Int) - (↑m : Int)) ((↑b : Int) - (↑m : Int)), .b ((↑b : Int) - (↑m : Int) == 1) true, .a _ _, .a _ _] ⟨oI, fE, oI, tE, o_a hbs, o_a hup, trivial⟩ ?_
  exact ge
end Go.Eva.S2

/- Messages: merged in place, all cases. -/
namespace Go.Eva.S2
theorem f_symMerge_genA_Cross (A0 A1 A2 A3 : List Cross) (a m b mid s : Nat) (hmid : (a + b) / 2 = mid) (hc : m ≤ mid)
    (h1 : a + 1 < m) (h2 : m + 1 < b) (hb : b ≤ A0.length) (hn : small A0) (hs : a ≤ s ∧ s ≤ m)
    (hbs : Is cx (.loop 111 [0, 0, 1, 1, 1, 1, 1, 1, 1] 1 [.all 0 none, vi a, vi m, vi b, .t (.clo 80 []), vi mid, vi (mid + m : Nat), vi a, vi m, vi (mid + m - 1 : Nat)] [.arr 15 (A0.map Cross.enc) none false])
      ⟨.exit 8, [.all 0 none, vi a, vi m, vi b, .t (.clo 80 []), vi mid, vi (mid + m : Nat), vi s, vi s, vi (mid + m - 1 : Nat)], [.arr 15 (A0.map Cross.enc) none false]⟩)
    (k1 : s < m → s < mid → Is cx (.call 114 [.all 0 none, vi s, vi m, vi (mid + m - s : Nat), .t (.clo 80 [])] [.arr 15 (A0.map Cross.enc) none false]) ⟨.ret, [], [.arr 15 (A1.map Cross.enc) none false]⟩)
    (k1' : ¬ (s < m ∧ s < mid) → A0 = A1)
    (k2 : a < s → s < mid → Is cx (.call 111 [.all 0 none, vi a, vi s, vi mid, .t (.clo 80 [])] [.arr 15 (A1.map Cross.enc) none false]) ⟨.ret, [], [.arr 15 (A2.map Cross.enc) none false]⟩)
    (k2' : ¬ (a < s ∧ s < mid) → A1 = A2)
    (k3 : s < m → mid + m < b + s → Is cx (.call 111 [.all 0 none, vi mid, vi (mid + m - s : Nat), vi b, .t (.clo 80 [])] [.arr 15 (A2.map Cross.enc) none false]) ⟨.ret, [], [.arr 15 (A3.map Cross.enc) none false]⟩)
    (k3' : ¬ (s < m ∧ mid + m < b + s) → A2 = A3) :
    Is cx (.call 111 [.all 0 none, vi a, vi m, vi b, .t (.clo 80 [])] [.arr 15 (A0.map Cross.enc) none false])
   ⟨.ret, [], [.arr 15 (A3.map Cross.enc) none false]⟩ := by
  have hf : Int.fdiv ((a + b : Nat) : Int) 2 = (mid : Nat) := by rw [Int.fdiv_eq_ediv_of_nonneg _ (by omega)]; omega
  have hmm : a < mid ∧ mid < b := by omega
  unfold small at hn
  have e1 : ((mid + m : Nat) : Int) - 1 = (mid + m - 1 : Nat) := by omega
  have e2 : ((mid + m : Nat) : Int) - s = (mid + m - s : Nat) := by omega
  by_cases c1 : s < m ∧ s < mid
  · have j1 := k1 c1.1 c1.2
    by_cases c2 : a < s
    · have j2 := k2 c2 c1.2
      by_cases c3 : mid + m < b + s
      · have j3 := k3 c1.1 c3
        clear k1' k2' k3' k1 k2 k3
        refine Wp.ev ?_
        refine gg [.i IntKind.i64 ((↑m : Int) - (↑a : Int)) ((↑m : Int) - (↑a : Int)), .b ((↑m : Int) - (↑a : Int) == 1) false, .i IntKind.i64 ((↑b : Int) - (↑m : Int)) ((↑b : Int) - (↑m : Int)), .b ((↑b : Int) - (↑m : Int) == 1) false, .i IntKind.i64 ((↑a : Int) + (↑b : Int)) ((↑(a + b) : Int)), .i IntKind.u64 ((↑(a + b) : Int)) ((↑(a + b) : Int)), .w ((0 : Int) ≤ (1 : Int)), .t (T.int IntKind.u64 (Int.fdiv (↑(a + b) : Int) 2)) (T.int IntKind.u64 (↑mid : Int)), .i IntKind.i64 (↑mid : Int) (↑mid : Int), .i IntKind.i64 ((↑mid : Int) + (↑m : Int)) ((↑(mid + m) : Int)), .b (decide ((↑m : Int) > (↑mid : Int))) false, .i IntKind.i64 ((↑(mid + m) : Int) - 1) ((↑(mid + m - 1) : Int)), .a _ _, .i IntKind.i64 ((↑(mid + m) : Int) - (↑s : Int)) ((↑(mid + m - s) : Int)), .b (decide ((↑s : Int) < (↑m : Int))) true, .tt] ⟨oI, fE, oI, fE, oI, oU, oW, o_t (by rw [hf]), oI, oI, fP, oI, o_a hbs, oI, tP, trivial⟩ ?_
        refine gg [.tt, .tt, .b (decide ((↑m : Int) < (↑(mid + m - s) : Int))) true, .a _ _, .b (decide ((↑a : Int) < (↑s : Int))) true, .tt, .tt, .tt, .b (decide ((↑s : Int) < (↑mid : Int))) true, .a _ _, .b (decide ((↑mid : Int) < (↑(mid + m - s) : Int))) true, .tt, .tt, .tt, .b (decide ((↑(mid + m - s) : Int) < (↑b : Int))) true, .a _ _] ⟨tP, o_a j1, tP, tP, o_a j2, tP, tP, o_a j3, trivial⟩ ?_
        exact ge
      · obtain rfl := k3' (fun h => c3 h.2)
        clear k1' k2' k3' k1 k2 k3
        omega
    · obtain rfl := k2' (fun h => c2 h.1)
      by_cases c3 : mid + m < b + s
      · have j3 := k3 c1.1 c3
        clear k1' k2' k3' k1 k2 k3
        refine Wp.ev ?_
        refine gg [.i IntKind.i64 ((↑m : Int) - (↑a : Int)) ((↑m : Int) - (↑a : Int)), .b ((↑m : Int) - (↑a : Int) == 1) false, .i IntKind.i64 ((↑b : Int) - (↑m : Int)) ((↑b : Int) - (↑m : Int)), .b ((↑b : Int) - (↑m : Int) == 1) false, .i IntKind.i64 ((↑a : Int) + (↑b : Int)) ((↑(a + b) : Int)), .i IntKind.u64 ((↑(a + b) : Int)) ((↑(a + b) : Int)), .w ((0 : Int) ≤ (1 : Int)), .t (T.int IntKind.u64 (Int.fdiv (↑(a + b) : Int) 2)) (T.int IntKind.u64 (↑mid : Int)), .i IntKind.i64 (↑mid : Int) (↑mid : Int), .i IntKind.i64 ((↑mid : Int) + (↑m : Int)) ((↑(mid + m) : Int)), .b (decide ((↑m : Int) > (↑mid : Int))) false, .i IntKind.i64 ((↑(mid + m) : Int) - 1) ((↑(mid + m - 1) : Int)), .a _ _, .i IntKind.i64 ((↑(mid + m) : Int) - (↑s : Int)) ((↑(mid + m - s) : Int)), .b (decide ((↑s : Int) < (↑m : Int))) true, .tt] ⟨oI, fE, oI, fE, oI, oU, oW, o_t (by rw [hf]), oI, oI, fP, oI, o_a hbs, oI, tP, trivial⟩ ?_
        refine gg [.tt, .tt, .b (decide ((↑m : Int) < (↑(mid + m - s) : Int))) true, .a _ _, .b (decide ((↑a : Int) < (↑s : Int))) false, .ff, .ff, .ff, .ff, .b (decide ((↑mid : Int) < (↑(mid + m - s) : Int))) true, .tt, .tt, .tt, .b (decide ((↑(mid + m - s) : Int) < (↑b : Int))) true, .a _ _] ⟨tP, o_a j1, fP, tP, tP, o_a j3, trivial⟩ ?_
        exact ge
      · obtain rfl := k3' (fun h => c3 h.2)
        clear k1' k2' k3' k1 k2 k3
        refine Wp.ev ?_
        refine gg [.i IntKind.i64 ((↑m : Int) - (↑a : Int)) ((↑m : Int) - (↑a : Int)), .b ((↑m : Int) - (↑a : Int) == 1) false, .i IntKind.i64 ((↑b : Int) - (↑m : Int)) ((↑b : Int) - (↑m : Int)), .b ((↑b : Int) - (↑m : Int) == 1) false, .i IntKind.i64 ((↑a : Int) + (↑b : Int)) ((↑(a + b) : Int)), .i IntKind.u64 ((↑(a + b) : Int)) ((↑(a + b) : Int)), .w ((0 : Int) ≤ (1 : Int)), .t (T.int IntKind.u64 (Int.fdiv (↑(a + b) : Int) 2)) (T.int IntKind.u64 (↑mid : Int)), .i IntKind.i64 (↑mid : Int) (↑mid : Int), .i IntKind.i64 ((↑mid : Int) + (↑m : Int)) ((↑(mid + m) : Int)), .b (decide ((↑m : Int) > (↑mid : Int))) false, .i IntKind.i64 ((↑(mid + m) : Int) - 1) ((↑(mid + m - 1) : Int)), .a _ _, .i IntKind.i64 ((↑(mid + m) : Int) - (↑s : Int)) ((↑(mid + m - s) : Int)), .b (decide ((↑s : Int) < (↑m : Int))) true, .tt] ⟨oI, fE, oI, fE, oI, oU, oW, o_t (by rw [hf]), oI, oI, fP, oI, o_a hbs, oI, tP, trivial⟩ ?_
        refine gg [.tt, .tt, .b (decide ((↑m : Int) < (↑(mid + m - s) : Int))) true, .a _ _, .b (decide ((↑a : Int) < (↑s : Int))) false, .ff, .ff, .ff, .ff, .b (decide ((↑mid : Int) < (↑(mid + m - s) : Int))) true, .tt, .tt, .tt, .b (decide ((↑(mid + m - s) : Int) < (↑b : Int))) false] ⟨tP, o_a j1, fP, tP, fP, trivial⟩ ?_
        exact ge
  · obtain rfl := k1' c1
    by_cases c0 : s < m
    · have c4 : ¬ s < mid := fun h => c1 ⟨c0, h⟩
      obtain rfl := k2' (fun h => c4 h.2)
      by_cases c3 : mid + m < b + s
      · have j3 := k3 c0 c3
        clear k1' k2' k3' k1 k2 k3
        by_cases c2 : a < s
        · omega
        · omega
      · obtain rfl := k3' (fun h => c3 h.2)
        clear k1' k2' k3' k1 k2 k3
        by_cases c2 : a < s
        · omega
        · omega
    · obtain rfl := k3' (fun h => c0 h.1)
      by_cases c4 : s < mid
      · have j2 := k2 (by omega) c4
        clear k1' k2' k3' k1 k2 k3
        refine Wp.ev ?_
        refine gg [.i IntKind.i64 ((↑m : Int) - (↑a : Int)) ((↑m : Int) - (↑a : Int)), .b ((↑m : Int) - (↑a : Int) == 1) false, .i IntKind.i64 ((↑b : Int) - (↑m : Int)) ((↑b : Int) - (↑m : Int)), .b ((↑b : Int) - (↑m : Int) == 1) false, .i IntKind.i64 ((↑a : Int) + (↑b : Int)) ((↑(a + b) : Int)), .i IntKind.u64 ((↑(a + b) : Int)) ((↑(a + b) : Int)), .w ((0 : Int) ≤ (1 : Int)), .t (T.int IntKind.u64 (Int.fdiv (↑(a + b) : Int) 2)) (T.int IntKind.u64 (↑mid : Int)), .i IntKind.i64 (↑mid : Int) (↑mid : Int), .i IntKind.i64 ((↑mid : Int) + (↑m : Int)) ((↑(mid + m) : Int)), .b (decide ((↑m : Int) > (↑mid : Int))) false, .i IntKind.i64 ((↑(mid + m) : Int) - 1) ((↑(mid + m - 1) : Int)), .a _ _, .i IntKind.i64 ((↑(mid + m) : Int) - (↑s : Int)) ((↑(mid + m - s) : Int)), .b (decide ((↑s : Int) < (↑m : Int))) false, .ff] ⟨oI, fE, oI, fE, oI, oU, oW, o_t (by rw [hf]), oI, oI, fP, oI, o_a hbs, oI, fP, trivial⟩ ?_
        refine gg [.ff, .ff, .ff, .b (decide ((↑a : Int) < (↑s : Int))) true, .tt, .tt, .tt, .b (decide ((↑s : Int) < (↑mid : Int))) true, .a _ _, .b (decide ((↑mid : Int) < (↑(mid + m - s) : Int))) false, .ff, .ff, .ff, .ff] ⟨tP, tP, o_a j2, fP, trivial⟩ ?_
        exact ge
      · obtain rfl := k2' (fun h => c4 h.2)
        clear k1' k2' k3' k1 k2 k3
        by_cases c2 : a < s
        · refine Wp.ev ?_
          refine gg [.i IntKind.i64 ((↑m : Int) - (↑a : Int)) ((↑m : Int) - (↑a : Int)), .b ((↑m : Int) - (↑a : Int) == 1) false, .i IntKind.i64 ((↑b : Int) - (↑m : Int)) ((↑b : Int) - (↑m : Int)), .b ((↑b : Int) - (↑m : Int) == 1) false, .i IntKind.i64 ((↑a : Int) + (↑b : Int)) ((↑(a + b) : Int)), .i IntKind.u64 ((↑(a + b) : Int)) ((↑(a + b) : Int)), .w ((0 : Int) ≤ (1 : Int)), .t (T.int IntKind.u64 (Int.fdiv (↑(a + b) : Int) 2)) (T.int IntKind.u64 (↑mid : Int)), .i IntKind.i64 (↑mid : Int) (↑mid : Int), .i IntKind.i64 ((↑mid : Int) + (↑m : Int)) ((↑(mid + m) : Int)), .b (decide ((↑m : Int) > (↑mid : Int))) false, .i IntKind.i64 ((↑(mid + m) : Int) - 1) ((↑(mid + m - 1) : Int)), .a _ _, .i IntKind.i64 ((↑(mid + m) : Int) - (↑s : Int)) ((↑(mid + m - s) : Int)), .b (decide ((↑s : Int) < (↑m : Int))) false, .ff] ⟨oI, fE, oI, fE, oI, oU, oW, o_t (by rw [hf]), oI, oI, fP, oI, o_a hbs, oI, fP, trivial⟩ ?_
          refine gg [.ff, .ff, .ff, .b (decide ((↑a : Int) < (↑s : Int))) true, .tt, .tt, .tt, .b (decide ((↑s : Int) < (↑mid : Int))) false, .b (decide ((↑mid : Int) < (↑(mid + m - s) : Int))) false, .ff, .ff, .ff, .ff] ⟨tP, fP, fP, trivial⟩ ?_
          exact ge
        · omega
theorem f_symMerge_genB_Cross (A0 A1 A2 A3 : List Cross) (a m b mid s : Nat) (hmid : (a + b) / 2 = mid) (hc : mid < m)
    (h1 : a + 1 < m) (h2 : m + 1 < b) (hb : b ≤ A0.length) (hn : small A0) (hs : mid + m - b ≤ s ∧ s ≤ mid)
    (hbs : Is cx (.loop 111 [0, 0, 1, 1, 1, 1, 1, 1, 1] 1 [.all 0 none, vi a, vi m, vi b, .t (.clo 80 []), vi mid, vi (mid + m : Nat), vi (mid + m - b : Nat), vi mid, vi (mid + m - 1 : Nat)] [.arr 15 (A0.map Cross.enc) none false])
      ⟨.exit 8, [.all 0 none, vi a, vi m, vi b, .t (.clo 80 []), vi mid, vi (mid + m : Nat), vi s, vi s, vi (mid + m - 1 : Nat)], [.arr 15 (A0.map Cross.enc) none false]⟩)
    (k1 : s < m → s < mid → Is cx (.call 114 [.all 0 none, vi s, vi m, vi (mid + m - s : Nat), .t (.clo 80 [])] [.arr 15 (A0.map Cross.enc) none false]) ⟨.ret, [], [.arr 15 (A1.map Cross.enc) none false]⟩)
    (k1' : ¬ (s < m ∧ s < mid) → A0 = A1)
    (k2 : a < s → s < mid → Is cx (.call 111 [.all 0 none, vi a, vi s, vi mid, .t (.clo 80 [])] [.arr 15 (A1.map Cross.enc) none false]) ⟨.ret, [], [.arr 15 (A2.map Cross.enc) none false]⟩)
    (k2' : ¬ (a < s ∧ s < mid) → A1 = A2)
    (k3 : s < m → mid + m < b + s → Is cx (.call 111 [.all 0 none, vi mid, vi (mid + m - s : Nat), vi b, .t (.clo 80 [])] [.arr 15 (A2.map Cross.enc) none false]) ⟨.ret, [], [.arr 15 (A3.map Cross.enc) none false]⟩)
    (k3' : ¬ (s < m ∧ mid + m < b + s) → A2 = A3) :
    Is cx (.call 111 [.all 0 none, vi a, vi m, vi b, .t (.clo 80 [])] [.arr 15 (A0.map Cross.enc) none false])
   ⟨.ret, [], [.arr 15 (A3.map Cross.enc) none false]⟩ := by
  have hf : Int.fdiv ((a + b : Nat) : Int) 2 = (mid : Nat) := by rw [Int.fdiv_eq_ediv_of_nonneg _ (by omega)]; omega
  have hmm : a < mid ∧ mid < b := by omega
  unfold small at hn
  have e1 : ((mid + m : Nat) : Int) - 1 = (mid + m - 1 : Nat) := by omega
  have e2 : ((mid + m : Nat) : Int) - s = (mid + m - s : Nat) := by omega
  have e3 : ((mid + m : Nat) : Int) - b = (mid + m - b : Nat) := by omega
  by_cases c1 : s < m ∧ s < mid
  · have j1 := k1 c1.1 c1.2
    by_cases c2 : a < s
    · have j2 := k2 c2 c1.2
      by_cases c3 : mid + m < b + s
      · have j3 := k3 c1.1 c3
        clear k1' k2' k3' k1 k2 k3
        refine Wp.ev ?_
        refine gg [.i IntKind.i64 ((↑m : Int) - (↑a : Int)) ((↑m : Int) - (↑a : Int)), .b ((↑m : Int) - (↑a : Int) == 1) false, .i IntKind.i64 ((↑b : Int) - (↑m : Int)) ((↑b : Int) - (↑m : Int)), .b ((↑b : Int) - (↑m : Int) == 1) false, .i IntKind.i64 ((↑a : Int) + (↑b : Int)) ((↑(a + b) : Int)), .i IntKind.u64 ((↑(a + b) : Int)) ((↑(a + b) : Int)), .w ((0 : Int) ≤ (1 : Int)), .t (T.int IntKind.u64 (Int.fdiv (↑(a + b) : Int) 2)) (T.int IntKind.u64 (↑mid : Int)), .i IntKind.i64 (↑mid : Int) (↑mid : Int), .i IntKind.i64 ((↑mid : Int) + (↑m : Int)) ((↑(mid + m) : Int)), .b (decide ((↑m : Int) > (↑mid : Int))) true, .i IntKind.i64 ((↑(mid + m) : Int) - (↑b : Int)) ((↑(mid + m - b) : Int)), .i IntKind.i64 ((↑(mid + m) : Int) - 1) ((↑(mid + m - 1) : Int)), .a _ _, .i IntKind.i64 ((↑(mid + m) : Int) - (↑s : Int)) ((↑(mid + m - s) : Int)), .b (decide ((↑s : Int) < (↑m : Int))) true] ⟨oI, fE, oI, fE, oI, oU, oW, o_t (by rw [hf]), oI, oI, tP, oI, oI, o_a hbs, oI, tP, trivial⟩ ?_
        refine gg [.tt, .tt, .tt, .b (decide ((↑m : Int) < (↑(mid + m - s) : Int))) true, .a _ _, .b (decide ((↑a : Int) < (↑s : Int))) true, .tt, .tt, .tt, .b (decide ((↑s : Int) < (↑mid : Int))) true, .a _ _, .b (decide ((↑mid : Int) < (↑(mid + m - s) : Int))) true, .tt, .tt, .tt, .b (decide ((↑(mid + m - s) : Int) < (↑b : Int))) true] ⟨tP, o_a j1, tP, tP, o_a j2, tP, tP, trivial⟩ ?_
        refine gg [.a _ _] ⟨o_a j3, trivial⟩ ?_
        exact ge
      · obtain rfl := k3' (fun h => c3 h.2)
        clear k1' k2' k3' k1 k2 k3
        refine Wp.ev ?_
        refine gg [.i IntKind.i64 ((↑m : Int) - (↑a : Int)) ((↑m : Int) - (↑a : Int)), .b ((↑m : Int) - (↑a : Int) == 1) false, .i IntKind.i64 ((↑b : Int) - (↑m : Int)) ((↑b : Int) - (↑m : Int)), .b ((↑b : Int) - (↑m : Int) == 1) false, .i IntKind.i64 ((↑a : Int) + (↑b : Int)) ((↑(a + b) : Int)), .i IntKind.u64 ((↑(a + b) : Int)) ((↑(a + b) : Int)), .w ((0 : Int) ≤ (1 : Int)), .t (T.int IntKind.u64 (Int.fdiv (↑(a + b) : Int) 2)) (T.int IntKind.u64 (↑mid : Int)), .i IntKind.i64 (↑mid : Int) (↑mid : Int), .i IntKind.i64 ((↑mid : Int) + (↑m : Int)) ((↑(mid + m) : Int)), .b (decide ((↑m : Int) > (↑mid : Int))) true, .i IntKind.i64 ((↑(mid + m) : Int) - (↑b : Int)) ((↑(mid + m - b) : Int)), .i IntKind.i64 ((↑(mid + m) : Int) - 1) ((↑(mid + m - 1) : Int)), .a _ _, .i IntKind.i64 ((↑(mid + m) : Int) - (↑s : Int)) ((↑(mid + m - s) : Int)), .b (decide ((↑s : Int) < (↑m : Int))) true] ⟨oI, fE, oI, fE, oI, oU, oW, o_t (by rw [hf]), oI, oI, tP, oI, oI, o_a hbs, oI, tP, trivial⟩ ?_
        refine gg [.tt, .tt, .tt, .b (decide ((↑m : Int) < (↑(mid + m - s) : Int))) true, .a _ _, .b (decide ((↑a : Int) < (↑s : Int))) true, .tt, .tt, .tt, .b (decide ((↑s : Int) < (↑mid : Int))) true, .a _ _, .b (decide ((↑mid : Int) < (↑(mid + m - s) : Int))) true, .tt, .tt, .tt, .b (decide ((↑(mid + m - s) : Int) < (↑b : Int))) false] ⟨tP, o_a j1, tP, tP, o_a j2, tP, fP, trivial⟩ ?_
        exact ge
    · obtain rfl := k2' (fun h => c2 h.1)
      by_cases c3 : mid + m < b + s
      · have j3 := k3 c1.1 c3
        clear k1' k2' k3' k1 k2 k3
        omega
      · obtain rfl := k3' (fun h => c3 h.2)
        clear k1' k2' k3' k1 k2 k3
        refine Wp.ev ?_
        refine gg [.i IntKind.i64 ((↑m : Int) - (↑a : Int)) ((↑m : Int) - (↑a : Int)), .b ((↑m : Int) - (↑a : Int) == 1) false, .i IntKind.i64 ((↑b : Int) - (↑m : Int)) ((↑b : Int) - (↑m : Int)), .b ((↑b : Int) - (↑m : Int) == 1) false, .i IntKind.i64 ((↑a : Int) + (↑b : Int)) ((↑(a + b) : Int)), .i IntKind.u64 ((↑(a + b) : Int)) ((↑(a + b) : Int)), .w ((0 : Int) ≤ (1 : Int)), .t (T.int IntKind.u64 (Int.fdiv (↑(a + b) : Int) 2)) (T.int IntKind.u64 (↑mid : Int)), .i IntKind.i64 (↑mid : Int) (↑mid : Int), .i IntKind.i64 ((↑mid : Int) + (↑m : Int)) ((↑(mid + m) : Int)), .b (decide ((↑m : Int) > (↑mid : Int))) true, .i IntKind.i64 ((↑(mid + m) : Int) - (↑b : Int)) ((↑(mid + m - b) : Int)), .i IntKind.i64 ((↑(mid + m) : Int) - 1) ((↑(mid + m - 1) : Int)), .a _ _, .i IntKind.i64 ((↑(mid + m) : Int) - (↑s : Int)) ((↑(mid + m - s) : Int)), .b (decide ((↑s : Int) < (↑m : Int))) true] ⟨oI, fE, oI, fE, oI, oU, oW, o_t (by rw [hf]), oI, oI, tP, oI, oI, o_a hbs, oI, tP, trivial⟩ ?_
        refine gg [.tt, .tt, .tt, .b (decide ((↑m : Int) < (↑(mid + m - s) : Int))) true, .a _ _, .b (decide ((↑a : Int) < (↑s : Int))) false, .ff, .ff, .ff, .ff, .b (decide ((↑mid : Int) < (↑(mid + m - s) : Int))) true, .tt, .tt, .tt, .b (decide ((↑(mid + m - s) : Int) < (↑b : Int))) false] ⟨tP, o_a j1, fP, tP, fP, trivial⟩ ?_
        exact ge
  · obtain rfl := k1' c1
    by_cases c0 : s < m
    · have c4 : ¬ s < mid := fun h => c1 ⟨c0, h⟩
      obtain rfl := k2' (fun h => c4 h.2)
      by_cases c3 : mid + m < b + s
      · have j3 := k3 c0 c3
        clear k1' k2' k3' k1 k2 k3
        by_cases c2 : a < s
        · refine Wp.ev ?_
          refine gg [.i IntKind.i64 ((↑m : Int) - (↑a : Int)) ((↑m : Int) - (↑a : Int)), .b ((↑m : Int) - (↑a : Int) == 1) false, .i IntKind.i64 ((↑b : Int) - (↑m : Int)) ((↑b : Int) - (↑m : Int)), .b ((↑b : Int) - (↑m : Int) == 1) false, .i IntKind.i64 ((↑a : Int) + (↑b : Int)) ((↑(a + b) : Int)), .i IntKind.u64 ((↑(a + b) : Int)) ((↑(a + b) : Int)), .w ((0 : Int) ≤ (1 : Int)), .t (T.int IntKind.u64 (Int.fdiv (↑(a + b) : Int) 2)) (T.int IntKind.u64 (↑mid : Int)), .i IntKind.i64 (↑mid : Int) (↑mid : Int), .i IntKind.i64 ((↑mid : Int) + (↑m : Int)) ((↑(mid + m) : Int)), .b (decide ((↑m : Int) > (↑mid : Int))) true, .i IntKind.i64 ((↑(mid + m) : Int) - (↑b : Int)) ((↑(mid + m - b) : Int)), .i IntKind.i64 ((↑(mid + m) : Int) - 1) ((↑(mid + m - 1) : Int)), .a _ _, .i IntKind.i64 ((↑(mid + m) : Int) - (↑s : Int)) ((↑(mid + m - s) : Int)), .b (decide ((↑s : Int) < (↑m : Int))) true] ⟨oI, fE, oI, fE, oI, oU, oW, o_t (by rw [hf]), oI, oI, tP, oI, oI, o_a hbs, oI, tP, trivial⟩ ?_
          refine gg [.tt, .tt, .tt, .b (decide ((↑m : Int) < (↑(mid + m - s) : Int))) false, .b (decide ((↑a : Int) < (↑s : Int))) true, .tt, .tt, .tt, .b (decide ((↑s : Int) < (↑mid : Int))) false, .b (decide ((↑mid : Int) < (↑(mid + m - s) : Int))) true, .tt, .tt, .tt, .b (decide ((↑(mid + m - s) : Int) < (↑b : Int))) true, .a _ _] ⟨fP, tP, fP, tP, tP, o_a j3, trivial⟩ ?_
          exact ge
        · omega
      · obtain rfl := k3' (fun h => c3 h.2)
        clear k1' k2' k3' k1 k2 k3
        by_cases c2 : a < s
        · omega
        · omega
    · obtain rfl := k3' (fun h => c0 h.1)
      by_cases c4 : s < mid
      · have j2 := k2 (by omega) c4
        clear k1' k2' k3' k1 k2 k3
        omega
      · obtain rfl := k2' (fun h => c4 h.2)
        clear k1' k2' k3' k1 k2 k3
        by_cases c2 : a < s
        · omega
        · omega
theorem f_symMerge_Cross : ∀ (n : Nat) (P U V Q : List Cross) (a m b : Nat), U.length + V.length ≤ n → a = P.length → m = a + U.length → b = m + V.length → 0 < U.length → 0 < V.length → Sd Cross.less U → Sd Cross.less V → small (P ++ U ++ V ++ Q) →
    Is cx (.call 111 [.all 0 none, vi a, vi m, vi b, .t (.clo 80 [])] [.arr 15 ((P ++ U ++ V ++ Q).map Cross.enc) none false])
   ⟨.ret, [], [.arr 15 ((P ++ sortS Cross.less (U ++ V) ++ Q).map Cross.enc) none false]⟩ := by
  intro n
  induction n with
  | zero => intros; omega
  | succ n ih =>
    intro P U V Q a m b hl ha hm hb hu hv hU hV hn
    by_cases hu1 : U.length = 1
    · obtain ⟨x, rfl⟩ := List.length_eq_one_iff.1 hu1
      exact f_symMerge_first_Cross P V Q x a m b ha (by simpa using hm) hb hv hV hn
    · by_cases hv1 : V.length = 1
      · obtain ⟨y, rfl⟩ := List.length_eq_one_iff.1 hv1
        exact f_symMerge_last_Cross P U Q y a m b ha hm (by simpa using hb) (by omega) hU hn
      · obtain ⟨mid, hmid⟩ : ∃ mid, (a + b) / 2 = mid := ⟨_, rfl⟩
        obtain ⟨s0, r0, hs0⟩ : ∃ s0 r0, m ≤ mid ∧ s0 = a ∧ r0 = m ∨ mid < m ∧ s0 = mid + m - b ∧ r0 = mid := by
          by_cases h : m ≤ mid
          · exact ⟨a, m, .inl ⟨h, rfl, rfl⟩⟩
          · exact ⟨mid + m - b, mid, .inr ⟨by omega, rfl, rfl⟩⟩
        have hlen : (P ++ U ++ V ++ Q).length = b + Q.length := by simp; omega
        have hbs := f_symMerge_bs3_Cross (P ++ U ++ V ++ Q) a m b mid (mid + m) (mid + m - 1) hn (r0 - s0) s0 r0 (by omega) (by omega) (by omega) (by omega) (by omega)
        have hp : (fun c => !Cross.less (gt (P ++ U ++ V ++ Q) (mid + m - 1 - c)) (gt (P ++ U ++ V ++ Q) c)) = fun c => !Cross.less (gt (P ++ U ++ V ++ Q) (mid + m - 1 - c)) (gt (P ++ U ++ V ++ Q) c) := rfl
        obtain ⟨k1, k2, U1, U2, V1, V2, e1, e2, l1, l2, e3, u1, u2, v1, v2⟩ := merge_gen Cross_swo (Q := Q) ha hm hb hU hV hu hv hmid hs0 (d := r0 - s0) (by omega) rfl
        generalize bs _ (r0 - s0) s0 r0 = s at *
        subst e1 e2
        simp only [List.length_append] at hl hm hb hu hv hlen hu1 hv1
        have hsm : ∀ {X Y : List Cross}, X.length = Y.length → small Y → small X := fun h k => by unfold small at *; rw [h]; exact k
        have g1 : s < m → s < mid → Is cx (.call 114 [.all 0 none, vi s, vi m, vi (mid + m - s : Nat), .t (.clo 80 [])] [.arr 15 ((P ++ (U1 ++ U2) ++ (V1 ++ V2) ++ Q).map Cross.enc) none false]) ⟨.ret, [], [.arr 15 ((P ++ U1 ++ V1 ++ (U2 ++ V2 ++ Q)).map Cross.enc) none false]⟩ := by
          intro c1 c2
          have := f_rotate_Cross (P ++ (U1 ++ U2) ++ (V1 ++ V2) ++ Q) s m (mid + m - s) c1 (by omega) (by simp; omega) hn
          have e : (P ++ (U1 ++ U2) ++ (V1 ++ V2) ++ Q).take s ++ seg (P ++ (U1 ++ U2) ++ (V1 ++ V2) ++ Q) m (mid + m - s) ++ seg (P ++ (U1 ++ U2) ++ (V1 ++ V2) ++ Q) s m ++ (P ++ (U1 ++ U2) ++ (V1 ++ V2) ++ Q).drop (mid + m - s) = P ++ U1 ++ V1 ++ (U2 ++ V2 ++ Q) := by
            have f1 : P ++ (U1 ++ U2) ++ (V1 ++ V2) ++ Q = (P ++ U1) ++ (U2 ++ (V1 ++ (V2 ++ Q))) := by simp
            have f2 : P ++ (U1 ++ U2) ++ (V1 ++ V2) ++ Q = (P ++ U1 ++ U2) ++ (V1 ++ (V2 ++ Q)) := by simp
            have f3 : P ++ (U1 ++ U2) ++ (V1 ++ V2) ++ Q = (P ++ U1 ++ U2 ++ V1) ++ (V2 ++ Q) := by simp
            have g1 : (P ++ (U1 ++ U2) ++ (V1 ++ V2) ++ Q).take s = P ++ U1 := by rw [f1, List.take_left' (by simp; omega)]
            have g2 : seg (P ++ (U1 ++ U2) ++ (V1 ++ V2) ++ Q) m (mid + m - s) = V1 := by unfold seg; rw [f2, List.drop_left' (by simp; omega), List.take_left' (by omega)]
            have g3 : seg (P ++ (U1 ++ U2) ++ (V1 ++ V2) ++ Q) s m = U2 := by unfold seg; rw [f1, List.drop_left' (by simp; omega), List.take_left' (by omega)]
            have g4 : (P ++ (U1 ++ U2) ++ (V1 ++ V2) ++ Q).drop (mid + m - s) = V2 ++ Q := by rw [f3, List.drop_left' (by simp; omega)]
            rw [g1, g2, g3, g4]; simp
          rw [e] at this
          exact this
        have g1' : ¬ (s < m ∧ s < mid) → (P ++ (U1 ++ U2) ++ (V1 ++ V2) ++ Q) = (P ++ U1 ++ V1 ++ (U2 ++ V2 ++ Q)) := by
          intro c
          have : U2 = [] ∨ V1 = [] := by
            by_cases h : s < m
            · right; exact List.eq_nil_of_length_eq_zero (by omega)
            · left; exact List.eq_nil_of_length_eq_zero (by omega)
          rcases this with rfl | rfl <;> simp
        have g2 : a < s → s < mid → Is cx (.call 111 [.all 0 none, vi a, vi s, vi mid, .t (.clo 80 [])] [.arr 15 ((P ++ U1 ++ V1 ++ (U2 ++ V2 ++ Q)).map Cross.enc) none false]) ⟨.ret, [], [.arr 15 ((P ++ sortS Cross.less (U1 ++ V1) ++ (U2 ++ V2 ++ Q)).map Cross.enc) none false]⟩ := by
          intro c1 c2
          exact ih P U1 V1 (U2 ++ V2 ++ Q) a s mid (by omega) ha (by omega) (by omega) (by omega) (by omega) u1 v1 (hsm (by simp; omega) hn)
        have g2' : ¬ (a < s ∧ s < mid) → (P ++ U1 ++ V1 ++ (U2 ++ V2 ++ Q)) = (P ++ sortS Cross.less (U1 ++ V1) ++ (U2 ++ V2 ++ Q)) := by
          intro c
          have : U1 = [] ∨ V1 = [] := by
            by_cases h : a < s
            · right; exact List.eq_nil_of_length_eq_zero (by omega)
            · left; exact List.eq_nil_of_length_eq_zero (by omega)
          rcases this with rfl | rfl
          · simp [sortS_self Cross_swo v1]
          · simp [sortS_self Cross_swo u1]
        have g3 : s < m → mid + m < b + s → Is cx (.call 111 [.all 0 none, vi mid, vi (mid + m - s : Nat), vi b, .t (.clo 80 [])] [.arr 15 ((P ++ sortS Cross.less (U1 ++ V1) ++ (U2 ++ V2 ++ Q)).map Cross.enc) none false]) ⟨.ret, [], [.arr 15 ((P ++ sortS Cross.less ((U1 ++ U2) ++ (V1 ++ V2)) ++ Q).map Cross.enc) none false]⟩ := by
          intro c1 c2
          have hL : (sortS Cross.less (U1 ++ V1)).length = U1.length + V1.length := by rw [sortS_len Cross_swo]; simp
          have := ih (P ++ sortS Cross.less (U1 ++ V1)) U2 V2 Q mid (mid + m - s) b (by omega) (by simp; omega) (by omega) (by omega) (by omega) (by omega) u2 v2 (hsm (by simp; omega) hn)
          rw [← e3]
          simpa using this
        have g3' : ¬ (s < m ∧ mid + m < b + s) → (P ++ sortS Cross.less (U1 ++ V1) ++ (U2 ++ V2 ++ Q)) = (P ++ sortS Cross.less ((U1 ++ U2) ++ (V1 ++ V2)) ++ Q) := by
          intro c
          have : U2 = [] ∨ V2 = [] := by
            by_cases h : s < m
            · right; exact List.eq_nil_of_length_eq_zero (by omega)
            · left; exact List.eq_nil_of_length_eq_zero (by omega)
          rw [← e3]
          rcases this with rfl | rfl
          · simp [sortS_self Cross_swo v2]
          · simp [sortS_self Cross_swo u2]
        rcases hs0 with ⟨hc, rfl, rfl⟩ | ⟨hc, rfl, rfl⟩
        · exact f_symMerge_genA_Cross _ _ _ _ s0 r0 b mid s hmid hc (by omega) (by omega) (by simp; omega) hn ⟨k1, k2⟩ hbs g1 g1' g2 g2' g3 g3'
        · exact f_symMerge_genB_Cross _ _ _ _ a m b r0 s hmid hc (by omega) (by omega) (by simp; omega) hn ⟨k1, k2⟩ hbs g1 g1' g2 g2' g3 g3'
theorem f_symMerge_genA_Entity (A0 A1 A2 A3 : List Entity) (a m b mid s : Nat) (hmid : (a + b) / 2 = mid) (hc : m ≤ mid)
    (h1 : a + 1 < m) (h2 : m + 1 < b) (hb : b ≤ A0.length) (hn : small A0) (hs : a ≤ s ∧ s ≤ m)
    (hbs : Is cx (.loop 89 [0, 0, 1, 1, 1, 1, 1, 1, 1] 1 [.all 0 none, vi a, vi m, vi b, .t (.clo 22 []), vi mid, vi (mid + m : Nat), vi a, vi m, vi (mid + m - 1 : Nat)] [.arr 9 (A0.map Entity.enc) none false])
      ⟨.exit 8, [.all 0 none, vi a, vi m, vi b, .t (.clo 22 []), vi mid, vi (mid + m : Nat), vi s, vi s, vi (mid + m - 1 : Nat)], [.arr 9 (A0.map Entity.enc) none false]⟩)
    (k1 : s < m → s < mid → Is cx (.call 106 [.all 0 none, vi s, vi m, vi (mid + m - s : Nat), .t (.clo 22 [])] [.arr 9 (A0.map Entity.enc) none false]) ⟨.ret, [], [.arr 9 (A1.map Entity.enc) none false]⟩)
    (k1' : ¬ (s < m ∧ s < mid) → A0 = A1)
    (k2 : a < s → s < mid → Is cx (.call 89 [.all 0 none, vi a, vi s, vi mid, .t (.clo 22 [])] [.arr 9 (A1.map Entity.enc) none false]) ⟨.ret, [], [.arr 9 (A2.map Entity.enc) none false]⟩)
    (k2' : ¬ (a < s ∧ s < mid) → A1 = A2)
    (k3 : s < m → mid + m < b + s → Is cx (.call 89 [.all 0 none, vi mid, vi (mid + m - s : Nat), vi b, .t (.clo 22 [])] [.arr 9 (A2.map Entity.enc) none false]) ⟨.ret, [], [.arr 9 (A3.map Entity.enc) none false]⟩)
    (k3' : ¬ (s < m ∧ mid + m < b + s) → A2 = A3) :
    Is cx (.call 89 [.all 0 none, vi a, vi m, vi b, .t (.clo 22 [])] [.arr 9 (A0.map Entity.enc) none false])
   ⟨.ret, [], [.arr 9 (A3.map Entity.enc) none false]⟩ := by
  have hf : Int.fdiv ((a + b : Nat) : Int) 2 = (mid : Nat) := by rw [Int.fdiv_eq_ediv_of_nonneg _ (by omega)]; omega
  have hmm : a < mid ∧ mid < b := by omega
  unfold small at hn
  have e1 : ((mid + m : Nat) : Int) - 1 = (mid + m - 1 : Nat) := by omega
  have e2 : ((mid + m : Nat) : Int) - s = (mid + m - s : Nat) := by omega
  by_cases c1 : s < m ∧ s < mid
  · have j1 := k1 c1.1 c1.2
    by_cases c2 : a < s
    · have j2 := k2 c2 c1.2
      by_cases c3 : mid + m < b + s
      · have j3 := k3 c1.1 c3
        clear k1' k2' k3' k1 k2 k3
        refine Wp.ev ?_
        refine gg [.i IntKind.i64 ((↑m : Int) - (↑a : Int)) ((↑m : Int) - (↑a : Int)), .b ((↑m : Int) - (↑a : Int) == 1) false, .i IntKind.i64 ((↑b : Int) - (↑m : Int)) ((↑b : Int) - (↑m : Int)), .b ((↑b : Int) - (↑m : Int) == 1) false, .i IntKind.i64 ((↑a : Int) + (↑b : Int)) ((↑(a + b) : Int)), .i IntKind.u64 ((↑(a + b) : Int)) ((↑(a + b) : Int)), .w ((0 : Int) ≤ (1 : Int)), .t (T.int IntKind.u64 (Int.fdiv (↑(a + b) : Int) 2)) (T.int IntKind.u64 (↑mid : Int)), .i IntKind.i64 (↑mid : Int) (↑mid : Int), .i IntKind.i64 ((↑mid : Int) + (↑m : Int)) ((↑(mid + m) : Int)), .b (decide ((↑m : Int) > (↑mid : Int))) false, .i IntKind.i64 ((↑(mid + m) : Int) - 1) ((↑(mid + m - 1) : Int)), .a _ _, .i IntKind.i64 ((↑(mid + m) : Int) - (↑s : Int)) ((↑(mid + m - s) : Int)), .b (decide ((↑s : Int) < (↑m : Int))) true, .tt] ⟨oI, fE, oI, fE, oI, oU, oW, o_t (by rw [hf]), oI, oI, fP, oI, o_a hbs, oI, tP, trivial⟩ ?_
        refine gg [.tt, .tt, .b (decide ((↑m : Int) < (↑(mid + m - s) : Int))) true, .a _ _, .b (decide ((↑a : Int) < (↑s : Int))) true, .tt, .tt, .tt, .b (decide ((↑s : Int) < (↑mid : Int))) true, .a _ _, .b (decide ((↑mid : Int) < (↑(mid + m - s) : Int))) true, .tt, .tt, .tt, .b (decide ((↑(mid + m - s) : Int) < (↑b : Int))) true, .a _ _] ⟨tP, o_a j1, tP, tP, o_a j2, tP, tP, o_a j3, trivial⟩ ?_
        exact ge
      · obtain rfl := k3' (fun h => c3 h.2)
        clear k1' k2' k3' k1 k2 k3
        omega
    · obtain rfl := k2' (fun h => c2 h.1)
      by_cases c3 : mid + m < b + s
      · have j3 := k3 c1.1 c3
        clear k1' k2' k3' k1 k2 k3
        refine Wp.ev ?_
        refine gg [.i IntKind.i64 ((↑m : Int) - (↑a : Int)) ((↑m : Int) - (↑a : Int)), .b ((↑m : Int) - (↑a : Int) == 1) false, .i IntKind.i64 ((↑b : Int) - (↑m : Int)) ((↑b : Int) - (↑m : Int)), .b ((↑b : Int) - (↑m : Int) == 1) false, .i IntKind.i64 ((↑a : Int) + (↑b : Int)) ((↑(a + b) : Int)), .i IntKind.u64 ((↑(a + b) : Int)) ((↑(a + b) : Int)), .w ((0 : Int) ≤ (1 : Int)), .t (T.int IntKind.u64 (Int.fdiv (↑(a + b) : Int) 2)) (T.int IntKind.u64 (↑mid : Int)), .i IntKind.i64 (↑mid : Int) (↑mid : Int), .i IntKind.i64 ((↑mid : Int) + (↑m : Int)) ((↑(mid + m) : Int)), .b (decide ((↑m : Int) > (↑mid : Int))) false, .i IntKind.i64 ((↑(mid + m) : Int) - 1) ((↑(mid + m - 1) : Int)), .a _ _, .i IntKind.i64 ((↑(mid + m) : Int) - (↑s : Int)) ((↑(mid + m - s) : Int)), .b (decide ((↑s : Int) < (↑m : Int))) true, .tt] ⟨oI, fE, oI, fE, oI, oU, oW, o_t (by rw [hf]), oI, oI, fP, oI, o_a hbs, oI, tP, trivial⟩ ?_
        refine gg [.tt, .tt, .b (decide ((↑m : Int) < (↑(mid + m - s) : Int))) true, .a _ _, .b (decide ((↑a : Int) < (↑s : Int))) false, .ff, .ff, .ff, .ff, .b (decide ((↑mid : Int) < (↑(mid + m - s) : Int))) true, .tt, .tt, .tt, .b (decide ((↑(mid + m - s) : Int) < (↑b : Int))) true, .a _ _] ⟨tP, o_a j1, fP, tP, tP, o_a j3, trivial⟩ ?_
        exact ge
      · obtain rfl := k3' (fun h => c3 h.2)
        clear k1' k2' k3' k1 k2 k3
        refine Wp.ev ?_
        refine gg [.i IntKind.i64 ((↑m : Int) - (↑a : Int)) ((↑m : Int) - (↑a : Int)), .b ((↑m : Int) - (↑a : Int) == 1) false, .i IntKind.i64 ((↑b : Int) - (↑m : Int)) ((↑b : Int) - (↑m : Int)), .b ((↑b : Int) - (↑m : Int) == 1) false, .i IntKind.i64 ((↑a : Int) + (↑b : Int)) ((↑(a + b) : Int)), .i IntKind.u64 ((↑(a + b) : Int)) ((↑(a + b) : Int)), .w ((0 : Int) ≤ (1 : Int)), .t (T.int IntKind.u64 (Int.fdiv (↑(a + b) : Int) 2)) (T.int IntKind.u64 (↑mid : Int)), .i IntKind.i64 (↑mid : Int) (↑mid : Int), .i IntKind.i64 ((↑mid : Int) + (↑m : Int)) ((↑(mid + m) : Int)), .b (decide ((↑m : Int) > (↑mid : Int))) false, .i IntKind.i64 ((↑(mid + m) : Int) - 1) ((↑(mid + m - 1) : Int)), .a _ _, .i IntKind.i64 ((↑(mid + m) : Int) - (↑s : Int)) ((↑(mid + m - s) : Int)), .b (decide ((↑s : Int) < (↑m : Int))) true, .tt] ⟨oI, fE, oI, fE, oI, oU, oW, o_t (by rw [hf]), oI, oI, fP, oI, o_a hbs, oI, tP, trivial⟩ ?_
        refine gg [.tt, .tt, .b (decide ((↑m : Int) < (↑(mid + m - s) : Int))) true, .a _ _, .b (decide ((↑a : Int) < (↑s : Int))) false, .ff, .ff, .ff, .ff, .b (decide ((↑mid : Int) < (↑(mid + m - s) : Int))) true, .tt, .tt, .tt, .b (decide ((↑(mid + m - s) : Int) < (↑b : Int))) false] ⟨tP, o_a j1, fP, tP, fP, trivial⟩ ?_
        exact ge
  · obtain rfl := k1' c1
    by_cases c0 : s < m
    · have c4 : ¬ s < mid := fun h => c1 ⟨c0, h⟩
      obtain rfl := k2' (fun h => c4 h.2)
      by_cases c3 : mid + m < b + s
      · have j3 := k3 c0 c3
        clear k1' k2' k3' k1 k2 k3
        by_cases c2 : a < s
        · omega
        · omega
      · obtain rfl := k3' (fun h => c3 h.2)
        clear k1' k2' k3' k1 k2 k3
        by_cases c2 : a < s
        · omega
        · omega
    · obtain rfl := k3' (fun h => c0 h.1)
      by_cases c4 : s < mid
      · have j2 := k2 (by omega) c4
        clear k1' k2' k3' k1 k2 k3
        refine Wp.ev ?_
        refine gg [.i IntKind.i64 ((↑m : Int) - (↑a : Int)) ((↑m : Int) - (↑a : Int)), .b ((↑m : Int) - (↑a : Int) == 1) false, .i IntKind.i64 ((↑b : Int) - (↑m : Int)) ((↑b : Int) - (↑m : Int)), .b ((↑b : Int) - (↑m : Int) == 1) false, .i IntKind.i64 ((↑a : Int) + (↑b : Int)) ((↑(a + b) : Int)), .i IntKind.u64 ((↑(a + b) : Int)) ((↑(a + b) : Int)), .w ((0 : Int) ≤ (1 : Int)), .t (T.int IntKind.u64 (Int.fdiv (↑(a + b) : Int) 2)) (T.int IntKind.u64 (↑mid : Int)), .i IntKind.i64 (↑mid : Int) (↑mid : Int), .i IntKind.i64 ((↑mid : Int) + (↑m : Int)) ((↑(mid + m) : Int)), .b (decide ((↑m : Int) > (↑mid : Int))) false, .i IntKind.i64 ((↑(mid + m) : Int) - 1) ((↑(mid + m - 1) : Int)), .a _ _, .i IntKind.i64 ((↑(mid + m) : Int) - (↑s : Int)) ((↑(mid + m - s) : Int)), .b (decide ((↑s : Int) < (↑m : Int))) false, .ff] ⟨oI, fE, oI, fE, oI, oU, oW, o_t (by rw [hf]), oI, oI, fP, oI, o_a hbs, oI, fP, trivial⟩ ?_
        refine gg [.ff, .ff, .ff, .b (decide ((↑a : Int) < (↑s : Int))) true, .tt, .tt, .tt, .b (decide ((↑s : Int) < (↑mid : Int))) true, .a _ _, .b (decide ((↑mid : Int) < (↑(mid + m - s) : Int))) false, .ff, .ff, .ff, .ff] ⟨tP, tP, o_a j2, fP, trivial⟩ ?_
        exact ge
      · obtain rfl := k2' (fun h => c4 h.2)
        clear k1' k2' k3' k1 k2 k3
        by_cases c2 : a < s
        · refine Wp.ev ?_
          refine gg [.i IntKind.i64 ((↑m : Int) - (↑a : Int)) ((↑m : Int) - (↑a : Int)), .b ((↑m : Int) - (↑a : Int) == 1) false, .i IntKind.i64 ((↑b : Int) - (↑m : Int)) ((↑b : Int) - (↑m : Int)), .b ((↑b : Int) - (↑m : Int) == 1) false, .i IntKind.i64 ((↑a : Int) + (↑b : Int)) ((↑(a + b) : Int)), .i IntKind.u64 ((↑(a + b) : Int)) ((↑(a + b) : Int)), .w ((0 : Int) ≤ (1 : Int)), .t (T.int IntKind.u64 (Int.fdiv (↑(a + b) : Int) 2)) (T.int IntKind.u64 (↑mid : Int)), .i IntKind.i64 (↑mid : Int) (↑mid : Int), .i IntKind.i64 ((↑mid : Int) + (↑m : Int)) ((↑(mid + m) : Int)), .b (decide ((↑m : Int) > (↑mid : Int))) false, .i IntKind.i64 ((↑(mid + m) : Int) - 1) ((↑(mid + m - 1) : Int)), .a _ _, .i IntKind.i64 ((↑(mid + m) : Int) - (↑s : Int)) ((↑(mid + m - s) : Int)), .b (decide ((↑s : Int) < (↑m : Int))) false, .ff] ⟨oI, fE, oI, fE, oI, oU, oW, o_t (by rw [hf]), oI, oI, fP, oI, o_a hbs, oI, fP, trivial⟩ ?_
          refine gg [.ff, .ff, .ff, .b (decide ((↑a : Int) < (↑s : Int))) true, .tt, .tt, .tt, .b (decide ((↑s : Int) < (↑mid : Int))) false, .b (decide ((↑mid : Int) < (↑(mid + m - s) : Int))) false, .ff, .ff, .ff, .ff] ⟨tP, fP, fP, trivial⟩ ?_
          exact ge
        · omega
theorem f_symMerge_genB_Entity (A0 A1 A2 A3 : List Entity) (a m b mid s : Nat) (hmid : (a + b) / 2 = mid) (hc : mid < m)
    (h1 : a + 1 < m) (h2 : m + 1 < b) (hb : b ≤ A0.length) (hn : small A0) (hs : mid + m - b ≤ s ∧ s ≤ mid)
    (hbs : Is cx (.loop 89 [0, 0, 1, 1, 1, 1, 1, 1, 1] 1 [.all 0 none, vi a, vi m, vi b, .t (.clo 22 []), vi mid, vi (mid + m : Nat), vi (mid + m - b : Nat), vi mid, vi (mid + m - 1 : Nat)] [.arr 9 (A0.map Entity.enc) none false])
      ⟨.exit 8, [.all 0 none, vi a, vi m, vi b, .t (.clo 22 []), vi mid, vi (mid + m : Nat), vi s, vi s, vi (mid + m - 1 : Nat)], [.arr 9 (A0.map Entity.enc) none false]⟩)
    (k1 : s < m → s < mid → Is cx (.call 106 [.all 0 none, vi s, vi m, vi (mid + m - s : Nat), .t (.clo 22 [])] [.arr 9 (A0.map Entity.enc) none false]) ⟨.ret, [], [.arr 9 (A1.map Entity.enc) none false]⟩)
    (k1' : ¬ (s < m ∧ s < mid) → A0 = A1)
    (k2 : a < s → s < mid → Is cx (.call 89 [.all 0 none, vi a, vi s, vi mid, .t (.clo 22 [])] [.arr 9 (A1.map Entity.enc) none false]) ⟨.ret, [], [.arr 9 (A2.map Entity.enc) none false]⟩)
    (k2' : ¬ (a < s ∧ s < mid) → A1 = A2)
    (k3 : s < m → mid + m < b + s → Is cx (.call 89 [.all 0 none, vi mid, vi (mid + m - s : Nat), vi b, .t (.clo 22 [])] [.arr 9 (A2.map Entity.enc) none false]) ⟨.ret, [], [.arr 9 (A3.map Entity.enc) none false]⟩)
    (k3' : ¬ (s < m ∧ mid + m < b + s) → A2 = A3) :
    Is cx (.call 89 [.all 0 none, vi a, vi m, vi b, .t (.clo 22 [])] [.arr 9 (A0.map Entity.enc) none false])
   ⟨.ret, [], [.arr 9 (A3.map Entity.enc) none false]⟩ := by
  have hf : Int.fdiv ((a + b : Nat) : Int) 2 = (mid : Nat) := by rw [Int.fdiv_eq_ediv_of_nonneg _ (by omega)]; omega
  have hmm : a < mid ∧ mid < b := by omega
  unfold small at hn
  have e1 : ((mid + m : Nat) : Int) - 1 = (mid + m - 1 : Nat) := by omega
  have e2 : ((mid + m : Nat) : Int) - s = (mid + m - s : Nat) := by omega
  have e3 : ((mid + m : Nat) : Int) - b = (mid + m - b : Nat) := by omega
  by_cases c1 : s < m ∧ s < mid
  · have j1 := k1 c1.1 c1.2
    by_cases c2 : a < s
    · have j2 := k2 c2 c1.2
      by_cases c3 : mid + m < b + s
      · have j3 := k3 c1.1 c3
        clear k1' k2' k3' k1 k2 k3
        refine Wp.ev ?_
        refine gg [.i IntKind.i64 ((↑m : Int) - (↑a : Int)) ((↑m : Int) - (↑a : Int)), .b ((↑m : Int) - (↑a : Int) == 1) false, .i IntKind.i64 ((↑b : Int) - (↑m : Int)) ((↑b : Int) - (↑m : Int)), .b ((↑b : Int) - (↑m : Int) == 1) false, .i IntKind.i64 ((↑a : Int) + (↑b : Int)) ((↑(a + b) : Int)), .i IntKind.u64 ((↑(a + b) : Int)) ((↑(a + b) : Int)), .w ((0 : Int) ≤ (1 : Int)), .t (T.int IntKind.u64 (Int.fdiv (↑(a + b) : Int) 2)) (T.int IntKind.u64 (↑mid : Int)), .i IntKind.i64 (↑mid : Int) (↑mid : Int), .i IntKind.i64 ((↑mid : Int) + (↑m : Int)) ((↑(mid + m) : Int)), .b (decide ((↑m : Int) > (↑mid : Int))) true, .i IntKind.i64 ((↑(mid + m) : Int) - (↑b : Int)) ((↑(mid + m - b) : Int)), .i IntKind.i64 ((↑(mid + m) : Int) - 1) ((↑(mid + m - 1) : Int)), .a _ _, .i IntKind.i64 ((↑(mid + m) : Int) - (↑s : Int)) ((↑(mid + m - s) : Int)), .b (decide ((↑s : Int) < (↑m : Int))) true] ⟨oI, fE, oI, fE, oI, oU, oW, o_t (by rw [hf]), oI, oI, tP, oI, oI, o_a hbs, oI, tP, trivial⟩ ?_
        refine gg [.tt, .tt, .tt, .b (decide ((↑m : Int) < (↑(mid + m - s) : Int))) true, .a _ _, .b (decide ((↑a : Int) < (↑s : Int))) true, .tt, .tt, .tt, .b (decide ((↑s : Int) < (↑mid : Int))) true, .a _ _, .b (decide ((↑mid : Int) < (↑(mid + m - s) : Int))) true, .tt, .tt, .tt, .b (decide ((↑(mid + m - s) : Int) < (↑b : Int))) true] ⟨tP, o_a j1, tP, tP, o_a j2, tP, tP, trivial⟩ ?_
        refine gg [.a _ _] ⟨o_a j3, trivial⟩ ?_
        exact ge
      · obtain rfl := k3' (fun h => c3 h.2)
        clear k1' k2' k3' k1 k2 k3
        refine Wp.ev ?_
        refine gg [.i IntKind.i64 ((↑m : Int) - (↑a : Int)) ((↑m : Int) - (↑a : Int)), .b ((↑m : Int) - (↑a : Int) == 1) false, .i IntKind.i64 ((↑b : Int) - (↑m : Int)) ((↑b : Int) - (↑m : Int)), .b ((↑b : Int) - (↑m : Int) == 1) false, .i IntKind.i64 ((↑a : Int) + (↑b : Int)) ((↑(a + b) : Int)), .i IntKind.u64 ((↑(a + b) : Int)) ((↑(a + b) : Int)), .w ((0 : Int) ≤ (1 : Int)), .t (T.int IntKind.u64 (Int.fdiv (↑(a + b) : Int) 2)) (T.int IntKind.u64 (↑mid : Int)), .i IntKind.i64 (↑mid : Int) (↑mid : Int), .i IntKind.i64 ((↑mid : Int) + (↑m : Int)) ((↑(mid + m) : Int)), .b (decide ((↑m : Int) > (↑mid : Int))) true, .i IntKind.i64 ((↑(mid + m) : Int) - (↑b : Int)) ((↑(mid + m - b) : Int)), .i IntKind.i64 ((↑(mid + m) : Int) - 1) ((↑(mid + m - 1) : Int)), .a _ _, .i IntKind.i64 ((↑(mid + m) : Int) - (↑s : Int)) ((↑(mid + m - s) : Int)), .b (decide ((↑s : Int) < (↑m : Int))) true] ⟨oI, fE, oI, fE, oI, oU, oW, o_t (by rw [hf]), oI, oI, tP, oI, oI, o_a hbs, oI, tP, trivial⟩ ?_
        refine gg [.tt, .tt, .tt, .b (decide ((↑m : Int) < (↑(mid + m - s) : Int))) true, .a _ _, .b (decide ((↑a : Int) < (↑s : Int))) true, .tt, .tt, .tt, .b (decide ((↑s : Int) < (↑mid : Int))) true, .a _ _, .b (decide ((↑mid : Int) < (↑(mid + m - s) : Int))) true, .tt, .tt, .tt, .b (decide ((↑(mid + m - s) : Int) < (↑b : Int))) false] ⟨tP, o_a j1, tP, tP, o_a j2, tP, fP, trivial⟩ ?_
        exact ge
    · obtain rfl := k2' (fun h => c2 h.1)
      by_cases c3 : mid + m < b + s
      · have j3 := k3 c1.1 c3
        clear k1' k2' k3' k1 k2 k3
        omega
      · obtain rfl := k3' (fun h => c3 h.2)
        clear k1' k2' k3' k1 k2 k3
        refine Wp.ev ?_
        refine gg [.i IntKind.i64 ((↑m : Int) - (↑a : Int)) ((↑m : Int) - (↑a : Int)), .b ((↑m : Int) - (↑a : Int) == 1) false, .i IntKind.i64 ((↑b : Int) - (↑m : Int)) ((↑b : Int) - (↑m : Int)), .b ((↑b : Int) - (↑m : Int) == 1) false, .i IntKind.i64 ((↑a : Int) + (↑b : Int)) ((↑(a + b) : Int)), .i IntKind.u64 ((↑(a + b) : Int)) ((↑(a + b) : Int)), .w ((0 : Int) ≤ (1 : Int)), .t (T.int IntKind.u64 (Int.fdiv (↑(a + b) : Int) 2)) (T.int IntKind.u64 (↑mid : Int)), .i IntKind.i64 (↑mid : Int) (↑mid : Int), .i IntKind.i64 ((↑mid : Int) + (↑m : Int)) ((↑(mid + m) : Int)), .b (decide ((↑m : Int) > (↑mid : Int))) true, .i IntKind.i64 ((↑(mid + m) : Int) - (↑b : Int)) ((↑(mid + m - b) : Int)), .i IntKind.i64 ((↑(mid + m) : Int) - 1) ((↑(mid + m - 1) : Int)), .a _ _, .i IntKind.i64 ((↑(mid + m) : Int) - (↑s : Int)) ((↑(mid + m - s) : Int)), .b (decide ((↑s : Int) < (↑m : Int))) true] ⟨oI, fE, oI, fE, oI, oU, oW, o_t (by rw [hf]), oI, oI, tP, oI, oI, o_a hbs, oI, tP, trivial⟩ ?_
        refine gg [.tt, .tt, .tt, .b (decide ((↑m : Int) < (↑(mid + m - s) : Int))) true, .a _ _, .b (decide ((↑a : Int) < (↑s : Int))) false, .ff, .ff, .ff, .ff, .b (decide ((↑mid : Int) < (↑(mid + m - s) : Int))) true, .tt, .tt, .tt, .b (decide ((↑(mid + m - s) : Int) < (↑b : Int))) false] ⟨tP, o_a j1, fP, tP, fP, trivial⟩ ?_
        exact ge
  · obtain rfl := k1' c1
    by_cases c0 : s < m
    · have c4 : ¬ s < mid := fun h => c1 ⟨c0, h⟩
      obtain rfl := k2' (fun h => c4 h.2)
      by_cases c3 : mid + m < b + s
      · have j3 := k3 c0 c3
        clear k1' k2' k3' k1 k2 k3
        by_cases c2 : a < s
        · refine Wp.ev ?_
          refine gg [.i IntKind.i64 ((↑m : Int) - (↑a : Int)) ((↑m : Int) - (↑a : Int)), .b ((↑m : Int) - (↑a : Int) == 1) false, .i IntKind.i64 ((↑b : Int) - (↑m : Int)) ((↑b : Int) - (↑m : Int)), .b ((↑b : Int) - (↑m : Int) == 1) false, .i IntKind.i64 ((↑a : Int) + (↑b : Int)) ((↑(a + b) : Int)), .i IntKind.u64 ((↑(a + b) : Int)) ((↑(a + b) : Int)), .w ((0 : Int) ≤ (1 : Int)), .t (T.int IntKind.u64 (Int.fdiv (↑(a + b) : Int) 2)) (T.int IntKind.u64 (↑mid : Int)), .i IntKind.i64 (↑mid : Int) (↑mid : Int), .i IntKind.i64 ((↑mid : Int) + (↑m : Int)) ((↑(mid + m) : Int)), .b (decide ((↑m : Int) > (↑mid : Int))) true, .i IntKind.i64 ((↑(mid + m) : Int) - (↑b : Int)) ((↑(mid + m - b) : Int)), .i IntKind.i64 ((↑(mid + m) : Int) - 1) ((↑(mid + m - 1) : Int)), .a _ _, .i IntKind.i64 ((↑(mid + m) : Int) - (↑s : Int)) ((↑(mid + m - s) : Int)), .b (decide ((↑s : Int) < (↑m : Int))) true] ⟨oI, fE, oI, fE, oI, oU, oW, o_t (by rw [hf]), oI, oI, tP, oI, oI, o_a hbs, oI, tP, trivial⟩ ?_
          refine gg [.tt, .tt, .tt, .b (decide ((↑m : Int) < (↑(mid + m - s) : Int))) false, .b (decide ((↑a : Int) < (↑s : Int))) true, .tt, .tt, .tt, .b (decide ((↑s : Int) < (↑mid : Int))) false, .b (decide ((↑mid : Int) < (↑(mid + m - s) : Int))) true, .tt, .tt, .tt, .b (decide ((↑(mid + m - s) : Int) < (↑b : Int))) true, .a _ _] ⟨fP, tP, fP, tP, tP, o_a j3, trivial⟩ ?_
          exact ge
        · omega
      · obtain rfl := k3' (fun h => c3 h.2)
        clear k1' k2' k3' k1 k2 k3
        by_cases c2 : a < s
        · omega
        · omega
    · obtain rfl := k3' (fun h => c0 h.1)
      by_cases c4 : s < mid
      · have j2 := k2 (by omega) c4
        clear k1' k2' k3' k1 k2 k3
        omega
      · obtain rfl := k2' (fun h => c4 h.2)
        clear k1' k2' k3' k1 k2 k3
        by_cases c2 : a < s
        · omega
        · omega
theorem f_symMerge_Entity : ∀ (n : Nat) (P U V Q : List Entity) (a m b : Nat), U.length + V.length ≤ n → a = P.length → m = a + U.length → b = m + V.length → 0 < U.length → 0 < V.length → Sd Entity.less U → Sd Entity.less V → small (P ++ U ++ V ++ Q) →
    Is cx (.call 89 [.all 0 none, vi a, vi m, vi b, .t (.clo 22 [])] [.arr 9 ((P ++ U ++ V ++ Q).map Entity.enc) none false])
   ⟨.ret, [], [.arr 9 ((P ++ sortS Entity.less (U ++ V) ++ Q).map Entity.enc) none false]⟩ := by
  intro n
  induction n with
  | zero => intros; omega
  | succ n ih =>
    intro P U V Q a m b hl ha hm hb hu hv hU hV hn
    by_cases hu1 : U.length = 1
    · obtain ⟨x, rfl⟩ := List.length_eq_one_iff.1 hu1
      exact f_symMerge_first_Entity P V Q x a m b ha (by simpa using hm) hb hv hV hn
    · by_cases hv1 : V.length = 1
      · obtain ⟨y, rfl⟩ := List.length_eq_one_iff.1 hv1
        exact f_symMerge_last_Entity P U Q y a m b ha hm (by simpa using hb) (by omega) hU hn
      · obtain ⟨mid, hmid⟩ : ∃ mid, (a + b) / 2 = mid := ⟨_, rfl⟩
        obtain ⟨s0, r0, hs0⟩ : ∃ s0 r0, m ≤ mid ∧ s0 = a ∧ r0 = m ∨ mid < m ∧ s0 = mid + m - b ∧ r0 = mid := by
          by_cases h : m ≤ mid
          · exact ⟨a, m, .inl ⟨h, rfl, rfl⟩⟩
          · exact ⟨mid + m - b, mid, .inr ⟨by omega, rfl, rfl⟩⟩
        have hlen : (P ++ U ++ V ++ Q).length = b + Q.length := by simp; omega
        have hbs := f_symMerge_bs3_Entity (P ++ U ++ V ++ Q) a m b mid (mid + m) (mid + m - 1) hn (r0 - s0) s0 r0 (by omega) (by omega) (by omega) (by omega) (by omega)
        have hp : (fun c => !Entity.less (gt (P ++ U ++ V ++ Q) (mid + m - 1 - c)) (gt (P ++ U ++ V ++ Q) c)) = fun c => !Entity.less (gt (P ++ U ++ V ++ Q) (mid + m - 1 - c)) (gt (P ++ U ++ V ++ Q) c) := rfl
        obtain ⟨k1, k2, U1, U2, V1, V2, e1, e2, l1, l2, e3, u1, u2, v1, v2⟩ := merge_gen Entity_swo (Q := Q) ha hm hb hU hV hu hv hmid hs0 (d := r0 - s0) (by omega) rfl
        generalize bs _ (r0 - s0) s0 r0 = s at *
        subst e1 e2
        simp only [List.length_append] at hl hm hb hu hv hlen hu1 hv1
        have hsm : ∀ {X Y : List Entity}, X.length = Y.length → small Y → small X := fun h k => by unfold small at *; rw [h]; exact k
        have g1 : s < m → s < mid → Is cx (.call 106 [.all 0 none, vi s, vi m, vi (mid + m - s : Nat), .t (.clo 22 [])] [.arr 9 ((P ++ (U1 ++ U2) ++ (V1 ++ V2) ++ Q).map Entity.enc) none false]) ⟨.ret, [], [.arr 9 ((P ++ U1 ++ V1 ++ (U2 ++ V2 ++ Q)).map Entity.enc) none false]⟩ := by
          intro c1 c2
          have := f_rotate_Entity (P ++ (U1 ++ U2) ++ (V1 ++ V2) ++ Q) s m (mid + m - s) c1 (by omega) (by simp; omega) hn
          have e : (P ++ (U1 ++ U2) ++ (V1 ++ V2) ++ Q).take s ++ seg (P ++ (U1 ++ U2) ++ (V1 ++ V2) ++ Q) m (mid + m - s) ++ seg (P ++ (U1 ++ U2) ++ (V1 ++ V2) ++ Q) s m ++ (P ++ (U1 ++ U2) ++ (V1 ++ V2) ++ Q).drop (mid + m - s) = P ++ U1 ++ V1 ++ (U2 ++ V2 ++ Q) := by
            have f1 : P ++ (U1 ++ U2) ++ (V1 ++ V2) ++ Q = (P ++ U1) ++ (U2 ++ (V1 ++ (V2 ++ Q))) := by simp
            have f2 : P ++ (U1 ++ U2) ++ (V1 ++ V2) ++ Q = (P ++ U1 ++ U2) ++ (V1 ++ (V2 ++ Q)) := by simp
            have f3 : P ++ (U1 ++ U2) ++ (V1 ++ V2) ++ Q = (P ++ U1 ++ U2 ++ V1) ++ (V2 ++ Q) := by simp
            have g1 : (P ++ (U1 ++ U2) ++ (V1 ++ V2) ++ Q).take s = P ++ U1 := by rw [f1, List.take_left' (by simp; omega)]
            have g2 : seg (P ++ (U1 ++ U2) ++ (V1 ++ V2) ++ Q) m (mid + m - s) = V1 := by unfold seg; rw [f2, List.drop_left' (by simp; omega), List.take_left' (by omega)]
            have g3 : seg (P ++ (U1 ++ U2) ++ (V1 ++ V2) ++ Q) s m = U2 := by unfold seg; rw [f1, List.drop_left' (by simp; omega), List.take_left' (by omega)]
            have g4 : (P ++ (U1 ++ U2) ++ (V1 ++ V2) ++ Q).drop (mid + m - s) = V2 ++ Q := by rw [f3, List.drop_left' (by simp; omega)]
            rw [g1, g2, g3, g4]; simp
          rw [e] at this
          exact this
        have g1' : ¬ (s < m ∧ s < mid) → (P ++ (U1 ++ U2) ++ (V1 ++ V2) ++ Q) = (P ++ U1 ++ V1 ++ (U2 ++ V2 ++ Q)) := by
          intro c
          have : U2 = [] ∨ V1 = [] := by
            by_cases h : s < m
            · right; exact List.eq_nil_of_length_eq_zero (by omega)
            · left; exact List.eq_nil_of_length_eq_zero (by omega)
          rcases this with rfl | rfl <;> simp
        have g2 : a < s → s < mid → Is cx (.call 89 [.all 0 none, vi a, vi s, vi mid, .t (.clo 22 [])] [.arr 9 ((P ++ U1 ++ V1 ++ (U2 ++ V2 ++ Q)).map Entity.enc) none false]) ⟨.ret, [], [.arr 9 ((P ++ sortS Entity.less (U1 ++ V1) ++ (U2 ++ V2 ++ Q)).map Entity.enc) none false]⟩ := by
          intro c1 c2
          exact ih P U1 V1 (U2 ++ V2 ++ Q) a s mid (by omega) ha (by omega) (by omega) (by omega) (by omega) u1 v1 (hsm (by simp; omega) hn)
        have g2' : ¬ (a < s ∧ s < mid) → (P ++ U1 ++ V1 ++ (U2 ++ V2 ++ Q)) = (P ++ sortS Entity.less (U1 ++ V1) ++ (U2 ++ V2 ++ Q)) := by
          intro c
          have : U1 = [] ∨ V1 = [] := by
            by_cases h : a < s
            · right; exact List.eq_nil_of_length_eq_zero (by omega)
            · left; exact List.eq_nil_of_length_eq_zero (by omega)
          rcases this with rfl | rfl
          · simp [sortS_self Entity_swo v1]
          · simp [sortS_self Entity_swo u1]
        have g3 : s < m → mid + m < b + s → Is cx (.call 89 [.all 0 none, vi mid, vi (mid + m - s : Nat), vi b, .t (.clo 22 [])] [.arr 9 ((P ++ sortS Entity.less (U1 ++ V1) ++ (U2 ++ V2 ++ Q)).map Entity.enc) none false]) ⟨.ret, [], [.arr 9 ((P ++ sortS Entity.less ((U1 ++ U2) ++ (V1 ++ V2)) ++ Q).map Entity.enc) none false]⟩ := by
          intro c1 c2
          have hL : (sortS Entity.less (U1 ++ V1)).length = U1.length + V1.length := by rw [sortS_len Entity_swo]; simp
          have := ih (P ++ sortS Entity.less (U1 ++ V1)) U2 V2 Q mid (mid + m - s) b (by omega) (by simp; omega) (by omega) (by omega) (by omega) (by omega) u2 v2 (hsm (by simp; omega) hn)
          rw [← e3]
          simpa using this
        have g3' : ¬ (s < m ∧ mid + m < b + s) → (P ++ sortS Entity.less (U1 ++ V1) ++ (U2 ++ V2 ++ Q)) = (P ++ sortS Entity.less ((U1 ++ U2) ++ (V1 ++ V2)) ++ Q) := by
          intro c
          have : U2 = [] ∨ V2 = [] := by
            by_cases h : s < m
            · right; exact List.eq_nil_of_length_eq_zero (by omega)
            · left; exact List.eq_nil_of_length_eq_zero (by omega)
          rw [← e3]
          rcases this with rfl | rfl
          · simp [sortS_self Entity_swo v2]
          · simp [sortS_self Entity_swo u2]
        rcases hs0 with ⟨hc, rfl, rfl⟩ | ⟨hc, rfl, rfl⟩
        · exact f_symMerge_genA_Entity _ _ _ _ s0 r0 b mid s hmid hc (by omega) (by omega) (by simp; omega) hn ⟨k1, k2⟩ hbs g1 g1' g2 g2' g3 g3'
        · exact f_symMerge_genB_Entity _ _ _ _ a m b r0 s hmid hc (by omega) (by omega) (by simp; omega) hn ⟨k1, k2⟩ hbs g1 g1' g2 g2' g3 g3'
end Go.Eva.S2

/- Messages: sorted. -/
namespace Go.Eva.S2
theorem f_stable_first_Cross (n : Nat) (hn : n ≤ 1000000) : ∀ (d : Nat) (P R : List Cross) (a : Nat), a = P.length → R.length ≤ d → (P ++ R).length = n → Full Cross.less 20 P →
    ∃ (P' R' : List Cross), Is cx (.loop 101 [0, 0, 1, 1] 1 [.all 0 none, vi n, .t (.clo 80 []), vi 20, vi a, vi (a + 20 : Nat)] [.arr 15 ((P ++ R).map Cross.enc) none false])
      ⟨.exit 0, [.all 0 none, vi n, .t (.clo 80 []), vi 20, vi P'.length, vi (P'.length + 20 : Nat)], [.arr 15 ((P' ++ R').map Cross.enc) none false]⟩ ∧
      Full Cross.less 20 P' ∧ R'.length < 20 ∧ StEq Cross.less (P' ++ R') (P ++ R) ∧ (P' ++ R').length = n := by
  intro d
  induction d with
  | zero =>
    intro P R a ha hR hl hP
    refine ⟨P, R, ?_, hP, by omega, .refl _, hl⟩
    rw [List.length_append] at hl
    subst ha
    refine Wp.ev ?_
    refine gg [.b (decide ((↑(List.length P + 20) : Int) ≤ (↑n : Int))) false] ⟨fP, trivial⟩ ?_
    exact ge
  | succ d ih =>
    intro P R a ha hR hl hP
    by_cases h : 20 ≤ R.length
    · obtain ⟨S, R, rfl, hS⟩ := split_at R h
      rw [List.length_append] at hR
      have hs : (sortS Cross.less S).length = 20 := by rw [sortS_len Cross_swo, hS]
      have hl' : ((P ++ sortS Cross.less S) ++ R).length = n := by rw [← hl]; simp; omega
      obtain ⟨P', R', h1, h2, h3, h4, h5⟩ := ih (P ++ sortS Cross.less S) R (a + 20) (by simp; omega) (by omega) hl' (.snoc hP hs (sortS_sd Cross_swo S))
      refine ⟨P', R', ?_, h2, h3, ?_, h5⟩
      · clear ih
        have hA : (P ++ (S ++ R)).length = n := hl
        have hi := f_insertionSort_Cross (P ++ (S ++ R)) a (a + 20) (by omega) (by simp; omega) (by unfold small; omega)
        rw [show srt Cross.less (P ++ (S ++ R)) a (a + 20) = P ++ sortS Cross.less S ++ R by rw [← List.append_assoc]; exact srt_app P S R ha (by omega)] at hi
        simp only [List.length_append] at hA
        generalize P ++ (S ++ R) = A at *
        generalize P ++ sortS Cross.less S ++ R = B at *
        refine Wp.ev ?_
        refine gg [.b (decide ((↑(a + 20) : Int) ≤ (↑n : Int))) true, .a _ _, .i IntKind.i64 ((↑(a + 20) : Int) + 20) ((↑(a + 20 + 20) : Int)), .a _ _] ⟨tP, o_a hi, oI, o_a h1, trivial⟩ ?_
        exact ge
      · refine h4.trans ?_
        have := StEq.mid (P := P) (Q := R) (sortS_st Cross_swo S)
        simpa using this
    · refine ⟨P, R, ?_, hP, by omega, .refl _, hl⟩
      rw [List.length_append] at hl
      subst ha
      clear ih
      refine Wp.ev ?_
      refine gg [.b (decide ((↑(List.length P + 20) : Int) ≤ (↑n : Int))) false] ⟨fP, trivial⟩ ?_
      exact ge
theorem f_stable_inner_Cross (n bs : Nat) (hn : n ≤ 1000000) (hb : 20 ≤ bs) (hbs : bs ≤ n) : ∀ (d : Nat) (P R : List Cross) (a : Nat), a = P.length → R.length ≤ d → (P ++ R).length = n → Full Cross.less (2 * bs) P → Blks Cross.less bs R →
    ∃ (P' R' : List Cross), Is cx (.loop 101 [0, 0, 1, 0, 1, 0, 0, 1, 1, 1, 1] 1 [.all 0 none, vi n, .t (.clo 80 []), vi bs, vi a, vi (a + 2 * bs : Nat)] [.arr 15 ((P ++ R).map Cross.enc) none false])
      ⟨.exit 4, [.all 0 none, vi n, .t (.clo 80 []), vi bs, vi P'.length, vi (P'.length + 2 * bs : Nat)], [.arr 15 ((P' ++ R').map Cross.enc) none false]⟩ ∧
      Full Cross.less (2 * bs) P' ∧ Blks Cross.less bs R' ∧ R'.length < 2 * bs ∧ StEq Cross.less (P' ++ R') (P ++ R) ∧ (P' ++ R').length = n := by
  intro d
  induction d with
  | zero =>
    intro P R a ha hR hl hP hB
    refine ⟨P, R, ?_, hP, hB, by omega, .refl _, hl⟩
    rw [List.length_append] at hl
    subst ha
    refine Wp.ev ?_
    refine gg [.b (decide ((↑(List.length P + 2 * bs) : Int) ≤ (↑n : Int))) false] ⟨fP, trivial⟩ ?_
    exact ge
  | succ d ih =>
    intro P R a ha hR hl hP hB
    by_cases h : 2 * bs ≤ R.length
    · obtain ⟨S1, S2, R, rfl, l1, l2, s1, s2, hB⟩ := hB.two (by omega) h
      simp only [List.length_append] at hR h
      have hs : (sortS Cross.less (S1 ++ S2)).length = 2 * bs := by rw [sortS_len Cross_swo]; simp; omega
      have hl' : ((P ++ sortS Cross.less (S1 ++ S2)) ++ R).length = n := by rw [← hl]; simp; omega
      obtain ⟨P', R', h1, h2, h3, h4, h5, h6⟩ := ih (P ++ sortS Cross.less (S1 ++ S2)) R (a + 2 * bs) (by simp; omega) (by omega) hl' (.snoc hP hs (sortS_sd Cross_swo _)) hB
      refine ⟨P', R', ?_, h2, h3, h4, ?_, h6⟩
      · clear ih
        have hA : (P ++ (S1 ++ S2 ++ R)).length = n := hl
        have hi := f_symMerge_Cross (S1.length + S2.length) P S1 S2 R a (a + bs) (a + 2 * bs) (Nat.le_refl _) ha (by omega) (by omega) (by omega) (by omega) s1 s2 (by unfold small; simp at hA ⊢; omega)
        rw [show P ++ S1 ++ S2 ++ R = P ++ (S1 ++ S2 ++ R) by simp] at hi
        simp only [List.length_append] at hA
        generalize P ++ (S1 ++ S2 ++ R) = A at *
        generalize P ++ sortS Cross.less (S1 ++ S2) ++ R = B at *
        refine Wp.ev ?_
        refine gg [.b (decide ((↑(a + 2 * bs) : Int) ≤ (↑n : Int))) true, .i IntKind.i64 ((↑a : Int) + (↑bs : Int)) ((↑(a + bs) : Int)), .a _ _, .i IntKind.i64 (2 * (↑bs : Int)) ((↑(2 * bs) : Int)), .i IntKind.i64 ((↑(a + 2 * bs) : Int) + (↑(2 * bs) : Int)) ((↑(a + 2 * bs + 2 * bs) : Int)), .a _ _] ⟨tP, oI, o_a hi, oI, oI, o_a h1, trivial⟩ ?_
        exact ge
      · refine h5.trans ?_
        have := StEq.mid (P := P) (Q := R) (sortS_st Cross_swo (S1 ++ S2))
        simpa using this
    · refine ⟨P, R, ?_, hP, hB, by omega, .refl _, hl⟩
      rw [List.length_append] at hl
      subst ha
      clear ih
      refine Wp.ev ?_
      refine gg [.b (decide ((↑(List.length P + 2 * bs) : Int) ≤ (↑n : Int))) false] ⟨fP, trivial⟩ ?_
      exact ge
theorem f_stable_outer_Cross (n : Nat) (hn : n ≤ 1000000) : ∀ (d bs : Nat) (A : List Cross), n ≤ bs + d → 20 ≤ bs → bs ≤ 2000000 → A.length = n → Blks Cross.less bs A →
    ∃ (bs' : Nat) (B : List Cross), Is cx (.loop 101 [0, 1, 1, 1, 1] 1 [.all 0 none, vi n, .t (.clo 80 []), vi bs] [.arr 15 (A.map Cross.enc) none false])
      ⟨.exit 2, [.all 0 none, vi n, .t (.clo 80 []), vi bs'], [.arr 15 (B.map Cross.enc) none false]⟩ ∧ Sd Cross.less B ∧ StEq Cross.less B A := by
  intro d
  induction d with
  | zero =>
    intro bs A h1 h2 h3 hl hB
    refine ⟨bs, A, ?_, hB.sd (by omega), .refl _⟩
    refine Wp.ev ?_
    refine gg [.b (decide ((↑bs : Int) < (↑n : Int))) false] ⟨fP, trivial⟩ ?_
    exact ge
  | succ d ih =>
    intro bs A h1 h2 h3 hl hB
    by_cases h : bs < n
    · obtain ⟨P, R, k1, k2, k3, k4, k5, k6⟩ := f_stable_inner_Cross n bs hn h2 (by omega) A.length [] A 0 rfl (Nat.le_refl _) (by simpa using hl) .nil hB
      rw [List.nil_append, Nat.zero_add] at k1
      rw [List.nil_append] at k5
      by_cases hr : bs < R.length
      · obtain ⟨S1, S2, rfl, l1, s1, s2, l2⟩ := k3.one hr k4
        have hm := f_symMerge_Cross (S1.length + S2.length) P S1 S2 [] P.length (P.length + bs) n (Nat.le_refl _) rfl (by omega) (by simp at k6; omega) (by omega) l2 s1 s2 (by unfold small; simp at k6 ⊢; omega)
        simp only [List.append_nil] at hm
        rw [List.append_assoc] at hm
        simp only [List.length_append] at k4 k6 hr
        have hs : (sortS Cross.less (S1 ++ S2)).length = S1.length + S2.length := by rw [sortS_len Cross_swo]; simp
        obtain ⟨bs', B, j1, j2, j3⟩ := ih (bs * 2) (P ++ sortS Cross.less (S1 ++ S2)) (by omega) (by omega) (by omega) (by simp; omega) (by rw [Nat.mul_comm]; exact k2.blks (.last (by omega) (sortS_sd Cross_swo _)))
        refine ⟨bs', B, ?_, j2, j3.trans (StEq.trans ?_ k5)⟩
        · clear ih j2 j3 k2 k3 k5
          have e1 : (P ++ (S1 ++ S2)).length = n := by simp; omega
          have e2 : (P ++ sortS Cross.less (S1 ++ S2)).length = n := by simp; omega
          generalize P ++ (S1 ++ S2) = X at *
          generalize P ++ sortS Cross.less (S1 ++ S2) = Y at *
          refine Wp.ev ?_
          refine gg [.b (decide ((↑bs : Int) < (↑n : Int))) true, .i IntKind.i64 (2 * (↑bs : Int)) ((↑(2 * bs) : Int)), .a _ _, .i IntKind.i64 ((↑(List.length P) : Int) + (↑bs : Int)) ((↑(List.length P + bs) : Int)), .b (decide ((↑(List.length P + bs) : Int) < (↑n : Int))) true, .a _ _, .i IntKind.i64 ((↑bs : Int) * 2) ((↑(bs * 2) : Int)), .a _ _] ⟨tP, oI, o_a k1, oI, tP, o_a hm, oI, o_a j1, trivial⟩ ?_
          exact ge
        · exact (StEq.refl _).append (sortS_st Cross_swo _)
      · obtain ⟨bs', B, j1, j2, j3⟩ := ih (bs * 2) (P ++ R) (by omega) (by omega) (by omega) k6 (by rw [Nat.mul_comm]; exact k2.blks (.last (by omega) (k3.sd (by omega))))
        refine ⟨bs', B, ?_, j2, j3.trans k5⟩
        clear ih j2 j3 k2 k3 k5
        rw [List.length_append] at k6
        generalize P ++ R = X at *
        refine Wp.ev ?_
        refine gg [.b (decide ((↑bs : Int) < (↑n : Int))) true, .i IntKind.i64 (2 * (↑bs : Int)) ((↑(2 * bs) : Int)), .a _ _, .i IntKind.i64 ((↑(List.length P) : Int) + (↑bs : Int)) ((↑(List.length P + bs) : Int)), .b (decide ((↑(List.length P + bs) : Int) < (↑n : Int))) false, .i IntKind.i64 ((↑bs : Int) * 2) ((↑(bs * 2) : Int)), .a _ _] ⟨tP, oI, o_a k1, oI, fP, oI, o_a j1, trivial⟩ ?_
        exact ge
    · refine ⟨bs, A, ?_, hB.sd (by omega), .refl _⟩
      clear ih
      refine Wp.ev ?_
      refine gg [.b (decide ((↑bs : Int) < (↑n : Int))) false] ⟨fP, trivial⟩ ?_
      exact ge
theorem f_stableCmpFunc_Cross (A : List Cross) (hn : small A) : Is cx (.call 101 [.all 0 none, vi A.length, .t (.clo 80 [])] [.arr 15 (A.map Cross.enc) none false])
   ⟨.ret, [], [.arr 15 ((sortS Cross.less A).map Cross.enc) none false]⟩ := by
  unfold small at hn
  obtain ⟨P, R, k1, k2, k3, k4, k5⟩ := f_stable_first_Cross A.length hn A.length [] A 0 rfl (Nat.le_refl _) (by simp) .nil
  rw [List.nil_append, Nat.zero_add] at k1
  rw [List.nil_append] at k4
  rw [List.length_append] at k5
  have hi := f_insertionSort_Cross (P ++ R) P.length A.length (by omega) (by simp; omega) (by unfold small; simp; omega)
  rw [show srt Cross.less (P ++ R) P.length A.length = P ++ sortS Cross.less R by have := srt_app (lt := Cross.less) P R [] rfl k5.symm; simpa using this] at hi
  have hs : (sortS Cross.less R).length = R.length := sortS_len Cross_swo R
  obtain ⟨bs, B, j1, j2, j3⟩ := f_stable_outer_Cross A.length hn A.length 20 (P ++ sortS Cross.less R) (by omega) (by omega) (by omega) (by simp; omega) (k2.blks (.last (by omega) (sortS_sd Cross_swo _)))
  rw [sortS_eq Cross_swo j2 (j3.trans (((StEq.refl _).append (sortS_st Cross_swo _)).trans k4))] at j1
  clear j2 j3 k2 k4
  have e1 : (P ++ R).length = A.length := by simp; omega
  have e2 : (P ++ sortS Cross.less R).length = A.length := by simp; omega
  generalize P ++ R = X at *
  generalize P ++ sortS Cross.less R = Y at *
  refine Wp.ev ?_
  refine gg [.a _ _, .a _ _, .a _ _] ⟨o_a k1, o_a hi, o_a j1, trivial⟩ ?_
  exact ge
theorem f_SortStableFunc_Cross (A : List Cross) (hn : small A) : Is cx (.call 79 [.all 0 none, .t (.clo 80 [])] [.arr 15 (A.map Cross.enc) none false])
   ⟨.ret, [], [.arr 15 ((sortS Cross.less A).map Cross.enc) none false]⟩ := by
  have h := f_stableCmpFunc_Cross A hn
  unfold small at hn
  refine Wp.ev ?_
  refine gg [.n (List.length (List.map Cross.enc A)) (List.length A), .a _ _] ⟨o_n (by simp), o_a h, trivial⟩ ?_
  exact ge
theorem f_stable_first_Entity (n : Nat) (hn : n ≤ 1000000) : ∀ (d : Nat) (P R : List Entity) (a : Nat), a = P.length → R.length ≤ d → (P ++ R).length = n → Full Entity.less 20 P →
    ∃ (P' R' : List Entity), Is cx (.loop 49 [0, 0, 1, 1] 1 [.all 0 none, vi n, .t (.clo 22 []), vi 20, vi a, vi (a + 20 : Nat)] [.arr 9 ((P ++ R).map Entity.enc) none false])
      ⟨.exit 0, [.all 0 none, vi n, .t (.clo 22 []), vi 20, vi P'.length, vi (P'.length + 20 : Nat)], [.arr 9 ((P' ++ R').map Entity.enc) none false]⟩ ∧
      Full Entity.less 20 P' ∧ R'.length < 20 ∧ StEq Entity.less (P' ++ R') (P ++ R) ∧ (P' ++ R').length = n := by
  intro d
  induction d with
  | zero =>
    intro P R a ha hR hl hP
    refine ⟨P, R, ?_, hP, by omega, .refl _, hl⟩
    rw [List.length_append] at hl
    subst ha
    refine Wp.ev ?_
    refine gg [.b (decide ((↑(List.length P + 20) : Int) ≤ (↑n : Int))) false] ⟨fP, trivial⟩ ?_
    exact ge
  | succ d ih =>
    intro P R a ha hR hl hP
    by_cases h : 20 ≤ R.length
    · obtain ⟨S, R, rfl, hS⟩ := split_at R h
      rw [List.length_append] at hR
      have hs : (sortS Entity.less S).length = 20 := by rw [sortS_len Entity_swo, hS]
      have hl' : ((P ++ sortS Entity.less S) ++ R).length = n := by rw [← hl]; simp; omega
      obtain ⟨P', R', h1, h2, h3, h4, h5⟩ := ih (P ++ sortS Entity.less S) R (a + 20) (by simp; omega) (by omega) hl' (.snoc hP hs (sortS_sd Entity_swo S))
      refine ⟨P', R', ?_, h2, h3, ?_, h5⟩
      · clear ih
        have hA : (P ++ (S ++ R)).length = n := hl
        have hi := f_insertionSort_Entity (P ++ (S ++ R)) a (a + 20) (by omega) (by simp; omega) (by unfold small; omega)
        rw [show srt Entity.less (P ++ (S ++ R)) a (a + 20) = P ++ sortS Entity.less S ++ R by rw [← List.append_assoc]; exact srt_app P S R ha (by omega)] at hi
        simp only [List.length_append] at hA
        generalize P ++ (S ++ R) = A at *
        generalize P ++ sortS Entity.less S ++ R = B at *
        refine Wp.ev ?_
        refine gg [.b (decide ((↑(a + 20) : Int) ≤ (↑n : Int))) true, .a _ _, .i IntKind.i64 ((↑(a + 20) : Int) + 20) ((↑(a + 20 + 20) : Int)), .a _ _] ⟨tP, o_a hi, oI, o_a h1, trivial⟩ ?_
        exact ge
      · refine h4.trans ?_
        have := StEq.mid (P := P) (Q := R) (sortS_st Entity_swo S)
        simpa using this
    · refine ⟨P, R, ?_, hP, by omega, .refl _, hl⟩
      rw [List.length_append] at hl
      subst ha
      clear ih
      refine Wp.ev ?_
      refine gg [.b (decide ((↑(List.length P + 20) : Int) ≤ (↑n : Int))) false] ⟨fP, trivial⟩ ?_
      exact ge
theorem f_stable_inner_Entity (n bs : Nat) (hn : n ≤ 1000000) (hb : 20 ≤ bs) (hbs : bs ≤ n) : ∀ (d : Nat) (P R : List Entity) (a : Nat), a = P.length → R.length ≤ d → (P ++ R).length = n → Full Entity.less (2 * bs) P → Blks Entity.less bs R →
    ∃ (P' R' : List Entity), Is cx (.loop 49 [0, 0, 1, 0, 1, 0, 0, 1, 1, 1, 1] 1 [.all 0 none, vi n, .t (.clo 22 []), vi bs, vi a, vi (a + 2 * bs : Nat)] [.arr 9 ((P ++ R).map Entity.enc) none false])
      ⟨.exit 4, [.all 0 none, vi n, .t (.clo 22 []), vi bs, vi P'.length, vi (P'.length + 2 * bs : Nat)], [.arr 9 ((P' ++ R').map Entity.enc) none false]⟩ ∧
      Full Entity.less (2 * bs) P' ∧ Blks Entity.less bs R' ∧ R'.length < 2 * bs ∧ StEq Entity.less (P' ++ R') (P ++ R) ∧ (P' ++ R').length = n := by
  intro d
  induction d with
  | zero =>
    intro P R a ha hR hl hP hB
    refine ⟨P, R, ?_, hP, hB, by omega, .refl _, hl⟩
    rw [List.length_append] at hl
    subst ha
    refine Wp.ev ?_
    refine gg [.b (decide ((↑(List.length P + 2 * bs) : Int) ≤ (↑n : Int))) false] ⟨fP, trivial⟩ ?_
    exact ge
  | succ d ih =>
    intro P R a ha hR hl hP hB
    by_cases h : 2 * bs ≤ R.length
    · obtain ⟨S1, S2, R, rfl, l1, l2, s1, s2, hB⟩ := hB.two (by omega) h
      simp only [List.length_append] at hR h
      have hs : (sortS Entity.less (S1 ++ S2)).length = 2 * bs := by rw [sortS_len Entity_swo]; simp; omega
      have hl' : ((P ++ sortS Entity.less (S1 ++ S2)) ++ R).length = n := by rw [← hl]; simp; omega
      obtain ⟨P', R', h1, h2, h3, h4, h5, h6⟩ := ih (P ++ sortS Entity.less (S1 ++ S2)) R (a + 2 * bs) (by simp; omega) (by omega) hl' (.snoc hP hs (sortS_sd Entity_swo _)) hB
      refine ⟨P', R', ?_, h2, h3, h4, ?_, h6⟩
      · clear ih
        have hA : (P ++ (S1 ++ S2 ++ R)).length = n := hl
        have hi := f_symMerge_Entity (S1.length + S2.length) P S1 S2 R a (a + bs) (a + 2 * bs) (Nat.le_refl _) ha (by omega) (by omega) (by omega) (by omega) s1 s2 (by unfold small; simp at hA ⊢; omega)
        rw [show P ++ S1 ++ S2 ++ R = P ++ (S1 ++ S2 ++ R) by simp] at hi
        simp only [List.length_append] at hA
        generalize P ++ (S1 ++ S2 ++ R) = A at *
        generalize P ++ sortS Entity.less (S1 ++ S2) ++ R = B at *
        refine Wp.ev ?_
        refine gg [.b (decide ((↑(a + 2 * bs) : Int) ≤ (↑n : Int))) true, .i IntKind.i64 ((↑a : Int) + (↑bs : Int)) ((↑(a + bs) : Int)), .a _ _, .i IntKind.i64 (2 * (↑bs : Int)) ((↑(2 * bs) : Int)), .i IntKind.i64 ((↑(a + 2 * bs) : Int) + (↑(2 * bs) : Int)) ((↑(a + 2 * bs + 2 * bs) : Int)), .a _ _] ⟨tP, oI, o_a hi, oI, oI, o_a h1, trivial⟩ ?_
        exact ge
      · refine h5.trans ?_
        have := StEq.mid (P := P) (Q := R) (sortS_st Entity_swo (S1 ++ S2))
        simpa using this
    · refine ⟨P, R, ?_, hP, hB, by omega, .refl _, hl⟩
      rw [List.length_append] at hl
      subst ha
      clear ih
      refine Wp.ev ?_
      refine gg [.b (decide ((↑(List.length P + 2 * bs) : Int) ≤ (↑n : Int))) false] ⟨fP, trivial⟩ ?_
      exact ge
theorem f_stable_outer_Entity (n : Nat) (hn : n ≤ 1000000) : ∀ (d bs : Nat) (A : List Entity), n ≤ bs + d → 20 ≤ bs → bs ≤ 2000000 → A.length = n → Blks Entity.less bs A →
    ∃ (bs' : Nat) (B : List Entity), Is cx (.loop 49 [0, 1, 1, 1, 1] 1 [.all 0 none, vi n, .t (.clo 22 []), vi bs] [.arr 9 (A.map Entity.enc) none false])
      ⟨.exit 2, [.all 0 none, vi n, .t (.clo 22 []), vi bs'], [.arr 9 (B.map Entity.enc) none false]⟩ ∧ Sd Entity.less B ∧ StEq Entity.less B A := by
  intro d
  induction d with
  | zero =>
    intro bs A h1 h2 h3 hl hB
    refine ⟨bs, A, ?_, hB.sd (by omega), .refl _⟩
    refine Wp.ev ?_
    refine gg [.b (decide ((↑bs : Int) < (↑n : Int))) false] ⟨fP, trivial⟩ ?_
    exact ge
  | succ d ih =>
    intro bs A h1 h2 h3 hl hB
    by_cases h : bs < n
    · obtain ⟨P, R, k1, k2, k3, k4, k5, k6⟩ := f_stable_inner_Entity n bs hn h2 (by omega) A.length [] A 0 rfl (Nat.le_refl _) (by simpa using hl) .nil hB
      rw [List.nil_append, Nat.zero_add] at k1
      rw [List.nil_append] at k5
      by_cases hr : bs < R.length
      · obtain ⟨S1, S2, rfl, l1, s1, s2, l2⟩ := k3.one hr k4
        have hm := f_symMerge_Entity (S1.length + S2.length) P S1 S2 [] P.length (P.length + bs) n (Nat.le_refl _) rfl (by omega) (by simp at k6; omega) (by omega) l2 s1 s2 (by unfold small; simp at k6 ⊢; omega)
        simp only [List.append_nil] at hm
        rw [List.append_assoc] at hm
        simp only [List.length_append] at k4 k6 hr
        have hs : (sortS Entity.less (S1 ++ S2)).length = S1.length + S2.length := by rw [sortS_len Entity_swo]; simp
        obtain ⟨bs', B, j1, j2, j3⟩ := ih (bs * 2) (P ++ sortS Entity.less (S1 ++ S2)) (by omega) (by omega) (by omega) (by simp; omega) (by rw [Nat.mul_comm]; exact k2.blks (.last (by omega) (sortS_sd Entity_swo _)))
        refine ⟨bs', B, ?_, j2, j3.trans (StEq.trans ?_ k5)⟩
        · clear ih j2 j3 k2 k3 k5
          have e1 : (P ++ (S1 ++ S2)).length = n := by simp; omega
          have e2 : (P ++ sortS Entity.less (S1 ++ S2)).length = n := by simp; omega
          generalize P ++ (S1 ++ S2) = X at *
          generalize P ++ sortS Entity.less (S1 ++ S2) = Y at *
          refine Wp.ev ?_
          refine gg [.b (decide ((↑bs : Int) < (↑n : Int))) true, .i IntKind.i64 (2 * (↑bs : Int)) ((↑(2 * bs) : Int)), .a _ _, .i IntKind.i64 ((↑(List.length P) : Int) + (↑bs : Int)) ((↑(List.length P + bs) : Int)), .b (decide ((↑(List.length P + bs) : Int) < (↑n : Int))) true, .a _ _, .i IntKind.i64 ((↑bs : Int) * 2) ((↑(bs * 2) : Int)), .a _ _] ⟨tP, oI, o_a k1, oI, tP, o_a hm, oI, o_a j1, trivial⟩ ?_
          exact ge
        · exact (StEq.refl _).append (sortS_st Entity_swo _)
      · obtain ⟨bs', B, j1, j2, j3⟩ := ih (bs * 2) (P ++ R) (by omega) (by omega) (by omega) k6 (by rw [Nat.mul_comm]; exact k2.blks (.last (by omega) (k3.sd (by omega))))
        refine ⟨bs', B, ?_, j2, j3.trans k5⟩
        clear ih j2 j3 k2 k3 k5
        rw [List.length_append] at k6
        generalize P ++ R = X at *
        refine Wp.ev ?_
        refine gg [.b (decide ((↑bs : Int) < (↑n : Int))) true, .i IntKind.i64 (2 * (↑bs : Int)) ((↑(2 * bs) : Int)), .a _ _, .i IntKind.i64 ((↑(List.length P) : Int) + (↑bs : Int)) ((↑(List.length P + bs) : Int)), .b (decide ((↑(List.length P + bs) : Int) < (↑n : Int))) false, .i IntKind.i64 ((↑bs : Int) * 2) ((↑(bs * 2) : Int)), .a _ _] ⟨tP, oI, o_a k1, oI, fP, oI, o_a j1, trivial⟩ ?_
        exact ge
    · refine ⟨bs, A, ?_, hB.sd (by omega), .refl _⟩
      clear ih
      refine Wp.ev ?_
      refine gg [.b (decide ((↑bs : Int) < (↑n : Int))) false] ⟨fP, trivial⟩ ?_
      exact ge
theorem f_stableCmpFunc_Entity (A : List Entity) (hn : small A) : Is cx (.call 49 [.all 0 none, vi A.length, .t (.clo 22 [])] [.arr 9 (A.map Entity.enc) none false])
   ⟨.ret, [], [.arr 9 ((sortS Entity.less A).map Entity.enc) none false]⟩ := by
  unfold small at hn
  obtain ⟨P, R, k1, k2, k3, k4, k5⟩ := f_stable_first_Entity A.length hn A.length [] A 0 rfl (Nat.le_refl _) (by simp) .nil
  rw [List.nil_append, Nat.zero_add] at k1
  rw [List.nil_append] at k4
  rw [List.length_append] at k5
  have hi := f_insertionSort_Entity (P ++ R) P.length A.length (by omega) (by simp; omega) (by unfold small; simp; omega)
  rw [show srt Entity.less (P ++ R) P.length A.length = P ++ sortS Entity.less R by have := srt_app (lt := Entity.less) P R [] rfl k5.symm; simpa using this] at hi
  have hs : (sortS Entity.less R).length = R.length := sortS_len Entity_swo R
  obtain ⟨bs, B, j1, j2, j3⟩ := f_stable_outer_Entity A.length hn A.length 20 (P ++ sortS Entity.less R) (by omega) (by omega) (by omega) (by simp; omega) (k2.blks (.last (by omega) (sortS_sd Entity_swo _)))
  rw [sortS_eq Entity_swo j2 (j3.trans (((StEq.refl _).append (sortS_st Entity_swo _)).trans k4))] at j1
  clear j2 j3 k2 k4
  have e1 : (P ++ R).length = A.length := by simp; omega
  have e2 : (P ++ sortS Entity.less R).length = A.length := by simp; omega
  generalize P ++ R = X at *
  generalize P ++ sortS Entity.less R = Y at *
  refine Wp.ev ?_
  refine gg [.a _ _, .a _ _, .a _ _] ⟨o_a k1, o_a hi, o_a j1, trivial⟩ ?_
  exact ge
theorem f_SortStableFunc_Entity (A : List Entity) (hn : small A) : Is cx (.call 21 [.all 0 none, .t (.clo 22 [])] [.arr 9 (A.map Entity.enc) none false])
   ⟨.ret, [], [.arr 9 ((sortS Entity.less A).map Entity.enc) none false]⟩ := by
  have h := f_stableCmpFunc_Entity A hn
  unfold small at hn
  refine Wp.ev ?_
  refine gg [.n (List.length (List.map Entity.enc A)) (List.length A), .a _ _] ⟨o_n (by simp), o_a h, trivial⟩ ?_
  exact ge
end Go.Eva.S2

/- Messages: lists put together, and sorted. -/
namespace Go.Eva.S2
theorem f_slices_Grow (n : Nat) (hn : n ≤ 1000000) : Is cx (.call 100 [.fit 15 [], vi n] []) ⟨.ret, [.all 0 none], [.arr 15 [] none false]⟩ := by
  refine Wp.ev ?_
  refine gg [.b (decide ((↑n : Int) < 0)) false, .l 0, .l 0, .i IntKind.i64 0 0, .i IntKind.i64 ((↑n : Int) - 0) ((↑n : Int) - 0)] ⟨o_b (by kernel_rfl), oK, o_i (w64 (by (simp [room, appendMax]; omega))), trivial⟩ ?_
  refine brp (p := (↑n : Int) - 0 > 0) (by kernel_rfl) (fun h1 => ?_) (fun h1 => ?_)
  · refine gg [.l 0, .w ((0 : Int) ≤ (0 : Int)), .l 0, .w ((0 : Nat) ≤ (0 : Nat) ∧ (0 : Nat) ≤ (0 : Nat)), .b (decide (0 = 0)) true, .s (T.sl 15 []), .w ((0 : Int) ≤ (↑n : Int) - (0 : Int) ∧ room (Int.toNat ((↑n : Int) - (0 : Int))) (120 : Nat)), .n (Int.toNat ((↑n : Int) - 0)) n, .s (T.sl 0 (List.replicate n (T.agg [ti 0, ti 0, ti 0, ti 0, ti 0, ti 0, ti 0, ti 0, ti 0, ti 0, ti 0, ti 0, ti 0, ti 0, ti 0]))), .w (room (List.length (List.replicate n (T.agg [ti (0 : Int), ti (0 : Int), ti (0 : Int), ti (0 : Int), ti (0 : Int), ti (0 : Int), ti (0 : Int), ti (0 : Int), ti (0 : Int), ti (0 : Int), ti (0 : Int), ti (0 : Int), ti (0 : Int), ti (0 : Int), ti (0 : Int)]))) (120 : Nat)), .l 0, .w ((0 : Int) ≤ (0 : Int)), .l 0, .w ((0 : Nat) ≤ (0 : Nat) ∧ (0 : Nat) ≤ List.length (List.replicate n (T.agg [ti (0 : Int), ti (0 : Int), ti (0 : Int), ti (0 : Int), ti (0 : Int), ti (0 : Int), ti (0 : Int), ti (0 : Int), ti (0 : Int), ti (0 : Int), ti (0 : Int), ti (0 : Int), ti (0 : Int), ti (0 : Int), ti (0 : Int)]))), .l 0, .l 0] ⟨oW, o_w ⟨(Nat.le_of_ble_eq_true (by kernel_rfl)), (Nat.le_of_ble_eq_true (by kernel_rfl))⟩, o_b (by kernel_rfl), o_w ⟨(by omega), (by (simp [room, appendMax]; omega))⟩, o_n (by kernel_rfl), o_w (by (simp [room, appendMax]; omega)), oW, o_w ⟨(Nat.le_of_ble_eq_true (by kernel_rfl)), (by omega)⟩, trivial⟩ ?_
    refine gg [.s (T.sl 0 [])] trivial ?_
    refine rt (a := Res.mk Ex.ret [V.all 0 none] [Ob.arr 15 [] none false]) (by kernel_rfl) ?_
    simp
  · refine rt (a := Res.mk Ex.ret [V.all 0 none] [Ob.arr 15 [] none false]) (by kernel_rfl) ?_
    simp
theorem f_slices_Concat_count (ls : List (List Cross)) (hl : ls.length ≤ 1000) (ht : total ls ≤ 1000000) : ∀ (d i s : Nat), i + d = ls.length → s + total (ls.drop i) = total ls →
    Is cx (.loop 78 [0, 1, 0, 1, 1] 0 [.t (.sl 1 (ls.map encL)), vi s, .t (.sl 1 (ls.map encL)), vi ls.length, vi i] [])
      ⟨.exit 0, [.t (.sl 1 (ls.map encL)), vi (total ls), .t (.sl 1 (ls.map encL)), vi ls.length, vi ls.length], []⟩ := by
  intro d
  induction d with
  | zero =>
    intro i s hi hs
    rw [total_end (by omega)] at hs
    refine Wp.ev ?_
    refine gg [.b (decide ((↑i : Int) < (↑(List.length ls) : Int))) false] ⟨fP, trivial⟩ ?_
    refine rt (a := Res.mk (Ex.exit 0) [V.t (T.sl 1 (List.map encL ls)), vi (↑s : Int), V.t (T.sl 1 (List.map encL ls)), vi (↑(List.length ls) : Int), vi (↑i : Int)] []) (by kernel_rfl) ?_
    ((have hq : i = ls.length := by omega); subst hq; (have hq2 : s = total ls := by omega); subst hq2; rfl)
  | succ d ih =>
    intro i s hi hs
    have hlt : i < ls.length := by omega
    rw [total_gt hlt] at hs
    have ih1 := ih (i + 1) (s + (gt ls i).length) (by omega) (by omega)
    clear ih
    refine Wp.ev ?_
    refine gg [.b (decide ((↑i : Int) < (↑(List.length ls) : Int))) true, .w ((0 : Int) ≤ (↑i : Int)), .n (Int.toNat (↑i : Int)) i, .g (List.map encL ls) i (encL (gt ls i)), .n (List.length (List.map Cross.enc (gt ls i))) (List.length (gt ls i)), .i IntKind.i64 ((↑s : Int) + (↑(List.length (gt ls i)) : Int)) ((↑(s + List.length (gt ls i)) : Int)), .b (decide ((↑(s + List.length (gt ls i)) : Int) < 0)) false, .i IntKind.i64 ((↑i : Int) + 1) ((↑(i + 1) : Int)), .a _ _] ⟨tP, oW, o_n (by kernel_rfl), o_gt rfl (by assumption) (by intro h; cases h), o_n (by simp), oI, o_b (by kernel_rfl), oI, o_a ih1, trivial⟩ ?_
    exact ge
theorem f_slices_Concat_add (ls : List (List Cross)) (hl : ls.length ≤ 1000) (ht : total ls ≤ 1000000) : ∀ (d i : Nat) (A : List Cross), i + d = ls.length → A.length + total (ls.drop i) = total ls →
    Is cx (.loop 78 [0, 1, 0, 1, 1, 1, 1] 0 [.all 0 none, .t (.sl 1 (ls.map encL)), vi ls.length, vi i] [.arr 15 (A.map Cross.enc) none false])
      ⟨.exit 2, [.all 0 none, .t (.sl 1 (ls.map encL)), vi ls.length, vi ls.length], [.arr 15 ((A ++ (ls.drop i).flatten).map Cross.enc) none false]⟩ := by
  intro d
  induction d with
  | zero =>
    intro i A hi hs
    rw [drop_end (by omega)]
    refine Wp.ev ?_
    refine gg [.b (decide ((↑i : Int) < (↑(List.length ls) : Int))) false] ⟨fP, trivial⟩ ?_
    refine rt (a := Res.mk (Ex.exit 2) [V.all 0 none, V.t (T.sl 1 (List.map encL ls)), vi (↑(List.length ls) : Int), vi (↑i : Int)] [Ob.arr 15 (List.map Cross.enc A) none false]) (by kernel_rfl) ?_
    ((have hq : i = ls.length := by omega); subst hq; simp)
  | succ d ih =>
    intro i A hi hs
    have hlt : i < ls.length := by omega
    rw [total_gt hlt] at hs
    have ih1 := ih (i + 1) (A ++ gt ls i) (by omega) (by simp; omega)
    clear ih
    rw [flat_gt hlt]
    refine Wp.ev ?_
    refine gg [.b (decide ((↑i : Int) < (↑(List.length ls) : Int))) true, .w ((0 : Int) ≤ (↑i : Int)), .n (Int.toNat (↑i : Int)) i, .g (List.map encL ls) i (encL (gt ls i)), .w ((0 : Nat) < (120 : Nat)), .s (T.sl 0 (List.map Cross.enc (gt ls i))), .t (T.sl 0 (List.map Cross.enc A ++ List.map Cross.enc (gt ls i))) (T.sl 0 (List.map Cross.enc (A ++ gt ls i))), .w (room (List.length (List.map Cross.enc (A ++ gt ls i))) (120 : Nat)), .i IntKind.i64 ((↑i : Int) + 1) ((↑(i + 1) : Int)), .a _ _] ⟨tP, oW, o_n (by kernel_rfl), o_gt rfl (by assumption) (by intro h; cases h), oW, o_l (nm_app rfl rfl), o_w (by (simp [room, appendMax]; omega)), o_i (w64 (by (simp [room, appendMax]; omega))), o_a ih1, trivial⟩ ?_
    refine rt (a := Res.mk (Ex.exit 2) [V.all 0 none, V.t (T.sl 1 (List.map encL ls)), vi (↑(List.length ls) : Int), vi (↑(List.length ls) : Int)] [Ob.arr 15 (List.map Cross.enc (A ++ gt ls i ++ List.flatten (List.drop (i + 1) ls))) none false]) (by kernel_rfl) ?_
    simp
theorem f_slices_Concat (ls : List (List Cross)) (hl : ls.length ≤ 1000) (ht : total ls ≤ 1000000) :
    Is cx (.call 78 [.t (.sl 1 (ls.map encL))] []) ⟨.ret, [.all 0 none], [.arr 15 (ls.flatten.map Cross.enc) none false]⟩ := by
  have h1 := f_slices_Concat_count ls hl ht ls.length 0 0 (by omega) (by simp)
  have h2 := f_slices_Concat_add ls hl ht ls.length 0 [] (by omega) (by simp)
  rw [List.drop_zero, List.nil_append] at h2
  have h3 := f_slices_Grow (total ls) ht
  refine Wp.ev ?_
  refine gg [.n (List.length (List.map encL ls)) (List.length ls), .a _ _, .a _ _, .n (List.length (List.map encL ls)) (List.length ls), .a _ _] ⟨o_n (by simp), o_a h1, o_a h3, o_n (by simp), o_a h2, trivial⟩ ?_
  exact ge
theorem f_cross_Sort (ls : List (List Cross)) (hl : ls.length ≤ 1000) (ht : total ls ≤ 1000000) :
    Is cx (.call 35 [.t (.sl 1 (ls.map encL))] []) ⟨.ret, [.all 0 none], [.arr 15 ((sortS Cross.less ls.flatten).map Cross.enc) none false]⟩ := by
  have h1 := f_slices_Concat ls hl ht
  have h2 := f_SortStableFunc_Cross ls.flatten (by unfold small; rw [flat_len]; exact ht)
  refine Wp.ev ?_
  refine gg [.a _ _, .a _ _] ⟨o_a h1, o_a h2, trivial⟩ ?_
  exact ge
theorem f_cross_Sort_0 : Is cx (.call 35 [.t (.sl 1 [])] []) ⟨.ret, [.all 0 none], [.arr 15 [] none false]⟩ := f_cross_Sort [] (by decide) (by decide)
theorem f_cross_Sort_1 (l : List Cross) (h : small l) : Is cx (.call 35 [.t (.sl 1 [.sl 15 (l.map Cross.enc)])] []) ⟨.ret, [.all 0 none], [.arr 15 ((sortS Cross.less l).map Cross.enc) none false]⟩ := by
  have := f_cross_Sort [l] (by simp) (by unfold small at h; simpa [total] using h)
  rw [show [l].flatten = l by simp] at this
  exact this
theorem f_cross_Sort_2 (l m : List Cross) (h : l.length + m.length ≤ 1000000) : Is cx (.call 35 [.t (.sl 1 [.sl 15 (l.map Cross.enc), .sl 15 (m.map Cross.enc)])] []) ⟨.ret, [.all 0 none], [.arr 15 ((sortS Cross.less (l ++ m)).map Cross.enc) none false]⟩ := by
  have := f_cross_Sort [l, m] (by simp) (by simpa [total] using h)
  rw [show [l, m].flatten = l ++ m by simp] at this
  exact this
end Go.Eva.S2

/- Eva, part 67: what stays so from moving to leaving; in plain words. -/
namespace Go.Eva

theorem things_map {l : List Entity} {g : Entity → Entity} (h : ∀ e ∈ l, (g e).kind = e.kind) : things (l.map g) = things l := by
  unfold things
  rw [List.countP_map]
  congr 1
  refine List.countP_congr fun e he => ?_
  simp [h e he]
theorem move_moved {c : Config} {r : Int} {A : List Entity} (h : Sane c r A) : Moved c r (moveL c A) ∧ ∀ e ∈ moveL c A, e.right c = true := by
  have hmem : ∀ e ∈ moveL c A, ∃ x ∈ A, (goE c x).2 = true ∧ e = (goE c x).1 := by
    intro e he
    unfold moveL at he
    obtain ⟨x, hx, rfl⟩ := List.mem_map.1 he
    obtain ⟨h1, h2⟩ := List.mem_filter.1 hx
    exact ⟨x, h1, h2, rfl⟩
  have hr : ∀ e ∈ moveL c A, e.right c = true := by
    intro e he
    obtain ⟨x, hx, hg, rfl⟩ := hmem e he
    exact (go_right hg).1
  refine ⟨⟨?_, ?_, fun e he => ⟨(right_weak (hr e he)).1, ?_⟩⟩, hr⟩
  · unfold moveL
    rw [Srt, List.pairwise_map]
    refine List.Pairwise.imp_of_mem ?_ (srt_filter h.srt)
    intro a b ha hb hab
    have h1 := (goE_id (List.mem_filter.1 ha).2).1
    have h2 := (goE_id (List.mem_filter.1 hb).2).1
    omega
  · unfold moveL
    rw [things_map fun e he => (goE_id (List.mem_filter.1 he).2).2.1]
    have := things_sub (List.filter_sublist (p := fun e => (goE c e).2) (l := A))
    have := h.things
    omega
  · obtain ⟨x, hx, hg, rfl⟩ := hmem e he
    obtain ⟨g1, g2, g3, g4⟩ := go_right hg
    obtain ⟨hxr, hxo⟩ := h.ents x hx
    obtain ⟨hc, p1, p2⟩ := right_place hxr
    obtain ⟨_, q1, q2⟩ := right_place g1
    have := near_step hc p1 p2 q1 q2 g3 g4
    rwa [hxo] at this
theorem Moved.len {c : Config} {r : Int} {l : List Entity} (h : Moved c r l) (hc : c.right = true) : l.length ≤ 30 := by
  have h3 := Config.right_iff.1 hc
  have h1 := len_le (n := c.players) h.srt (fun x hx hk => by
    have := Entity.right_player (h.ents x hx).1.1 hk
    exact this) (by omega)
  have h2 := h.things
  omega
theorem right_low {c : Config} {e : Entity} (h : e.right c = true) : e.health ≤ 100 := (right_weak h).1.2.1
theorem hits_moved {c : Config} {r : Int} {M : List Entity} {inbox : List Cross} (h : Moved c r M) : Moved c r (blastsL (gemsL (shotsL M)) inbox) ∧ ((blastsL (gemsL (shotsL M)) inbox).filter fun e => decide (e.kind = 1)).map Entity.id = (M.filter fun e => decide (e.kind = 1)).map Entity.id := by
  have l0 : ∀ e ∈ M, e.kind = 1 → e.health ≤ 100 := fun e he _ => (h.ents e he).1.2.1
  have h1 := shots_hit l0
  have m1 := h1.moved h
  have h2 := gems_hit (l := shotsL M) h1.low
  have m2 := h2.moved m1
  obtain ⟨b1, b2⟩ := blasts_core (bs := inbox) (l := gemsL (shotsL M)) h2.low
  refine ⟨moved_core b1 m2 b2, ?_⟩
  rw [pl_ids b1, h2.players, h1.players]

/-- Once one has fallen, and begun anew. -/
theorem fall_len {c : Config} {r f : Int} : ∀ {ids : List Int} {s : Stg}, (ids.foldl (fall1 c r f) s).l.length = s.l.length ∧ (ids.foldl (fall1 c r f) s).made = s.made ∧ (ids.foldl (fall1 c r f) s).out.length = s.out.length + ids.length * (c.near r).length := by
  intro ids
  induction ids with
  | nil => intro s; simp
  | cons id ids ih =>
    intro s
    obtain ⟨h1, h2, h3⟩ := @ih (fall1 c r f s id)
    rw [List.foldl_cons]
    refine ⟨by rw [h1]; simp [fall1], by rw [h2]; rfl, ?_⟩
    rw [h3]
    simp only [fall1, blastsAt, List.length_append, List.length_map, List.length_cons]
    rw [Nat.add_mul]; omega
theorem near_pos {c : Config} {r : Int} (h : c.is r = true) : 0 < (c.near r).length := by
  have := near_self h
  cases hn : c.near r with
  | nil => rw [hn] at this; simp [has] at this
  | cons a l => simp

/-- What holds behind falling: right, and in a near region. -/
structure Still2 (c : Config) (r : Int) (l : List Entity) : Prop where
  srt : Srt l
  things : things l ≤ 24
  ents : ∀ e ∈ l, e.right c = true ∧ has (c.near r) (c.of e.x e.y) = true
/-- A blast that a fall makes is right. -/
def blastOk (c : Config) (r f : Int) (m : Cross) : Prop := m.right c = true ∧ m.frm = r ∧ m.frame = f ∧ has (c.near r) m.to = true
theorem has_mem {l : List Int} {x : Int} : has l x = true ↔ x ∈ l := by
  unfold has
  rw [List.any_eq_true]
  constructor
  · rintro ⟨y, h1, h2⟩; simp at h2; subst h2; exact h1
  · intro h; exact ⟨x, h, by simp⟩
theorem anew_right {c : Config} {r f : Int} {e : Entity} {id : Int} (h : weak c e) (hk : e.kind = 1) (hr : c.is r = true) : (anewE c r f id e).right c = true ∧ c.of (anewE c r f id e).x (anewE c r f id e).y = r := by
  obtain ⟨h1, h2, h3⟩ := place_of (c := c) (r := r) (f := f) (o1 := id) (o2 := id) (a := 1) (b := 2) hr
  refine ⟨?_, h3⟩
  have hin : c.inside (placeX c r f 1 id) (placeY c r f 2 id) = true := by
    simp only [Config.inside, Bool.and_eq_true, within_iff]; omega
  have hp := h.1
  simp only [Entity.right, hk, if_true, Bool.and_eq_true, within_iff, decide_eq_true_eq] at hp
  simp only [anewE, Entity.right, hk, if_true, Bool.and_eq_true, within_iff, decide_eq_true_eq]
  refine ⟨hin, ?_⟩
  omega
theorem blast_ok {c : Config} {r f : Int} {e : Entity} {q : Int} (h : weak c e) (hr : c.is r = true) (hf : 0 ≤ f ∧ f < 10000) (hq : q ∈ c.near r) : blastOk c r f ⟨2, r, q, f, Entity.zero, e.x, e.y⟩ := by
  obtain ⟨h1, h2, h3⟩ := weak_place h
  have hin : c.inside e.x e.y = true := by simp only [Config.inside, Bool.and_eq_true, within_iff]; omega
  have hw : within f 0 9999 = true := within_iff.2 (by omega)
  refine ⟨?_, rfl, rfl, has_mem.2 hq⟩
  simp [Cross.right, has_mem.2 hq, hw, hin]
theorem fall_fold {c : Config} {r f : Int} (hr : c.is r = true) (hf : 0 ≤ f ∧ f < 10000) : ∀ {ids : List Int} {s : Stg}, Moved c r s.l → (∀ id ∈ ids, ∃ x ∈ s.l, x.id = id ∧ x.kind = 1) → (∀ e ∈ s.l, e.health ≤ 0 → e.id ∈ ids) → (∀ m ∈ s.out, blastOk c r f m) →
    Still2 c r (ids.foldl (fall1 c r f) s).l ∧ (∀ m ∈ (ids.foldl (fall1 c r f) s).out, blastOk c r f m) ∧ ((ids.foldl (fall1 c r f) s).l.filter fun e => decide (e.kind = 1)).map Entity.id = (s.l.filter fun e => decide (e.kind = 1)).map Entity.id := by
  intro ids
  induction ids with
  | nil =>
    intro s hm _ hh ho
    refine ⟨⟨hm.srt, hm.things, fun e he => ?_⟩, ho, rfl⟩
    obtain ⟨h1, h2⟩ := hm.ents e he
    refine ⟨weak_right h1 ?_, h2⟩
    rcases Int.lt_or_le 0 e.health with h | h
    · omega
    · have := hh e he h; simp at this
  | cons id ids ih =>
    intro s hm hp hh ho
    obtain ⟨x, hx, hxi, hxk⟩ := hp id (List.mem_cons_self ..)
    obtain ⟨k, k1, k2, k3⟩ := find_of hm.srt hx
    rw [hxi] at k1
    have e1 : fall1 c r f s id = ⟨s.l.set k (anewE c r f id x), s.made, s.out ++ blastsAt c r f x⟩ := by
      unfold fall1
      rw [k1, Int.toNat_natCast, k3]
    rw [List.foldl_cons, e1]
    obtain ⟨wx, _⟩ := hm.ents x hx
    obtain ⟨a1, a2⟩ := anew_right (f := f) (id := id) wx hxk hr
    have hids : (s.l.set k (anewE c r f id x)).map Entity.id = s.l.map Entity.id := map_id_set k2 (by rw [k3]; rfl)
    have hkinds : things (s.l.set k (anewE c r f id x)) = things s.l := by
      have := setId_things (e := anewE c r f id x) hm.srt hx rfl
      rwa [setId_eq (by rw [hxi]; exact k1)] at this
    have hpl : ((s.l.set k (anewE c r f id x)).filter fun e => decide (e.kind = 1)).map Entity.id = (s.l.filter fun e => decide (e.kind = 1)).map Entity.id := by
      have hkk : (s.l.set k (anewE c r f id x)).map (fun e => (e.id, e.kind)) = s.l.map fun e => (e.id, e.kind) := by
        rw [List.map_set]
        apply List.ext_getElem?
        intro i
        rw [List.getElem?_set]
        split
        · rename_i hik
          subst hik
          rw [List.length_map, if_pos k2, List.getElem?_map, get_gt k2, Option.map_some, k3]
          rfl
        · rfl
      have e : ∀ l : List Entity, (l.filter fun e => decide (e.kind = 1)).map Entity.id = ((l.map fun e => (e.id, e.kind)).filter fun p => decide (p.2 = 1)).map Prod.fst := fun l => by
        rw [List.filter_map, List.map_map]; rfl
      rw [e, e s.l, hkk]
    have := ih (s := ⟨s.l.set k (anewE c r f id x), s.made, s.out ++ blastsAt c r f x⟩) ?_ ?_ ?_ ?_
    · simp only at this
      rw [hpl] at this
      exact this
    · refine ⟨srt_ids hids.symm hm.srt, by simp only; rw [hkinds]; exact hm.things, fun e he => ?_⟩
      rcases set_mem he with rfl | he
      · exact ⟨(right_weak a1).1, by rw [a2]; exact near_self hr⟩
      · exact hm.ents e he
    · intro id2 hid2
      obtain ⟨y, hy, hyi, hyk⟩ := hp id2 (List.mem_cons_of_mem _ hid2)
      by_cases hne : y.id = x.id
      · have : y = x := uniq_id hm.srt hy hx hne
        subst this
        exact ⟨anewE c r f id y, List.mem_set k2 _, hyi, hyk⟩
      · have := setId_keep (e := anewE c r f id x) hm.srt hx hy hne
        rw [setId_eq (by rw [hxi]; exact k1)] at this
        exact ⟨y, this, hyi, hyk⟩
    · intro e he hle
      rcases set_mem he with h | h
      · subst h
        have := (right_weak a1).2
        omega
      · have := hh e h hle
        rcases List.mem_cons.1 this with h2 | h2
        · -- the one that began anew
          have : e = x := uniq_id hm.srt h hx (by omega)
          subst this
          exfalso
          obtain ⟨j, hj⟩ := List.mem_iff_getElem?.1 he
          rw [List.getElem?_set] at hj
          split at hj
          · rename_i hkj
            injection hj with hj
            have := (right_weak a1).2
            rw [hj] at this
            omega
          · rename_i hkj
            have hj2 := (List.getElem?_eq_some_iff.1 hj).1
            have hg : gt s.l j = e := by unfold gt; rw [hj]; rfl
            have := hm.srt
            rw [Srt, List.pairwise_iff_getElem] at this
            rw [gt_eq hj2] at hg
            rw [gt_eq k2] at k3
            rcases Nat.lt_or_gt_of_ne hkj with hlt | hlt
            · have := this k j k2 hj2 hlt
              rw [hg, k3] at this; omega
            · have := this j k hj2 k2 hlt
              rw [hg, k3] at this; omega
        · exact h2
    · intro m hm2
      rcases List.mem_append.1 hm2 with h | h
      · exact ho m h
      · unfold blastsAt at h
        obtain ⟨q, hq, rfl⟩ := List.mem_map.1 h
        exact blast_ok wx hr hf hq
theorem fall_ok {c : Config} {r f : Int} (hr : c.is r = true) (hf : 0 ≤ f ∧ f < 10000) {H : List Entity} {made : Int} (hm : Moved c r H) : Still2 c r (fallS c r f ⟨H, made, []⟩).l ∧ (∀ m ∈ (fallS c r f ⟨H, made, []⟩).out, blastOk c r f m) ∧ ((fallS c r f ⟨H, made, []⟩).l.filter fun e => decide (e.kind = 1)).map Entity.id = (H.filter fun e => decide (e.kind = 1)).map Entity.id := by
  refine fall_fold (s := ⟨H, made, []⟩) hr hf hm ?_ ?_ (by simp)
  · intro id hid
    obtain ⟨x, h1, h2⟩ := List.mem_map.1 hid
    obtain ⟨h3, h4⟩ := List.mem_filter.1 h1
    simp only [fallenP, Bool.and_eq_true, decide_eq_true_eq] at h4
    exact ⟨x, h3, h2, h4.1⟩
  · intro e he hle
    have hk : e.kind = 1 := by
      by_cases q : e.kind = 1
      · exact q
      · have := (hm.ents e he).1.2.2 q; omega
    exact List.mem_map.2 ⟨e, List.mem_filter.2 ⟨he, by simp [fallenP, hk, hle]⟩, rfl⟩
theorem right_age {c : Config} {e : Entity} (h : e.right c = true) : 0 ≤ e.age ∧ e.age ≤ 12 := by
  simp only [Entity.right, Bool.and_eq_true] at h
  have h2 := h.2
  by_cases k1 : e.kind = 1
  · rw [if_pos k1] at h2
    simp only [Bool.and_eq_true, within_iff, decide_eq_true_eq] at h2
    omega
  · rw [if_neg k1] at h2
    by_cases k2 : e.kind = 2
    · rw [if_pos k2] at h2
      simp only [Bool.and_eq_true, within_iff] at h2
      omega
    · rw [if_neg k2] at h2
      by_cases k3 : e.kind = 3
      · rw [if_pos k3] at h2
        simp only [Bool.and_eq_true, decide_eq_true_eq] at h2
        omega
      · rw [if_neg k3] at h2; contradiction
theorem leave_len {c : Config} {r f : Int} {s : Stg} : (leaveS c r f s).out.length ≤ s.out.length + s.l.length := by
  simp only [leaveS, List.length_append, List.length_map]
  have := List.length_filter_le (fun e => !decide (c.of e.x e.y = r)) s.l
  omega
theorem leave_none {c : Config} {r f : Int} {s : Stg} (h : (s.l.filter fun e => !decide (c.of e.x e.y = r)) = []) : (leaveS c r f s).out = s.out := by
  simp [leaveS, h]
end Go.Eva

/- A region's step. -/
namespace Go.Eva.S2
theorem f_region_Step_no (c : Config) (r : Int) (s : Region) (ins : List Input) (inbox : List Cross) (hn : small s.ents) (hi : small ins) (hb : small inbox) (h : askedE c r s ins inbox ≠ 0) :
    Is cx (.call 12 [.t c.enc, vi r, .t s.enc, .t (.sl 3 (ins.map Input.enc)), .t (.sl 15 (inbox.map Cross.enc))] []) ⟨.ret, [.t Region.zero.enc, .t (.sl 15 []), vi (askedE c r s ins inbox)], []⟩ := by
  have ha := f_region_asked c r s ins inbox hn hi hb
  generalize askedE c r s ins inbox = e at *
  obtain ⟨f, l⟩ := s
  refine Wp.ev ?_
  refine gg [.a _ _, .b (e != 0) true] ⟨o_a ha, t_brn (by assumption), trivial⟩ ?_
  exact ge
theorem f_region_Step_yes (c : Config) (r : Int) (s : Region) (ins : List Input) (inbox : List Cross) (hn : s.ents.length ≤ 100000) (hi : small ins) (hb : inbox.length ≤ 100000) (h : askedE c r s ins inbox = 0) :
    Is cx (.call 12 [.t c.enc, vi r, .t s.enc, .t (.sl 3 (ins.map Input.enc)), .t (.sl 15 (inbox.map Cross.enc))] []) ⟨.ret, [.t (Region.enc ⟨s.frame + 1, (stepS c r s ins inbox).l⟩), .t (.sl 15 ((sortS Cross.less (stepS c r s ins inbox).out).map Cross.enc)), vi 0], []⟩ := by
  have hfine := asked_fine h
  have hrc := Config.is_right hfine.is
  have ha := f_region_asked c r s ins inbox (by unfold small; omega) hi (by unfold small; omega)
  rw [h] at ha
  have hA := f_region_Arrive c r s inbox hn hb
  have hsane := hfine.sane
  obtain ⟨hst1, hst2⟩ := steer_ok hfine
  have hr := Config.is_le hfine.is
  have hreg := @Config.regions_le c
  have hf := hfine.frame
  have hst := f_region_steer c r s.frame ins (arriveL s.ents inbox) hi (by omega) (by omega) (Nat.le_trans (hsane.len hrc) (by omega)) fun p hp => by
    have hpr := (hsane.ents p hp).1
    refine ⟨?_, fun hk => ?_⟩
    · have := right_age hpr; omega
    · have := Entity.right_player hpr hk
      have := hfine.len
      omega
  unfold stepS restS
  have hnear := near_pos hfine.is
  generalize steerS c r s.frame ins ⟨arriveL s.ents inbox, 0, []⟩ = S at *
  generalize arriveL s.ents inbox = L at *
  obtain ⟨A, made, o⟩ := S
  simp only at hst hst1 hst2 ⊢
  subst hst2
  have hmade := hst1.made
  simp only at hmade
  have hAs := hst1.sane
  simp only at hAs
  have hAl := hAs.len hrc
  have hmv := f_region_move c r s.frame made A (by unfold small; omega) fun e he => by have := right_age (hAs.ents e he).1; omega
  obtain ⟨hM, hMr⟩ := move_moved hAs
  have hMl := hM.len hrc
  have hHm := (hits_moved (inbox := inbox) hM).1
  have hHl := hHm.len hrc
  have hsh := f_hitting_Shots (moveL c A) (by unfold small; omega)
  have h1l : (shotsL (moveL c A)).length ≤ 30 := by
    have := (shots_hit (l := moveL c A) fun e he _ => right_low (hMr e he)).moved hM
    exact this.len hrc
  have hge := f_hitting_Gems (shotsL (moveL c A)) (by unfold small; omega)
  have h2l : (gemsL (shotsL (moveL c A))).length ≤ 30 := by
    have k1 := shots_hit (l := moveL c A) fun e he _ => right_low (hMr e he)
    have := (gems_hit (l := shotsL (moveL c A)) k1.low).moved (k1.moved hM)
    exact this.len hrc
  have hbl := f_hitting_Blasts (gemsL (shotsL (moveL c A))) inbox (by unfold small; omega) (by unfold small; omega)
  clear hHm hM hMr hst1 hsane hfine h hAs
  generalize blastsL (gemsL (shotsL (moveL c A))) inbox = H at *
  generalize gemsL (shotsL (moveL c A)) = M2 at *
  generalize shotsL (moveL c A) = M1 at *
  generalize moveL c A = M at *
  obtain ⟨f, l⟩ := s
  simp only at *
  by_cases hfl : fallenL H = []
  · have hfa := f_region_fall_a c r f made H (by omega) hfl
    have e1 : fallS c r f ⟨H, made, []⟩ = ⟨H, made, []⟩ := by unfold fallS; simp only; rw [hfl]; rfl
    rw [e1]
    by_cases hg : below 8 c.seed [3, f, r] ≠ 0 ∨ 3 ≤ (H.countP fun e => e.kind == 3) ∨ Stg.room ⟨H, made, []⟩ = false
    · have hgr := f_region_grow_no_a c r f made H [] (by omega) hg
      have e2 : growS c r f ⟨H, made, []⟩ = ⟨H, made, []⟩ := by unfold growS; rw [if_pos hg]
      rw [e2]
      clear e1 e2 hg hfl
      have hlv := f_region_leave_a c r f made H (by omega)
      have hso := f_cross_Sort_1 (leaveS c r f ⟨H, made, []⟩).out (by have := @leave_len c r f ⟨H, made, []⟩; unfold small; simp only [List.length_nil] at this; omega)
      split at hlv
      · rename_i hq
        rw [hq] at hso ⊢
        change Is cx _ ⟨_, [_, .t (.sl 15 []), _], _⟩
        replace hso := f_cross_Sort_1 [] (by simp [small])
        clear hq
        generalize (leaveS c r f ⟨H, made, []⟩).l = Z at *
        rcases hst with hst | ⟨X, hst⟩
        · refine Wp.ev ?_
          refine gg [.a _ _, .b (0 != 0) false, .a _ _, .a _ _, .a _ _, .a _ _, .a _ _, .a _ _, .a _ _, .a _ _, .a _ _] ⟨o_a ha, o_b (by kernel_rfl), o_a hA, o_a hst, o_a hmv, o_a hsh, o_a hge, o_a hbl, o_a hfa, o_a hgr, o_a hlv, trivial⟩ ?_
          refine gg [.i IntKind.i64 (f + 1) (f + 1), .a _ _] ⟨oI, o_a hso, trivial⟩ ?_
          exact ge
        · refine Wp.ev ?_
          refine gg [.a _ _, .b (0 != 0) false, .a _ _, .a _ _, .a _ _, .a _ _, .a _ _, .a _ _, .a _ _, .a _ _, .a _ _] ⟨o_a ha, o_b (by kernel_rfl), o_a hA, o_a hst, o_a hmv, o_a hsh, o_a hge, o_a hbl, o_a hfa, o_a hgr, o_a hlv, trivial⟩ ?_
          refine gg [.i IntKind.i64 (f + 1) (f + 1), .a _ _] ⟨oI, o_a hso, trivial⟩ ?_
          exact ge
      · rename_i hq
        clear hq
        generalize (leaveS c r f ⟨H, made, []⟩).l = Z at *
        generalize hoo : (leaveS c r f ⟨H, made, []⟩).out = oo at *
        generalize sortS Cross.less oo = so at *
        rcases hst with hst | ⟨X, hst⟩
        · refine Wp.ev ?_
          refine gg [.a _ _, .b (0 != 0) false, .a _ _, .a _ _, .a _ _, .a _ _, .a _ _, .a _ _, .a _ _, .a _ _, .a _ _] ⟨o_a ha, o_b (by kernel_rfl), o_a hA, o_a hst, o_a hmv, o_a hsh, o_a hge, o_a hbl, o_a hfa, o_a hgr, o_a hlv, trivial⟩ ?_
          refine gg [.i IntKind.i64 (f + 1) (f + 1), .s (T.sl 15 (List.map Cross.enc oo)), .a _ _] ⟨oI, o_a hso, trivial⟩ ?_
          exact ge
        · refine Wp.ev ?_
          refine gg [.a _ _, .b (0 != 0) false, .a _ _, .a _ _, .a _ _, .a _ _, .a _ _, .a _ _, .a _ _, .a _ _, .a _ _] ⟨o_a ha, o_b (by kernel_rfl), o_a hA, o_a hst, o_a hmv, o_a hsh, o_a hge, o_a hbl, o_a hfa, o_a hgr, o_a hlv, trivial⟩ ?_
          refine gg [.i IntKind.i64 (f + 1) (f + 1), .s (T.sl 15 (List.map Cross.enc oo)), .a _ _] ⟨oI, o_a hso, trivial⟩ ?_
          exact ge
    · have hgr := f_region_grow_yes_a c r f made H (by omega) (by omega) (by omega) (by omega) hg
      have e2 : growS c r f ⟨H, made, []⟩ = ⟨put1 H (gemE c r f made), made + 1, []⟩ := by unfold growS; rw [if_neg hg]
      rw [e2]
      clear e1 e2 hg hfl
      have hpl := (@put1_len H (gemE c r f made)).2
      generalize put1 H (gemE c r f made) = G at *
      have hlv := f_region_leave_a c r f (made + 1) G (by omega)
      have hso := f_cross_Sort_1 (leaveS c r f ⟨G, made + 1, []⟩).out (by have := @leave_len c r f ⟨G, made + 1, []⟩; unfold small; simp only [List.length_nil] at this; omega)
      split at hlv
      · rename_i hq
        rw [hq] at hso ⊢
        change Is cx _ ⟨_, [_, .t (.sl 15 []), _], _⟩
        replace hso := f_cross_Sort_1 [] (by simp [small])
        clear hq
        generalize (leaveS c r f ⟨G, made + 1, []⟩).l = Z at *
        rcases hst with hst | ⟨X, hst⟩
        · refine Wp.ev ?_
          refine gg [.a _ _, .b (0 != 0) false, .a _ _, .a _ _, .a _ _, .a _ _, .a _ _, .a _ _, .a _ _, .a _ _, .a _ _] ⟨o_a ha, o_b (by kernel_rfl), o_a hA, o_a hst, o_a hmv, o_a hsh, o_a hge, o_a hbl, o_a hfa, o_a hgr, o_a hlv, trivial⟩ ?_
          refine gg [.i IntKind.i64 (f + 1) (f + 1), .a _ _] ⟨oI, o_a hso, trivial⟩ ?_
          exact ge
        · refine Wp.ev ?_
          refine gg [.a _ _, .b (0 != 0) false, .a _ _, .a _ _, .a _ _, .a _ _, .a _ _, .a _ _, .a _ _, .a _ _, .a _ _] ⟨o_a ha, o_b (by kernel_rfl), o_a hA, o_a hst, o_a hmv, o_a hsh, o_a hge, o_a hbl, o_a hfa, o_a hgr, o_a hlv, trivial⟩ ?_
          refine gg [.i IntKind.i64 (f + 1) (f + 1), .a _ _] ⟨oI, o_a hso, trivial⟩ ?_
          exact ge
      · rename_i hq
        clear hq
        generalize (leaveS c r f ⟨G, made + 1, []⟩).l = Z at *
        generalize hoo : (leaveS c r f ⟨G, made + 1, []⟩).out = oo at *
        generalize sortS Cross.less oo = so at *
        rcases hst with hst | ⟨X, hst⟩
        · refine Wp.ev ?_
          refine gg [.a _ _, .b (0 != 0) false, .a _ _, .a _ _, .a _ _, .a _ _, .a _ _, .a _ _, .a _ _, .a _ _, .a _ _] ⟨o_a ha, o_b (by kernel_rfl), o_a hA, o_a hst, o_a hmv, o_a hsh, o_a hge, o_a hbl, o_a hfa, o_a hgr, o_a hlv, trivial⟩ ?_
          refine gg [.i IntKind.i64 (f + 1) (f + 1), .s (T.sl 15 (List.map Cross.enc oo)), .a _ _] ⟨oI, o_a hso, trivial⟩ ?_
          exact ge
        · refine Wp.ev ?_
          refine gg [.a _ _, .b (0 != 0) false, .a _ _, .a _ _, .a _ _, .a _ _, .a _ _, .a _ _, .a _ _, .a _ _, .a _ _] ⟨o_a ha, o_b (by kernel_rfl), o_a hA, o_a hst, o_a hmv, o_a hsh, o_a hge, o_a hbl, o_a hfa, o_a hgr, o_a hlv, trivial⟩ ?_
          refine gg [.i IntKind.i64 (f + 1) (f + 1), .s (T.sl 15 (List.map Cross.enc oo)), .a _ _] ⟨oI, o_a hso, trivial⟩ ?_
          exact ge
  · have hfa := f_region_fall_b c r f made H (by omega) hnear hfl
    have hlen : (fallS c r f ⟨H, made, []⟩).l.length = H.length ∧ (fallS c r f ⟨H, made, []⟩).made = made ∧ (fallS c r f ⟨H, made, []⟩).out.length ≤ 1000 := by
      obtain ⟨k1, k2, k3⟩ := @fall_len c r f (fallenL H) ⟨H, made, []⟩
      refine ⟨k1, k2, ?_⟩
      change ((fallenL H).foldl (fall1 c r f) ⟨H, made, []⟩).out.length ≤ 1000
      rw [k3]
      have hfn := @fallen_len H
      have hns := @near_small c r
      have := Nat.mul_le_mul (Nat.le_trans hfn hHl) hns
      simp only [List.length_nil]
      omega
    generalize fallS c r f ⟨H, made, []⟩ = F at *
    obtain ⟨FL, fm, o⟩ := F
    simp only at hlen hfa ⊢
    obtain ⟨hl1, rfl, hl3⟩ := hlen
    by_cases hg : below 8 c.seed [3, f, r] ≠ 0 ∨ 3 ≤ (FL.countP fun e => e.kind == 3) ∨ Stg.room ⟨FL, fm, o⟩ = false
    · have hgr := f_region_grow_no_b c r f fm FL o (by omega) hg
      have e2 : growS c r f ⟨FL, fm, o⟩ = ⟨FL, fm, o⟩ := by unfold growS; rw [if_pos hg]
      rw [e2]
      clear e2 hg hfl
      have hlv := f_region_leave_b c r f fm FL o (by omega) (by omega)
      have hso := f_cross_Sort_1 (leaveS c r f ⟨FL, fm, o⟩).out (by have := @leave_len c r f ⟨FL, fm, o⟩; unfold small; simp only at this; omega)
      split at hlv
      · rename_i hq
        rw [show (leaveS c r f ⟨FL, fm, o⟩).out = o from leave_none hq] at hso ⊢
        clear hq
        generalize (leaveS c r f ⟨FL, fm, o⟩).l = Z at *
        generalize sortS Cross.less o = so at *
        rcases hst with hst | ⟨X, hst⟩
        · refine Wp.ev ?_
          refine gg [.a _ _, .b (0 != 0) false, .a _ _, .a _ _, .a _ _, .a _ _, .a _ _, .a _ _, .a _ _, .a _ _, .a _ _] ⟨o_a ha, o_b (by kernel_rfl), o_a hA, o_a hst, o_a hmv, o_a hsh, o_a hge, o_a hbl, o_a hfa, o_a hgr, o_a hlv, trivial⟩ ?_
          refine gg [.i IntKind.i64 (f + 1) (f + 1), .s (T.sl 15 (List.map Cross.enc o)), .a _ _] ⟨oI, o_a hso, trivial⟩ ?_
          exact ge
        · refine Wp.ev ?_
          refine gg [.a _ _, .b (0 != 0) false, .a _ _, .a _ _, .a _ _, .a _ _, .a _ _, .a _ _, .a _ _, .a _ _, .a _ _] ⟨o_a ha, o_b (by kernel_rfl), o_a hA, o_a hst, o_a hmv, o_a hsh, o_a hge, o_a hbl, o_a hfa, o_a hgr, o_a hlv, trivial⟩ ?_
          refine gg [.i IntKind.i64 (f + 1) (f + 1), .s (T.sl 15 (List.map Cross.enc o)), .a _ _] ⟨oI, o_a hso, trivial⟩ ?_
          exact ge
      · rename_i hq
        clear hq
        generalize (leaveS c r f ⟨FL, fm, o⟩).l = Z at *
        generalize hoo : (leaveS c r f ⟨FL, fm, o⟩).out = oo at *
        generalize sortS Cross.less oo = so at *
        rcases hst with hst | ⟨X, hst⟩
        · refine Wp.ev ?_
          refine gg [.a _ _, .b (0 != 0) false, .a _ _, .a _ _, .a _ _, .a _ _, .a _ _, .a _ _, .a _ _, .a _ _, .a _ _] ⟨o_a ha, o_b (by kernel_rfl), o_a hA, o_a hst, o_a hmv, o_a hsh, o_a hge, o_a hbl, o_a hfa, o_a hgr, o_a hlv, trivial⟩ ?_
          refine gg [.i IntKind.i64 (f + 1) (f + 1), .s (T.sl 15 (List.map Cross.enc oo)), .a _ _] ⟨oI, o_a hso, trivial⟩ ?_
          exact ge
        · refine Wp.ev ?_
          refine gg [.a _ _, .b (0 != 0) false, .a _ _, .a _ _, .a _ _, .a _ _, .a _ _, .a _ _, .a _ _, .a _ _, .a _ _] ⟨o_a ha, o_b (by kernel_rfl), o_a hA, o_a hst, o_a hmv, o_a hsh, o_a hge, o_a hbl, o_a hfa, o_a hgr, o_a hlv, trivial⟩ ?_
          refine gg [.i IntKind.i64 (f + 1) (f + 1), .s (T.sl 15 (List.map Cross.enc oo)), .a _ _] ⟨oI, o_a hso, trivial⟩ ?_
          exact ge
    · have hgr := f_region_grow_yes_b c r f fm FL o (by omega) (by omega) (by omega) (by omega) hg
      have e2 : growS c r f ⟨FL, fm, o⟩ = ⟨put1 FL (gemE c r f fm), fm + 1, o⟩ := by unfold growS; rw [if_neg hg]
      rw [e2]
      clear e2 hg hfl
      have hpl := (@put1_len FL (gemE c r f fm)).2
      generalize put1 FL (gemE c r f fm) = G at *
      have hlv := f_region_leave_b c r f (fm + 1) G o (by omega) (by omega)
      have hso := f_cross_Sort_1 (leaveS c r f ⟨G, fm + 1, o⟩).out (by have := @leave_len c r f ⟨G, fm + 1, o⟩; unfold small; simp only at this; omega)
      split at hlv
      · rename_i hq
        rw [show (leaveS c r f ⟨G, fm + 1, o⟩).out = o from leave_none hq] at hso ⊢
        clear hq
        generalize (leaveS c r f ⟨G, fm + 1, o⟩).l = Z at *
        generalize sortS Cross.less o = so at *
        rcases hst with hst | ⟨X, hst⟩
        · refine Wp.ev ?_
          refine gg [.a _ _, .b (0 != 0) false, .a _ _, .a _ _, .a _ _, .a _ _, .a _ _, .a _ _, .a _ _, .a _ _, .a _ _] ⟨o_a ha, o_b (by kernel_rfl), o_a hA, o_a hst, o_a hmv, o_a hsh, o_a hge, o_a hbl, o_a hfa, o_a hgr, o_a hlv, trivial⟩ ?_
          refine gg [.i IntKind.i64 (f + 1) (f + 1), .s (T.sl 15 (List.map Cross.enc o)), .a _ _] ⟨oI, o_a hso, trivial⟩ ?_
          exact ge
        · refine Wp.ev ?_
          refine gg [.a _ _, .b (0 != 0) false, .a _ _, .a _ _, .a _ _, .a _ _, .a _ _, .a _ _, .a _ _, .a _ _, .a _ _] ⟨o_a ha, o_b (by kernel_rfl), o_a hA, o_a hst, o_a hmv, o_a hsh, o_a hge, o_a hbl, o_a hfa, o_a hgr, o_a hlv, trivial⟩ ?_
          refine gg [.i IntKind.i64 (f + 1) (f + 1), .s (T.sl 15 (List.map Cross.enc o)), .a _ _] ⟨oI, o_a hso, trivial⟩ ?_
          exact ge
      · rename_i hq
        clear hq
        generalize (leaveS c r f ⟨G, fm + 1, o⟩).l = Z at *
        generalize hoo : (leaveS c r f ⟨G, fm + 1, o⟩).out = oo at *
        generalize sortS Cross.less oo = so at *
        rcases hst with hst | ⟨X, hst⟩
        · refine Wp.ev ?_
          refine gg [.a _ _, .b (0 != 0) false, .a _ _, .a _ _, .a _ _, .a _ _, .a _ _, .a _ _, .a _ _, .a _ _, .a _ _] ⟨o_a ha, o_b (by kernel_rfl), o_a hA, o_a hst, o_a hmv, o_a hsh, o_a hge, o_a hbl, o_a hfa, o_a hgr, o_a hlv, trivial⟩ ?_
          refine gg [.i IntKind.i64 (f + 1) (f + 1), .s (T.sl 15 (List.map Cross.enc oo)), .a _ _] ⟨oI, o_a hso, trivial⟩ ?_
          exact ge
        · refine Wp.ev ?_
          refine gg [.a _ _, .b (0 != 0) false, .a _ _, .a _ _, .a _ _, .a _ _, .a _ _, .a _ _, .a _ _, .a _ _, .a _ _] ⟨o_a ha, o_b (by kernel_rfl), o_a hA, o_a hst, o_a hmv, o_a hsh, o_a hge, o_a hbl, o_a hfa, o_a hgr, o_a hlv, trivial⟩ ?_
          refine gg [.i IntKind.i64 (f + 1) (f + 1), .s (T.sl 15 (List.map Cross.enc oo)), .a _ _] ⟨oI, o_a hso, trivial⟩ ?_
          exact ge
theorem f_region_Step (c : Config) (r : Int) (s : Region) (ins : List Input) (inbox : List Cross) (hn : s.ents.length ≤ 100000) (hi : small ins) (hb : inbox.length ≤ 100000) :
    Is cx (.call 12 [.t c.enc, vi r, .t s.enc, .t (.sl 3 (ins.map Input.enc)), .t (.sl 15 (inbox.map Cross.enc))] []) ⟨.ret, [.t (stepP c r s ins inbox).1.enc, .t (.sl 15 ((stepP c r s ins inbox).2.1.map Cross.enc)), vi (stepP c r s ins inbox).2.2], []⟩ := by
  unfold stepP
  by_cases h : askedE c r s ins inbox = 0
  · rw [if_neg (by simp [h])]
    exact f_region_Step_yes c r s ins inbox hn hi hb h
  · rw [if_pos h]
    exact f_region_Step_no c r s ins inbox (by unfold small; omega) hi (by unfold small; omega) h
end Go.Eva.S2

/- Eva, part 68: steps of regions where there is nobody, or one; in plain words. -/
namespace Go.Eva

theorem grow_cases {c : Config} {r f : Int} {s : Stg} : growS c r f s = s ∨ growS c r f s = ⟨put1 s.l (gemE c r f s.made), s.made + 1, s.out⟩ := by
  unfold growS
  split
  · exact .inl rfl
  · exact .inr rfl
theorem gem_of {c : Config} {r f made : Int} (hr : c.is r = true) : c.of (gemE c r f made).x (gemE c r f made).y = r := (place_of (o1 := r) (o2 := r) (a := 4) (b := 5) hr).2.2
theorem hits_nil {inbox : List Cross} : blastsL (gemsL (shotsL [])) inbox = [] := by
  have h1 : shotsL [] = [] := rfl
  have h2 : gemsL [] = [] := rfl
  rw [h1, h2]
  unfold blastsL
  induction inbox with
  | nil => rfl
  | cons b inbox ih => simpa using ih
theorem step_empty {c : Config} {r f : Int} {ins : List Input} (hr : c.is r = true) : (stepS c r ⟨f, []⟩ ins []).out = [] ∧ ((stepS c r ⟨f, []⟩ ins []).l = [] ∨ (stepS c r ⟨f, []⟩ ins []).l = [gemE c r f 0]) := by
  have e1 : steerS c r f ins ⟨arriveL [] [], 0, []⟩ = ⟨[], 0, []⟩ := rfl
  have e2 : moveL c [] = [] := rfl
  have e3 : fallS c r f ⟨[], 0, []⟩ = ⟨[], 0, []⟩ := rfl
  unfold stepS restS
  simp only [e1, e2, hits_nil, e3]
  rcases @grow_cases c r f ⟨[], 0, []⟩ with h | h
  · rw [h]; exact ⟨rfl, .inl rfl⟩
  · rw [h]
    have hp : put1 [] (gemE c r f 0) = [gemE c r f 0] := rfl
    have hg := @gem_of c r f 0 hr
    simp only [hp, leaveS, List.filter_cons, hg, decide_true, Bool.not_true, if_true, Bool.false_eq_true, if_false, List.filter_nil, List.map_nil, List.append_nil, List.nil_append]
    exact ⟨trivial, .inr trivial⟩
theorem asked_empty {c : Config} {r f : Int} {ins : List Input} (hr : c.is r = true) (hf : 0 ≤ f ∧ f < 10000) (hl : (ins.length : Int) = c.players) (hi : ∀ i ∈ ins, i.right = true) : askedE c r ⟨f, []⟩ ins [] = 0 :=
  fine_asked ⟨hr, hf, by simp [Srt], by simp [things], by simp, hl, hi, by simp⟩

/-- One player alone, that does not shoot. -/
theorem meet_one {kind far : Int} {other : Entity → Entity → Bool} {turn : Int → Int} {q : Entity} (h : q.kind ≠ kind) : meetL kind far other turn [q] = [q] := by
  have hg : gt [q] 0 = q := rfl
  simp [meetL, meetN, meet1, hg, h, keepL]
theorem hits_one {q : Entity} (h : q.kind = 1) : blastsL (gemsL (shotsL [q])) [] = [q] := by
  have h1 : shotsL [q] = [q] := meet_one (by omega)
  have h2 : gemsL [q] = [q] := meet_one (by omega)
  rw [h1, h2]; rfl
theorem steer_one {c : Config} {r f : Int} {ins : List Input} {p : Entity} (hk : p.kind = 1) (hf : (steerE p (inAt ins p.id)).2 = false) : steerS c r f ins ⟨[p], 0, []⟩ = ⟨[(steerE p (inAt ins p.id)).1], 0, []⟩ := by
  have h1 : find [p] p.id = 0 := by simp [find, pos]
  simp only [steerS, List.foldl_cons, List.foldl_nil, steer1, hk, ne_eq, not_true_eq_false, if_false, hf, Bool.false_eq_true, setId, h1]
  rfl
theorem put_gem {c : Config} {r f : Int} {q : Entity} (hq : q.id < 1000) (hr : 0 ≤ r ∧ r < c.regions) (hf : 0 ≤ f ∧ f < 10000) : put1 [q] (gemE c r f 0) = [q, gemE c r f 0] := by
  have hn := num_le (made := 0) hr hf (by omega)
  have hid : (gemE c r f 0).id = numI c r f 0 := rfl
  have h1 : ([q].findIdx? fun x => x.id == (gemE c r f 0).id) = none := by
    rw [List.findIdx?_eq_none_iff]
    intro x hx
    simp at hx
    subst hx
    simp; omega
  unfold put1
  rw [h1]
  simp only
  rw [ins_lt (by omega)]
  rfl
/-- One player alone: it goes, a gem may grow; it stays, or leaves. -/
theorem step_one {c : Config} {r f : Int} {ins : List Input} {inbox : List Cross} {l : List Entity} {p e q : Entity} (ha : arriveL l inbox = [p]) (hb : ∀ e, blastsL [e] inbox = [e]) (hr : c.is r = true) (hf : 0 ≤ f ∧ f < 10000) (hk : p.kind = 1) (hid : p.id < 1000) (hs : steerE p (inAt ins p.id) = (e, false)) (hg : goE c e = (q, true)) (hh : 1 ≤ p.health) :
    ∃ g : List Entity, (∀ x ∈ g, x.kind = 3) ∧ (c.of q.x q.y = r → (stepS c r ⟨f, l⟩ ins inbox).l = q :: g ∧ (stepS c r ⟨f, l⟩ ins inbox).out = []) ∧ (c.of q.x q.y ≠ r → (stepS c r ⟨f, l⟩ ins inbox).l = g ∧ (stepS c r ⟨f, l⟩ ins inbox).out = [handE c r f q]) := by
  have hE := @steerE_id p (inAt ins p.id)
  rw [hs] at hE
  simp only at hE
  have hQ := goE_id (c := c) (e := e) (by rw [hg])
  rw [hg] at hQ
  simp only at hQ
  have e1 := steer_one (c := c) (r := r) (f := f) (ins := ins) hk (by rw [hs])
  rw [hs] at e1
  have e2 : moveL c [e] = [q] := by simp [moveL, hg]
  have hqk : q.kind = 1 := by omega
  have e3 : fallS c r f ⟨[q], 0, []⟩ = ⟨[q], 0, []⟩ := by
    have : fallenL [q] = [] := by simp [fallenL, fallenP, hqk]; omega
    unfold fallS; simp only; rw [this]; rfl
  have e4 : blastsL (gemsL (shotsL [q])) inbox = [q] := by
    have h1 : shotsL [q] = [q] := meet_one (by omega)
    have h2 : gemsL [q] = [q] := meet_one (by omega)
    rw [h1, h2, hb]
  have e5 : stepS c r ⟨f, l⟩ ins inbox = leaveS c r f (growS c r f ⟨[q], 0, []⟩) := by
    unfold stepS restS
    simp only [ha, e1, e2, e4, e3]
  rw [e5]
  rcases @grow_cases c r f ⟨[q], 0, []⟩ with h | h
  · rw [h]
    refine ⟨[], by simp, fun ho => ?_, fun ho => ?_⟩
    · simp [leaveS, ho]
    · simp [leaveS, ho]
  · rw [h]
    have hp := put_gem (c := c) (r := r) (f := f) (q := q) (by omega) (Config.is_le hr) hf
    have hgo := @gem_of c r f 0 hr
    refine ⟨[gemE c r f 0], by simp [gemE], fun ho => ?_, fun ho => ?_⟩
    · simp [leaveS, hp, ho, hgo]
    · simp [leaveS, hp, ho, hgo]
/-- How many there are behind a step. -/
theorem fine_next {c : Config} {r : Int} {s : Region} {ins : List Input} {inbox : List Cross} (h : askedE c r s ins inbox = 0) : (stepS c r s ins inbox).l.length ≤ 31 := by
  have hfine := asked_fine h
  have hrc := Config.is_right hfine.is
  obtain ⟨hst1, hst2⟩ := steer_ok hfine
  unfold stepS restS
  generalize steerS c r s.frame ins ⟨arriveL s.ents inbox, 0, []⟩ = S at *
  obtain ⟨A, made, o⟩ := S
  simp only at hst1 hst2 ⊢
  have hM := (move_moved hst1.sane).1
  have hH := ((hits_moved (inbox := inbox) hM).1).len hrc
  simp only at hH
  generalize blastsL (gemsL (shotsL (moveL c A))) inbox = H at *
  have hF := (@fall_len c r s.frame (fallenL H) ⟨H, made, o⟩).1
  change (fallS c r s.frame ⟨H, made, o⟩).l.length = H.length at hF
  have hG : (growS c r s.frame (fallS c r s.frame ⟨H, made, o⟩)).l.length ≤ 31 := by
    rcases @grow_cases c r s.frame (fallS c r s.frame ⟨H, made, o⟩) with h | h
    · rw [h]; omega
    · rw [h]
      have := (@put1_len (fallS c r s.frame ⟨H, made, o⟩).l (gemE c r s.frame (fallS c r s.frame ⟨H, made, o⟩).made)).2
      simp only; omega
  have : (leaveS c r s.frame (growS c r s.frame (fallS c r s.frame ⟨H, made, o⟩))).l.length ≤ (growS c r s.frame (fallS c r s.frame ⟨H, made, o⟩)).l.length := List.length_filter_le ..
  omega
/-- Player one, at a place, as it goes to the right. -/
def plE (x v vx n : Int) : Entity := ⟨1, 1, x, v, vx, 0, 1 + n, 0, 0⟩
theorem plE_right {c : Config} {x v vx n : Int} (h : c.inside x v = true) (hc : 1 ≤ c.players) (hv : 0 ≤ vx ∧ vx ≤ 64) (hn : 0 ≤ n ∧ n < 100) : (plE x v vx n).right c = true := by
  have e1 : within 1 1 c.players = true := within_iff.2 (by omega)
  have e2 : within vx (-64) 64 = true := within_iff.2 (by omega)
  have e3 : within (1 + n) 1 100 = true := within_iff.2 (by omega)
  have e4 : within 0 (-64) 64 = true := by decide
  have e5 : within 0 0 6 = true := by decide
  unfold Entity.right plE
  simp only [h, e1, e2, e3, e4, e5]
  simp
theorem plE_go {c : Config} {x v vx n : Int} (hr : (plE x v vx n).right c = true) (hx : 0 ≤ x + vx ∧ x + vx < c.width) (hv : 0 ≤ v ∧ v < c.height) (hvx : 0 ≤ vx ∧ vx ≤ 64) (hx2 : 0 ≤ x) : goE c (plE x v vx n) = (plE (x + vx) v vx n, true) := by
  have h1 := @Config.width_le c
  have h2 := @Config.height_le c
  have ax : sumH [x, vx] = x + vx := add_two (by omega) (by omega)
  have ay : sumH [v, 0] = v + 0 := add_two (by omega) (by omega)
  unfold goE
  rw [if_neg (by simp [hr]), if_neg (by simp [plE])]
  simp only [plE, ax, ay]
  rw [clamp_in (by omega), clamp_in (by omega), Int.add_zero]
theorem plE_steer {x v vx n d : Int} {ins : List Input} (h : inAt ins 1 = ⟨d, 0, false⟩) (hd : -2 ≤ d ∧ d ≤ 2) : steerE (plE x v vx n) (inAt ins (plE x v vx n).id) = (plE x v (d * 32) n, false) := by
  have e : (plE x v vx n).id = 1 := rfl
  rw [e, h]
  have hir : Input.right ⟨d, 0, false⟩ = true := by simp only [Input.right, Bool.and_eq_true, within_iff]; omega
  simp only [steerE, hir, plE]
  rfl
end Go.Eva

/- Eva, part 69: arenas; in plain words. -/
namespace Go.Eva

structure World where
  regions : List Region
  outs : List CrossL
deriving DecidableEq, Inhabited
def World.enc (w : World) : T := .agg [.sl 2 (w.regions.map Region.enc), .sl 1 (w.outs.map encL)]
/-- A player at first. -/
def playerP (cols n i : Int) : Entity := ⟨i, 1, ((i - 1).tmod n).tmod cols * 1024 + 512, ((i - 1).tmod n).tdiv cols * 1024 + 512, 0, 0, 100, 0, 0⟩
def begin1 (cols n : Int) (rs : List Region) (i : Int) : List Region := rs.set ((i - 1).tmod n).toNat ⟨(gt rs ((i - 1).tmod n).toNat).frame, put1 (gt rs ((i - 1).tmod n).toNat).ents (playerP cols n i)⟩
def beginP (cols n : Int) : Nat → Int → List Region → List Region
  | 0, _, rs => rs
  | d + 1, i, rs => beginP cols n d (i + 1) (begin1 cols n rs i)
def beginW (cols n : Int) (players : Nat) : World := ⟨beginP cols n players 1 (List.replicate n.toNat ⟨0, []⟩), List.replicate n.toNat []⟩
/-- Handed over, of one list; of all. -/
def handed (l : List Cross) : List Entity := (l.filter fun m => decide (m.kind = 1)).map Cross.ent
def entsAll (rs : List Region) : List Entity := (rs.map Region.ents).flatten
def handedAll (os : List CrossL) : List Entity := (os.map handed).flatten
def allL (w : World) : List Entity := sortS Entity.less (entsAll w.regions ++ handedAll w.outs)
theorem beginP_len {cols n : Int} : ∀ {d : Nat} {i : Int} {rs : List Region}, (beginP cols n d i rs).length = rs.length
  | 0, _, _ => rfl
  | d + 1, i, rs => by rw [beginP, beginP_len]; simp [begin1]
/-- All players, in their order. -/
def playersP (cols n : Int) : Nat → Int → List Entity
  | 0, _ => []
  | d + 1, i => playerP cols n i :: playersP cols n d (i + 1)
theorem begin_all {a b p : Int} (ha : 1 ≤ a ∧ a ≤ 3) (hb : 1 ≤ b ∧ b ≤ 3) (hp : 1 ≤ p ∧ p ≤ 4) : allL (beginW a (a * b) p.toNat) = playersP a (a * b) p.toNat 1 := by
  have key : ∀ x ∈ [1, 2, 3], ∀ y ∈ [1, 2, 3], ∀ q ∈ [1, 2, 3, 4], allL (beginW (x : Nat) ((x : Nat) * (y : Nat) : Int) q) = playersP (x : Nat) ((x : Nat) * (y : Nat) : Int) q 1 := by decide +kernel
  obtain ⟨x, rfl⟩ : ∃ x : Nat, a = x := ⟨a.toNat, by omega⟩
  obtain ⟨y, rfl⟩ : ∃ y : Nat, b = y := ⟨b.toNat, by omega⟩
  obtain ⟨q, rfl⟩ : ∃ q : Nat, p = q := ⟨p.toNat, by omega⟩
  refine key x ?_ y ?_ q ?_
  · have : x = 1 ∨ x = 2 ∨ x = 3 := by omega
    simpa using this
  · have : y = 1 ∨ y = 2 ∨ y = 3 := by omega
    simpa using this
  · have : q = 1 ∨ q = 2 ∨ q = 3 ∨ q = 4 := by omega
    simpa using this
theorem playersP_len {cols n : Int} : ∀ {d : Nat} {i : Int}, (playersP cols n d i).length = d
  | 0, _ => rfl
  | d + 1, i => by simp [playersP, playersP_len]
theorem playersP_gt {cols n : Int} : ∀ {d k : Nat} {i : Int}, k < d → gt (playersP cols n d i) k = playerP cols n (i + k)
  | 0, k, _, h => by omega
  | d + 1, 0, i, _ => by
    show playerP cols n i = _
    simp
  | d + 1, k + 1, i, h => by
    have := @playersP_gt cols n d k (i + 1) (by omega)
    have e : gt (playersP cols n (d + 1) i) (k + 1) = gt (playersP cols n d (i + 1)) k := rfl
    rw [e, this]
    congr 1
    omega
end Go.Eva

/- Arenas: at first; all that there is. -/
namespace Go.Eva.S2
theorem f_arena_Begin_loop (g : Config) (os : List T) (hg : g.right = true) : ∀ (d j : Nat) (rs : List Region), ((j + d : Nat) : Int) = g.players → (rs.length : Int) = g.regions → (∀ s ∈ rs, s.ents.length ≤ j) →
    Is cx (.loop 8 [0, 1, 0, 1, 1, 1, 1] 0 [.ptr 0 0 0, .ptr 1 0 0, .ptr 2 0 0, vi (j + 1 : Nat)] [.one 2 (.agg [.fit 2 [], .fit 1 []]) false, .one 5 (.t g.enc) false, .one 2 (.agg [.all 3 none, .all 4 none]) false, .arr 2 (rs.map Region.enc) (some 0) false, .arr 1 os (some 0) false])
      ⟨.exit 0, [.ptr 0 0 0, .ptr 1 0 0, .ptr 2 0 0, vi (j + d + 1 : Nat)], [.one 2 (.agg [.fit 2 [], .fit 1 []]) false, .one 5 (.t g.enc) false, .one 2 (.agg [.all 3 none, .all 4 none]) false, .arr 2 ((beginP g.cols g.regions d (j + 1 : Nat) rs).map Region.enc) (some 0) false, .arr 1 os (some 0) false]⟩ := by
  have hgr := Config.right_iff.1 hg
  have hgl := @Config.regions_le g
  have hml := Config.mul_le hg
  have hre : g.regions = g.cols * g.rows := by simp [Config.regions, hg]
  intro d
  induction d with
  | zero =>
    intro j rs hj hl hb
    rw [beginP]
    clear hre
    refine Wp.ev ?_
    refine gg [.b (decide ((↑(j + 1) : Int) ≤ g.players)) false] ⟨fP, trivial⟩ ?_
    exact ge
  | succ d ih =>
    intro j rs hj hl hb
    obtain ⟨k, hk⟩ : ∃ k : Nat, Int.tmod (j : Int) g.regions = k := ⟨(Int.tmod (j : Int) g.regions).toNat, by
      have := tmod_le (v := (j : Int)) (k := g.regions) (by omega) (by omega); omega⟩
    have hk2 := tmod_le (v := (j : Int)) (k := g.regions) (by omega) (by omega)
    rw [hk] at hk2
    have hkl : k < rs.length := by omega
    have ej : ((j + 1 : Nat) : Int) - 1 = (j : Nat) := by omega
    have eb : begin1 g.cols g.regions rs (j + 1 : Nat) = rs.set k ⟨(gt rs k).frame, put1 (gt rs k).ents ⟨(j + 1 : Nat), 1, (k : Int).tmod g.cols * 1024 + 512, (k : Int).tdiv g.cols * 1024 + 512, 0, 0, 100, 0, 0⟩⟩ := by
      unfold begin1 playerP
      rw [ej, hk]
      rfl
    rw [beginP, eb]
    have hpl := (@put1_len (gt rs k).ents ⟨(j + 1 : Nat), 1, (k : Int).tmod g.cols * 1024 + 512, (k : Int).tdiv g.cols * 1024 + 512, 0, 0, 100, 0, 0⟩).2
    have hbk := hb _ (gt_mem hkl)
    have ih1 := ih (j + 1) (rs.set k ⟨(gt rs k).frame, put1 (gt rs k).ents ⟨(j + 1 : Nat), 1, (k : Int).tmod g.cols * 1024 + 512, (k : Int).tdiv g.cols * 1024 + 512, 0, 0, 100, 0, 0⟩⟩) (by omega) (by simpa using hl) fun s hs => by
      rcases set_mem hs with rfl | hs
      · simp only; omega
      · have := hb s hs; omega
    have hC := f_grid_Corner g k
    have his : g.is k = true := by rw [Config.is_iff hg]; omega
    simp only [Config.cornerX, Config.cornerY, his, if_true] at hC
    have q1 := tdiv_le (v := (k : Int)) (k := g.cols) (m := g.rows) (by omega) (by omega) (by omega)
    have q2 := tmod_le (v := (k : Int)) (k := g.cols) (by omega) (by omega)
    have hG := f_grid_Regions g
    have hput := f_entity_Put (gt rs k).ents [⟨(j + 1 : Nat), 1, (k : Int).tmod g.cols * 1024 + 512, (k : Int).tdiv g.cols * 1024 + 512, 0, 0, 100, 0, 0⟩] (by omega) (by simp)
    change Is cx _ ⟨_, _, [.arr 9 ((put1 (gt rs k).ents ⟨(j + 1 : Nat), 1, (k : Int).tmod g.cols * 1024 + 512, (k : Int).tdiv g.cols * 1024 + 512, 0, 0, 100, 0, 0⟩).map Entity.enc) none false]⟩ at hput
    generalize put1 (gt rs k).ents ⟨(j + 1 : Nat), 1, (k : Int).tmod g.cols * 1024 + 512, (k : Int).tdiv g.cols * 1024 + 512, 0, 0, 100, 0, 0⟩ = B at *
    clear ih eb hre hb his
    rw [show j + 1 + d + 1 = j + (d + 1) + 1 by omega] at ih1
    refine Wp.ev ?_
    refine gg [.b (decide ((↑(j + 1) : Int) ≤ g.players)) true, .i IntKind.i64 ((↑(j + 1) : Int) - 1) (↑j : Int), .a _ _, .w (Config.regions g ≠ (0 : Int)), .t (ti (Int.tmod (↑j : Int) (Config.regions g))) (ti (↑k : Int)), .a _ _, .i IntKind.i64 (Int.tmod (↑k : Int) g.cols * 1024 + 512) (Int.tmod (↑k : Int) g.cols * 1024 + 512), .i IntKind.i64 (Int.tdiv (↑k : Int) g.cols * 1024 + 512) (Int.tdiv (↑k : Int) g.cols * 1024 + 512), .w ((0 : Int) ≤ (↑k : Int)), .n (Int.toNat (↑k : Int)) k, .w (k < List.length (List.map Region.enc rs)), .g (List.map Region.enc rs) k (Region.enc (gt rs k)), .a _ _, .w ((0 : Int) ≤ (↑k : Int)), .n (Int.toNat (↑k : Int)) k, .w (k < List.length (List.map Region.enc rs))] ⟨tP, oI, o_a hG, oW, o_t (by rw [hk]), o_a hC, oI, oI, oW, o_n (by kernel_rfl), o_w (by (simp; omega)), o_gt rfl (by assumption) (by intro h; cases h), o_a hput, oW, o_n (by kernel_rfl), o_w (by (simp; omega)), trivial⟩ ?_
    refine gg [.s (T.sl 9 (List.map Entity.enc B)), .g (List.map Region.enc rs) k (Region.enc (gt rs k)), .t (T.sl 0 (List.set (List.map Region.enc rs) k (T.agg [ti (gt rs k).frame, T.sl 9 (List.map Entity.enc B)]))) (T.sl 0 (List.map Region.enc (List.set rs k (Region.mk (gt rs k).frame B)))), .i IntKind.i64 ((↑(j + 1) : Int) + 1) ((↑(j + 1 + 1) : Int)), .a _ _] ⟨o_gt rfl (by assumption) (by intro h; cases h), o_l (nm_set (e := Region.mk (gt rs k).frame B) rfl rfl), oI, o_a ih1, trivial⟩ ?_
    exact ge
theorem f_arena_Begin_yes (c : Config) (h : c.right = true) : Is cx (.call 8 [.t c.enc] []) ⟨.ret, [.t (beginW c.cols (c.cols * c.rows) c.players.toNat).enc, vi 0], []⟩ := by
  have hgr := Config.right_iff.1 h
  have hgl := @Config.regions_le c
  have hre : c.regions = c.cols * c.rows := by simp [Config.regions, h]
  have hN := f_grid_New c
  rw [Config.grid_of h, Config.err_of h] at hN
  have hG := f_grid_Regions c
  have hL := f_arena_Begin_loop c (List.replicate c.regions.toNat (T.sl 15 [])) h c.players.toNat 0 (List.replicate c.regions.toNat ⟨0, []⟩) (by omega) (by simp; omega) (fun s hs => by rw [List.eq_of_mem_replicate hs]; simp)
  have e1 : beginP c.cols c.regions c.players.toNat ((0 + 1 : Nat) : Int) (List.replicate c.regions.toNat ⟨0, []⟩) = (beginW c.cols (c.cols * c.rows) c.players.toNat).regions := by rw [← hre]; rfl
  have e2 : List.replicate c.regions.toNat (T.sl 15 []) = (beginW c.cols (c.cols * c.rows) c.players.toNat).outs.map encL := by rw [← hre]; simp only [beginW, List.map_replicate]; rfl
  rw [e1, List.map_replicate] at hL
  generalize hW : beginW c.cols (c.cols * c.rows) c.players.toNat = W at *
  obtain ⟨R, O⟩ := W
  simp only at hL e2 ⊢
  simp only [Nat.zero_add] at hL
  clear hre e1 hW
  have hfin : (World.enc ⟨R, O⟩) = .agg [.sl 2 (R.map Region.enc), .sl 1 (List.replicate c.regions.toNat (T.sl 15 []))] := by rw [e2]; rfl
  rw [hfin]
  clear hfin e2
  refine Wp.ev ?_
  refine gg [.a _ _, .b (0 != 0) false] ⟨o_a hN, o_b (by kernel_rfl), trivial⟩ ?_
  refine bo (by kernel_rfl) ?_ ?_
  · refine gg [.a _ _] ⟨o_a hG, trivial⟩ ?_
    refine bo (by kernel_rfl) ?_ ?_
    · refine gg [.s (T.agg [ti 0, T.sl 9 []]), .w ((0 : Int) ≤ Config.regions c ∧ Config.regions c ≤ Config.regions c ∧ room (Int.toNat (Config.regions c)) (32 : Nat)), .l (Int.toNat (Config.regions c))] ⟨o_w ⟨(by omega), ⟨(by omega), (by (simp [room, appendMax]; omega))⟩⟩, trivial⟩ ?_
      refine bo (by kernel_rfl) ?_ ?_
      · refine gg [.a _ _] ⟨o_a hG, trivial⟩ ?_
        refine bo (by kernel_rfl) ?_ ?_
        · refine gg [.w ((0 : Int) ≤ Config.regions c ∧ Config.regions c ≤ Config.regions c ∧ room (Int.toNat (Config.regions c)) (24 : Nat)), .l (Int.toNat (Config.regions c)), .a _ _] ⟨o_w ⟨(by omega), ⟨(by omega), (by (simp [room, appendMax]; omega))⟩⟩, o_a hL, trivial⟩ ?_
          exact ge
        · refine gg [.w ((0 : Int) ≤ Config.regions c ∧ Config.regions c ≤ Config.regions c ∧ room (Int.toNat (Config.regions c)) (24 : Nat)), .l (Int.toNat (Config.regions c)), .a _ _] ⟨o_w ⟨(by omega), ⟨(by omega), (by (simp [room, appendMax]; omega))⟩⟩, o_a hL, trivial⟩ ?_
          exact ge
      · refine gg [.a _ _, .w ((0 : Int) ≤ Config.regions c ∧ Config.regions c ≤ Config.regions c ∧ room (Int.toNat (Config.regions c)) (24 : Nat)), .l (Int.toNat (Config.regions c)), .a _ _] ⟨o_a hG, o_w ⟨(by omega), ⟨(by omega), (by (simp [room, appendMax]; omega))⟩⟩, o_a hL, trivial⟩ ?_
        exact ge
    · refine bo (by kernel_rfl) ?_ ?_
      · refine gg [.a _ _] ⟨o_a hG, trivial⟩ ?_
        refine bo (by kernel_rfl) ?_ ?_
        · refine gg [.s (T.agg [ti 0, T.sl 9 []]), .w ((0 : Int) ≤ Config.regions c ∧ Config.regions c ≤ Config.regions c ∧ room (Int.toNat (Config.regions c)) (32 : Nat)), .l (Int.toNat (Config.regions c))] ⟨o_w ⟨(by omega), ⟨(by omega), (by (simp [room, appendMax]; omega))⟩⟩, trivial⟩ ?_
          refine bo (by kernel_rfl) ?_ ?_
          · refine gg [.w ((0 : Int) ≤ Config.regions c ∧ Config.regions c ≤ Config.regions c ∧ room (Int.toNat (Config.regions c)) (24 : Nat)), .l (Int.toNat (Config.regions c)), .a _ _] ⟨o_w ⟨(by omega), ⟨(by omega), (by (simp [room, appendMax]; omega))⟩⟩, o_a hL, trivial⟩ ?_
            exact ge
          · refine gg [.w ((0 : Int) ≤ Config.regions c ∧ Config.regions c ≤ Config.regions c ∧ room (Int.toNat (Config.regions c)) (24 : Nat)), .l (Int.toNat (Config.regions c)), .a _ _] ⟨o_w ⟨(by omega), ⟨(by omega), (by (simp [room, appendMax]; omega))⟩⟩, o_a hL, trivial⟩ ?_
            exact ge
        · refine bo (by kernel_rfl) ?_ ?_
          · refine gg [.w ((0 : Int) ≤ Config.regions c ∧ Config.regions c ≤ Config.regions c ∧ room (Int.toNat (Config.regions c)) (24 : Nat)), .l (Int.toNat (Config.regions c))] ⟨o_w ⟨(by omega), ⟨(by omega), (by (simp [room, appendMax]; omega))⟩⟩, trivial⟩ ?_
            refine bo (by kernel_rfl) ?_ ?_
            · refine gg [.s (T.agg [ti 0, T.sl 9 []]), .w ((0 : Int) ≤ Config.regions c ∧ Config.regions c ≤ Config.regions c ∧ room (Int.toNat (Config.regions c)) (32 : Nat)), .l (Int.toNat (Config.regions c)), .a _ _] ⟨o_w ⟨(by omega), ⟨(by omega), (by (simp [room, appendMax]; omega))⟩⟩, o_a hL, trivial⟩ ?_
              exact ge
            · refine gg [.s (T.agg [ti 0, T.sl 9 []]), .w ((0 : Int) ≤ Config.regions c ∧ Config.regions c ≤ Config.regions c ∧ room (Int.toNat (Config.regions c)) (32 : Nat)), .l (Int.toNat (Config.regions c)), .a _ _] ⟨o_w ⟨(by omega), ⟨(by omega), (by (simp [room, appendMax]; omega))⟩⟩, o_a hL, trivial⟩ ?_
              exact ge
          · refine bo (by kernel_rfl) ?_ ?_
            · refine gg [.s (T.agg [ti 0, T.sl 9 []]), .w ((0 : Int) ≤ Config.regions c ∧ Config.regions c ≤ Config.regions c ∧ room (Int.toNat (Config.regions c)) (32 : Nat)), .l (Int.toNat (Config.regions c)), .w ((0 : Int) ≤ Config.regions c ∧ Config.regions c ≤ Config.regions c ∧ room (Int.toNat (Config.regions c)) (24 : Nat)), .l (Int.toNat (Config.regions c)), .a _ _] ⟨o_w ⟨(by omega), ⟨(by omega), (by (simp [room, appendMax]; omega))⟩⟩, o_w ⟨(by omega), ⟨(by omega), (by (simp [room, appendMax]; omega))⟩⟩, o_a hL, trivial⟩ ?_
              exact ge
            · refine gg [.w ((0 : Int) ≤ Config.regions c ∧ Config.regions c ≤ Config.regions c ∧ room (Int.toNat (Config.regions c)) (24 : Nat)), .l (Int.toNat (Config.regions c)), .s (T.agg [ti 0, T.sl 9 []]), .w ((0 : Int) ≤ Config.regions c ∧ Config.regions c ≤ Config.regions c ∧ room (Int.toNat (Config.regions c)) (32 : Nat)), .l (Int.toNat (Config.regions c)), .a _ _] ⟨o_w ⟨(by omega), ⟨(by omega), (by (simp [room, appendMax]; omega))⟩⟩, o_w ⟨(by omega), ⟨(by omega), (by (simp [room, appendMax]; omega))⟩⟩, o_a hL, trivial⟩ ?_
              exact ge
      · refine bo (by kernel_rfl) ?_ ?_
        · refine gg [.s (T.agg [ti 0, T.sl 9 []]), .w ((0 : Int) ≤ Config.regions c ∧ Config.regions c ≤ Config.regions c ∧ room (Int.toNat (Config.regions c)) (32 : Nat)), .l (Int.toNat (Config.regions c)), .a _ _, .w ((0 : Int) ≤ Config.regions c ∧ Config.regions c ≤ Config.regions c ∧ room (Int.toNat (Config.regions c)) (24 : Nat)), .l (Int.toNat (Config.regions c)), .a _ _] ⟨o_w ⟨(by omega), ⟨(by omega), (by (simp [room, appendMax]; omega))⟩⟩, o_a hG, o_w ⟨(by omega), ⟨(by omega), (by (simp [room, appendMax]; omega))⟩⟩, o_a hL, trivial⟩ ?_
          exact ge
        · refine gg [.a _ _] ⟨o_a hG, trivial⟩ ?_
          refine bo (by kernel_rfl) ?_ ?_
          · refine gg [.s (T.agg [ti 0, T.sl 9 []]), .w ((0 : Int) ≤ Config.regions c ∧ Config.regions c ≤ Config.regions c ∧ room (Int.toNat (Config.regions c)) (32 : Nat)), .l (Int.toNat (Config.regions c)), .w ((0 : Int) ≤ Config.regions c ∧ Config.regions c ≤ Config.regions c ∧ room (Int.toNat (Config.regions c)) (24 : Nat)), .l (Int.toNat (Config.regions c)), .a _ _] ⟨o_w ⟨(by omega), ⟨(by omega), (by (simp [room, appendMax]; omega))⟩⟩, o_w ⟨(by omega), ⟨(by omega), (by (simp [room, appendMax]; omega))⟩⟩, o_a hL, trivial⟩ ?_
            exact ge
          · refine gg [.w ((0 : Int) ≤ Config.regions c ∧ Config.regions c ≤ Config.regions c ∧ room (Int.toNat (Config.regions c)) (24 : Nat)), .l (Int.toNat (Config.regions c)), .s (T.agg [ti 0, T.sl 9 []]), .w ((0 : Int) ≤ Config.regions c ∧ Config.regions c ≤ Config.regions c ∧ room (Int.toNat (Config.regions c)) (32 : Nat)), .l (Int.toNat (Config.regions c)), .a _ _] ⟨o_w ⟨(by omega), ⟨(by omega), (by (simp [room, appendMax]; omega))⟩⟩, o_w ⟨(by omega), ⟨(by omega), (by (simp [room, appendMax]; omega))⟩⟩, o_a hL, trivial⟩ ?_
            exact ge
  · refine gg [.a _ _] ⟨o_a hG, trivial⟩ ?_
    refine bo (by kernel_rfl) ?_ ?_
    · refine gg [.s (T.agg [ti 0, T.sl 9 []]), .w ((0 : Int) ≤ Config.regions c ∧ Config.regions c ≤ Config.regions c ∧ room (Int.toNat (Config.regions c)) (32 : Nat)), .l (Int.toNat (Config.regions c)), .a _ _, .w ((0 : Int) ≤ Config.regions c ∧ Config.regions c ≤ Config.regions c ∧ room (Int.toNat (Config.regions c)) (24 : Nat)), .l (Int.toNat (Config.regions c)), .a _ _] ⟨o_w ⟨(by omega), ⟨(by omega), (by (simp [room, appendMax]; omega))⟩⟩, o_a hG, o_w ⟨(by omega), ⟨(by omega), (by (simp [room, appendMax]; omega))⟩⟩, o_a hL, trivial⟩ ?_
      exact ge
    · refine gg [.a _ _] ⟨o_a hG, trivial⟩ ?_
      refine bo (by kernel_rfl) ?_ ?_
      · refine gg [.s (T.agg [ti 0, T.sl 9 []]), .w ((0 : Int) ≤ Config.regions c ∧ Config.regions c ≤ Config.regions c ∧ room (Int.toNat (Config.regions c)) (32 : Nat)), .l (Int.toNat (Config.regions c)), .w ((0 : Int) ≤ Config.regions c ∧ Config.regions c ≤ Config.regions c ∧ room (Int.toNat (Config.regions c)) (24 : Nat)), .l (Int.toNat (Config.regions c)), .a _ _] ⟨o_w ⟨(by omega), ⟨(by omega), (by (simp [room, appendMax]; omega))⟩⟩, o_w ⟨(by omega), ⟨(by omega), (by (simp [room, appendMax]; omega))⟩⟩, o_a hL, trivial⟩ ?_
        exact ge
      · refine gg [.w ((0 : Int) ≤ Config.regions c ∧ Config.regions c ≤ Config.regions c ∧ room (Int.toNat (Config.regions c)) (24 : Nat)), .l (Int.toNat (Config.regions c)), .s (T.agg [ti 0, T.sl 9 []]), .w ((0 : Int) ≤ Config.regions c ∧ Config.regions c ≤ Config.regions c ∧ room (Int.toNat (Config.regions c)) (32 : Nat)), .l (Int.toNat (Config.regions c)), .a _ _] ⟨o_w ⟨(by omega), ⟨(by omega), (by (simp [room, appendMax]; omega))⟩⟩, o_w ⟨(by omega), ⟨(by omega), (by (simp [room, appendMax]; omega))⟩⟩, o_a hL, trivial⟩ ?_
        exact ge
theorem f_arena_Begin_no (c : Config) (h : c.right = false) : Is cx (.call 8 [.t c.enc] []) ⟨.ret, [.t (World.enc ⟨[], []⟩), vi 10], []⟩ := by
  have hN := f_grid_New c
  rw [show c.err = 10 by simp [Config.err, h]] at hN
  refine Wp.ev ?_
  refine gg [.a _ _, .b (10 != 0) true] ⟨o_a hN, o_b (by kernel_rfl), trivial⟩ ?_
  exact ge
theorem ents_gt {rs : List Region} {i : Nat} (h : i < rs.length) : entsAll (rs.drop i) = (gt rs i).ents ++ entsAll (rs.drop (i + 1)) := by unfold entsAll; rw [drop_gt h]; simp
theorem handed_gt {l : List Cross} {i : Nat} (h : i < l.length) : handed (l.drop i) = (if (gt l i).kind = 1 then [(gt l i).ent] else []) ++ handed (l.drop (i + 1)) := by
  unfold handed; rw [filter_gt _ h]; split <;> simp_all
theorem handedAll_gt {os : List CrossL} {i : Nat} (h : i < os.length) : handedAll (os.drop i) = handed (gt os i) ++ handedAll (os.drop (i + 1)) := by unfold handedAll; rw [drop_gt h]; simp
theorem f_arena_All_regions (w : World) (hn : w.regions.length ≤ 1000) (hs : (entsAll w.regions).length ≤ 100000) : ∀ (d i : Nat) (A : List Entity), i + d = w.regions.length → A.length + (entsAll (w.regions.drop i)).length = (entsAll w.regions).length →
    Is cx (.loop 9 [0, 1, 0, 1, 1] 0 [.ptr 0 0 0, .all 1 none, .t (.sl 2 (w.regions.map Region.enc)), vi w.regions.length, vi i] [.one 2 (.t w.enc) false, .arr 9 (A.map Entity.enc) none false])
      ⟨.exit 0, [.ptr 0 0 0, .all 1 none, .t (.sl 2 (w.regions.map Region.enc)), vi w.regions.length, vi w.regions.length], [.one 2 (.t w.enc) false, .arr 9 ((A ++ entsAll (w.regions.drop i)).map Entity.enc) none false]⟩ := by
  obtain ⟨R, O⟩ := w
  simp only at *
  intro d
  induction d with
  | zero =>
    intro i A hi hA
    rw [drop_end (by omega)]
    refine Wp.ev ?_
    refine gg [.b (decide ((↑i : Int) < (↑(List.length R) : Int))) false] ⟨fP, trivial⟩ ?_
    refine rt (a := Res.mk (Ex.exit 0) [V.ptr 0 0 0, V.all 1 none, V.t (T.sl 2 (List.map Region.enc R)), vi (↑(List.length R) : Int), vi (↑i : Int)] [Ob.one 2 (V.t (World.enc (World.mk R O))) false, Ob.arr 9 (List.map Entity.enc A) none false]) (by kernel_rfl) ?_
    ((have hq : i = R.length := by omega); subst hq; simp [entsAll])
  | succ d ih =>
    intro i A hi hA
    have hlt : i < R.length := by omega
    rw [ents_gt hlt] at hA ⊢
    rw [List.length_append] at hA
    have ih1 := ih (i + 1) (A ++ (gt R i).ents) (by omega) (by rw [List.length_append]; omega)
    clear ih
    rw [← List.append_assoc]
    refine Wp.ev ?_
    refine gg [.b (decide ((↑i : Int) < (↑(List.length R) : Int))) true, .w ((0 : Int) ≤ (↑i : Int)), .n (Int.toNat (↑i : Int)) i, .g (List.map Region.enc R) i (Region.enc (gt R i)), .w ((0 : Nat) < (72 : Nat)), .s (T.sl 0 (List.map Entity.enc (gt R i).ents)), .t (T.sl 0 (List.map Entity.enc A ++ List.map Entity.enc (gt R i).ents)) (T.sl 0 (List.map Entity.enc (A ++ (gt R i).ents))), .w (room (List.length (List.map Entity.enc (A ++ (gt R i).ents))) (72 : Nat)), .i IntKind.i64 ((↑i : Int) + 1) ((↑(i + 1) : Int)), .a _ _] ⟨tP, oW, o_n (by kernel_rfl), o_gt rfl (by assumption) (by intro h; cases h), oW, o_l (nm_app rfl rfl), o_w (by (simp [room, appendMax]; omega)), oI, o_a ih1, trivial⟩ ?_
    exact ge
theorem f_arena_All_list (os : List T) (n i : Nat) (l : List Cross) (hl : l.length ≤ 1000) : ∀ (d j : Nat) (A : List Entity), j + d = l.length → A.length ≤ 500000 + j →
    Is cx (.loop 9 [0, 1, 1, 0, 0, 1, 1, 0, 0, 1, 0, 1, 1, 1] 0 [.all 0 none, .t (.sl 1 os), vi n, vi i, .t (.sl 15 (l.map Cross.enc)), vi l.length, vi j] [.arr 9 (A.map Entity.enc) none false])
      ⟨.exit 4, [.all 0 none, .t (.sl 1 os), vi n, vi i, .t (.sl 15 (l.map Cross.enc)), vi l.length, vi l.length], [.arr 9 ((A ++ handed (l.drop j)).map Entity.enc) none false]⟩ := by
  intro d
  induction d with
  | zero =>
    intro j A hj hA
    rw [drop_end (by omega)]
    refine Wp.ev ?_
    refine gg [.b (decide ((↑j : Int) < (↑(List.length l) : Int))) false] ⟨fP, trivial⟩ ?_
    refine rt (a := Res.mk (Ex.exit 4) [V.all 0 none, V.t (T.sl 1 os), vi (↑n : Int), vi (↑i : Int), V.t (T.sl 15 (List.map Cross.enc l)), vi (↑(List.length l) : Int), vi (↑j : Int)] [Ob.arr 9 (List.map Entity.enc A) none false]) (by kernel_rfl) ?_
    ((have hq : j = l.length := by omega); subst hq; simp [handed])
  | succ d ih =>
    intro j A hj hA
    have hlt : j < l.length := by omega
    rw [handed_gt hlt]
    by_cases hk : (gt l j).kind = 1
    · have ih1 := ih (j + 1) (A ++ [(gt l j).ent]) (by omega) (by simp; omega)
      rw [if_pos hk, ← List.append_assoc]
      clear ih
      refine Wp.ev ?_
      refine gg [.b (decide ((↑j : Int) < (↑(List.length l) : Int))) true, .w ((0 : Int) ≤ (↑j : Int)), .n (Int.toNat (↑j : Int)) j, .g (List.map Cross.enc l) j (Cross.enc (gt l j)), .b ((gt l j).kind == 1) true, .w ((0 : Nat) < (72 : Nat)), .t (T.sl 0 [Entity.enc (gt l j).ent]) (T.sl 0 (List.map Entity.enc [(gt l j).ent])), .t (T.sl 0 (List.map Entity.enc A ++ List.map Entity.enc [(gt l j).ent])) (T.sl 0 (List.map Entity.enc (A ++ [(gt l j).ent]))), .w (room (List.length (List.map Entity.enc (A ++ [(gt l j).ent]))) (72 : Nat)), .i IntKind.i64 ((↑j : Int) + 1) ((↑(j + 1) : Int)), .a _ _] ⟨tP, oW, o_n (by kernel_rfl), o_gt rfl (by assumption) (by intro h; cases h), t_bre (by assumption), oW, o_l (nm_cons rfl nm_nil), o_l (nm_app rfl rfl), o_w (by (simp [room, appendMax]; omega)), oI, o_a ih1, trivial⟩ ?_
      exact ge
    · have ih1 := ih (j + 1) A (by omega) (by omega)
      rw [if_neg hk, List.nil_append]
      clear ih
      refine Wp.ev ?_
      refine gg [.b (decide ((↑j : Int) < (↑(List.length l) : Int))) true, .w ((0 : Int) ≤ (↑j : Int)), .n (Int.toNat (↑j : Int)) j, .g (List.map Cross.enc l) j (Cross.enc (gt l j)), .b ((gt l j).kind == 1) false, .i IntKind.i64 ((↑j : Int) + 1) ((↑(j + 1) : Int)), .a _ _] ⟨tP, oW, o_n (by kernel_rfl), o_gt rfl (by assumption) (by intro h; cases h), f_bre (by assumption), oI, o_a ih1, trivial⟩ ?_
      exact ge
theorem f_arena_All_outs (os : List CrossL) (hn : os.length ≤ 100) (hs : ∀ l ∈ os, l.length ≤ 1000) : ∀ (d i : Nat) (A : List Entity), i + d = os.length → A.length ≤ 100000 + 1000 * i →
    Is cx (.loop 9 [0, 1, 0, 1, 1, 1] 0 [.all 0 none, .t (.sl 1 (os.map encL)), vi os.length, vi i] [.arr 9 (A.map Entity.enc) none false])
      ⟨.exit 2, [.all 0 none, .t (.sl 1 (os.map encL)), vi os.length, vi os.length], [.arr 9 ((A ++ handedAll (os.drop i)).map Entity.enc) none false]⟩ := by
  intro d
  induction d with
  | zero =>
    intro i A hi hA
    rw [drop_end (by omega)]
    refine Wp.ev ?_
    refine gg [.b (decide ((↑i : Int) < (↑(List.length os) : Int))) false] ⟨fP, trivial⟩ ?_
    refine rt (a := Res.mk (Ex.exit 2) [V.all 0 none, V.t (T.sl 1 (List.map encL os)), vi (↑(List.length os) : Int), vi (↑i : Int)] [Ob.arr 9 (List.map Entity.enc A) none false]) (by kernel_rfl) ?_
    ((have hq : i = os.length := by omega); subst hq; simp [handedAll])
  | succ d ih =>
    intro i A hi hA
    have hlt : i < os.length := by omega
    rw [handedAll_gt hlt]
    have hl := hs _ (gt_mem hlt)
    have hh : (handed (gt os i)).length ≤ (gt os i).length := by unfold handed; rw [List.length_map]; exact List.length_filter_le ..
    have ih1 := ih (i + 1) (A ++ handed (gt os i)) (by omega) (by rw [List.length_append]; omega)
    have h2 := f_arena_All_list (os.map encL) os.length i (gt os i) hl (gt os i).length 0 A (by omega) (by omega)
    rw [List.drop_zero] at h2
    clear ih hs hh
    rw [← List.append_assoc]
    generalize handed (gt os i) = hd at *
    refine Wp.ev ?_
    refine gg [.b (decide ((↑i : Int) < (↑(List.length os) : Int))) true, .w ((0 : Int) ≤ (↑i : Int)), .n (Int.toNat (↑i : Int)) i, .g (List.map encL os) i (encL (gt os i)), .n (List.length (List.map Cross.enc (gt os i))) (List.length (gt os i)), .a _ _, .i IntKind.i64 ((↑i : Int) + 1) ((↑(i + 1) : Int)), .a _ _] ⟨tP, oW, o_n (by kernel_rfl), o_gt rfl (by assumption) (by intro h; cases h), o_n (by simp), o_a h2, oI, o_a ih1, trivial⟩ ?_
    exact ge
theorem handedAll_len {os : List CrossL} (hs : ∀ l ∈ os, l.length ≤ 1000) : (handedAll os).length ≤ 1000 * os.length := by
  induction os with
  | nil => simp [handedAll]
  | cons l os ih =>
    have h1 := ih fun x hx => hs x (List.mem_cons_of_mem _ hx)
    have h2 := hs l (List.mem_cons_self ..)
    have hh : (handed l).length ≤ l.length := by unfold handed; rw [List.length_map]; exact List.length_filter_le ..
    have e : handedAll (l :: os) = handed l ++ handedAll os := rfl
    rw [e, List.length_append, List.length_cons]
    omega
theorem f_arena_All (w : World) (hn : w.regions.length ≤ 1000) (hs : (entsAll w.regions).length ≤ 100000) (ho : w.outs.length ≤ 100) (hl : ∀ l ∈ w.outs, l.length ≤ 1000) : Fn cx 9 [w.enc] (.sl 9 ((allL w).map Entity.enc)) := by
  have h1 := f_arena_All_regions w hn hs w.regions.length 0 [] (by omega) (by simp)
  rw [List.drop_zero, List.nil_append] at h1
  have h2 := f_arena_All_outs w.outs ho hl w.outs.length 0 (entsAll w.regions) (by omega) (by omega)
  rw [List.drop_zero] at h2
  have hlen := handedAll_len hl
  unfold allL
  have h3 := f_SortStableFunc_Entity (entsAll w.regions ++ handedAll w.outs) (by unfold small; simp; omega)
  obtain ⟨R, O⟩ := w
  simp only at *
  generalize entsAll R = E at *
  generalize E ++ handedAll O = X at *
  generalize sortS Entity.less X = Y at *
  clear hl hlen
  refine Wp.ev ?_
  refine gg [.n (List.length (List.map Region.enc R)) (List.length R), .a _ _, .n (List.length (List.map encL O)) (List.length O), .a _ _, .a _ _] ⟨o_n (by simp), o_a h1, o_n (by simp), o_a h2, o_a h3, trivial⟩ ?_
  exact ge
end Go.Eva.S2

/- The statement of the beginning of an arena. -/
namespace Go.Eva.S2
def c213 : Config := ⟨2, 1, 3, 1, 0⟩
theorem f_joustlaw10_awake : Fn cx 10 [] (.bool true) := by
  have hB := f_arena_Begin_yes c213 (by decide)
  have hA := f_arena_All (beginW 2 2 3) (by decide) (by decide) (by decide) (by decide)
  have e : allL (beginW 2 2 3) = playersP 2 2 3 1 := by decide +kernel
  rw [e] at hA
  have hl : (playersP 2 2 3 1).length = 3 := rfl
  have hr : (beginW 2 2 3).regions.length = 2 := rfl
  change Is cx _ ⟨_, [.t (beginW 2 2 3).enc, _], _⟩ at hB
  simp only [c213] at hB
  generalize playersP 2 2 3 1 = P at *
  generalize beginW 2 2 3 = W at *
  obtain ⟨R, O⟩ := W
  simp only at hr
  refine Wp.ev ?_
  refine gg [.a _ _, .b (0 == 0) true, .tt, .tt, .n (List.length (List.map Region.enc R)) (List.length R), .tt, .tt, .b ((↑(List.length R) : Int) == 2) true, .tt, .a _ _, .tt, .n (List.length (List.map Entity.enc P)) (List.length P), .tt, .tt] ⟨o_a hB, o_b (by kernel_rfl), o_n (by simp), tE, o_a hA, o_n (by simp), trivial⟩ ?_
  refine rt (a := Res.mk Ex.ret [vb ((↑(List.length P) : Int) == 3)] []) (by kernel_rfl) ?_
  (simp; omega)
theorem f_joustlaw10_ArenaBegins_loop (g : Config) (n : Int) (p : Nat) (hg : g.right = true) (hn : g.cols * g.rows = n) (hp : p ≤ 6) : ∀ (d i : Nat), i + d = p →
    Is cx (.loop 3 [0, 1, 0, 1, 1, 1, 1, 1] 0 [.ptr 0 0 0, vb false, .t (.sl 9 ((playersP g.cols n p 1).map Entity.enc)), vi i] [.one 5 (.t g.enc) false])
      ⟨.exit 0, [.ptr 0 0 0, vb false, .t (.sl 9 ((playersP g.cols n p 1).map Entity.enc)), vi p], [.one 5 (.t g.enc) false]⟩ := by
  have hgr := Config.right_iff.1 hg
  have hml := Config.mul_le hg
  rw [hn] at hml
  have hlen := @playersP_len g.cols n p 1
  have hgt := fun k h => @playersP_gt g.cols n p k 1 h
  generalize playersP g.cols n p 1 = P at *
  intro d
  induction d with
  | zero =>
    intro i hi
    refine Wp.ev ?_
    refine gg [.n (List.length (List.map Entity.enc P)) (List.length P), .b (decide ((↑i : Int) < (↑(List.length P) : Int))) false] ⟨o_n (by simp), fP, trivial⟩ ?_
    refine rt (a := Res.mk (Ex.exit 0) [V.ptr 0 0 0, vb false, V.t (T.sl 9 (List.map Entity.enc P)), vi (↑i : Int)] [Ob.one 5 (V.t (Config.enc g)) false]) (by kernel_rfl) ?_
    ((have hq : i = p := by omega); subst hq; rfl)
  | succ d ih =>
    intro i hi
    have hlt : i < P.length := by omega
    have ih1 := ih (i + 1) (by omega)
    have e := hgt i (by omega)
    obtain ⟨k, hk⟩ : ∃ k : Nat, Int.tmod (i : Int) n = k := ⟨(Int.tmod (i : Int) n).toNat, by
      have := tmod_le (v := (i : Int)) (k := n) (by omega) (by omega); omega⟩
    have hk2 := tmod_le (v := (i : Int)) (k := n) (by omega) (by omega)
    rw [hk] at hk2
    have q1 := tdiv_le (v := (k : Int)) (k := g.cols) (m := g.rows) (by omega) (by omega) (by omega)
    have q2 := tmod_le (v := (k : Int)) (k := g.cols) (by omega) (by omega)
    unfold playerP at e
    rw [show (1 + (i : Int) - 1) = (i : Int) by omega, hk] at e
    have f1 : (gt P i).id = (i : Int) + 1 := by rw [e]; simp only; omega
    have f2 : (gt P i).health = 100 := by rw [e]
    have f3 : (gt P i).x = Int.tmod (k : Int) g.cols * 1024 + 512 := by rw [e]
    have f4 : (gt P i).y = Int.tdiv (k : Int) g.cols * 1024 + 512 := by rw [e]
    clear e ih hgt
    refine Wp.ev ?_
    refine gg [.n (List.length (List.map Entity.enc P)) (List.length P), .b (decide ((↑i : Int) < (↑(List.length P) : Int))) true, .i IntKind.i64 (g.cols * g.rows) n, .w (n ≠ (0 : Int)), .t (ti (Int.tmod (↑i : Int) n)) (ti (↑k : Int)), .w ((0 : Int) ≤ (↑i : Int)), .n (Int.toNat (↑i : Int)) i, .g (List.map Entity.enc P) i (Entity.enc (gt P i)), .i IntKind.i64 ((↑i : Int) + 1) ((↑(i + 1) : Int)), .b ((gt P i).id != (↑(i + 1) : Int)) false, .ff, .ff, .w ((0 : Int) ≤ (↑i : Int)), .n (Int.toNat (↑i : Int)) i, .g (List.map Entity.enc P) i (Entity.enc (gt P i)), .ff] ⟨o_n (by simp), tP, oI, oW, o_t (by rw [hk]), oW, o_n (by kernel_rfl), o_gt rfl (by assumption) (by intro h; cases h), oI, f_brn (by assumption), oW, o_n (by kernel_rfl), o_gt rfl (by assumption) (by intro h; cases h), trivial⟩ ?_
    refine gg [.ff, .ff, .ff, .b ((gt P i).health != 100) false, .ff, .ff, .w ((0 : Int) ≤ (↑i : Int)), .n (Int.toNat (↑i : Int)) i, .g (List.map Entity.enc P) i (Entity.enc (gt P i)), .ff, .ff, .ff, .ff, .ff, .ff, .w (g.cols ≠ (0 : Int))] ⟨f_brn (by assumption), oW, o_n (by kernel_rfl), o_gt rfl (by assumption) (by intro h; cases h), oW, trivial⟩ ?_
    refine gg [.s (ti (Int.tmod (↑k : Int) g.cols)), .ff, .i IntKind.i64 (Int.tmod (↑k : Int) g.cols * 1024) (Int.tmod (↑k : Int) g.cols * 1024), .ff, .i IntKind.i64 (Int.tmod (↑k : Int) g.cols * 1024 + 512) (Int.tmod (↑k : Int) g.cols * 1024 + 512), .ff, .ff, .b ((gt P i).x != Int.tmod (↑k : Int) g.cols * 1024 + 512) false, .ff, .ff, .w ((0 : Int) ≤ (↑i : Int)), .n (Int.toNat (↑i : Int)) i, .g (List.map Entity.enc P) i (Entity.enc (gt P i)), .ff, .ff, .ff] ⟨oI, oI, f_brn (by assumption), oW, o_n (by kernel_rfl), o_gt rfl (by assumption) (by intro h; cases h), trivial⟩ ?_
    refine gg [.ff, .ff, .ff, .w (g.cols ≠ (0 : Int)), .i IntKind.i64 (Int.tdiv (↑k : Int) g.cols) (Int.tdiv (↑k : Int) g.cols), .ff, .i IntKind.i64 (Int.tdiv (↑k : Int) g.cols * 1024) (Int.tdiv (↑k : Int) g.cols * 1024), .ff, .i IntKind.i64 (Int.tdiv (↑k : Int) g.cols * 1024 + 512) (Int.tdiv (↑k : Int) g.cols * 1024 + 512), .ff, .ff, .b ((gt P i).y != Int.tdiv (↑k : Int) g.cols * 1024 + 512) false, .i IntKind.i64 ((↑i : Int) + 1) ((↑(i + 1) : Int)), .a _ _] ⟨oW, oI, oI, oI, f_brn (by assumption), oI, o_a ih1, trivial⟩ ?_
    exact ge
theorem begin_small {a b : Int} {p : Nat} (ha : 1 ≤ a ∧ a ≤ 3) (hb : 1 ≤ b ∧ b ≤ 3) (hp : 1 ≤ p ∧ p ≤ 4) : (beginW a (a * b) p).regions.length = (a * b).toNat ∧ (entsAll (beginW a (a * b) p).regions).length ≤ 10 ∧ (beginW a (a * b) p).outs.length = (a * b).toNat ∧ ∀ l ∈ (beginW a (a * b) p).outs, l.length ≤ 10 := by
  have key : ∀ x ∈ [1, 2, 3], ∀ y ∈ [1, 2, 3], ∀ q ∈ [1, 2, 3, 4], (entsAll (beginW (x : Nat) ((x : Nat) * (y : Nat) : Int) q).regions).length ≤ 10 := by decide +kernel
  refine ⟨by simp only [beginW, beginP_len, List.length_replicate], ?_, by simp [beginW], fun l hl => by
    rw [List.eq_of_mem_replicate (show l ∈ List.replicate (a * b).toNat [] from hl)]; simp⟩
  obtain ⟨x, rfl⟩ : ∃ x : Nat, a = x := ⟨a.toNat, by omega⟩
  obtain ⟨y, rfl⟩ : ∃ y : Nat, b = y := ⟨b.toNat, by omega⟩
  refine key x ?_ y ?_ p ?_
  · have : x = 1 ∨ x = 2 ∨ x = 3 := by omega
    simpa using this
  · have : y = 1 ∨ y = 2 ∨ y = 3 := by omega
    simpa using this
  · have : p = 1 ∨ p = 2 ∨ p = 3 ∨ p = 4 := by omega
    simpa using this
theorem f_joustlaw10_ArenaBegins (c : Config) : Fn cx 3 [c.enc] (.bool true) := by
  have ha := f_joustlaw10_awake
  obtain ⟨hr, h1, h2, h3, h4⟩ := @Config.play_ok c
  have hC := f_joustplay_Config c
  generalize c.play = g at *
  have hB := f_arena_Begin_yes g hr
  obtain ⟨s1, s2, s3, s4⟩ := begin_small (p := g.players.toNat) h1 h2 (by omega)
  have hml := Config.mul_le hr
  have hA := f_arena_All (beginW g.cols (g.cols * g.rows) g.players.toNat) (by omega) (by omega) (by omega) fun l hl => by have := s4 l hl; omega
  rw [begin_all h1 h2 h3] at hA
  have hL := f_joustlaw10_ArenaBegins_loop g _ g.players.toNat hr rfl (by omega) g.players.toNat 0 (by omega)
  have hlen := @playersP_len g.cols (g.cols * g.rows) g.players.toNat 1
  generalize playersP g.cols (g.cols * g.rows) g.players.toNat 1 = P at *
  generalize beginW g.cols (g.cols * g.rows) g.players.toNat = W at *
  obtain ⟨R, O⟩ := W
  simp only at s1 s3
  clear s2 s4
  generalize hnn : g.cols * g.rows = n at *
  refine Wp.ev ?_
  refine gg [.a _ _, .a _ _, .a _ _, .a _ _, .b (!true) false, .ff, .ff, .b (0 != 0) false, .ff, .n (List.length (List.map Entity.enc P)) (List.length P), .ff, .ff, .ff, .ff, .b ((↑(List.length P) : Int) != g.players) false, .ff] ⟨o_a hC, o_a hB, o_a hA, o_a ha, o_b (by kernel_rfl), o_b (by kernel_rfl), o_n (by simp), fN, trivial⟩ ?_
  refine gg [.ff, .n (List.length (List.map Region.enc R)) (List.length R), .ff, .ff, .ff, .ff, .ff, .i IntKind.i64 (g.cols * g.rows) n, .ff, .ff, .b ((↑(List.length R) : Int) != n) false, .ff, .ff, .n (List.length (List.map encL O)) (List.length O), .ff, .ff] ⟨o_n (by simp), oI, fN, o_n (by simp), trivial⟩ ?_
  refine gg [.ff, .n (List.length (List.map Region.enc R)) (List.length R), .ff, .ff, .b ((↑(List.length O) : Int) != (↑(List.length R) : Int)) false, .a _ _] ⟨o_n (by simp), fN, o_a hL, trivial⟩ ?_
  exact ge
end Go.Eva.S2

namespace Go.Eva.S2
open Go.Proofs
theorem cxTy : CxTy Try.prog cx := cxTy_of (by decide +kernel) (by decide +kernel) (⟨⟨Try.f86, by kernel_rfl, by decide +kernel, by kernel_rfl, by kernel_rfl, by kernel_rfl, by kernel_rfl, 37, by kernel_rfl⟩, trivial⟩)
theorem ok3 : FnOK Try.prog cx 3 fi3 Try.f3 := ⟨by kernel_rfl, by decide +kernel, by kernel_rfl, by kernel_rfl, by kernel_rfl, by decide +kernel⟩
theorem ok4 : FnOK Try.prog cx 4 fi4 Try.f4 := ⟨by kernel_rfl, by decide +kernel, by kernel_rfl, by kernel_rfl, by kernel_rfl, by decide +kernel⟩
theorem ok5 : FnOK Try.prog cx 5 fi5 Try.f5 := ⟨by kernel_rfl, by decide +kernel, by kernel_rfl, by kernel_rfl, by kernel_rfl, by decide +kernel⟩
theorem ok6 : FnOK Try.prog cx 6 fi6 Try.f6 := ⟨by kernel_rfl, by decide +kernel, by kernel_rfl, by kernel_rfl, by kernel_rfl, by decide +kernel⟩
theorem ok7 : FnOK Try.prog cx 7 fi7 Try.f7 := ⟨by kernel_rfl, by decide +kernel, by kernel_rfl, by kernel_rfl, by kernel_rfl, by decide +kernel⟩
theorem ok8 : FnOK Try.prog cx 8 fi8 Try.f8 := ⟨by kernel_rfl, by decide +kernel, by kernel_rfl, by kernel_rfl, by kernel_rfl, by decide +kernel⟩
theorem ok9 : FnOK Try.prog cx 9 fi9 Try.f9 := ⟨by kernel_rfl, by decide +kernel, by kernel_rfl, by kernel_rfl, by kernel_rfl, by decide +kernel⟩
theorem ok10 : FnOK Try.prog cx 10 fi10 Try.f10 := ⟨by kernel_rfl, by decide +kernel, by kernel_rfl, by kernel_rfl, by kernel_rfl, by decide +kernel⟩
theorem ok11 : FnOK Try.prog cx 11 fi11 Try.f11 := ⟨by kernel_rfl, by decide +kernel, by kernel_rfl, by kernel_rfl, by kernel_rfl, by decide +kernel⟩
theorem ok12 : FnOK Try.prog cx 12 fi12 Try.f12 := ⟨by kernel_rfl, by decide +kernel, by kernel_rfl, by kernel_rfl, by kernel_rfl, by decide +kernel⟩
theorem ok13 : FnOK Try.prog cx 13 fi13 Try.f13 := ⟨by kernel_rfl, by decide +kernel, by kernel_rfl, by kernel_rfl, by kernel_rfl, by decide +kernel⟩
theorem ok14 : FnOK Try.prog cx 14 fi14 Try.f14 := ⟨by kernel_rfl, by decide +kernel, by kernel_rfl, by kernel_rfl, by kernel_rfl, by decide +kernel⟩
theorem ok15 : FnOK Try.prog cx 15 fi15 Try.f15 := ⟨by kernel_rfl, by decide +kernel, by kernel_rfl, by kernel_rfl, by kernel_rfl, by decide +kernel⟩
theorem ok16 : FnOK Try.prog cx 16 fi16 Try.f16 := ⟨by kernel_rfl, by decide +kernel, by kernel_rfl, by kernel_rfl, by kernel_rfl, by decide +kernel⟩
theorem ok17 : FnOK Try.prog cx 17 fi17 Try.f17 := ⟨by kernel_rfl, by decide +kernel, by kernel_rfl, by kernel_rfl, by kernel_rfl, by decide +kernel⟩
theorem ok18 : FnOK Try.prog cx 18 fi18 Try.f18 := ⟨by kernel_rfl, by decide +kernel, by kernel_rfl, by kernel_rfl, by kernel_rfl, by decide +kernel⟩
theorem ok19 : FnOK Try.prog cx 19 fi19 Try.f19 := ⟨by kernel_rfl, by decide +kernel, by kernel_rfl, by kernel_rfl, by kernel_rfl, by decide +kernel⟩
theorem ok20 : FnOK Try.prog cx 20 fi20 Try.f20 := ⟨by kernel_rfl, by decide +kernel, by kernel_rfl, by kernel_rfl, by kernel_rfl, by decide +kernel⟩
theorem ok21 : FnOK Try.prog cx 21 fi21 Try.f21 := ⟨by kernel_rfl, by decide +kernel, by kernel_rfl, by kernel_rfl, by kernel_rfl, by decide +kernel⟩
theorem ok22 : FnOK Try.prog cx 22 fi22 Try.f22 := ⟨by kernel_rfl, by decide +kernel, by kernel_rfl, by kernel_rfl, by kernel_rfl, by decide +kernel⟩
theorem ok23 : FnOK Try.prog cx 23 fi23 Try.f23 := ⟨by kernel_rfl, by decide +kernel, by kernel_rfl, by kernel_rfl, by kernel_rfl, by decide +kernel⟩
theorem ok24 : FnOK Try.prog cx 24 fi24 Try.f24 := ⟨by kernel_rfl, by decide +kernel, by kernel_rfl, by kernel_rfl, by kernel_rfl, by decide +kernel⟩
theorem ok25 : FnOK Try.prog cx 25 fi25 Try.f25 := ⟨by kernel_rfl, by decide +kernel, by kernel_rfl, by kernel_rfl, by kernel_rfl, by decide +kernel⟩
theorem ok26 : FnOK Try.prog cx 26 fi26 Try.f26 := ⟨by kernel_rfl, by decide +kernel, by kernel_rfl, by kernel_rfl, by kernel_rfl, by decide +kernel⟩
theorem ok27 : FnOK Try.prog cx 27 fi27 Try.f27 := ⟨by kernel_rfl, by decide +kernel, by kernel_rfl, by kernel_rfl, by kernel_rfl, by decide +kernel⟩
theorem ok28 : FnOK Try.prog cx 28 fi28 Try.f28 := ⟨by kernel_rfl, by decide +kernel, by kernel_rfl, by kernel_rfl, by kernel_rfl, by decide +kernel⟩
theorem ok29 : FnOK Try.prog cx 29 fi29 Try.f29 := ⟨by kernel_rfl, by decide +kernel, by kernel_rfl, by kernel_rfl, by kernel_rfl, by decide +kernel⟩
theorem ok30 : FnOK Try.prog cx 30 fi30 Try.f30 := ⟨by kernel_rfl, by decide +kernel, by kernel_rfl, by kernel_rfl, by kernel_rfl, by decide +kernel⟩
theorem ok31 : FnOK Try.prog cx 31 fi31 Try.f31 := ⟨by kernel_rfl, by decide +kernel, by kernel_rfl, by kernel_rfl, by kernel_rfl, by decide +kernel⟩
theorem ok32 : FnOK Try.prog cx 32 fi32 Try.f32 := ⟨by kernel_rfl, by decide +kernel, by kernel_rfl, by kernel_rfl, by kernel_rfl, by decide +kernel⟩
theorem ok33 : FnOK Try.prog cx 33 fi33 Try.f33 := ⟨by kernel_rfl, by decide +kernel, by kernel_rfl, by kernel_rfl, by kernel_rfl, by decide +kernel⟩
theorem ok34 : FnOK Try.prog cx 34 fi34 Try.f34 := ⟨by kernel_rfl, by decide +kernel, by kernel_rfl, by kernel_rfl, by kernel_rfl, by decide +kernel⟩
theorem ok35 : FnOK Try.prog cx 35 fi35 Try.f35 := ⟨by kernel_rfl, by decide +kernel, by kernel_rfl, by kernel_rfl, by kernel_rfl, by decide +kernel⟩
theorem ok36 : FnOK Try.prog cx 36 fi36 Try.f36 := ⟨by kernel_rfl, by decide +kernel, by kernel_rfl, by kernel_rfl, by kernel_rfl, by decide +kernel⟩
theorem ok37 : FnOK Try.prog cx 37 fi37 Try.f37 := ⟨by kernel_rfl, by decide +kernel, by kernel_rfl, by kernel_rfl, by kernel_rfl, by decide +kernel⟩
theorem ok38 : FnOK Try.prog cx 38 fi38 Try.f38 := ⟨by kernel_rfl, by decide +kernel, by kernel_rfl, by kernel_rfl, by kernel_rfl, by decide +kernel⟩
theorem ok39 : FnOK Try.prog cx 39 fi39 Try.f39 := ⟨by kernel_rfl, by decide +kernel, by kernel_rfl, by kernel_rfl, by kernel_rfl, by decide +kernel⟩
theorem ok40 : FnOK Try.prog cx 40 fi40 Try.f40 := ⟨by kernel_rfl, by decide +kernel, by kernel_rfl, by kernel_rfl, by kernel_rfl, by decide +kernel⟩
theorem ok41 : FnOK Try.prog cx 41 fi41 Try.f41 := ⟨by kernel_rfl, by decide +kernel, by kernel_rfl, by kernel_rfl, by kernel_rfl, by decide +kernel⟩
theorem ok42 : FnOK Try.prog cx 42 fi42 Try.f42 := ⟨by kernel_rfl, by decide +kernel, by kernel_rfl, by kernel_rfl, by kernel_rfl, by decide +kernel⟩
theorem ok43 : FnOK Try.prog cx 43 fi43 Try.f43 := ⟨by kernel_rfl, by decide +kernel, by kernel_rfl, by kernel_rfl, by kernel_rfl, by decide +kernel⟩
theorem ok44 : FnOK Try.prog cx 44 fi44 Try.f44 := ⟨by kernel_rfl, by decide +kernel, by kernel_rfl, by kernel_rfl, by kernel_rfl, by decide +kernel⟩
theorem ok45 : FnOK Try.prog cx 45 fi45 Try.f45 := ⟨by kernel_rfl, by decide +kernel, by kernel_rfl, by kernel_rfl, by kernel_rfl, by decide +kernel⟩
theorem ok46 : FnOK Try.prog cx 46 fi46 Try.f46 := ⟨by kernel_rfl, by decide +kernel, by kernel_rfl, by kernel_rfl, by kernel_rfl, by decide +kernel⟩
theorem ok47 : FnOK Try.prog cx 47 fi47 Try.f47 := ⟨by kernel_rfl, by decide +kernel, by kernel_rfl, by kernel_rfl, by kernel_rfl, by decide +kernel⟩
theorem ok48 : FnOK Try.prog cx 48 fi48 Try.f48 := ⟨by kernel_rfl, by decide +kernel, by kernel_rfl, by kernel_rfl, by kernel_rfl, by decide +kernel⟩
theorem ok49 : FnOK Try.prog cx 49 fi49 Try.f49 := ⟨by kernel_rfl, by decide +kernel, by kernel_rfl, by kernel_rfl, by kernel_rfl, by decide +kernel⟩
theorem ok50 : FnOK Try.prog cx 50 fi50 Try.f50 := ⟨by kernel_rfl, by decide +kernel, by kernel_rfl, by kernel_rfl, by kernel_rfl, by decide +kernel⟩
theorem ok51 : FnOK Try.prog cx 51 fi51 Try.f51 := ⟨by kernel_rfl, by decide +kernel, by kernel_rfl, by kernel_rfl, by kernel_rfl, by decide +kernel⟩
theorem ok52 : FnOK Try.prog cx 52 fi52 Try.f52 := ⟨by kernel_rfl, by decide +kernel, by kernel_rfl, by kernel_rfl, by kernel_rfl, by decide +kernel⟩
theorem ok53 : FnOK Try.prog cx 53 fi53 Try.f53 := ⟨by kernel_rfl, by decide +kernel, by kernel_rfl, by kernel_rfl, by kernel_rfl, by decide +kernel⟩
theorem ok54 : FnOK Try.prog cx 54 fi54 Try.f54 := ⟨by kernel_rfl, by decide +kernel, by kernel_rfl, by kernel_rfl, by kernel_rfl, by decide +kernel⟩
theorem ok55 : FnOK Try.prog cx 55 fi55 Try.f55 := ⟨by kernel_rfl, by decide +kernel, by kernel_rfl, by kernel_rfl, by kernel_rfl, by decide +kernel⟩
theorem ok56 : FnOK Try.prog cx 56 fi56 Try.f56 := ⟨by kernel_rfl, by decide +kernel, by kernel_rfl, by kernel_rfl, by kernel_rfl, by decide +kernel⟩
theorem ok57 : FnOK Try.prog cx 57 fi57 Try.f57 := ⟨by kernel_rfl, by decide +kernel, by kernel_rfl, by kernel_rfl, by kernel_rfl, by decide +kernel⟩
theorem ok58 : FnOK Try.prog cx 58 fi58 Try.f58 := ⟨by kernel_rfl, by decide +kernel, by kernel_rfl, by kernel_rfl, by kernel_rfl, by decide +kernel⟩
theorem ok59 : FnOK Try.prog cx 59 fi59 Try.f59 := ⟨by kernel_rfl, by decide +kernel, by kernel_rfl, by kernel_rfl, by kernel_rfl, by decide +kernel⟩
theorem ok60 : FnOK Try.prog cx 60 fi60 Try.f60 := ⟨by kernel_rfl, by decide +kernel, by kernel_rfl, by kernel_rfl, by kernel_rfl, by decide +kernel⟩
theorem ok61 : FnOK Try.prog cx 61 fi61 Try.f61 := ⟨by kernel_rfl, by decide +kernel, by kernel_rfl, by kernel_rfl, by kernel_rfl, by decide +kernel⟩
theorem ok62 : FnOK Try.prog cx 62 fi62 Try.f62 := ⟨by kernel_rfl, by decide +kernel, by kernel_rfl, by kernel_rfl, by kernel_rfl, by decide +kernel⟩
theorem ok63 : FnOK Try.prog cx 63 fi63 Try.f63 := ⟨by kernel_rfl, by decide +kernel, by kernel_rfl, by kernel_rfl, by kernel_rfl, by decide +kernel⟩
theorem ok64 : FnOK Try.prog cx 64 fi64 Try.f64 := ⟨by kernel_rfl, by decide +kernel, by kernel_rfl, by kernel_rfl, by kernel_rfl, by decide +kernel⟩
theorem ok65 : FnOK Try.prog cx 65 fi65 Try.f65 := ⟨by kernel_rfl, by decide +kernel, by kernel_rfl, by kernel_rfl, by kernel_rfl, by decide +kernel⟩
theorem ok66 : FnOK Try.prog cx 66 fi66 Try.f66 := ⟨by kernel_rfl, by decide +kernel, by kernel_rfl, by kernel_rfl, by kernel_rfl, by decide +kernel⟩
theorem ok67 : FnOK Try.prog cx 67 fi67 Try.f67 := ⟨by kernel_rfl, by decide +kernel, by kernel_rfl, by kernel_rfl, by kernel_rfl, by decide +kernel⟩
theorem ok68 : FnOK Try.prog cx 68 fi68 Try.f68 := ⟨by kernel_rfl, by decide +kernel, by kernel_rfl, by kernel_rfl, by kernel_rfl, by decide +kernel⟩
theorem ok69 : FnOK Try.prog cx 69 fi69 Try.f69 := ⟨by kernel_rfl, by decide +kernel, by kernel_rfl, by kernel_rfl, by kernel_rfl, by decide +kernel⟩
theorem ok70 : FnOK Try.prog cx 70 fi70 Try.f70 := ⟨by kernel_rfl, by decide +kernel, by kernel_rfl, by kernel_rfl, by kernel_rfl, by decide +kernel⟩
theorem ok71 : FnOK Try.prog cx 71 fi71 Try.f71 := ⟨by kernel_rfl, by decide +kernel, by kernel_rfl, by kernel_rfl, by kernel_rfl, by decide +kernel⟩
theorem ok72 : FnOK Try.prog cx 72 fi72 Try.f72 := ⟨by kernel_rfl, by decide +kernel, by kernel_rfl, by kernel_rfl, by kernel_rfl, by decide +kernel⟩
theorem ok73 : FnOK Try.prog cx 73 fi73 Try.f73 := ⟨by kernel_rfl, by decide +kernel, by kernel_rfl, by kernel_rfl, by kernel_rfl, by decide +kernel⟩
theorem ok74 : FnOK Try.prog cx 74 fi74 Try.f74 := ⟨by kernel_rfl, by decide +kernel, by kernel_rfl, by kernel_rfl, by kernel_rfl, by decide +kernel⟩
theorem ok75 : FnOK Try.prog cx 75 fi75 Try.f75 := ⟨by kernel_rfl, by decide +kernel, by kernel_rfl, by kernel_rfl, by kernel_rfl, by decide +kernel⟩
theorem ok76 : FnOK Try.prog cx 76 fi76 Try.f76 := ⟨by kernel_rfl, by decide +kernel, by kernel_rfl, by kernel_rfl, by kernel_rfl, by decide +kernel⟩
theorem ok77 : FnOK Try.prog cx 77 fi77 Try.f77 := ⟨by kernel_rfl, by decide +kernel, by kernel_rfl, by kernel_rfl, by kernel_rfl, by decide +kernel⟩
theorem ok78 : FnOK Try.prog cx 78 fi78 Try.f78 := ⟨by kernel_rfl, by decide +kernel, by kernel_rfl, by kernel_rfl, by kernel_rfl, by decide +kernel⟩
theorem ok79 : FnOK Try.prog cx 79 fi79 Try.f79 := ⟨by kernel_rfl, by decide +kernel, by kernel_rfl, by kernel_rfl, by kernel_rfl, by decide +kernel⟩
theorem ok80 : FnOK Try.prog cx 80 fi80 Try.f80 := ⟨by kernel_rfl, by decide +kernel, by kernel_rfl, by kernel_rfl, by kernel_rfl, by decide +kernel⟩
theorem ok81 : FnOK Try.prog cx 81 fi81 Try.f81 := ⟨by kernel_rfl, by decide +kernel, by kernel_rfl, by kernel_rfl, by kernel_rfl, by decide +kernel⟩
theorem ok82 : FnOK Try.prog cx 82 fi82 Try.f82 := ⟨by kernel_rfl, by decide +kernel, by kernel_rfl, by kernel_rfl, by kernel_rfl, by decide +kernel⟩
theorem ok83 : FnOK Try.prog cx 83 fi83 Try.f83 := ⟨by kernel_rfl, by decide +kernel, by kernel_rfl, by kernel_rfl, by kernel_rfl, by decide +kernel⟩
theorem ok84 : FnOK Try.prog cx 84 fi84 Try.f84 := ⟨by kernel_rfl, by decide +kernel, by kernel_rfl, by kernel_rfl, by kernel_rfl, by decide +kernel⟩
theorem ok85 : FnOK Try.prog cx 85 fi85 Try.f85 := ⟨by kernel_rfl, by decide +kernel, by kernel_rfl, by kernel_rfl, by kernel_rfl, by decide +kernel⟩
theorem ok87 : FnOK Try.prog cx 87 fi87 Try.f87 := ⟨by kernel_rfl, by decide +kernel, by kernel_rfl, by kernel_rfl, by kernel_rfl, by decide +kernel⟩
theorem ok88 : FnOK Try.prog cx 88 fi88 Try.f88 := ⟨by kernel_rfl, by decide +kernel, by kernel_rfl, by kernel_rfl, by kernel_rfl, by decide +kernel⟩
theorem ok89 : FnOK Try.prog cx 89 fi89 Try.f89 := ⟨by kernel_rfl, by decide +kernel, by kernel_rfl, by kernel_rfl, by kernel_rfl, by decide +kernel⟩
theorem ok90 : FnOK Try.prog cx 90 fi90 Try.f90 := ⟨by kernel_rfl, by decide +kernel, by kernel_rfl, by kernel_rfl, by kernel_rfl, by decide +kernel⟩
theorem ok91 : FnOK Try.prog cx 91 fi91 Try.f91 := ⟨by kernel_rfl, by decide +kernel, by kernel_rfl, by kernel_rfl, by kernel_rfl, by decide +kernel⟩
theorem ok92 : FnOK Try.prog cx 92 fi92 Try.f92 := ⟨by kernel_rfl, by decide +kernel, by kernel_rfl, by kernel_rfl, by kernel_rfl, by decide +kernel⟩
theorem ok93 : FnOK Try.prog cx 93 fi93 Try.f93 := ⟨by kernel_rfl, by decide +kernel, by kernel_rfl, by kernel_rfl, by kernel_rfl, by decide +kernel⟩
theorem ok94 : FnOK Try.prog cx 94 fi94 Try.f94 := ⟨by kernel_rfl, by decide +kernel, by kernel_rfl, by kernel_rfl, by kernel_rfl, by decide +kernel⟩
theorem ok95 : FnOK Try.prog cx 95 fi95 Try.f95 := ⟨by kernel_rfl, by decide +kernel, by kernel_rfl, by kernel_rfl, by kernel_rfl, by decide +kernel⟩
theorem ok96 : FnOK Try.prog cx 96 fi96 Try.f96 := ⟨by kernel_rfl, by decide +kernel, by kernel_rfl, by kernel_rfl, by kernel_rfl, by decide +kernel⟩
theorem ok97 : FnOK Try.prog cx 97 fi97 Try.f97 := ⟨by kernel_rfl, by decide +kernel, by kernel_rfl, by kernel_rfl, by kernel_rfl, by decide +kernel⟩
theorem ok98 : FnOK Try.prog cx 98 fi98 Try.f98 := ⟨by kernel_rfl, by decide +kernel, by kernel_rfl, by kernel_rfl, by kernel_rfl, by decide +kernel⟩
theorem ok99 : FnOK Try.prog cx 99 fi99 Try.f99 := ⟨by kernel_rfl, by decide +kernel, by kernel_rfl, by kernel_rfl, by kernel_rfl, by decide +kernel⟩
theorem ok100 : FnOK Try.prog cx 100 fi100 Try.f100 := ⟨by kernel_rfl, by decide +kernel, by kernel_rfl, by kernel_rfl, by kernel_rfl, by decide +kernel⟩
theorem ok101 : FnOK Try.prog cx 101 fi101 Try.f101 := ⟨by kernel_rfl, by decide +kernel, by kernel_rfl, by kernel_rfl, by kernel_rfl, by decide +kernel⟩
theorem ok102 : FnOK Try.prog cx 102 fi102 Try.f102 := ⟨by kernel_rfl, by decide +kernel, by kernel_rfl, by kernel_rfl, by kernel_rfl, by decide +kernel⟩
theorem ok103 : FnOK Try.prog cx 103 fi103 Try.f103 := ⟨by kernel_rfl, by decide +kernel, by kernel_rfl, by kernel_rfl, by kernel_rfl, by decide +kernel⟩
theorem ok104 : FnOK Try.prog cx 104 fi104 Try.f104 := ⟨by kernel_rfl, by decide +kernel, by kernel_rfl, by kernel_rfl, by kernel_rfl, by decide +kernel⟩
theorem ok105 : FnOK Try.prog cx 105 fi105 Try.f105 := ⟨by kernel_rfl, by decide +kernel, by kernel_rfl, by kernel_rfl, by kernel_rfl, by decide +kernel⟩
theorem ok106 : FnOK Try.prog cx 106 fi106 Try.f106 := ⟨by kernel_rfl, by decide +kernel, by kernel_rfl, by kernel_rfl, by kernel_rfl, by decide +kernel⟩
theorem ok107 : FnOK Try.prog cx 107 fi107 Try.f107 := ⟨by kernel_rfl, by decide +kernel, by kernel_rfl, by kernel_rfl, by kernel_rfl, by decide +kernel⟩
theorem ok108 : FnOK Try.prog cx 108 fi108 Try.f108 := ⟨by kernel_rfl, by decide +kernel, by kernel_rfl, by kernel_rfl, by kernel_rfl, by decide +kernel⟩
theorem ok109 : FnOK Try.prog cx 109 fi109 Try.f109 := ⟨by kernel_rfl, by decide +kernel, by kernel_rfl, by kernel_rfl, by kernel_rfl, by decide +kernel⟩
theorem ok110 : FnOK Try.prog cx 110 fi110 Try.f110 := ⟨by kernel_rfl, by decide +kernel, by kernel_rfl, by kernel_rfl, by kernel_rfl, by decide +kernel⟩
theorem ok111 : FnOK Try.prog cx 111 fi111 Try.f111 := ⟨by kernel_rfl, by decide +kernel, by kernel_rfl, by kernel_rfl, by kernel_rfl, by decide +kernel⟩
theorem ok112 : FnOK Try.prog cx 112 fi112 Try.f112 := ⟨by kernel_rfl, by decide +kernel, by kernel_rfl, by kernel_rfl, by kernel_rfl, by decide +kernel⟩
theorem ok113 : FnOK Try.prog cx 113 fi113 Try.f113 := ⟨by kernel_rfl, by decide +kernel, by kernel_rfl, by kernel_rfl, by kernel_rfl, by decide +kernel⟩
theorem ok114 : FnOK Try.prog cx 114 fi114 Try.f114 := ⟨by kernel_rfl, by decide +kernel, by kernel_rfl, by kernel_rfl, by kernel_rfl, by decide +kernel⟩
theorem ok115 : FnOK Try.prog cx 115 fi115 Try.f115 := ⟨by kernel_rfl, by decide +kernel, by kernel_rfl, by kernel_rfl, by kernel_rfl, by decide +kernel⟩
theorem fnsOK : FnsOK Try.prog cx := fnsOK_of (⟨none_ok _, ⟨none_ok _, ⟨some_ok ok3, ⟨some_ok ok7, ⟨some_ok ok15, ⟨some_ok ok31, ⟨some_ok ok63, ⟨none_ok _, trivial, trivial⟩, trivial⟩, ⟨some_ok ok95, trivial, trivial⟩⟩, ⟨some_ok ok47, ⟨some_ok ok79, trivial, trivial⟩, ⟨some_ok ok111, trivial, trivial⟩⟩⟩, ⟨some_ok ok23, ⟨some_ok ok39, ⟨some_ok ok71, trivial, trivial⟩, ⟨some_ok ok103, trivial, trivial⟩⟩, ⟨some_ok ok55, ⟨some_ok ok87, trivial, trivial⟩, ⟨none_ok _, trivial, trivial⟩⟩⟩⟩, ⟨some_ok ok11, ⟨some_ok ok19, ⟨some_ok ok35, ⟨some_ok ok67, ⟨none_ok _, trivial, trivial⟩, trivial⟩, ⟨some_ok ok99, trivial, trivial⟩⟩, ⟨some_ok ok51, ⟨some_ok ok83, trivial, trivial⟩, ⟨some_ok ok115, trivial, trivial⟩⟩⟩, ⟨some_ok ok27, ⟨some_ok ok43, ⟨some_ok ok75, trivial, trivial⟩, ⟨some_ok ok107, trivial, trivial⟩⟩, ⟨some_ok ok59, ⟨some_ok ok91, trivial, trivial⟩, ⟨none_ok _, trivial, trivial⟩⟩⟩⟩⟩, ⟨some_ok ok5, ⟨some_ok ok9, ⟨some_ok ok17, ⟨some_ok ok33, ⟨some_ok ok65, ⟨none_ok _, trivial, trivial⟩, trivial⟩, ⟨some_ok ok97, trivial, trivial⟩⟩, ⟨some_ok ok49, ⟨some_ok ok81, trivial, trivial⟩, ⟨some_ok ok113, trivial, trivial⟩⟩⟩, ⟨some_ok ok25, ⟨some_ok ok41, ⟨some_ok ok73, trivial, trivial⟩, ⟨some_ok ok105, trivial, trivial⟩⟩, ⟨some_ok ok57, ⟨some_ok ok89, trivial, trivial⟩, ⟨none_ok _, trivial, trivial⟩⟩⟩⟩, ⟨some_ok ok13, ⟨some_ok ok21, ⟨some_ok ok37, ⟨some_ok ok69, trivial, trivial⟩, ⟨some_ok ok101, trivial, trivial⟩⟩, ⟨some_ok ok53, ⟨some_ok ok85, trivial, trivial⟩, ⟨none_ok _, trivial, trivial⟩⟩⟩, ⟨some_ok ok29, ⟨some_ok ok45, ⟨some_ok ok77, trivial, trivial⟩, ⟨some_ok ok109, trivial, trivial⟩⟩, ⟨some_ok ok61, ⟨some_ok ok93, trivial, trivial⟩, ⟨none_ok _, trivial, trivial⟩⟩⟩⟩⟩⟩, ⟨none_ok _, ⟨some_ok ok4, ⟨some_ok ok8, ⟨some_ok ok16, ⟨some_ok ok32, ⟨some_ok ok64, ⟨none_ok _, trivial, trivial⟩, trivial⟩, ⟨some_ok ok96, trivial, trivial⟩⟩, ⟨some_ok ok48, ⟨some_ok ok80, trivial, trivial⟩, ⟨some_ok ok112, trivial, trivial⟩⟩⟩, ⟨some_ok ok24, ⟨some_ok ok40, ⟨some_ok ok72, trivial, trivial⟩, ⟨some_ok ok104, trivial, trivial⟩⟩, ⟨some_ok ok56, ⟨some_ok ok88, trivial, trivial⟩, ⟨none_ok _, trivial, trivial⟩⟩⟩⟩, ⟨some_ok ok12, ⟨some_ok ok20, ⟨some_ok ok36, ⟨some_ok ok68, trivial, trivial⟩, ⟨some_ok ok100, trivial, trivial⟩⟩, ⟨some_ok ok52, ⟨some_ok ok84, trivial, trivial⟩, ⟨none_ok _, trivial, trivial⟩⟩⟩, ⟨some_ok ok28, ⟨some_ok ok44, ⟨some_ok ok76, trivial, trivial⟩, ⟨some_ok ok108, trivial, trivial⟩⟩, ⟨some_ok ok60, ⟨some_ok ok92, trivial, trivial⟩, ⟨none_ok _, trivial, trivial⟩⟩⟩⟩⟩, ⟨some_ok ok6, ⟨some_ok ok10, ⟨some_ok ok18, ⟨some_ok ok34, ⟨some_ok ok66, ⟨none_ok _, trivial, trivial⟩, trivial⟩, ⟨some_ok ok98, trivial, trivial⟩⟩, ⟨some_ok ok50, ⟨some_ok ok82, trivial, trivial⟩, ⟨some_ok ok114, trivial, trivial⟩⟩⟩, ⟨some_ok ok26, ⟨some_ok ok42, ⟨some_ok ok74, trivial, trivial⟩, ⟨some_ok ok106, trivial, trivial⟩⟩, ⟨some_ok ok58, ⟨some_ok ok90, trivial, trivial⟩, ⟨none_ok _, trivial, trivial⟩⟩⟩⟩, ⟨some_ok ok14, ⟨some_ok ok22, ⟨some_ok ok38, ⟨some_ok ok70, trivial, trivial⟩, ⟨some_ok ok102, trivial, trivial⟩⟩, ⟨some_ok ok54, ⟨none_ok _, trivial, trivial⟩, ⟨none_ok _, trivial, trivial⟩⟩⟩, ⟨some_ok ok30, ⟨some_ok ok46, ⟨some_ok ok78, trivial, trivial⟩, ⟨some_ok ok110, trivial, trivial⟩⟩, ⟨some_ok ok62, ⟨some_ok ok94, trivial, trivial⟩, ⟨none_ok _, trivial, trivial⟩⟩⟩⟩⟩⟩⟩)
end Go.Eva.S2

/- Eva, part 47: what arguments of the program's plain types are. -/
namespace Go.Eva

section
variable {cx : Cx} {t m : Nat} {ts : List T} {i : TI}

theorem conf_int (hti : cx.ti.get t = some i) (hk : i.ty = .int .i64) (h : Conf cx m t ts) : ∃ n, ts = [ti n] ∧ i64 n := by
  cases m with
  | zero => exact h.elim
  | succ m =>
    simp only [Conf, hti, hk] at h
    obtain ⟨n, rfl, hw⟩ := h
    refine ⟨n, rfl, ?_⟩
    simp [Lit.wf, IntKind.min, IntKind.max, IntKind.signed, IntKind.bits] at hw
    exact ⟨by omega, by omega⟩
theorem conf_u64 (hti : cx.ti.get t = some i) (hk : i.ty = .int .u64) (h : Conf cx m t ts) : ∃ n, ts = [.int .u64 n] ∧ 0 ≤ n ∧ n ≤ 18446744073709551615 := by
  cases m with
  | zero => exact h.elim
  | succ m =>
    simp only [Conf, hti, hk] at h
    obtain ⟨n, rfl, hw⟩ := h
    refine ⟨n, rfl, ?_⟩
    simp [Lit.wf, IntKind.min, IntKind.max, IntKind.signed, IntKind.bits] at hw
    exact ⟨by omega, by omega⟩
theorem conf_bool (hti : cx.ti.get t = some i) (hk : i.ty = .bool) (h : Conf cx m t ts) : ∃ b, ts = [.bool b] := by
  cases m with
  | zero => exact h.elim
  | succ m => simpa only [Conf, hti, hk] using h
theorem conf_struct {fs : List (Nat × Nat)} (hti : cx.ti.get t = some i) (hk : i.ty = .struct fs) (h : Conf cx (m + 1) t ts) : ts.length = i.size ∧ ∀ p ∈ fs, Conf cx m p.2 ((ts.drop p.1).take (sizeOf cx p.2)) := by
  simpa only [Conf, hti, hk] using h
theorem conf_slice {e : Nat} (hti : cx.ti.get t = some i) (hk : i.ty = .slice e) (h : Conf cx (m + 1) t ts) :
    ∃ xs, ts = [.sl (sizeOf cx e) xs] ∧ xs.length ≤ maxLen ∧ xs.length * bytesOf cx e ≤ reachBytes ∧ ∀ x ∈ xs, x ≠ .any ∧ (isStruct cx e = true → ∃ l, x = .agg l) ∧ (isStruct cx e = false → x.cells = [x]) ∧ Conf cx m e x.cells := by
  simpa only [Conf, hti, hk] using h

/-- A field that is a whole number. -/
theorem conf_at {j k : Nat} {fs : List (Nat × Nat)} (hi : cx.ti.get k = some i) (hk : i.ty = .int .i64) (hs : sizeOf cx k = 1) (h : ∀ p ∈ fs, Conf cx m p.2 ((ts.drop p.1).take (sizeOf cx p.2))) (hp : (j, k) ∈ fs) : ∃ n, ts[j]? = some (ti n) ∧ i64 n := by
  have := h _ hp
  simp only [hs] at this
  obtain ⟨n, h1, h2⟩ := conf_int hi hk this
  refine ⟨n, ?_, h2⟩
  have h3 := congrArg (fun l => l[0]?) h1
  simpa [List.getElem?_take, List.getElem?_drop] using h3

theorem list_of {α : Type} {f : α → T} {P : α → Prop} : ∀ {xs : List T}, (∀ x ∈ xs, ∃ e, x = f e ∧ P e) → ∃ l : List α, xs = l.map f ∧ ∀ e ∈ l, P e
  | [], _ => ⟨[], rfl, by simp⟩
  | x :: xs, h => by
    obtain ⟨e, rfl, he⟩ := h x (List.mem_cons_self ..)
    obtain ⟨l, rfl, hl⟩ := list_of fun y hy => h y (List.mem_cons_of_mem _ hy)
    exact ⟨e :: l, rfl, fun y hy => by
      rcases List.mem_cons.1 hy with rfl | hy
      · exact he
      · exact hl y hy⟩

def Entity.ok (e : Entity) : Prop := i64 e.id ∧ i64 e.kind ∧ i64 e.x ∧ i64 e.y ∧ i64 e.vx ∧ i64 e.vy ∧ i64 e.health ∧ i64 e.age ∧ i64 e.owner
def Input.ok (e : Input) : Prop := i64 e.dx ∧ i64 e.dy
def Cross.ok (c : Cross) : Prop := i64 c.kind ∧ i64 c.frm ∧ i64 c.to ∧ i64 c.frame ∧ c.ent.ok ∧ i64 c.x ∧ i64 c.y

theorem nine {ts : List T} (h : ts.length = 9) {a0 a1 a2 a3 a4 a5 a6 a7 a8 : T} (h0 : ts[0]? = some a0) (h1 : ts[1]? = some a1) (h2 : ts[2]? = some a2) (h3 : ts[3]? = some a3) (h4 : ts[4]? = some a4)
    (h5 : ts[5]? = some a5) (h6 : ts[6]? = some a6) (h7 : ts[7]? = some a7) (h8 : ts[8]? = some a8) : ts = [a0, a1, a2, a3, a4, a5, a6, a7, a8] := by
  match ts, h with
  | [_, _, _, _, _, _, _, _, _], _ => simp_all

/-- An entity's cells. -/
theorem conf_entity {k : Nat} {j : TI} (hk : cx.ti.get k = some j) (hkt : j.ty = .int .i64) (hs : sizeOf cx k = 1) (hti : cx.ti.get t = some i) (hty : i.ty = .struct [(0, k), (1, k), (2, k), (3, k), (4, k), (5, k), (6, k), (7, k), (8, k)]) (hsz : i.size = 9)
    (h : Conf cx (m + 1) t ts) : ∃ e : Entity, ts = e.enc.cells ∧ e.ok := by
  obtain ⟨h1, h2⟩ := conf_struct hti hty h
  rw [hsz] at h1
  obtain ⟨n0, a0, b0⟩ := conf_at (j := 0) hk hkt hs h2 (by simp)
  obtain ⟨n1, a1, b1⟩ := conf_at (j := 1) hk hkt hs h2 (by simp)
  obtain ⟨n2, a2, b2⟩ := conf_at (j := 2) hk hkt hs h2 (by simp)
  obtain ⟨n3, a3, b3⟩ := conf_at (j := 3) hk hkt hs h2 (by simp)
  obtain ⟨n4, a4, b4⟩ := conf_at (j := 4) hk hkt hs h2 (by simp)
  obtain ⟨n5, a5, b5⟩ := conf_at (j := 5) hk hkt hs h2 (by simp)
  obtain ⟨n6, a6, b6⟩ := conf_at (j := 6) hk hkt hs h2 (by simp)
  obtain ⟨n7, a7, b7⟩ := conf_at (j := 7) hk hkt hs h2 (by simp)
  obtain ⟨n8, a8, b8⟩ := conf_at (j := 8) hk hkt hs h2 (by simp)
  exact ⟨⟨n0, n1, n2, n3, n4, n5, n6, n7, n8⟩, nine h1 a0 a1 a2 a3 a4 a5 a6 a7 a8, b0, b1, b2, b3, b4, b5, b6, b7, b8⟩

theorem conf_config {k u : Nat} {j v : TI} (hk : cx.ti.get k = some j) (hkt : j.ty = .int .i64) (hs : sizeOf cx k = 1) (hu : cx.ti.get u = some v) (hut : v.ty = .int .u64) (hus : sizeOf cx u = 1) (hti : cx.ti.get t = some i)
    (hty : i.ty = .struct [(0, k), (1, k), (2, k), (3, k), (4, u)]) (hsz : i.size = 5) (h : Conf cx (m + 1) t ts) : ∃ c : Config, ts = c.enc.cells ∧ c.ok := by
  obtain ⟨h1, h2⟩ := conf_struct hti hty h
  rw [hsz] at h1
  obtain ⟨n0, a0, b0⟩ := conf_at (j := 0) hk hkt hs h2 (by simp)
  obtain ⟨n1, a1, b1⟩ := conf_at (j := 1) hk hkt hs h2 (by simp)
  obtain ⟨n2, a2, b2⟩ := conf_at (j := 2) hk hkt hs h2 (by simp)
  obtain ⟨n3, a3, b3⟩ := conf_at (j := 3) hk hkt hs h2 (by simp)
  have h4 := h2 (4, u) (by simp)
  simp only [hus] at h4
  obtain ⟨n4, a4, b4⟩ := conf_u64 hu hut h4
  refine ⟨⟨n0, n1, n2, n3, n4⟩, ?_, b0, b1, b2, b3, b4⟩
  match ts, h1 with
  | [_, _, _, _, _], _ => simp_all [Config.enc, T.cells]

theorem conf_input {k u : Nat} {j v : TI} (hk : cx.ti.get k = some j) (hkt : j.ty = .int .i64) (hs : sizeOf cx k = 1) (hu : cx.ti.get u = some v) (hut : v.ty = .bool) (hus : sizeOf cx u = 1) (hti : cx.ti.get t = some i)
    (hty : i.ty = .struct [(0, k), (1, k), (2, u)]) (hsz : i.size = 3) (h : Conf cx (m + 1) t ts) : ∃ c : Input, ts = c.enc.cells ∧ c.ok := by
  obtain ⟨h1, h2⟩ := conf_struct hti hty h
  rw [hsz] at h1
  obtain ⟨n0, a0, b0⟩ := conf_at (j := 0) hk hkt hs h2 (by simp)
  obtain ⟨n1, a1, b1⟩ := conf_at (j := 1) hk hkt hs h2 (by simp)
  have h4 := h2 (2, u) (by simp)
  simp only [hus] at h4
  obtain ⟨n2, a2⟩ := conf_bool hu hut h4
  refine ⟨⟨n0, n1, n2⟩, ?_, b0, b1⟩
  match ts, h1 with
  | [_, _, _], _ => simp_all [Input.enc, T.cells]
theorem conf_cross {k u : Nat} {j v : TI} (hk : cx.ti.get k = some j) (hkt : j.ty = .int .i64) (hs : sizeOf cx k = 1) (hu : cx.ti.get u = some v) (hut : v.ty = .struct [(0, k), (1, k), (2, k), (3, k), (4, k), (5, k), (6, k), (7, k), (8, k)]) (hus : sizeOf cx u = 9) (hti : cx.ti.get t = some i)
    (hty : i.ty = .struct [(0, k), (1, k), (2, k), (3, k), (4, u), (13, k), (14, k)]) (hsz : i.size = 15) (h : Conf cx (m + 2) t ts) : ∃ c : Cross, ts = c.enc.cells ∧ c.ok := by
  obtain ⟨h1, h2⟩ := conf_struct hti hty h
  rw [hsz] at h1
  obtain ⟨n0, a0, b0⟩ := conf_at (j := 0) hk hkt hs h2 (by simp)
  obtain ⟨n1, a1, b1⟩ := conf_at (j := 1) hk hkt hs h2 (by simp)
  obtain ⟨n2, a2, b2⟩ := conf_at (j := 2) hk hkt hs h2 (by simp)
  obtain ⟨n3, a3, b3⟩ := conf_at (j := 3) hk hkt hs h2 (by simp)
  obtain ⟨n5, a5, b5⟩ := conf_at (j := 13) hk hkt hs h2 (by simp)
  obtain ⟨n6, a6, b6⟩ := conf_at (j := 14) hk hkt hs h2 (by simp)
  have h4 := h2 (4, u) (by simp)
  simp only [hus] at h4
  have hvs : v.size = 9 := by
    have := hus
    unfold sizeOf at this
    rw [hu] at this
    exact this
  obtain ⟨e, a4, b4⟩ := conf_entity hk hkt hs hu hut hvs h4
  refine ⟨⟨n0, n1, n2, n3, e, n5, n6⟩, ?_, b0, b1, b2, b3, b4, b5, b6⟩
  match ts, h1 with
  | [_, _, _, _, _, _, _, _, _, _, _, _, _, _, _], _ =>
    simp only [Entity.enc, T.cells, List.drop_succ_cons, List.drop_zero, List.take_succ_cons, List.take_zero, List.cons.injEq, and_true] at a4
    simp_all [Cross.enc, T.cells]

theorem not_struct (hti : cx.ti.get t = some i) (h : ∀ fs, i.ty ≠ .struct fs) : isStruct cx t = false := by
  unfold isStruct
  rw [hti]
  cases i with
  | mk ty s b q => cases ty <;> simp_all
theorem is_struct {fs : List (Nat × Nat)} (hti : cx.ti.get t = some i) (h : i.ty = .struct fs) : isStruct cx t = true := by
  unfold isStruct
  rw [hti]
  cases i with
  | mk ty s b q => simp only at h; subst h; rfl

/-- Arguments. -/
theorem arg_int (hti : cx.ti.get t = some i) (hk : i.ty = .int .i64) {x : T} (h : Arg cx m t x) : ∃ n, x = ti n ∧ i64 n := by
  obtain ⟨h1, h2, h3, h4⟩ := h
  obtain ⟨n, h5, h6⟩ := conf_int hti hk h4
  rw [h3 (not_struct hti (by rw [hk]; simp))] at h5
  exact ⟨n, by simpa using h5, h6⟩
theorem arg_bool (hti : cx.ti.get t = some i) (hk : i.ty = .bool) {x : T} (h : Arg cx m t x) : ∃ b, x = .bool b := by
  obtain ⟨h1, h2, h3, h4⟩ := h
  obtain ⟨n, h5⟩ := conf_bool hti hk h4
  rw [h3 (not_struct hti (by rw [hk]; simp))] at h5
  exact ⟨n, by simpa using h5⟩
/-- A struct, by its cells. -/
theorem arg_of {α : Type} {f : α → T} {P : α → Prop} {fs : List (Nat × Nat)} (hti : cx.ti.get t = some i) (hk : i.ty = .struct fs) (hf : ∀ e, ∃ l, f e = .agg l) (hc : ∀ {ts}, Conf cx m t ts → ∃ e, ts = (f e).cells ∧ P e) {x : T} (h : Arg cx m t x) : ∃ e, x = f e ∧ P e := by
  obtain ⟨h1, h2, h3, h4⟩ := h
  obtain ⟨l, rfl⟩ := h2 (is_struct hti hk)
  obtain ⟨e, h5, h6⟩ := hc h4
  obtain ⟨l', hl⟩ := hf e
  rw [hl] at h5
  simp only [T.cells] at h5
  exact ⟨e, by rw [hl, h5], h6⟩
/-- A slice, by its members. -/
theorem arg_slice {α : Type} {f : α → T} {P : α → Prop} {e s : Nat} (hti : cx.ti.get t = some i) (hk : i.ty = .slice e) (hs : sizeOf cx e = s) (hc : ∀ {x}, Arg cx m e x → ∃ a, x = f a ∧ P a) {x : T} (h : Arg cx (m + 1) t x) :
    ∃ l : List α, x = .sl s (l.map f) ∧ (∀ a ∈ l, P a) ∧ l.length ≤ maxLen ∧ l.length * bytesOf cx e ≤ reachBytes := by
  obtain ⟨h1, h2, h3, h4⟩ := h
  obtain ⟨xs, h5, h6, h7, h8⟩ := conf_slice hti hk h4
  rw [h3 (not_struct hti (by rw [hk]; simp))] at h5
  obtain ⟨l, rfl, hl⟩ := list_of (f := f) (P := P) fun x hx => hc (h8 x hx)
  refine ⟨l, ?_, hl, by simpa using h6, by simpa using h7⟩
  rw [← hs]
  simpa using h5
end
end Go.Eva
