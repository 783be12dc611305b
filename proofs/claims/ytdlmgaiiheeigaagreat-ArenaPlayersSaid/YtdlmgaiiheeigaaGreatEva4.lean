/- A reading of the program, proved sound against the model, and what its functions answer by it: part 4. -/
import Derived.Test.YtdlmgaiiheeigaaGreatEva3
set_option linter.unusedSimpArgs false
set_option linter.unusedVariables false
/- Messages: merged in place. -/
namespace Go.Eva.S3
theorem f_symMerge_bs1_Cross (A : List Cross) (a : Nat) (ha : a < A.length) (hn : small A) : ∀ (d i j : Nat), i ≤ j → j ≤ i + d → j ≤ A.length →
    Is cx (.loop 187 [0, 0, 1, 1, 0, 1, 0] 1 [.all 0 none, vi a, .t (.clo 129 []), vi i, vi j] [.arr 15 (A.map Cross.enc) none false])
      ⟨.exit 0, [.all 0 none, vi a, .t (.clo 129 []), vi (bs (fun h => Cross.less (gt A h) (gt A a)) d i j : Nat), vi (bs (fun h => Cross.less (gt A h) (gt A a)) d i j : Nat)], [.arr 15 (A.map Cross.enc) none false]⟩ := by
  intro d
  induction d with
  | zero =>
    intro i j h1 h2 h3
    obtain rfl : i = j := by omega
    unfold small at hn
    unfold bs
    refine Wp.ev ?_
    refine gg [.b (decide ((↑i : Int) < (↑i : Int))) false] ⟨fP, trivial⟩ ?_
    exact ge
  | succ d ih =>
    intro i j h1 h2 h3
    by_cases hij : i < j
    · obtain ⟨h, hh⟩ : ∃ h, (i + j) / 2 = h := ⟨_, rfl⟩
      have hf : Int.fdiv ((i + j : Nat) : Int) 2 = (h : Nat) := by rw [Int.fdiv_eq_ediv_of_nonneg _ (by omega)]; omega
      have ih1 := ih (h + 1) j (by omega) (by omega) (by omega)
      have ih2 := ih i h (by omega) (by omega) (by omega)
      unfold small at hn
      clear ih
      cases hl : (fun h => Cross.less (gt A h) (gt A a)) h with
      | true =>
        have e : bs (fun h => Cross.less (gt A h) (gt A a)) (d + 1) i j = bs (fun h => Cross.less (gt A h) (gt A a)) d (h + 1) j := by exact bs_t hij hh hl
        rw [e]
        have hl : (gt A h).cmp (gt A a) < 0 := by simpa [Cross.less] using hl
        refine Wp.ev ?_
        refine gg [.b (decide ((↑i : Int) < (↑j : Int))) true, .i IntKind.i64 ((↑i : Int) + (↑j : Int)) ((↑(i + j) : Int)), .i IntKind.u64 ((↑(i + j) : Int)) ((↑(i + j) : Int)), .w ((0 : Int) ≤ (1 : Int)), .t (T.int IntKind.u64 (Int.fdiv (↑(i + j) : Int) 2)) (T.int IntKind.u64 (↑h : Int)), .i IntKind.i64 (↑h : Int) (↑h : Int), .w ((0 : Int) ≤ (↑h : Int)), .n (Int.toNat (↑h : Int)) h, .w (h < List.length (List.map Cross.enc A)), .w ((0 : Int) ≤ (↑a : Int)), .n (Int.toNat (↑a : Int)) a, .w (a < List.length (List.map Cross.enc A)), .g (List.map Cross.enc A) h (Cross.enc (gt A h)), .g (List.map Cross.enc A) a (Cross.enc (gt A a)), .w (isFnB cx (129 : Nat) = true), .a _ _] ⟨tP, oI, oU, oW, o_t (by rw [hf]), oI, oW, o_n (by kernel_rfl), o_w (by (simp; omega)), oW, o_n (by kernel_rfl), o_w (by (simp; omega)), oT, o_gt rfl (by assumption) (by intro h; cases h), o_w (by kernel_rfl), o_a (f_cross_compare (gt A h) (gt A a)), trivial⟩ ?_
        refine gg [.b (decide (Cross.cmp (gt A h) (gt A a) < 0)) true, .i IntKind.i64 ((↑h : Int) + 1) ((↑(h + 1) : Int)), .a _ _] ⟨t_brp (by assumption), oI, o_a ih1, trivial⟩ ?_
        refine rt (a := Res.mk (Ex.exit 0) [V.all 0 none, vi (↑a : Int), V.t (T.clo 129 []), vi (↑(bs (fun (h : Nat) ↦ Cross.less (gt A h) (gt A a)) d (h + 1) j) : Int), vi (↑(bs (fun (h : Nat) ↦ Cross.less (gt A h) (gt A a)) d (h + 1) j) : Int)] [Ob.arr 15 (List.map Cross.enc A) none false]) (by kernel_rfl) ?_
        (first | rfl | omega | (simp_all; done) | (simp_all; omega))
      | false =>
        have e : bs (fun h => Cross.less (gt A h) (gt A a)) (d + 1) i j = bs (fun h => Cross.less (gt A h) (gt A a)) d i h := by exact bs_f hij hh hl
        rw [e]
        have hl : ¬ (gt A h).cmp (gt A a) < 0 := by simpa [Cross.less] using hl
        refine Wp.ev ?_
        refine gg [.b (decide ((↑i : Int) < (↑j : Int))) true, .i IntKind.i64 ((↑i : Int) + (↑j : Int)) ((↑(i + j) : Int)), .i IntKind.u64 ((↑(i + j) : Int)) ((↑(i + j) : Int)), .w ((0 : Int) ≤ (1 : Int)), .t (T.int IntKind.u64 (Int.fdiv (↑(i + j) : Int) 2)) (T.int IntKind.u64 (↑h : Int)), .i IntKind.i64 (↑h : Int) (↑h : Int), .w ((0 : Int) ≤ (↑h : Int)), .n (Int.toNat (↑h : Int)) h, .w (h < List.length (List.map Cross.enc A)), .w ((0 : Int) ≤ (↑a : Int)), .n (Int.toNat (↑a : Int)) a, .w (a < List.length (List.map Cross.enc A)), .g (List.map Cross.enc A) h (Cross.enc (gt A h)), .g (List.map Cross.enc A) a (Cross.enc (gt A a)), .w (isFnB cx (129 : Nat) = true), .a _ _] ⟨tP, oI, oU, oW, o_t (by rw [hf]), oI, oW, o_n (by kernel_rfl), o_w (by (simp; omega)), oW, o_n (by kernel_rfl), o_w (by (simp; omega)), oT, o_gt rfl (by assumption) (by intro h; cases h), o_w (by kernel_rfl), o_a (f_cross_compare (gt A h) (gt A a)), trivial⟩ ?_
        refine gg [.b (decide (Cross.cmp (gt A h) (gt A a) < 0)) false, .a _ _] ⟨f_brp (by assumption), o_a ih2, trivial⟩ ?_
        refine rt (a := Res.mk (Ex.exit 0) [V.all 0 none, vi (↑a : Int), V.t (T.clo 129 []), vi (↑(bs (fun (h : Nat) ↦ Cross.less (gt A h) (gt A a)) d i h) : Int), vi (↑(bs (fun (h : Nat) ↦ Cross.less (gt A h) (gt A a)) d i h) : Int)] [Ob.arr 15 (List.map Cross.enc A) none false]) (by kernel_rfl) ?_
        (first | rfl | omega | (simp_all; done) | (simp_all; omega))
    · obtain rfl : i = j := by omega
      unfold small at hn
      have e : bs (fun h => Cross.less (gt A h) (gt A a)) (d + 1) i i = i := by rw [bs, if_neg hij]
      rw [e]
      refine Wp.ev ?_
      refine gg [.b (decide ((↑i : Int) < (↑i : Int))) false] ⟨fP, trivial⟩ ?_
      exact ge
theorem f_symMerge_bs2_Cross (A : List Cross) (m : Nat) (hm : m < A.length) (hn : small A) : ∀ (d i j : Nat), i ≤ j → j ≤ i + d → j ≤ A.length →
    Is cx (.loop 187 [0, 0, 1, 1, 0, 1, 0, 1] 1 [.all 0 none, vi m, .t (.clo 129 []), vi i, vi j] [.arr 15 (A.map Cross.enc) none false])
      ⟨.exit 4, [.all 0 none, vi m, .t (.clo 129 []), vi (bs (fun h => !Cross.less (gt A m) (gt A h)) d i j : Nat), vi (bs (fun h => !Cross.less (gt A m) (gt A h)) d i j : Nat)], [.arr 15 (A.map Cross.enc) none false]⟩ := by
  intro d
  induction d with
  | zero =>
    intro i j h1 h2 h3
    obtain rfl : i = j := by omega
    unfold small at hn
    unfold bs
    refine Wp.ev ?_
    refine gg [.b (decide ((↑i : Int) < (↑i : Int))) false] ⟨fP, trivial⟩ ?_
    exact ge
  | succ d ih =>
    intro i j h1 h2 h3
    by_cases hij : i < j
    · obtain ⟨h, hh⟩ : ∃ h, (i + j) / 2 = h := ⟨_, rfl⟩
      have hf : Int.fdiv ((i + j : Nat) : Int) 2 = (h : Nat) := by rw [Int.fdiv_eq_ediv_of_nonneg _ (by omega)]; omega
      have ih1 := ih (h + 1) j (by omega) (by omega) (by omega)
      have ih2 := ih i h (by omega) (by omega) (by omega)
      unfold small at hn
      clear ih
      cases hl : (fun h => !Cross.less (gt A m) (gt A h)) h with
      | true =>
        have e : bs (fun h => !Cross.less (gt A m) (gt A h)) (d + 1) i j = bs (fun h => !Cross.less (gt A m) (gt A h)) d (h + 1) j := by exact bs_t hij hh hl
        rw [e]
        have hl : ¬ (gt A m).cmp (gt A h) < 0 := by simpa [Cross.less] using hl
        refine Wp.ev ?_
        refine gg [.b (decide ((↑i : Int) < (↑j : Int))) true, .i IntKind.i64 ((↑i : Int) + (↑j : Int)) ((↑(i + j) : Int)), .i IntKind.u64 ((↑(i + j) : Int)) ((↑(i + j) : Int)), .w ((0 : Int) ≤ (1 : Int)), .t (T.int IntKind.u64 (Int.fdiv (↑(i + j) : Int) 2)) (T.int IntKind.u64 (↑h : Int)), .i IntKind.i64 (↑h : Int) (↑h : Int), .w ((0 : Int) ≤ (↑m : Int)), .n (Int.toNat (↑m : Int)) m, .w (m < List.length (List.map Cross.enc A)), .w ((0 : Int) ≤ (↑h : Int)), .n (Int.toNat (↑h : Int)) h, .w (h < List.length (List.map Cross.enc A)), .g (List.map Cross.enc A) m (Cross.enc (gt A m)), .g (List.map Cross.enc A) h (Cross.enc (gt A h)), .w (isFnB cx (129 : Nat) = true), .a _ _] ⟨tP, oI, oU, oW, o_t (by rw [hf]), oI, oW, o_n (by kernel_rfl), o_w (by (simp; omega)), oW, o_n (by kernel_rfl), o_w (by (simp; omega)), o_gt rfl (by assumption) (by intro h; cases h), oT, o_w (by kernel_rfl), o_a (f_cross_compare (gt A m) (gt A h)), trivial⟩ ?_
        refine brnot (b := decide (Cross.cmp (gt A m) (gt A h) < 0)) (by kernel_rfl) (fun h1 => ?_) (fun h1 => ?_)
        · refine gg [.i IntKind.i64 ((↑h : Int) + 1) ((↑(h + 1) : Int)), .a _ _] ⟨oI, o_a ih1, trivial⟩ ?_
          refine rt (a := Res.mk (Ex.exit 4) [V.all 0 none, vi (↑m : Int), V.t (T.clo 129 []), vi (↑(bs (fun (h : Nat) ↦ !Cross.less (gt A m) (gt A h)) d (h + 1) j) : Int), vi (↑(bs (fun (h : Nat) ↦ !Cross.less (gt A m) (gt A h)) d (h + 1) j) : Int)] [Ob.arr 15 (List.map Cross.enc A) none false]) (by kernel_rfl) ?_
          (first | rfl | omega | (simp_all; done) | (simp_all; omega))
        · refine gg [.a _ _] ⟨o_a ih2, trivial⟩ ?_
          refine rt (a := Res.mk (Ex.exit 4) [V.all 0 none, vi (↑m : Int), V.t (T.clo 129 []), vi (↑(bs (fun (h : Nat) ↦ !Cross.less (gt A m) (gt A h)) d i h) : Int), vi (↑(bs (fun (h : Nat) ↦ !Cross.less (gt A m) (gt A h)) d i h) : Int)] [Ob.arr 15 (List.map Cross.enc A) none false]) (by kernel_rfl) ?_
          (first | rfl | omega | (simp_all; done) | (simp_all; omega))
      | false =>
        have e : bs (fun h => !Cross.less (gt A m) (gt A h)) (d + 1) i j = bs (fun h => !Cross.less (gt A m) (gt A h)) d i h := by exact bs_f hij hh hl
        rw [e]
        have hl : (gt A m).cmp (gt A h) < 0 := by simpa [Cross.less] using hl
        refine Wp.ev ?_
        refine gg [.b (decide ((↑i : Int) < (↑j : Int))) true, .i IntKind.i64 ((↑i : Int) + (↑j : Int)) ((↑(i + j) : Int)), .i IntKind.u64 ((↑(i + j) : Int)) ((↑(i + j) : Int)), .w ((0 : Int) ≤ (1 : Int)), .t (T.int IntKind.u64 (Int.fdiv (↑(i + j) : Int) 2)) (T.int IntKind.u64 (↑h : Int)), .i IntKind.i64 (↑h : Int) (↑h : Int), .w ((0 : Int) ≤ (↑m : Int)), .n (Int.toNat (↑m : Int)) m, .w (m < List.length (List.map Cross.enc A)), .w ((0 : Int) ≤ (↑h : Int)), .n (Int.toNat (↑h : Int)) h, .w (h < List.length (List.map Cross.enc A)), .g (List.map Cross.enc A) m (Cross.enc (gt A m)), .g (List.map Cross.enc A) h (Cross.enc (gt A h)), .w (isFnB cx (129 : Nat) = true), .a _ _] ⟨tP, oI, oU, oW, o_t (by rw [hf]), oI, oW, o_n (by kernel_rfl), o_w (by (simp; omega)), oW, o_n (by kernel_rfl), o_w (by (simp; omega)), o_gt rfl (by assumption) (by intro h; cases h), oT, o_w (by kernel_rfl), o_a (f_cross_compare (gt A m) (gt A h)), trivial⟩ ?_
        refine brnot (b := decide (Cross.cmp (gt A m) (gt A h) < 0)) (by kernel_rfl) (fun h1 => ?_) (fun h1 => ?_)
        · refine gg [.i IntKind.i64 ((↑h : Int) + 1) ((↑(h + 1) : Int)), .a _ _] ⟨oI, o_a ih1, trivial⟩ ?_
          refine rt (a := Res.mk (Ex.exit 4) [V.all 0 none, vi (↑m : Int), V.t (T.clo 129 []), vi (↑(bs (fun (h : Nat) ↦ !Cross.less (gt A m) (gt A h)) d (h + 1) j) : Int), vi (↑(bs (fun (h : Nat) ↦ !Cross.less (gt A m) (gt A h)) d (h + 1) j) : Int)] [Ob.arr 15 (List.map Cross.enc A) none false]) (by kernel_rfl) ?_
          (first | rfl | omega | (simp_all; done) | (simp_all; omega))
        · refine gg [.a _ _] ⟨o_a ih2, trivial⟩ ?_
          refine rt (a := Res.mk (Ex.exit 4) [V.all 0 none, vi (↑m : Int), V.t (T.clo 129 []), vi (↑(bs (fun (h : Nat) ↦ !Cross.less (gt A m) (gt A h)) d i h) : Int), vi (↑(bs (fun (h : Nat) ↦ !Cross.less (gt A m) (gt A h)) d i h) : Int)] [Ob.arr 15 (List.map Cross.enc A) none false]) (by kernel_rfl) ?_
          (first | rfl | omega | (simp_all; done) | (simp_all; omega))
    · obtain rfl : i = j := by omega
      unfold small at hn
      have e : bs (fun h => !Cross.less (gt A m) (gt A h)) (d + 1) i i = i := by rw [bs, if_neg hij]
      rw [e]
      refine Wp.ev ?_
      refine gg [.b (decide ((↑i : Int) < (↑i : Int))) false] ⟨fP, trivial⟩ ?_
      exact ge
theorem f_symMerge_bs3_Cross (A : List Cross) (a m b mid n p : Nat) (hn : small A) : ∀ (d i j : Nat), i ≤ j → j ≤ i + d → j ≤ p + 1 → p < i + A.length → j ≤ A.length →
    Is cx (.loop 187 [0, 0, 1, 1, 1, 1, 1, 1, 1] 1 [.all 0 none, vi a, vi m, vi b, .t (.clo 129 []), vi mid, vi n, vi i, vi j, vi p] [.arr 15 (A.map Cross.enc) none false])
      ⟨.exit 8, [.all 0 none, vi a, vi m, vi b, .t (.clo 129 []), vi mid, vi n, vi (bs (fun c => !Cross.less (gt A (p - c)) (gt A c)) d i j : Nat), vi (bs (fun c => !Cross.less (gt A (p - c)) (gt A c)) d i j : Nat), vi p], [.arr 15 (A.map Cross.enc) none false]⟩ := by
  intro d
  induction d with
  | zero =>
    intro i j h1 h2 h3 h4 h5
    obtain rfl : i = j := by omega
    unfold small at hn
    unfold bs
    refine Wp.ev ?_
    refine gg [.b (decide ((↑i : Int) < (↑i : Int))) false] ⟨fP, trivial⟩ ?_
    exact ge
  | succ d ih =>
    intro i j h1 h2 h3 h4 h5
    by_cases hij : i < j
    · obtain ⟨h, hh⟩ : ∃ h, (i + j) / 2 = h := ⟨_, rfl⟩
      have hf : Int.fdiv ((i + j : Nat) : Int) 2 = (h : Nat) := by rw [Int.fdiv_eq_ediv_of_nonneg _ (by omega)]; omega
      have ih1 := ih (h + 1) j (by omega) (by omega) (by omega) (by omega) (by omega)
      have ih2 := ih i h (by omega) (by omega) (by omega) (by omega) (by omega)
      unfold small at hn
      clear ih
      cases hl : (fun c => !Cross.less (gt A (p - c)) (gt A c)) h with
      | true =>
        have e : bs (fun c => !Cross.less (gt A (p - c)) (gt A c)) (d + 1) i j = bs (fun c => !Cross.less (gt A (p - c)) (gt A c)) d (h + 1) j := by exact bs_t hij hh hl
        rw [e]
        have hl : ¬ (gt A (p - h)).cmp (gt A h) < 0 := by simpa [Cross.less] using hl
        have e1 : (p : Int) - h = (p - h : Nat) := by omega
        refine Wp.ev ?_
        refine gg [.b (decide ((↑i : Int) < (↑j : Int))) true, .i IntKind.i64 ((↑i : Int) + (↑j : Int)) ((↑(i + j) : Int)), .i IntKind.u64 ((↑(i + j) : Int)) ((↑(i + j) : Int)), .w ((0 : Int) ≤ (1 : Int)), .t (T.int IntKind.u64 (Int.fdiv (↑(i + j) : Int) 2)) (T.int IntKind.u64 (↑h : Int)), .i IntKind.i64 (↑h : Int) (↑h : Int), .i IntKind.i64 ((↑p : Int) - (↑h : Int)) ((↑(p - h) : Int)), .w ((0 : Int) ≤ (↑(p - h) : Int)), .n (Int.toNat (↑(p - h) : Int)) (p - h), .w (p - h < List.length (List.map Cross.enc A)), .w ((0 : Int) ≤ (↑h : Int)), .n (Int.toNat (↑h : Int)) h, .w (h < List.length (List.map Cross.enc A)), .g (List.map Cross.enc A) (p - h) (Cross.enc (gt A (p - h))), .g (List.map Cross.enc A) h (Cross.enc (gt A h)), .w (isFnB cx (129 : Nat) = true)] ⟨tP, oI, oU, oW, o_t (by rw [hf]), oI, oI, oW, o_n (by kernel_rfl), o_w (by (simp; omega)), oW, o_n (by kernel_rfl), o_w (by (simp; omega)), oT, oT, o_w (by kernel_rfl), trivial⟩ ?_
        refine gg [.a _ _] ⟨o_a (f_cross_compare (gt A (p - h)) (gt A h)), trivial⟩ ?_
        refine brnot (b := decide (Cross.cmp (gt A (p - h)) (gt A h) < 0)) (by kernel_rfl) (fun h1 => ?_) (fun h1 => ?_)
        · refine gg [.i IntKind.i64 ((↑h : Int) + 1) ((↑(h + 1) : Int)), .a _ _] ⟨oI, o_a ih1, trivial⟩ ?_
          refine rt (a := Res.mk (Ex.exit 8) [V.all 0 none, vi (↑a : Int), vi (↑m : Int), vi (↑b : Int), V.t (T.clo 129 []), vi (↑mid : Int), vi (↑n : Int), vi (↑(bs (fun (c : Nat) ↦ !Cross.less (gt A (p - c)) (gt A c)) d (h + 1) j) : Int), vi (↑(bs (fun (c : Nat) ↦ !Cross.less (gt A (p - c)) (gt A c)) d (h + 1) j) : Int), vi (↑p : Int)] [Ob.arr 15 (List.map Cross.enc A) none false]) (by kernel_rfl) ?_
          (first | rfl | omega | (simp_all; done) | (simp_all; omega))
        · refine gg [.a _ _] ⟨o_a ih2, trivial⟩ ?_
          refine rt (a := Res.mk (Ex.exit 8) [V.all 0 none, vi (↑a : Int), vi (↑m : Int), vi (↑b : Int), V.t (T.clo 129 []), vi (↑mid : Int), vi (↑n : Int), vi (↑(bs (fun (c : Nat) ↦ !Cross.less (gt A (p - c)) (gt A c)) d i h) : Int), vi (↑(bs (fun (c : Nat) ↦ !Cross.less (gt A (p - c)) (gt A c)) d i h) : Int), vi (↑p : Int)] [Ob.arr 15 (List.map Cross.enc A) none false]) (by kernel_rfl) ?_
          (first | rfl | omega | (simp_all; done) | (simp_all; omega))
      | false =>
        have e : bs (fun c => !Cross.less (gt A (p - c)) (gt A c)) (d + 1) i j = bs (fun c => !Cross.less (gt A (p - c)) (gt A c)) d i h := by exact bs_f hij hh hl
        rw [e]
        have hl : (gt A (p - h)).cmp (gt A h) < 0 := by simpa [Cross.less] using hl
        have e1 : (p : Int) - h = (p - h : Nat) := by omega
        refine Wp.ev ?_
        refine gg [.b (decide ((↑i : Int) < (↑j : Int))) true, .i IntKind.i64 ((↑i : Int) + (↑j : Int)) ((↑(i + j) : Int)), .i IntKind.u64 ((↑(i + j) : Int)) ((↑(i + j) : Int)), .w ((0 : Int) ≤ (1 : Int)), .t (T.int IntKind.u64 (Int.fdiv (↑(i + j) : Int) 2)) (T.int IntKind.u64 (↑h : Int)), .i IntKind.i64 (↑h : Int) (↑h : Int), .i IntKind.i64 ((↑p : Int) - (↑h : Int)) ((↑(p - h) : Int)), .w ((0 : Int) ≤ (↑(p - h) : Int)), .n (Int.toNat (↑(p - h) : Int)) (p - h), .w (p - h < List.length (List.map Cross.enc A)), .w ((0 : Int) ≤ (↑h : Int)), .n (Int.toNat (↑h : Int)) h, .w (h < List.length (List.map Cross.enc A)), .g (List.map Cross.enc A) (p - h) (Cross.enc (gt A (p - h))), .g (List.map Cross.enc A) h (Cross.enc (gt A h)), .w (isFnB cx (129 : Nat) = true)] ⟨tP, oI, oU, oW, o_t (by rw [hf]), oI, oI, oW, o_n (by kernel_rfl), o_w (by (simp; omega)), oW, o_n (by kernel_rfl), o_w (by (simp; omega)), oT, oT, o_w (by kernel_rfl), trivial⟩ ?_
        refine gg [.a _ _] ⟨o_a (f_cross_compare (gt A (p - h)) (gt A h)), trivial⟩ ?_
        refine brnot (b := decide (Cross.cmp (gt A (p - h)) (gt A h) < 0)) (by kernel_rfl) (fun h1 => ?_) (fun h1 => ?_)
        · refine gg [.i IntKind.i64 ((↑h : Int) + 1) ((↑(h + 1) : Int)), .a _ _] ⟨oI, o_a ih1, trivial⟩ ?_
          refine rt (a := Res.mk (Ex.exit 8) [V.all 0 none, vi (↑a : Int), vi (↑m : Int), vi (↑b : Int), V.t (T.clo 129 []), vi (↑mid : Int), vi (↑n : Int), vi (↑(bs (fun (c : Nat) ↦ !Cross.less (gt A (p - c)) (gt A c)) d (h + 1) j) : Int), vi (↑(bs (fun (c : Nat) ↦ !Cross.less (gt A (p - c)) (gt A c)) d (h + 1) j) : Int), vi (↑p : Int)] [Ob.arr 15 (List.map Cross.enc A) none false]) (by kernel_rfl) ?_
          (first | rfl | omega | (simp_all; done) | (simp_all; omega))
        · refine gg [.a _ _] ⟨o_a ih2, trivial⟩ ?_
          refine rt (a := Res.mk (Ex.exit 8) [V.all 0 none, vi (↑a : Int), vi (↑m : Int), vi (↑b : Int), V.t (T.clo 129 []), vi (↑mid : Int), vi (↑n : Int), vi (↑(bs (fun (c : Nat) ↦ !Cross.less (gt A (p - c)) (gt A c)) d i h) : Int), vi (↑(bs (fun (c : Nat) ↦ !Cross.less (gt A (p - c)) (gt A c)) d i h) : Int), vi (↑p : Int)] [Ob.arr 15 (List.map Cross.enc A) none false]) (by kernel_rfl) ?_
          (first | rfl | omega | (simp_all; done) | (simp_all; omega))
    · obtain rfl : i = j := by omega
      unfold small at hn
      have e : bs (fun c => !Cross.less (gt A (p - c)) (gt A c)) (d + 1) i i = i := by rw [bs, if_neg hij]
      rw [e]
      refine Wp.ev ?_
      refine gg [.b (decide ((↑i : Int) < (↑i : Int))) false] ⟨fP, trivial⟩ ?_
      exact ge
theorem f_symMerge_up_Cross : ∀ (d k i : Nat) (A : List Cross), k + d = i - 1 → i ≤ A.length → small A →
    Is cx (.loop 187 [0, 1, 0, 1, 1, 1, 0, 1, 0] 1 [.all 0 none, vi i, vi k] [.arr 15 (A.map Cross.enc) none false])
      ⟨.exit 2, [.all 0 none, vi i, vi (i - 1 : Nat)], [.arr 15 ((up d A k).map Cross.enc) none false]⟩ := by
  intro d
  induction d with
  | zero =>
    intro k i A h1 h2 hn
    unfold small at hn
    obtain rfl : k = i - 1 := by omega
    unfold up
    refine Wp.ev ?_
    refine gg [.i IntKind.i64 ((↑i : Int) - 1) ((↑i : Int) - 1), .b (decide ((↑(i - 1) : Int) < (↑i : Int) - 1)) false] ⟨oI, fP, trivial⟩ ?_
    exact ge
  | succ d ih =>
    intro k i A h1 h2 hn
    have ih1 := ih (k + 1) i (sw A k (k + 1)) (by omega) (by rw [sw_len]; omega) (by unfold small; rw [sw_len]; exact hn)
    unfold small at hn
    clear ih
    unfold up
    unfold sw at *
    refine Wp.ev ?_
    refine gg [.i IntKind.i64 ((↑i : Int) - 1) ((↑i : Int) - 1), .b (decide ((↑k : Int) < (↑i : Int) - 1)) true, .i IntKind.i64 ((↑k : Int) + 1) ((↑(k + 1) : Int)), .i IntKind.i64 ((↑k : Int) + 1) ((↑(k + 1) : Int)), .w ((0 : Int) ≤ (↑(k + (1 : Nat)) : Int)), .n (Int.toNat (↑(k + 1) : Int)) (k + 1), .w (k + (1 : Nat) < List.length (List.map Cross.enc A)), .w ((0 : Int) ≤ (↑k : Int)), .n (Int.toNat (↑k : Int)) k, .w (k < List.length (List.map Cross.enc A)), .g (List.map Cross.enc A) (k + 1) (Cross.enc (gt A (k + 1))), .g (List.map Cross.enc A) k (Cross.enc (gt A k)), .w ((0 : Int) ≤ (↑k : Int)), .n (Int.toNat (↑k : Int)) k, .w (k < List.length (List.map Cross.enc A)), .w (k < List.length (List.map Cross.enc A))] ⟨oI, tP, oI, oI, oW, o_n (by kernel_rfl), o_w (by (simp; omega)), oW, o_n (by kernel_rfl), o_w (by (simp; omega)), oT, oT, oW, o_n (by kernel_rfl), o_w (by (simp; omega)), o_w (by (simp; omega)), trivial⟩ ?_
    refine gg [.t (T.sl 0 (List.set (List.map Cross.enc A) k (Cross.enc (gt A (k + 1))))) (T.sl 0 (List.map Cross.enc (List.set A k (gt A (k + 1))))), .w ((0 : Int) ≤ (↑(k + (1 : Nat)) : Int)), .n (Int.toNat (↑(k + 1) : Int)) (k + 1), .w (k + (1 : Nat) < List.length (List.map Cross.enc (List.set A k (gt A (k + (1 : Nat)))))), .w (k + (1 : Nat) < List.length (List.map Cross.enc (List.set A k (gt A (k + (1 : Nat)))))), .t (T.sl 0 (List.set (List.map Cross.enc (List.set A k (gt A (k + 1)))) (k + 1) (Cross.enc (gt A k)))) (T.sl 0 (List.map Cross.enc (List.set (List.set A k (gt A (k + 1))) (k + 1) (gt A k)))), .i IntKind.i64 ((↑k : Int) + 1) ((↑(k + 1) : Int)), .a _ _] ⟨o_l (nm_set rfl rfl), oW, o_n (by kernel_rfl), o_w (by (simp; omega)), o_w (by (simp; omega)), o_l (nm_set rfl rfl), oI, o_a ih1, trivial⟩ ?_
    exact ge
theorem f_symMerge_down_Cross (i : Nat) : ∀ (d k : Nat) (A : List Cross), k = i + d → k < A.length → small A →
    Is cx (.loop 187 [0, 1, 0, 1, 1, 1, 0, 1, 0, 1] 1 [.all 0 none, vi i, vi k] [.arr 15 (A.map Cross.enc) none false])
      ⟨.exit 6, [.all 0 none, vi i, vi i], [.arr 15 ((down d A k).map Cross.enc) none false]⟩ := by
  intro d
  induction d with
  | zero =>
    intro k A h1 h2 hn
    unfold small at hn
    obtain rfl : k = i := by omega
    unfold down
    refine Wp.ev ?_
    refine gg [.b (decide ((↑k : Int) > (↑k : Int))) false] ⟨fP, trivial⟩ ?_
    exact ge
  | succ d ih =>
    intro k A h1 h2 hn
    have ih1 := ih (k - 1) (sw A k (k - 1)) (by omega) (by rw [sw_len]; omega) (by unfold small; rw [sw_len]; exact hn)
    unfold small at hn
    clear ih
    have e1 : (k : Int) - 1 = (k - 1 : Nat) := by omega
    unfold down
    unfold sw at *
    refine Wp.ev ?_
    refine gg [.b (decide ((↑k : Int) > (↑i : Int))) true, .i IntKind.i64 ((↑k : Int) - 1) ((↑(k - 1) : Int)), .i IntKind.i64 ((↑k : Int) - 1) ((↑(k - 1) : Int)), .w ((0 : Int) ≤ (↑(k - (1 : Nat)) : Int)), .n (Int.toNat (↑(k - 1) : Int)) (k - 1), .w (k - (1 : Nat) < List.length (List.map Cross.enc A)), .w ((0 : Int) ≤ (↑k : Int)), .n (Int.toNat (↑k : Int)) k, .w (k < List.length (List.map Cross.enc A)), .g (List.map Cross.enc A) (k - 1) (Cross.enc (gt A (k - 1))), .g (List.map Cross.enc A) k (Cross.enc (gt A k)), .w ((0 : Int) ≤ (↑k : Int)), .n (Int.toNat (↑k : Int)) k, .w (k < List.length (List.map Cross.enc A)), .w (k < List.length (List.map Cross.enc A)), .t (T.sl 0 (List.set (List.map Cross.enc A) k (Cross.enc (gt A (k - 1))))) (T.sl 0 (List.map Cross.enc (List.set A k (gt A (k - 1)))))] ⟨tP, oI, oI, oW, o_n (by kernel_rfl), o_w (by (simp; omega)), oW, o_n (by kernel_rfl), o_w (by (simp; omega)), oT, o_gt rfl (by assumption) (by intro h; cases h), oW, o_n (by kernel_rfl), o_w (by (simp; omega)), o_w (by (simp; omega)), o_l (nm_set rfl rfl), trivial⟩ ?_
    refine gg [.w ((0 : Int) ≤ (↑(k - (1 : Nat)) : Int)), .n (Int.toNat (↑(k - 1) : Int)) (k - 1), .w (k - (1 : Nat) < List.length (List.map Cross.enc (List.set A k (gt A (k - (1 : Nat)))))), .w (k - (1 : Nat) < List.length (List.map Cross.enc (List.set A k (gt A (k - (1 : Nat)))))), .t (T.sl 0 (List.set (List.map Cross.enc (List.set A k (gt A (k - 1)))) (k - 1) (Cross.enc (gt A k)))) (T.sl 0 (List.map Cross.enc (List.set (List.set A k (gt A (k - 1))) (k - 1) (gt A k)))), .i IntKind.i64 ((↑k : Int) - 1) ((↑(k - 1) : Int)), .a _ _] ⟨oW, o_n (by kernel_rfl), o_w (by (simp; omega)), o_w (by (simp; omega)), o_l (nm_set rfl rfl), oI, o_a ih1, trivial⟩ ?_
    exact ge
theorem f_symMerge_bs1_Entity (A : List Entity) (a : Nat) (ha : a < A.length) (hn : small A) : ∀ (d i j : Nat), i ≤ j → j ≤ i + d → j ≤ A.length →
    Is cx (.loop 182 [0, 0, 1, 1, 0, 1, 0] 1 [.all 0 none, vi a, .t (.clo 88 []), vi i, vi j] [.arr 9 (A.map Entity.enc) none false])
      ⟨.exit 0, [.all 0 none, vi a, .t (.clo 88 []), vi (bs (fun h => Entity.less (gt A h) (gt A a)) d i j : Nat), vi (bs (fun h => Entity.less (gt A h) (gt A a)) d i j : Nat)], [.arr 9 (A.map Entity.enc) none false]⟩ := by
  intro d
  induction d with
  | zero =>
    intro i j h1 h2 h3
    obtain rfl : i = j := by omega
    unfold small at hn
    unfold bs
    refine Wp.ev ?_
    refine gg [.b (decide ((↑i : Int) < (↑i : Int))) false] ⟨fP, trivial⟩ ?_
    exact ge
  | succ d ih =>
    intro i j h1 h2 h3
    by_cases hij : i < j
    · obtain ⟨h, hh⟩ : ∃ h, (i + j) / 2 = h := ⟨_, rfl⟩
      have hf : Int.fdiv ((i + j : Nat) : Int) 2 = (h : Nat) := by rw [Int.fdiv_eq_ediv_of_nonneg _ (by omega)]; omega
      have ih1 := ih (h + 1) j (by omega) (by omega) (by omega)
      have ih2 := ih i h (by omega) (by omega) (by omega)
      unfold small at hn
      clear ih
      cases hl : (fun h => Entity.less (gt A h) (gt A a)) h with
      | true =>
        have e : bs (fun h => Entity.less (gt A h) (gt A a)) (d + 1) i j = bs (fun h => Entity.less (gt A h) (gt A a)) d (h + 1) j := by exact bs_t hij hh hl
        rw [e]
        have hl : (gt A h).cmp (gt A a) < 0 := by simpa [Entity.less] using hl
        refine Wp.ev ?_
        refine gg [.b (decide ((↑i : Int) < (↑j : Int))) true, .i IntKind.i64 ((↑i : Int) + (↑j : Int)) ((↑(i + j) : Int)), .i IntKind.u64 ((↑(i + j) : Int)) ((↑(i + j) : Int)), .w ((0 : Int) ≤ (1 : Int)), .t (T.int IntKind.u64 (Int.fdiv (↑(i + j) : Int) 2)) (T.int IntKind.u64 (↑h : Int)), .i IntKind.i64 (↑h : Int) (↑h : Int), .w ((0 : Int) ≤ (↑h : Int)), .n (Int.toNat (↑h : Int)) h, .w (h < List.length (List.map Entity.enc A)), .w ((0 : Int) ≤ (↑a : Int)), .n (Int.toNat (↑a : Int)) a, .w (a < List.length (List.map Entity.enc A)), .g (List.map Entity.enc A) h (Entity.enc (gt A h)), .g (List.map Entity.enc A) a (Entity.enc (gt A a)), .w (isFnB cx (88 : Nat) = true), .a _ _] ⟨tP, oI, oU, oW, o_t (by rw [hf]), oI, oW, o_n (by kernel_rfl), o_w (by (simp; omega)), oW, o_n (by kernel_rfl), o_w (by (simp; omega)), oT, o_gt rfl (by assumption) (by intro h; cases h), o_w (by kernel_rfl), o_a (f_arena_All_1 (gt A h) (gt A a)), trivial⟩ ?_
        refine gg [.b (decide (Entity.cmp (gt A h) (gt A a) < 0)) true, .i IntKind.i64 ((↑h : Int) + 1) ((↑(h + 1) : Int)), .a _ _] ⟨t_brp (by assumption), oI, o_a ih1, trivial⟩ ?_
        refine rt (a := Res.mk (Ex.exit 0) [V.all 0 none, vi (↑a : Int), V.t (T.clo 88 []), vi (↑(bs (fun (h : Nat) ↦ Entity.less (gt A h) (gt A a)) d (h + 1) j) : Int), vi (↑(bs (fun (h : Nat) ↦ Entity.less (gt A h) (gt A a)) d (h + 1) j) : Int)] [Ob.arr 9 (List.map Entity.enc A) none false]) (by kernel_rfl) ?_
        (first | rfl | omega | (simp_all; done) | (simp_all; omega))
      | false =>
        have e : bs (fun h => Entity.less (gt A h) (gt A a)) (d + 1) i j = bs (fun h => Entity.less (gt A h) (gt A a)) d i h := by exact bs_f hij hh hl
        rw [e]
        have hl : ¬ (gt A h).cmp (gt A a) < 0 := by simpa [Entity.less] using hl
        refine Wp.ev ?_
        refine gg [.b (decide ((↑i : Int) < (↑j : Int))) true, .i IntKind.i64 ((↑i : Int) + (↑j : Int)) ((↑(i + j) : Int)), .i IntKind.u64 ((↑(i + j) : Int)) ((↑(i + j) : Int)), .w ((0 : Int) ≤ (1 : Int)), .t (T.int IntKind.u64 (Int.fdiv (↑(i + j) : Int) 2)) (T.int IntKind.u64 (↑h : Int)), .i IntKind.i64 (↑h : Int) (↑h : Int), .w ((0 : Int) ≤ (↑h : Int)), .n (Int.toNat (↑h : Int)) h, .w (h < List.length (List.map Entity.enc A)), .w ((0 : Int) ≤ (↑a : Int)), .n (Int.toNat (↑a : Int)) a, .w (a < List.length (List.map Entity.enc A)), .g (List.map Entity.enc A) h (Entity.enc (gt A h)), .g (List.map Entity.enc A) a (Entity.enc (gt A a)), .w (isFnB cx (88 : Nat) = true), .a _ _] ⟨tP, oI, oU, oW, o_t (by rw [hf]), oI, oW, o_n (by kernel_rfl), o_w (by (simp; omega)), oW, o_n (by kernel_rfl), o_w (by (simp; omega)), oT, o_gt rfl (by assumption) (by intro h; cases h), o_w (by kernel_rfl), o_a (f_arena_All_1 (gt A h) (gt A a)), trivial⟩ ?_
        refine gg [.b (decide (Entity.cmp (gt A h) (gt A a) < 0)) false, .a _ _] ⟨f_brp (by assumption), o_a ih2, trivial⟩ ?_
        refine rt (a := Res.mk (Ex.exit 0) [V.all 0 none, vi (↑a : Int), V.t (T.clo 88 []), vi (↑(bs (fun (h : Nat) ↦ Entity.less (gt A h) (gt A a)) d i h) : Int), vi (↑(bs (fun (h : Nat) ↦ Entity.less (gt A h) (gt A a)) d i h) : Int)] [Ob.arr 9 (List.map Entity.enc A) none false]) (by kernel_rfl) ?_
        (first | rfl | omega | (simp_all; done) | (simp_all; omega))
    · obtain rfl : i = j := by omega
      unfold small at hn
      have e : bs (fun h => Entity.less (gt A h) (gt A a)) (d + 1) i i = i := by rw [bs, if_neg hij]
      rw [e]
      refine Wp.ev ?_
      refine gg [.b (decide ((↑i : Int) < (↑i : Int))) false] ⟨fP, trivial⟩ ?_
      exact ge
theorem f_symMerge_bs2_Entity (A : List Entity) (m : Nat) (hm : m < A.length) (hn : small A) : ∀ (d i j : Nat), i ≤ j → j ≤ i + d → j ≤ A.length →
    Is cx (.loop 182 [0, 0, 1, 1, 0, 1, 0, 1] 1 [.all 0 none, vi m, .t (.clo 88 []), vi i, vi j] [.arr 9 (A.map Entity.enc) none false])
      ⟨.exit 4, [.all 0 none, vi m, .t (.clo 88 []), vi (bs (fun h => !Entity.less (gt A m) (gt A h)) d i j : Nat), vi (bs (fun h => !Entity.less (gt A m) (gt A h)) d i j : Nat)], [.arr 9 (A.map Entity.enc) none false]⟩ := by
  intro d
  induction d with
  | zero =>
    intro i j h1 h2 h3
    obtain rfl : i = j := by omega
    unfold small at hn
    unfold bs
    refine Wp.ev ?_
    refine gg [.b (decide ((↑i : Int) < (↑i : Int))) false] ⟨fP, trivial⟩ ?_
    exact ge
  | succ d ih =>
    intro i j h1 h2 h3
    by_cases hij : i < j
    · obtain ⟨h, hh⟩ : ∃ h, (i + j) / 2 = h := ⟨_, rfl⟩
      have hf : Int.fdiv ((i + j : Nat) : Int) 2 = (h : Nat) := by rw [Int.fdiv_eq_ediv_of_nonneg _ (by omega)]; omega
      have ih1 := ih (h + 1) j (by omega) (by omega) (by omega)
      have ih2 := ih i h (by omega) (by omega) (by omega)
      unfold small at hn
      clear ih
      cases hl : (fun h => !Entity.less (gt A m) (gt A h)) h with
      | true =>
        have e : bs (fun h => !Entity.less (gt A m) (gt A h)) (d + 1) i j = bs (fun h => !Entity.less (gt A m) (gt A h)) d (h + 1) j := by exact bs_t hij hh hl
        rw [e]
        have hl : ¬ (gt A m).cmp (gt A h) < 0 := by simpa [Entity.less] using hl
        refine Wp.ev ?_
        refine gg [.b (decide ((↑i : Int) < (↑j : Int))) true, .i IntKind.i64 ((↑i : Int) + (↑j : Int)) ((↑(i + j) : Int)), .i IntKind.u64 ((↑(i + j) : Int)) ((↑(i + j) : Int)), .w ((0 : Int) ≤ (1 : Int)), .t (T.int IntKind.u64 (Int.fdiv (↑(i + j) : Int) 2)) (T.int IntKind.u64 (↑h : Int)), .i IntKind.i64 (↑h : Int) (↑h : Int), .w ((0 : Int) ≤ (↑m : Int)), .n (Int.toNat (↑m : Int)) m, .w (m < List.length (List.map Entity.enc A)), .w ((0 : Int) ≤ (↑h : Int)), .n (Int.toNat (↑h : Int)) h, .w (h < List.length (List.map Entity.enc A)), .g (List.map Entity.enc A) m (Entity.enc (gt A m)), .g (List.map Entity.enc A) h (Entity.enc (gt A h)), .w (isFnB cx (88 : Nat) = true), .a _ _] ⟨tP, oI, oU, oW, o_t (by rw [hf]), oI, oW, o_n (by kernel_rfl), o_w (by (simp; omega)), oW, o_n (by kernel_rfl), o_w (by (simp; omega)), o_gt rfl (by assumption) (by intro h; cases h), oT, o_w (by kernel_rfl), o_a (f_arena_All_1 (gt A m) (gt A h)), trivial⟩ ?_
        refine brnot (b := decide (Entity.cmp (gt A m) (gt A h) < 0)) (by kernel_rfl) (fun h1 => ?_) (fun h1 => ?_)
        · refine gg [.i IntKind.i64 ((↑h : Int) + 1) ((↑(h + 1) : Int)), .a _ _] ⟨oI, o_a ih1, trivial⟩ ?_
          refine rt (a := Res.mk (Ex.exit 4) [V.all 0 none, vi (↑m : Int), V.t (T.clo 88 []), vi (↑(bs (fun (h : Nat) ↦ !Entity.less (gt A m) (gt A h)) d (h + 1) j) : Int), vi (↑(bs (fun (h : Nat) ↦ !Entity.less (gt A m) (gt A h)) d (h + 1) j) : Int)] [Ob.arr 9 (List.map Entity.enc A) none false]) (by kernel_rfl) ?_
          (first | rfl | omega | (simp_all; done) | (simp_all; omega))
        · refine gg [.a _ _] ⟨o_a ih2, trivial⟩ ?_
          refine rt (a := Res.mk (Ex.exit 4) [V.all 0 none, vi (↑m : Int), V.t (T.clo 88 []), vi (↑(bs (fun (h : Nat) ↦ !Entity.less (gt A m) (gt A h)) d i h) : Int), vi (↑(bs (fun (h : Nat) ↦ !Entity.less (gt A m) (gt A h)) d i h) : Int)] [Ob.arr 9 (List.map Entity.enc A) none false]) (by kernel_rfl) ?_
          (first | rfl | omega | (simp_all; done) | (simp_all; omega))
      | false =>
        have e : bs (fun h => !Entity.less (gt A m) (gt A h)) (d + 1) i j = bs (fun h => !Entity.less (gt A m) (gt A h)) d i h := by exact bs_f hij hh hl
        rw [e]
        have hl : (gt A m).cmp (gt A h) < 0 := by simpa [Entity.less] using hl
        refine Wp.ev ?_
        refine gg [.b (decide ((↑i : Int) < (↑j : Int))) true, .i IntKind.i64 ((↑i : Int) + (↑j : Int)) ((↑(i + j) : Int)), .i IntKind.u64 ((↑(i + j) : Int)) ((↑(i + j) : Int)), .w ((0 : Int) ≤ (1 : Int)), .t (T.int IntKind.u64 (Int.fdiv (↑(i + j) : Int) 2)) (T.int IntKind.u64 (↑h : Int)), .i IntKind.i64 (↑h : Int) (↑h : Int), .w ((0 : Int) ≤ (↑m : Int)), .n (Int.toNat (↑m : Int)) m, .w (m < List.length (List.map Entity.enc A)), .w ((0 : Int) ≤ (↑h : Int)), .n (Int.toNat (↑h : Int)) h, .w (h < List.length (List.map Entity.enc A)), .g (List.map Entity.enc A) m (Entity.enc (gt A m)), .g (List.map Entity.enc A) h (Entity.enc (gt A h)), .w (isFnB cx (88 : Nat) = true), .a _ _] ⟨tP, oI, oU, oW, o_t (by rw [hf]), oI, oW, o_n (by kernel_rfl), o_w (by (simp; omega)), oW, o_n (by kernel_rfl), o_w (by (simp; omega)), o_gt rfl (by assumption) (by intro h; cases h), oT, o_w (by kernel_rfl), o_a (f_arena_All_1 (gt A m) (gt A h)), trivial⟩ ?_
        refine brnot (b := decide (Entity.cmp (gt A m) (gt A h) < 0)) (by kernel_rfl) (fun h1 => ?_) (fun h1 => ?_)
        · refine gg [.i IntKind.i64 ((↑h : Int) + 1) ((↑(h + 1) : Int)), .a _ _] ⟨oI, o_a ih1, trivial⟩ ?_
          refine rt (a := Res.mk (Ex.exit 4) [V.all 0 none, vi (↑m : Int), V.t (T.clo 88 []), vi (↑(bs (fun (h : Nat) ↦ !Entity.less (gt A m) (gt A h)) d (h + 1) j) : Int), vi (↑(bs (fun (h : Nat) ↦ !Entity.less (gt A m) (gt A h)) d (h + 1) j) : Int)] [Ob.arr 9 (List.map Entity.enc A) none false]) (by kernel_rfl) ?_
          (first | rfl | omega | (simp_all; done) | (simp_all; omega))
        · refine gg [.a _ _] ⟨o_a ih2, trivial⟩ ?_
          refine rt (a := Res.mk (Ex.exit 4) [V.all 0 none, vi (↑m : Int), V.t (T.clo 88 []), vi (↑(bs (fun (h : Nat) ↦ !Entity.less (gt A m) (gt A h)) d i h) : Int), vi (↑(bs (fun (h : Nat) ↦ !Entity.less (gt A m) (gt A h)) d i h) : Int)] [Ob.arr 9 (List.map Entity.enc A) none false]) (by kernel_rfl) ?_
          (first | rfl | omega | (simp_all; done) | (simp_all; omega))
    · obtain rfl : i = j := by omega
      unfold small at hn
      have e : bs (fun h => !Entity.less (gt A m) (gt A h)) (d + 1) i i = i := by rw [bs, if_neg hij]
      rw [e]
      refine Wp.ev ?_
      refine gg [.b (decide ((↑i : Int) < (↑i : Int))) false] ⟨fP, trivial⟩ ?_
      exact ge
theorem f_symMerge_bs3_Entity (A : List Entity) (a m b mid n p : Nat) (hn : small A) : ∀ (d i j : Nat), i ≤ j → j ≤ i + d → j ≤ p + 1 → p < i + A.length → j ≤ A.length →
    Is cx (.loop 182 [0, 0, 1, 1, 1, 1, 1, 1, 1] 1 [.all 0 none, vi a, vi m, vi b, .t (.clo 88 []), vi mid, vi n, vi i, vi j, vi p] [.arr 9 (A.map Entity.enc) none false])
      ⟨.exit 8, [.all 0 none, vi a, vi m, vi b, .t (.clo 88 []), vi mid, vi n, vi (bs (fun c => !Entity.less (gt A (p - c)) (gt A c)) d i j : Nat), vi (bs (fun c => !Entity.less (gt A (p - c)) (gt A c)) d i j : Nat), vi p], [.arr 9 (A.map Entity.enc) none false]⟩ := by
  intro d
  induction d with
  | zero =>
    intro i j h1 h2 h3 h4 h5
    obtain rfl : i = j := by omega
    unfold small at hn
    unfold bs
    refine Wp.ev ?_
    refine gg [.b (decide ((↑i : Int) < (↑i : Int))) false] ⟨fP, trivial⟩ ?_
    exact ge
  | succ d ih =>
    intro i j h1 h2 h3 h4 h5
    by_cases hij : i < j
    · obtain ⟨h, hh⟩ : ∃ h, (i + j) / 2 = h := ⟨_, rfl⟩
      have hf : Int.fdiv ((i + j : Nat) : Int) 2 = (h : Nat) := by rw [Int.fdiv_eq_ediv_of_nonneg _ (by omega)]; omega
      have ih1 := ih (h + 1) j (by omega) (by omega) (by omega) (by omega) (by omega)
      have ih2 := ih i h (by omega) (by omega) (by omega) (by omega) (by omega)
      unfold small at hn
      clear ih
      cases hl : (fun c => !Entity.less (gt A (p - c)) (gt A c)) h with
      | true =>
        have e : bs (fun c => !Entity.less (gt A (p - c)) (gt A c)) (d + 1) i j = bs (fun c => !Entity.less (gt A (p - c)) (gt A c)) d (h + 1) j := by exact bs_t hij hh hl
        rw [e]
        have hl : ¬ (gt A (p - h)).cmp (gt A h) < 0 := by simpa [Entity.less] using hl
        have e1 : (p : Int) - h = (p - h : Nat) := by omega
        refine Wp.ev ?_
        refine gg [.b (decide ((↑i : Int) < (↑j : Int))) true, .i IntKind.i64 ((↑i : Int) + (↑j : Int)) ((↑(i + j) : Int)), .i IntKind.u64 ((↑(i + j) : Int)) ((↑(i + j) : Int)), .w ((0 : Int) ≤ (1 : Int)), .t (T.int IntKind.u64 (Int.fdiv (↑(i + j) : Int) 2)) (T.int IntKind.u64 (↑h : Int)), .i IntKind.i64 (↑h : Int) (↑h : Int), .i IntKind.i64 ((↑p : Int) - (↑h : Int)) ((↑(p - h) : Int)), .w ((0 : Int) ≤ (↑(p - h) : Int)), .n (Int.toNat (↑(p - h) : Int)) (p - h), .w (p - h < List.length (List.map Entity.enc A)), .w ((0 : Int) ≤ (↑h : Int)), .n (Int.toNat (↑h : Int)) h, .w (h < List.length (List.map Entity.enc A)), .g (List.map Entity.enc A) (p - h) (Entity.enc (gt A (p - h))), .g (List.map Entity.enc A) h (Entity.enc (gt A h)), .w (isFnB cx (88 : Nat) = true)] ⟨tP, oI, oU, oW, o_t (by rw [hf]), oI, oI, oW, o_n (by kernel_rfl), o_w (by (simp; omega)), oW, o_n (by kernel_rfl), o_w (by (simp; omega)), oT, oT, o_w (by kernel_rfl), trivial⟩ ?_
        refine gg [.a _ _] ⟨o_a (f_arena_All_1 (gt A (p - h)) (gt A h)), trivial⟩ ?_
        refine brnot (b := decide (Entity.cmp (gt A (p - h)) (gt A h) < 0)) (by kernel_rfl) (fun h1 => ?_) (fun h1 => ?_)
        · refine gg [.i IntKind.i64 ((↑h : Int) + 1) ((↑(h + 1) : Int)), .a _ _] ⟨oI, o_a ih1, trivial⟩ ?_
          refine rt (a := Res.mk (Ex.exit 8) [V.all 0 none, vi (↑a : Int), vi (↑m : Int), vi (↑b : Int), V.t (T.clo 88 []), vi (↑mid : Int), vi (↑n : Int), vi (↑(bs (fun (c : Nat) ↦ !Entity.less (gt A (p - c)) (gt A c)) d (h + 1) j) : Int), vi (↑(bs (fun (c : Nat) ↦ !Entity.less (gt A (p - c)) (gt A c)) d (h + 1) j) : Int), vi (↑p : Int)] [Ob.arr 9 (List.map Entity.enc A) none false]) (by kernel_rfl) ?_
          (first | rfl | omega | (simp_all; done) | (simp_all; omega))
        · refine gg [.a _ _] ⟨o_a ih2, trivial⟩ ?_
          refine rt (a := Res.mk (Ex.exit 8) [V.all 0 none, vi (↑a : Int), vi (↑m : Int), vi (↑b : Int), V.t (T.clo 88 []), vi (↑mid : Int), vi (↑n : Int), vi (↑(bs (fun (c : Nat) ↦ !Entity.less (gt A (p - c)) (gt A c)) d i h) : Int), vi (↑(bs (fun (c : Nat) ↦ !Entity.less (gt A (p - c)) (gt A c)) d i h) : Int), vi (↑p : Int)] [Ob.arr 9 (List.map Entity.enc A) none false]) (by kernel_rfl) ?_
          (first | rfl | omega | (simp_all; done) | (simp_all; omega))
      | false =>
        have e : bs (fun c => !Entity.less (gt A (p - c)) (gt A c)) (d + 1) i j = bs (fun c => !Entity.less (gt A (p - c)) (gt A c)) d i h := by exact bs_f hij hh hl
        rw [e]
        have hl : (gt A (p - h)).cmp (gt A h) < 0 := by simpa [Entity.less] using hl
        have e1 : (p : Int) - h = (p - h : Nat) := by omega
        refine Wp.ev ?_
        refine gg [.b (decide ((↑i : Int) < (↑j : Int))) true, .i IntKind.i64 ((↑i : Int) + (↑j : Int)) ((↑(i + j) : Int)), .i IntKind.u64 ((↑(i + j) : Int)) ((↑(i + j) : Int)), .w ((0 : Int) ≤ (1 : Int)), .t (T.int IntKind.u64 (Int.fdiv (↑(i + j) : Int) 2)) (T.int IntKind.u64 (↑h : Int)), .i IntKind.i64 (↑h : Int) (↑h : Int), .i IntKind.i64 ((↑p : Int) - (↑h : Int)) ((↑(p - h) : Int)), .w ((0 : Int) ≤ (↑(p - h) : Int)), .n (Int.toNat (↑(p - h) : Int)) (p - h), .w (p - h < List.length (List.map Entity.enc A)), .w ((0 : Int) ≤ (↑h : Int)), .n (Int.toNat (↑h : Int)) h, .w (h < List.length (List.map Entity.enc A)), .g (List.map Entity.enc A) (p - h) (Entity.enc (gt A (p - h))), .g (List.map Entity.enc A) h (Entity.enc (gt A h)), .w (isFnB cx (88 : Nat) = true)] ⟨tP, oI, oU, oW, o_t (by rw [hf]), oI, oI, oW, o_n (by kernel_rfl), o_w (by (simp; omega)), oW, o_n (by kernel_rfl), o_w (by (simp; omega)), oT, oT, o_w (by kernel_rfl), trivial⟩ ?_
        refine gg [.a _ _] ⟨o_a (f_arena_All_1 (gt A (p - h)) (gt A h)), trivial⟩ ?_
        refine brnot (b := decide (Entity.cmp (gt A (p - h)) (gt A h) < 0)) (by kernel_rfl) (fun h1 => ?_) (fun h1 => ?_)
        · refine gg [.i IntKind.i64 ((↑h : Int) + 1) ((↑(h + 1) : Int)), .a _ _] ⟨oI, o_a ih1, trivial⟩ ?_
          refine rt (a := Res.mk (Ex.exit 8) [V.all 0 none, vi (↑a : Int), vi (↑m : Int), vi (↑b : Int), V.t (T.clo 88 []), vi (↑mid : Int), vi (↑n : Int), vi (↑(bs (fun (c : Nat) ↦ !Entity.less (gt A (p - c)) (gt A c)) d (h + 1) j) : Int), vi (↑(bs (fun (c : Nat) ↦ !Entity.less (gt A (p - c)) (gt A c)) d (h + 1) j) : Int), vi (↑p : Int)] [Ob.arr 9 (List.map Entity.enc A) none false]) (by kernel_rfl) ?_
          (first | rfl | omega | (simp_all; done) | (simp_all; omega))
        · refine gg [.a _ _] ⟨o_a ih2, trivial⟩ ?_
          refine rt (a := Res.mk (Ex.exit 8) [V.all 0 none, vi (↑a : Int), vi (↑m : Int), vi (↑b : Int), V.t (T.clo 88 []), vi (↑mid : Int), vi (↑n : Int), vi (↑(bs (fun (c : Nat) ↦ !Entity.less (gt A (p - c)) (gt A c)) d i h) : Int), vi (↑(bs (fun (c : Nat) ↦ !Entity.less (gt A (p - c)) (gt A c)) d i h) : Int), vi (↑p : Int)] [Ob.arr 9 (List.map Entity.enc A) none false]) (by kernel_rfl) ?_
          (first | rfl | omega | (simp_all; done) | (simp_all; omega))
    · obtain rfl : i = j := by omega
      unfold small at hn
      have e : bs (fun c => !Entity.less (gt A (p - c)) (gt A c)) (d + 1) i i = i := by rw [bs, if_neg hij]
      rw [e]
      refine Wp.ev ?_
      refine gg [.b (decide ((↑i : Int) < (↑i : Int))) false] ⟨fP, trivial⟩ ?_
      exact ge
theorem f_symMerge_up_Entity : ∀ (d k i : Nat) (A : List Entity), k + d = i - 1 → i ≤ A.length → small A →
    Is cx (.loop 182 [0, 1, 0, 1, 1, 1, 0, 1, 0] 1 [.all 0 none, vi i, vi k] [.arr 9 (A.map Entity.enc) none false])
      ⟨.exit 2, [.all 0 none, vi i, vi (i - 1 : Nat)], [.arr 9 ((up d A k).map Entity.enc) none false]⟩ := by
  intro d
  induction d with
  | zero =>
    intro k i A h1 h2 hn
    unfold small at hn
    obtain rfl : k = i - 1 := by omega
    unfold up
    refine Wp.ev ?_
    refine gg [.i IntKind.i64 ((↑i : Int) - 1) ((↑i : Int) - 1), .b (decide ((↑(i - 1) : Int) < (↑i : Int) - 1)) false] ⟨oI, fP, trivial⟩ ?_
    exact ge
  | succ d ih =>
    intro k i A h1 h2 hn
    have ih1 := ih (k + 1) i (sw A k (k + 1)) (by omega) (by rw [sw_len]; omega) (by unfold small; rw [sw_len]; exact hn)
    unfold small at hn
    clear ih
    unfold up
    unfold sw at *
    refine Wp.ev ?_
    refine gg [.i IntKind.i64 ((↑i : Int) - 1) ((↑i : Int) - 1), .b (decide ((↑k : Int) < (↑i : Int) - 1)) true, .i IntKind.i64 ((↑k : Int) + 1) ((↑(k + 1) : Int)), .i IntKind.i64 ((↑k : Int) + 1) ((↑(k + 1) : Int)), .w ((0 : Int) ≤ (↑(k + (1 : Nat)) : Int)), .n (Int.toNat (↑(k + 1) : Int)) (k + 1), .w (k + (1 : Nat) < List.length (List.map Entity.enc A)), .w ((0 : Int) ≤ (↑k : Int)), .n (Int.toNat (↑k : Int)) k, .w (k < List.length (List.map Entity.enc A)), .g (List.map Entity.enc A) (k + 1) (Entity.enc (gt A (k + 1))), .g (List.map Entity.enc A) k (Entity.enc (gt A k)), .w ((0 : Int) ≤ (↑k : Int)), .n (Int.toNat (↑k : Int)) k, .w (k < List.length (List.map Entity.enc A)), .w (k < List.length (List.map Entity.enc A))] ⟨oI, tP, oI, oI, oW, o_n (by kernel_rfl), o_w (by (simp; omega)), oW, o_n (by kernel_rfl), o_w (by (simp; omega)), oT, oT, oW, o_n (by kernel_rfl), o_w (by (simp; omega)), o_w (by (simp; omega)), trivial⟩ ?_
    refine gg [.t (T.sl 0 (List.set (List.map Entity.enc A) k (Entity.enc (gt A (k + 1))))) (T.sl 0 (List.map Entity.enc (List.set A k (gt A (k + 1))))), .w ((0 : Int) ≤ (↑(k + (1 : Nat)) : Int)), .n (Int.toNat (↑(k + 1) : Int)) (k + 1), .w (k + (1 : Nat) < List.length (List.map Entity.enc (List.set A k (gt A (k + (1 : Nat)))))), .w (k + (1 : Nat) < List.length (List.map Entity.enc (List.set A k (gt A (k + (1 : Nat)))))), .t (T.sl 0 (List.set (List.map Entity.enc (List.set A k (gt A (k + 1)))) (k + 1) (Entity.enc (gt A k)))) (T.sl 0 (List.map Entity.enc (List.set (List.set A k (gt A (k + 1))) (k + 1) (gt A k)))), .i IntKind.i64 ((↑k : Int) + 1) ((↑(k + 1) : Int)), .a _ _] ⟨o_l (nm_set rfl rfl), oW, o_n (by kernel_rfl), o_w (by (simp; omega)), o_w (by (simp; omega)), o_l (nm_set rfl rfl), oI, o_a ih1, trivial⟩ ?_
    exact ge
theorem f_symMerge_down_Entity (i : Nat) : ∀ (d k : Nat) (A : List Entity), k = i + d → k < A.length → small A →
    Is cx (.loop 182 [0, 1, 0, 1, 1, 1, 0, 1, 0, 1] 1 [.all 0 none, vi i, vi k] [.arr 9 (A.map Entity.enc) none false])
      ⟨.exit 6, [.all 0 none, vi i, vi i], [.arr 9 ((down d A k).map Entity.enc) none false]⟩ := by
  intro d
  induction d with
  | zero =>
    intro k A h1 h2 hn
    unfold small at hn
    obtain rfl : k = i := by omega
    unfold down
    refine Wp.ev ?_
    refine gg [.b (decide ((↑k : Int) > (↑k : Int))) false] ⟨fP, trivial⟩ ?_
    exact ge
  | succ d ih =>
    intro k A h1 h2 hn
    have ih1 := ih (k - 1) (sw A k (k - 1)) (by omega) (by rw [sw_len]; omega) (by unfold small; rw [sw_len]; exact hn)
    unfold small at hn
    clear ih
    have e1 : (k : Int) - 1 = (k - 1 : Nat) := by omega
    unfold down
    unfold sw at *
    refine Wp.ev ?_
    refine gg [.b (decide ((↑k : Int) > (↑i : Int))) true, .i IntKind.i64 ((↑k : Int) - 1) ((↑(k - 1) : Int)), .i IntKind.i64 ((↑k : Int) - 1) ((↑(k - 1) : Int)), .w ((0 : Int) ≤ (↑(k - (1 : Nat)) : Int)), .n (Int.toNat (↑(k - 1) : Int)) (k - 1), .w (k - (1 : Nat) < List.length (List.map Entity.enc A)), .w ((0 : Int) ≤ (↑k : Int)), .n (Int.toNat (↑k : Int)) k, .w (k < List.length (List.map Entity.enc A)), .g (List.map Entity.enc A) (k - 1) (Entity.enc (gt A (k - 1))), .g (List.map Entity.enc A) k (Entity.enc (gt A k)), .w ((0 : Int) ≤ (↑k : Int)), .n (Int.toNat (↑k : Int)) k, .w (k < List.length (List.map Entity.enc A)), .w (k < List.length (List.map Entity.enc A)), .t (T.sl 0 (List.set (List.map Entity.enc A) k (Entity.enc (gt A (k - 1))))) (T.sl 0 (List.map Entity.enc (List.set A k (gt A (k - 1)))))] ⟨tP, oI, oI, oW, o_n (by kernel_rfl), o_w (by (simp; omega)), oW, o_n (by kernel_rfl), o_w (by (simp; omega)), oT, o_gt rfl (by assumption) (by intro h; cases h), oW, o_n (by kernel_rfl), o_w (by (simp; omega)), o_w (by (simp; omega)), o_l (nm_set rfl rfl), trivial⟩ ?_
    refine gg [.w ((0 : Int) ≤ (↑(k - (1 : Nat)) : Int)), .n (Int.toNat (↑(k - 1) : Int)) (k - 1), .w (k - (1 : Nat) < List.length (List.map Entity.enc (List.set A k (gt A (k - (1 : Nat)))))), .w (k - (1 : Nat) < List.length (List.map Entity.enc (List.set A k (gt A (k - (1 : Nat)))))), .t (T.sl 0 (List.set (List.map Entity.enc (List.set A k (gt A (k - 1)))) (k - 1) (Entity.enc (gt A k)))) (T.sl 0 (List.map Entity.enc (List.set (List.set A k (gt A (k - 1))) (k - 1) (gt A k)))), .i IntKind.i64 ((↑k : Int) - 1) ((↑(k - 1) : Int)), .a _ _] ⟨oW, o_n (by kernel_rfl), o_w (by (simp; omega)), o_w (by (simp; omega)), o_l (nm_set rfl rfl), oI, o_a ih1, trivial⟩ ?_
    exact ge
end Go.Eva.S3

/- Messages: merged in place. -/
namespace Go.Eva.S3
theorem f_symMerge_first_Cross (P V Q : List Cross) (x : Cross) (a m b : Nat) (ha : a = P.length) (hm : m = a + 1) (hb : b = m + V.length) (h0 : 0 < V.length) (hV : Sd Cross.less V) (hn : small (P ++ [x] ++ V ++ Q)) :
    Is cx (.call 187 [.all 0 none, vi a, vi m, vi b, .t (.clo 129 [])] [.arr 15 ((P ++ [x] ++ V ++ Q).map Cross.enc) none false])
   ⟨.ret, [], [.arr 15 ((P ++ sortS Cross.less ([x] ++ V) ++ Q).map Cross.enc) none false]⟩ := by
  have hl : (P ++ [x] ++ V ++ Q).length = b + Q.length := by simp; omega
  have hbs := f_symMerge_bs1_Cross (P ++ [x] ++ V ++ Q) a (by omega) hn (b - m) m b (by omega) (by omega) (by omega)
  obtain ⟨k1, k2, k3⟩ := merge_first Cross_swo (Q := Q) (x := x) (d := b - m) ha hm hb (by omega) hV rfl
  generalize bs _ (b - m) m b = s at *
  have hup := f_symMerge_up_Cross (s - 1 - a) a s (P ++ [x] ++ V ++ Q) (by omega) (by omega) hn
  rw [k3] at hup
  clear k3 hV
  generalize P ++ [x] ++ V ++ Q = A at *
  generalize P ++ sortS Cross.less ([x] ++ V) ++ Q = B at *
  unfold small at hn
  refine Wp.ev ?_
  refine gg [.i IntKind.i64 ((↑m : Int) - (↑a : Int)) ((↑m : Int) - (↑a : Int)), .b ((↑m : Int) - (↑a : Int) == 1) true, .a _ _, .a _ _] ⟨oI, tE, o_a hbs, o_a hup, trivial⟩ ?_
  exact ge
theorem f_symMerge_last_Cross (P U Q : List Cross) (y : Cross) (a m b : Nat) (ha : a = P.length) (hm : m = a + U.length) (hb : b = m + 1) (h0 : 1 < U.length) (hU : Sd Cross.less U) (hn : small (P ++ U ++ [y] ++ Q)) :
    Is cx (.call 187 [.all 0 none, vi a, vi m, vi b, .t (.clo 129 [])] [.arr 15 ((P ++ U ++ [y] ++ Q).map Cross.enc) none false])
   ⟨.ret, [], [.arr 15 ((P ++ sortS Cross.less (U ++ [y]) ++ Q).map Cross.enc) none false]⟩ := by
  have hl : (P ++ U ++ [y] ++ Q).length = b + Q.length := by simp; omega
  have hbs := f_symMerge_bs2_Cross (P ++ U ++ [y] ++ Q) m (by omega) hn (m - a) a m (by omega) (by omega) (by omega)
  obtain ⟨k1, k2, k3⟩ := merge_last Cross_swo (Q := Q) (y := y) (d := m - a) ha hm (by omega) hU rfl
  generalize bs _ (m - a) a m = s at *
  have hup := f_symMerge_down_Cross s (m - s) m (P ++ U ++ [y] ++ Q) (by omega) (by omega) hn
  rw [k3] at hup
  clear k3 hU
  generalize P ++ U ++ [y] ++ Q = A at *
  generalize P ++ sortS Cross.less (U ++ [y]) ++ Q = B at *
  unfold small at hn
  refine Wp.ev ?_
  refine gg [.i IntKind.i64 ((↑m : Int) - (↑a : Int)) ((↑m : Int) - (↑a : Int)), .b ((↑m : Int) - (↑a : Int) == 1) false, .i IntKind.i64 ((↑b : Int) - (↑m : Int)) ((↑b : Int) - (↑m : Int)), .b ((↑b : Int) - (↑m : Int) == 1) true, .a _ _, .a _ _] ⟨oI, fE, oI, tE, o_a hbs, o_a hup, trivial⟩ ?_
  exact ge
theorem f_symMerge_first_Entity (P V Q : List Entity) (x : Entity) (a m b : Nat) (ha : a = P.length) (hm : m = a + 1) (hb : b = m + V.length) (h0 : 0 < V.length) (hV : Sd Entity.less V) (hn : small (P ++ [x] ++ V ++ Q)) :
    Is cx (.call 182 [.all 0 none, vi a, vi m, vi b, .t (.clo 88 [])] [.arr 9 ((P ++ [x] ++ V ++ Q).map Entity.enc) none false])
   ⟨.ret, [], [.arr 9 ((P ++ sortS Entity.less ([x] ++ V) ++ Q).map Entity.enc) none false]⟩ := by
  have hl : (P ++ [x] ++ V ++ Q).length = b + Q.length := by simp; omega
  have hbs := f_symMerge_bs1_Entity (P ++ [x] ++ V ++ Q) a (by omega) hn (b - m) m b (by omega) (by omega) (by omega)
  obtain ⟨k1, k2, k3⟩ := merge_first Entity_swo (Q := Q) (x := x) (d := b - m) ha hm hb (by omega) hV rfl
  generalize bs _ (b - m) m b = s at *
  have hup := f_symMerge_up_Entity (s - 1 - a) a s (P ++ [x] ++ V ++ Q) (by omega) (by omega) hn
  rw [k3] at hup
  clear k3 hV
  generalize P ++ [x] ++ V ++ Q = A at *
  generalize P ++ sortS Entity.less ([x] ++ V) ++ Q = B at *
  unfold small at hn
  refine Wp.ev ?_
  refine gg [.i IntKind.i64 ((↑m : Int) - (↑a : Int)) ((↑m : Int) - (↑a : Int)), .b ((↑m : Int) - (↑a : Int) == 1) true, .a _ _, .a _ _] ⟨oI, tE, o_a hbs, o_a hup, trivial⟩ ?_
  exact ge
theorem f_symMerge_last_Entity (P U Q : List Entity) (y : Entity) (a m b : Nat) (ha : a = P.length) (hm : m = a + U.length) (hb : b = m + 1) (h0 : 1 < U.length) (hU : Sd Entity.less U) (hn : small (P ++ U ++ [y] ++ Q)) :
    Is cx (.call 182 [.all 0 none, vi a, vi m, vi b, .t (.clo 88 [])] [.arr 9 ((P ++ U ++ [y] ++ Q).map Entity.enc) none false])
   ⟨.ret, [], [.arr 9 ((P ++ sortS Entity.less (U ++ [y]) ++ Q).map Entity.enc) none false]⟩ := by
  have hl : (P ++ U ++ [y] ++ Q).length = b + Q.length := by simp; omega
  have hbs := f_symMerge_bs2_Entity (P ++ U ++ [y] ++ Q) m (by omega) hn (m - a) a m (by omega) (by omega) (by omega)
  obtain ⟨k1, k2, k3⟩ := merge_last Entity_swo (Q := Q) (y := y) (d := m - a) ha hm (by omega) hU rfl
  generalize bs _ (m - a) a m = s at *
  have hup := f_symMerge_down_Entity s (m - s) m (P ++ U ++ [y] ++ Q) (by omega) (by omega) hn
  rw [k3] at hup
  clear k3 hU
  generalize P ++ U ++ [y] ++ Q = A at *
  generalize P ++ sortS Entity.less (U ++ [y]) ++ Q = B at *
  unfold small at hn
  refine Wp.ev ?_
  refine gg [.i IntKind.i64 ((↑m : Int) - (↑a : Int)) ((↑m : Int) - (↑a : Int)), .b ((↑m : Int) - (↑a : Int) == 1) false, .i IntKind.i64 ((↑b : Int) - (↑m : Int)) ((↑b : Int) - (↑m : Int)), .b ((↑b : Int) - (↑m : Int) == 1) true, .a _ _, .a _ _] ⟨oI, fE, oI, tE, o_a hbs, o_a hup, trivial⟩ ?_
  exact ge
end Go.Eva.S3

/- Messages: merged in place, all cases. -/
namespace Go.Eva.S3
theorem f_symMerge_genA_Cross (A0 A1 A2 A3 : List Cross) (a m b mid s : Nat) (hmid : (a + b) / 2 = mid) (hc : m ≤ mid)
    (h1 : a + 1 < m) (h2 : m + 1 < b) (hb : b ≤ A0.length) (hn : small A0) (hs : a ≤ s ∧ s ≤ m)
    (hbs : Is cx (.loop 187 [0, 0, 1, 1, 1, 1, 1, 1, 1] 1 [.all 0 none, vi a, vi m, vi b, .t (.clo 129 []), vi mid, vi (mid + m : Nat), vi a, vi m, vi (mid + m - 1 : Nat)] [.arr 15 (A0.map Cross.enc) none false])
      ⟨.exit 8, [.all 0 none, vi a, vi m, vi b, .t (.clo 129 []), vi mid, vi (mid + m : Nat), vi s, vi s, vi (mid + m - 1 : Nat)], [.arr 15 (A0.map Cross.enc) none false]⟩)
    (k1 : s < m → s < mid → Is cx (.call 194 [.all 0 none, vi s, vi m, vi (mid + m - s : Nat), .t (.clo 129 [])] [.arr 15 (A0.map Cross.enc) none false]) ⟨.ret, [], [.arr 15 (A1.map Cross.enc) none false]⟩)
    (k1' : ¬ (s < m ∧ s < mid) → A0 = A1)
    (k2 : a < s → s < mid → Is cx (.call 187 [.all 0 none, vi a, vi s, vi mid, .t (.clo 129 [])] [.arr 15 (A1.map Cross.enc) none false]) ⟨.ret, [], [.arr 15 (A2.map Cross.enc) none false]⟩)
    (k2' : ¬ (a < s ∧ s < mid) → A1 = A2)
    (k3 : s < m → mid + m < b + s → Is cx (.call 187 [.all 0 none, vi mid, vi (mid + m - s : Nat), vi b, .t (.clo 129 [])] [.arr 15 (A2.map Cross.enc) none false]) ⟨.ret, [], [.arr 15 (A3.map Cross.enc) none false]⟩)
    (k3' : ¬ (s < m ∧ mid + m < b + s) → A2 = A3) :
    Is cx (.call 187 [.all 0 none, vi a, vi m, vi b, .t (.clo 129 [])] [.arr 15 (A0.map Cross.enc) none false])
   ⟨.ret, [], [.arr 15 (A3.map Cross.enc) none false]⟩ := by
  have hf : Int.fdiv ((a + b : Nat) : Int) 2 = (mid : Nat) := by rw [Int.fdiv_eq_ediv_of_nonneg _ (by omega)]; omega
  have hmm : a < mid ∧ mid < b := by omega
  unfold small at hn
  have e1 : ((mid + m : Nat) : Int) - 1 = (mid + m - 1 : Nat) := by omega
  have e2 : ((mid + m : Nat) : Int) - s = (mid + m - s : Nat) := by omega
  by_cases c1 : s < m ∧ s < mid
  · have j1 := k1 c1.1 c1.2
    by_cases c2 : a < s
    · have j2 := k2 c2 c1.2
      by_cases c3 : mid + m < b + s
      · have j3 := k3 c1.1 c3
        clear k1' k2' k3' k1 k2 k3
        refine Wp.ev ?_
        refine gg [.i IntKind.i64 ((↑m : Int) - (↑a : Int)) ((↑m : Int) - (↑a : Int)), .b ((↑m : Int) - (↑a : Int) == 1) false, .i IntKind.i64 ((↑b : Int) - (↑m : Int)) ((↑b : Int) - (↑m : Int)), .b ((↑b : Int) - (↑m : Int) == 1) false, .i IntKind.i64 ((↑a : Int) + (↑b : Int)) ((↑(a + b) : Int)), .i IntKind.u64 ((↑(a + b) : Int)) ((↑(a + b) : Int)), .w ((0 : Int) ≤ (1 : Int)), .t (T.int IntKind.u64 (Int.fdiv (↑(a + b) : Int) 2)) (T.int IntKind.u64 (↑mid : Int)), .i IntKind.i64 (↑mid : Int) (↑mid : Int), .i IntKind.i64 ((↑mid : Int) + (↑m : Int)) ((↑(mid + m) : Int)), .b (decide ((↑m : Int) > (↑mid : Int))) false, .i IntKind.i64 ((↑(mid + m) : Int) - 1) ((↑(mid + m - 1) : Int)), .a _ _, .i IntKind.i64 ((↑(mid + m) : Int) - (↑s : Int)) ((↑(mid + m - s) : Int)), .b (decide ((↑s : Int) < (↑m : Int))) true, .tt] ⟨oI, fE, oI, fE, oI, oU, oW, o_t (by rw [hf]), oI, oI, fP, oI, o_a hbs, oI, tP, trivial⟩ ?_
        refine gg [.tt, .tt, .b (decide ((↑m : Int) < (↑(mid + m - s) : Int))) true, .a _ _, .b (decide ((↑a : Int) < (↑s : Int))) true, .tt, .tt, .tt, .b (decide ((↑s : Int) < (↑mid : Int))) true, .a _ _, .b (decide ((↑mid : Int) < (↑(mid + m - s) : Int))) true, .tt, .tt, .tt, .b (decide ((↑(mid + m - s) : Int) < (↑b : Int))) true, .a _ _] ⟨tP, o_a j1, tP, tP, o_a j2, tP, tP, o_a j3, trivial⟩ ?_
        exact ge
      · obtain rfl := k3' (fun h => c3 h.2)
        clear k1' k2' k3' k1 k2 k3
        omega
    · obtain rfl := k2' (fun h => c2 h.1)
      by_cases c3 : mid + m < b + s
      · have j3 := k3 c1.1 c3
        clear k1' k2' k3' k1 k2 k3
        refine Wp.ev ?_
        refine gg [.i IntKind.i64 ((↑m : Int) - (↑a : Int)) ((↑m : Int) - (↑a : Int)), .b ((↑m : Int) - (↑a : Int) == 1) false, .i IntKind.i64 ((↑b : Int) - (↑m : Int)) ((↑b : Int) - (↑m : Int)), .b ((↑b : Int) - (↑m : Int) == 1) false, .i IntKind.i64 ((↑a : Int) + (↑b : Int)) ((↑(a + b) : Int)), .i IntKind.u64 ((↑(a + b) : Int)) ((↑(a + b) : Int)), .w ((0 : Int) ≤ (1 : Int)), .t (T.int IntKind.u64 (Int.fdiv (↑(a + b) : Int) 2)) (T.int IntKind.u64 (↑mid : Int)), .i IntKind.i64 (↑mid : Int) (↑mid : Int), .i IntKind.i64 ((↑mid : Int) + (↑m : Int)) ((↑(mid + m) : Int)), .b (decide ((↑m : Int) > (↑mid : Int))) false, .i IntKind.i64 ((↑(mid + m) : Int) - 1) ((↑(mid + m - 1) : Int)), .a _ _, .i IntKind.i64 ((↑(mid + m) : Int) - (↑s : Int)) ((↑(mid + m - s) : Int)), .b (decide ((↑s : Int) < (↑m : Int))) true, .tt] ⟨oI, fE, oI, fE, oI, oU, oW, o_t (by rw [hf]), oI, oI, fP, oI, o_a hbs, oI, tP, trivial⟩ ?_
        refine gg [.tt, .tt, .b (decide ((↑m : Int) < (↑(mid + m - s) : Int))) true, .a _ _, .b (decide ((↑a : Int) < (↑s : Int))) false, .ff, .ff, .ff, .ff, .b (decide ((↑mid : Int) < (↑(mid + m - s) : Int))) true, .tt, .tt, .tt, .b (decide ((↑(mid + m - s) : Int) < (↑b : Int))) true, .a _ _] ⟨tP, o_a j1, fP, tP, tP, o_a j3, trivial⟩ ?_
        exact ge
      · obtain rfl := k3' (fun h => c3 h.2)
        clear k1' k2' k3' k1 k2 k3
        refine Wp.ev ?_
        refine gg [.i IntKind.i64 ((↑m : Int) - (↑a : Int)) ((↑m : Int) - (↑a : Int)), .b ((↑m : Int) - (↑a : Int) == 1) false, .i IntKind.i64 ((↑b : Int) - (↑m : Int)) ((↑b : Int) - (↑m : Int)), .b ((↑b : Int) - (↑m : Int) == 1) false, .i IntKind.i64 ((↑a : Int) + (↑b : Int)) ((↑(a + b) : Int)), .i IntKind.u64 ((↑(a + b) : Int)) ((↑(a + b) : Int)), .w ((0 : Int) ≤ (1 : Int)), .t (T.int IntKind.u64 (Int.fdiv (↑(a + b) : Int) 2)) (T.int IntKind.u64 (↑mid : Int)), .i IntKind.i64 (↑mid : Int) (↑mid : Int), .i IntKind.i64 ((↑mid : Int) + (↑m : Int)) ((↑(mid + m) : Int)), .b (decide ((↑m : Int) > (↑mid : Int))) false, .i IntKind.i64 ((↑(mid + m) : Int) - 1) ((↑(mid + m - 1) : Int)), .a _ _, .i IntKind.i64 ((↑(mid + m) : Int) - (↑s : Int)) ((↑(mid + m - s) : Int)), .b (decide ((↑s : Int) < (↑m : Int))) true, .tt] ⟨oI, fE, oI, fE, oI, oU, oW, o_t (by rw [hf]), oI, oI, fP, oI, o_a hbs, oI, tP, trivial⟩ ?_
        refine gg [.tt, .tt, .b (decide ((↑m : Int) < (↑(mid + m - s) : Int))) true, .a _ _, .b (decide ((↑a : Int) < (↑s : Int))) false, .ff, .ff, .ff, .ff, .b (decide ((↑mid : Int) < (↑(mid + m - s) : Int))) true, .tt, .tt, .tt, .b (decide ((↑(mid + m - s) : Int) < (↑b : Int))) false] ⟨tP, o_a j1, fP, tP, fP, trivial⟩ ?_
        exact ge
  · obtain rfl := k1' c1
    by_cases c0 : s < m
    · have c4 : ¬ s < mid := fun h => c1 ⟨c0, h⟩
      obtain rfl := k2' (fun h => c4 h.2)
      by_cases c3 : mid + m < b + s
      · have j3 := k3 c0 c3
        clear k1' k2' k3' k1 k2 k3
        by_cases c2 : a < s
        · omega
        · omega
      · obtain rfl := k3' (fun h => c3 h.2)
        clear k1' k2' k3' k1 k2 k3
        by_cases c2 : a < s
        · omega
        · omega
    · obtain rfl := k3' (fun h => c0 h.1)
      by_cases c4 : s < mid
      · have j2 := k2 (by omega) c4
        clear k1' k2' k3' k1 k2 k3
        refine Wp.ev ?_
        refine gg [.i IntKind.i64 ((↑m : Int) - (↑a : Int)) ((↑m : Int) - (↑a : Int)), .b ((↑m : Int) - (↑a : Int) == 1) false, .i IntKind.i64 ((↑b : Int) - (↑m : Int)) ((↑b : Int) - (↑m : Int)), .b ((↑b : Int) - (↑m : Int) == 1) false, .i IntKind.i64 ((↑a : Int) + (↑b : Int)) ((↑(a + b) : Int)), .i IntKind.u64 ((↑(a + b) : Int)) ((↑(a + b) : Int)), .w ((0 : Int) ≤ (1 : Int)), .t (T.int IntKind.u64 (Int.fdiv (↑(a + b) : Int) 2)) (T.int IntKind.u64 (↑mid : Int)), .i IntKind.i64 (↑mid : Int) (↑mid : Int), .i IntKind.i64 ((↑mid : Int) + (↑m : Int)) ((↑(mid + m) : Int)), .b (decide ((↑m : Int) > (↑mid : Int))) false, .i IntKind.i64 ((↑(mid + m) : Int) - 1) ((↑(mid + m - 1) : Int)), .a _ _, .i IntKind.i64 ((↑(mid + m) : Int) - (↑s : Int)) ((↑(mid + m - s) : Int)), .b (decide ((↑s : Int) < (↑m : Int))) false, .ff] ⟨oI, fE, oI, fE, oI, oU, oW, o_t (by rw [hf]), oI, oI, fP, oI, o_a hbs, oI, fP, trivial⟩ ?_
        refine gg [.ff, .ff, .ff, .b (decide ((↑a : Int) < (↑s : Int))) true, .tt, .tt, .tt, .b (decide ((↑s : Int) < (↑mid : Int))) true, .a _ _, .b (decide ((↑mid : Int) < (↑(mid + m - s) : Int))) false, .ff, .ff, .ff, .ff] ⟨tP, tP, o_a j2, fP, trivial⟩ ?_
        exact ge
      · obtain rfl := k2' (fun h => c4 h.2)
        clear k1' k2' k3' k1 k2 k3
        by_cases c2 : a < s
        · refine Wp.ev ?_
          refine gg [.i IntKind.i64 ((↑m : Int) - (↑a : Int)) ((↑m : Int) - (↑a : Int)), .b ((↑m : Int) - (↑a : Int) == 1) false, .i IntKind.i64 ((↑b : Int) - (↑m : Int)) ((↑b : Int) - (↑m : Int)), .b ((↑b : Int) - (↑m : Int) == 1) false, .i IntKind.i64 ((↑a : Int) + (↑b : Int)) ((↑(a + b) : Int)), .i IntKind.u64 ((↑(a + b) : Int)) ((↑(a + b) : Int)), .w ((0 : Int) ≤ (1 : Int)), .t (T.int IntKind.u64 (Int.fdiv (↑(a + b) : Int) 2)) (T.int IntKind.u64 (↑mid : Int)), .i IntKind.i64 (↑mid : Int) (↑mid : Int), .i IntKind.i64 ((↑mid : Int) + (↑m : Int)) ((↑(mid + m) : Int)), .b (decide ((↑m : Int) > (↑mid : Int))) false, .i IntKind.i64 ((↑(mid + m) : Int) - 1) ((↑(mid + m - 1) : Int)), .a _ _, .i IntKind.i64 ((↑(mid + m) : Int) - (↑s : Int)) ((↑(mid + m - s) : Int)), .b (decide ((↑s : Int) < (↑m : Int))) false, .ff] ⟨oI, fE, oI, fE, oI, oU, oW, o_t (by rw [hf]), oI, oI, fP, oI, o_a hbs, oI, fP, trivial⟩ ?_
          refine gg [.ff, .ff, .ff, .b (decide ((↑a : Int) < (↑s : Int))) true, .tt, .tt, .tt, .b (decide ((↑s : Int) < (↑mid : Int))) false, .b (decide ((↑mid : Int) < (↑(mid + m - s) : Int))) false, .ff, .ff, .ff, .ff] ⟨tP, fP, fP, trivial⟩ ?_
          exact ge
        · omega
theorem f_symMerge_genB_Cross (A0 A1 A2 A3 : List Cross) (a m b mid s : Nat) (hmid : (a + b) / 2 = mid) (hc : mid < m)
    (h1 : a + 1 < m) (h2 : m + 1 < b) (hb : b ≤ A0.length) (hn : small A0) (hs : mid + m - b ≤ s ∧ s ≤ mid)
    (hbs : Is cx (.loop 187 [0, 0, 1, 1, 1, 1, 1, 1, 1] 1 [.all 0 none, vi a, vi m, vi b, .t (.clo 129 []), vi mid, vi (mid + m : Nat), vi (mid + m - b : Nat), vi mid, vi (mid + m - 1 : Nat)] [.arr 15 (A0.map Cross.enc) none false])
      ⟨.exit 8, [.all 0 none, vi a, vi m, vi b, .t (.clo 129 []), vi mid, vi (mid + m : Nat), vi s, vi s, vi (mid + m - 1 : Nat)], [.arr 15 (A0.map Cross.enc) none false]⟩)
    (k1 : s < m → s < mid → Is cx (.call 194 [.all 0 none, vi s, vi m, vi (mid + m - s : Nat), .t (.clo 129 [])] [.arr 15 (A0.map Cross.enc) none false]) ⟨.ret, [], [.arr 15 (A1.map Cross.enc) none false]⟩)
    (k1' : ¬ (s < m ∧ s < mid) → A0 = A1)
    (k2 : a < s → s < mid → Is cx (.call 187 [.all 0 none, vi a, vi s, vi mid, .t (.clo 129 [])] [.arr 15 (A1.map Cross.enc) none false]) ⟨.ret, [], [.arr 15 (A2.map Cross.enc) none false]⟩)
    (k2' : ¬ (a < s ∧ s < mid) → A1 = A2)
    (k3 : s < m → mid + m < b + s → Is cx (.call 187 [.all 0 none, vi mid, vi (mid + m - s : Nat), vi b, .t (.clo 129 [])] [.arr 15 (A2.map Cross.enc) none false]) ⟨.ret, [], [.arr 15 (A3.map Cross.enc) none false]⟩)
    (k3' : ¬ (s < m ∧ mid + m < b + s) → A2 = A3) :
    Is cx (.call 187 [.all 0 none, vi a, vi m, vi b, .t (.clo 129 [])] [.arr 15 (A0.map Cross.enc) none false])
   ⟨.ret, [], [.arr 15 (A3.map Cross.enc) none false]⟩ := by
  have hf : Int.fdiv ((a + b : Nat) : Int) 2 = (mid : Nat) := by rw [Int.fdiv_eq_ediv_of_nonneg _ (by omega)]; omega
  have hmm : a < mid ∧ mid < b := by omega
  unfold small at hn
  have e1 : ((mid + m : Nat) : Int) - 1 = (mid + m - 1 : Nat) := by omega
  have e2 : ((mid + m : Nat) : Int) - s = (mid + m - s : Nat) := by omega
  have e3 : ((mid + m : Nat) : Int) - b = (mid + m - b : Nat) := by omega
  by_cases c1 : s < m ∧ s < mid
  · have j1 := k1 c1.1 c1.2
    by_cases c2 : a < s
    · have j2 := k2 c2 c1.2
      by_cases c3 : mid + m < b + s
      · have j3 := k3 c1.1 c3
        clear k1' k2' k3' k1 k2 k3
        refine Wp.ev ?_
        refine gg [.i IntKind.i64 ((↑m : Int) - (↑a : Int)) ((↑m : Int) - (↑a : Int)), .b ((↑m : Int) - (↑a : Int) == 1) false, .i IntKind.i64 ((↑b : Int) - (↑m : Int)) ((↑b : Int) - (↑m : Int)), .b ((↑b : Int) - (↑m : Int) == 1) false, .i IntKind.i64 ((↑a : Int) + (↑b : Int)) ((↑(a + b) : Int)), .i IntKind.u64 ((↑(a + b) : Int)) ((↑(a + b) : Int)), .w ((0 : Int) ≤ (1 : Int)), .t (T.int IntKind.u64 (Int.fdiv (↑(a + b) : Int) 2)) (T.int IntKind.u64 (↑mid : Int)), .i IntKind.i64 (↑mid : Int) (↑mid : Int), .i IntKind.i64 ((↑mid : Int) + (↑m : Int)) ((↑(mid + m) : Int)), .b (decide ((↑m : Int) > (↑mid : Int))) true, .i IntKind.i64 ((↑(mid + m) : Int) - (↑b : Int)) ((↑(mid + m - b) : Int)), .i IntKind.i64 ((↑(mid + m) : Int) - 1) ((↑(mid + m - 1) : Int)), .a _ _, .i IntKind.i64 ((↑(mid + m) : Int) - (↑s : Int)) ((↑(mid + m - s) : Int)), .b (decide ((↑s : Int) < (↑m : Int))) true] ⟨oI, fE, oI, fE, oI, oU, oW, o_t (by rw [hf]), oI, oI, tP, oI, oI, o_a hbs, oI, tP, trivial⟩ ?_
        refine gg [.tt, .tt, .tt, .b (decide ((↑m : Int) < (↑(mid + m - s) : Int))) true, .a _ _, .b (decide ((↑a : Int) < (↑s : Int))) true, .tt, .tt, .tt, .b (decide ((↑s : Int) < (↑mid : Int))) true, .a _ _, .b (decide ((↑mid : Int) < (↑(mid + m - s) : Int))) true, .tt, .tt, .tt, .b (decide ((↑(mid + m - s) : Int) < (↑b : Int))) true] ⟨tP, o_a j1, tP, tP, o_a j2, tP, tP, trivial⟩ ?_
        refine gg [.a _ _] ⟨o_a j3, trivial⟩ ?_
        exact ge
      · obtain rfl := k3' (fun h => c3 h.2)
        clear k1' k2' k3' k1 k2 k3
        refine Wp.ev ?_
        refine gg [.i IntKind.i64 ((↑m : Int) - (↑a : Int)) ((↑m : Int) - (↑a : Int)), .b ((↑m : Int) - (↑a : Int) == 1) false, .i IntKind.i64 ((↑b : Int) - (↑m : Int)) ((↑b : Int) - (↑m : Int)), .b ((↑b : Int) - (↑m : Int) == 1) false, .i IntKind.i64 ((↑a : Int) + (↑b : Int)) ((↑(a + b) : Int)), .i IntKind.u64 ((↑(a + b) : Int)) ((↑(a + b) : Int)), .w ((0 : Int) ≤ (1 : Int)), .t (T.int IntKind.u64 (Int.fdiv (↑(a + b) : Int) 2)) (T.int IntKind.u64 (↑mid : Int)), .i IntKind.i64 (↑mid : Int) (↑mid : Int), .i IntKind.i64 ((↑mid : Int) + (↑m : Int)) ((↑(mid + m) : Int)), .b (decide ((↑m : Int) > (↑mid : Int))) true, .i IntKind.i64 ((↑(mid + m) : Int) - (↑b : Int)) ((↑(mid + m - b) : Int)), .i IntKind.i64 ((↑(mid + m) : Int) - 1) ((↑(mid + m - 1) : Int)), .a _ _, .i IntKind.i64 ((↑(mid + m) : Int) - (↑s : Int)) ((↑(mid + m - s) : Int)), .b (decide ((↑s : Int) < (↑m : Int))) true] ⟨oI, fE, oI, fE, oI, oU, oW, o_t (by rw [hf]), oI, oI, tP, oI, oI, o_a hbs, oI, tP, trivial⟩ ?_
        refine gg [.tt, .tt, .tt, .b (decide ((↑m : Int) < (↑(mid + m - s) : Int))) true, .a _ _, .b (decide ((↑a : Int) < (↑s : Int))) true, .tt, .tt, .tt, .b (decide ((↑s : Int) < (↑mid : Int))) true, .a _ _, .b (decide ((↑mid : Int) < (↑(mid + m - s) : Int))) true, .tt, .tt, .tt, .b (decide ((↑(mid + m - s) : Int) < (↑b : Int))) false] ⟨tP, o_a j1, tP, tP, o_a j2, tP, fP, trivial⟩ ?_
        exact ge
    · obtain rfl := k2' (fun h => c2 h.1)
      by_cases c3 : mid + m < b + s
      · have j3 := k3 c1.1 c3
        clear k1' k2' k3' k1 k2 k3
        omega
      · obtain rfl := k3' (fun h => c3 h.2)
        clear k1' k2' k3' k1 k2 k3
        refine Wp.ev ?_
        refine gg [.i IntKind.i64 ((↑m : Int) - (↑a : Int)) ((↑m : Int) - (↑a : Int)), .b ((↑m : Int) - (↑a : Int) == 1) false, .i IntKind.i64 ((↑b : Int) - (↑m : Int)) ((↑b : Int) - (↑m : Int)), .b ((↑b : Int) - (↑m : Int) == 1) false, .i IntKind.i64 ((↑a : Int) + (↑b : Int)) ((↑(a + b) : Int)), .i IntKind.u64 ((↑(a + b) : Int)) ((↑(a + b) : Int)), .w ((0 : Int) ≤ (1 : Int)), .t (T.int IntKind.u64 (Int.fdiv (↑(a + b) : Int) 2)) (T.int IntKind.u64 (↑mid : Int)), .i IntKind.i64 (↑mid : Int) (↑mid : Int), .i IntKind.i64 ((↑mid : Int) + (↑m : Int)) ((↑(mid + m) : Int)), .b (decide ((↑m : Int) > (↑mid : Int))) true, .i IntKind.i64 ((↑(mid + m) : Int) - (↑b : Int)) ((↑(mid + m - b) : Int)), .i IntKind.i64 ((↑(mid + m) : Int) - 1) ((↑(mid + m - 1) : Int)), .a _ _, .i IntKind.i64 ((↑(mid + m) : Int) - (↑s : Int)) ((↑(mid + m - s) : Int)), .b (decide ((↑s : Int) < (↑m : Int))) true] ⟨oI, fE, oI, fE, oI, oU, oW, o_t (by rw [hf]), oI, oI, tP, oI, oI, o_a hbs, oI, tP, trivial⟩ ?_
        refine gg [.tt, .tt, .tt, .b (decide ((↑m : Int) < (↑(mid + m - s) : Int))) true, .a _ _, .b (decide ((↑a : Int) < (↑s : Int))) false, .ff, .ff, .ff, .ff, .b (decide ((↑mid : Int) < (↑(mid + m - s) : Int))) true, .tt, .tt, .tt, .b (decide ((↑(mid + m - s) : Int) < (↑b : Int))) false] ⟨tP, o_a j1, fP, tP, fP, trivial⟩ ?_
        exact ge
  · obtain rfl := k1' c1
    by_cases c0 : s < m
    · have c4 : ¬ s < mid := fun h => c1 ⟨c0, h⟩
      obtain rfl := k2' (fun h => c4 h.2)
      by_cases c3 : mid + m < b + s
      · have j3 := k3 c0 c3
        clear k1' k2' k3' k1 k2 k3
        by_cases c2 : a < s
        · refine Wp.ev ?_
          refine gg [.i IntKind.i64 ((↑m : Int) - (↑a : Int)) ((↑m : Int) - (↑a : Int)), .b ((↑m : Int) - (↑a : Int) == 1) false, .i IntKind.i64 ((↑b : Int) - (↑m : Int)) ((↑b : Int) - (↑m : Int)), .b ((↑b : Int) - (↑m : Int) == 1) false, .i IntKind.i64 ((↑a : Int) + (↑b : Int)) ((↑(a + b) : Int)), .i IntKind.u64 ((↑(a + b) : Int)) ((↑(a + b) : Int)), .w ((0 : Int) ≤ (1 : Int)), .t (T.int IntKind.u64 (Int.fdiv (↑(a + b) : Int) 2)) (T.int IntKind.u64 (↑mid : Int)), .i IntKind.i64 (↑mid : Int) (↑mid : Int), .i IntKind.i64 ((↑mid : Int) + (↑m : Int)) ((↑(mid + m) : Int)), .b (decide ((↑m : Int) > (↑mid : Int))) true, .i IntKind.i64 ((↑(mid + m) : Int) - (↑b : Int)) ((↑(mid + m - b) : Int)), .i IntKind.i64 ((↑(mid + m) : Int) - 1) ((↑(mid + m - 1) : Int)), .a _ _, .i IntKind.i64 ((↑(mid + m) : Int) - (↑s : Int)) ((↑(mid + m - s) : Int)), .b (decide ((↑s : Int) < (↑m : Int))) true] ⟨oI, fE, oI, fE, oI, oU, oW, o_t (by rw [hf]), oI, oI, tP, oI, oI, o_a hbs, oI, tP, trivial⟩ ?_
          refine gg [.tt, .tt, .tt, .b (decide ((↑m : Int) < (↑(mid + m - s) : Int))) false, .b (decide ((↑a : Int) < (↑s : Int))) true, .tt, .tt, .tt, .b (decide ((↑s : Int) < (↑mid : Int))) false, .b (decide ((↑mid : Int) < (↑(mid + m - s) : Int))) true, .tt, .tt, .tt, .b (decide ((↑(mid + m - s) : Int) < (↑b : Int))) true, .a _ _] ⟨fP, tP, fP, tP, tP, o_a j3, trivial⟩ ?_
          exact ge
        · omega
      · obtain rfl := k3' (fun h => c3 h.2)
        clear k1' k2' k3' k1 k2 k3
        by_cases c2 : a < s
        · omega
        · omega
    · obtain rfl := k3' (fun h => c0 h.1)
      by_cases c4 : s < mid
      · have j2 := k2 (by omega) c4
        clear k1' k2' k3' k1 k2 k3
        omega
      · obtain rfl := k2' (fun h => c4 h.2)
        clear k1' k2' k3' k1 k2 k3
        by_cases c2 : a < s
        · omega
        · omega
theorem f_symMerge_Cross : ∀ (n : Nat) (P U V Q : List Cross) (a m b : Nat), U.length + V.length ≤ n → a = P.length → m = a + U.length → b = m + V.length → 0 < U.length → 0 < V.length → Sd Cross.less U → Sd Cross.less V → small (P ++ U ++ V ++ Q) →
    Is cx (.call 187 [.all 0 none, vi a, vi m, vi b, .t (.clo 129 [])] [.arr 15 ((P ++ U ++ V ++ Q).map Cross.enc) none false])
   ⟨.ret, [], [.arr 15 ((P ++ sortS Cross.less (U ++ V) ++ Q).map Cross.enc) none false]⟩ := by
  intro n
  induction n with
  | zero => intros; omega
  | succ n ih =>
    intro P U V Q a m b hl ha hm hb hu hv hU hV hn
    by_cases hu1 : U.length = 1
    · obtain ⟨x, rfl⟩ := List.length_eq_one_iff.1 hu1
      exact f_symMerge_first_Cross P V Q x a m b ha (by simpa using hm) hb hv hV hn
    · by_cases hv1 : V.length = 1
      · obtain ⟨y, rfl⟩ := List.length_eq_one_iff.1 hv1
        exact f_symMerge_last_Cross P U Q y a m b ha hm (by simpa using hb) (by omega) hU hn
      · obtain ⟨mid, hmid⟩ : ∃ mid, (a + b) / 2 = mid := ⟨_, rfl⟩
        obtain ⟨s0, r0, hs0⟩ : ∃ s0 r0, m ≤ mid ∧ s0 = a ∧ r0 = m ∨ mid < m ∧ s0 = mid + m - b ∧ r0 = mid := by
          by_cases h : m ≤ mid
          · exact ⟨a, m, .inl ⟨h, rfl, rfl⟩⟩
          · exact ⟨mid + m - b, mid, .inr ⟨by omega, rfl, rfl⟩⟩
        have hlen : (P ++ U ++ V ++ Q).length = b + Q.length := by simp; omega
        have hbs := f_symMerge_bs3_Cross (P ++ U ++ V ++ Q) a m b mid (mid + m) (mid + m - 1) hn (r0 - s0) s0 r0 (by omega) (by omega) (by omega) (by omega) (by omega)
        have hp : (fun c => !Cross.less (gt (P ++ U ++ V ++ Q) (mid + m - 1 - c)) (gt (P ++ U ++ V ++ Q) c)) = fun c => !Cross.less (gt (P ++ U ++ V ++ Q) (mid + m - 1 - c)) (gt (P ++ U ++ V ++ Q) c) := rfl
        obtain ⟨k1, k2, U1, U2, V1, V2, e1, e2, l1, l2, e3, u1, u2, v1, v2⟩ := merge_gen Cross_swo (Q := Q) ha hm hb hU hV hu hv hmid hs0 (d := r0 - s0) (by omega) rfl
        generalize bs _ (r0 - s0) s0 r0 = s at *
        subst e1 e2
        simp only [List.length_append] at hl hm hb hu hv hlen hu1 hv1
        have hsm : ∀ {X Y : List Cross}, X.length = Y.length → small Y → small X := fun h k => by unfold small at *; rw [h]; exact k
        have g1 : s < m → s < mid → Is cx (.call 194 [.all 0 none, vi s, vi m, vi (mid + m - s : Nat), .t (.clo 129 [])] [.arr 15 ((P ++ (U1 ++ U2) ++ (V1 ++ V2) ++ Q).map Cross.enc) none false]) ⟨.ret, [], [.arr 15 ((P ++ U1 ++ V1 ++ (U2 ++ V2 ++ Q)).map Cross.enc) none false]⟩ := by
          intro c1 c2
          have := f_rotate_Cross (P ++ (U1 ++ U2) ++ (V1 ++ V2) ++ Q) s m (mid + m - s) c1 (by omega) (by simp; omega) hn
          have e : (P ++ (U1 ++ U2) ++ (V1 ++ V2) ++ Q).take s ++ seg (P ++ (U1 ++ U2) ++ (V1 ++ V2) ++ Q) m (mid + m - s) ++ seg (P ++ (U1 ++ U2) ++ (V1 ++ V2) ++ Q) s m ++ (P ++ (U1 ++ U2) ++ (V1 ++ V2) ++ Q).drop (mid + m - s) = P ++ U1 ++ V1 ++ (U2 ++ V2 ++ Q) := by
            have f1 : P ++ (U1 ++ U2) ++ (V1 ++ V2) ++ Q = (P ++ U1) ++ (U2 ++ (V1 ++ (V2 ++ Q))) := by simp
            have f2 : P ++ (U1 ++ U2) ++ (V1 ++ V2) ++ Q = (P ++ U1 ++ U2) ++ (V1 ++ (V2 ++ Q)) := by simp
            have f3 : P ++ (U1 ++ U2) ++ (V1 ++ V2) ++ Q = (P ++ U1 ++ U2 ++ V1) ++ (V2 ++ Q) := by simp
            have g1 : (P ++ (U1 ++ U2) ++ (V1 ++ V2) ++ Q).take s = P ++ U1 := by rw [f1, List.take_left' (by simp; omega)]
            have g2 : seg (P ++ (U1 ++ U2) ++ (V1 ++ V2) ++ Q) m (mid + m - s) = V1 := by unfold seg; rw [f2, List.drop_left' (by simp; omega), List.take_left' (by omega)]
            have g3 : seg (P ++ (U1 ++ U2) ++ (V1 ++ V2) ++ Q) s m = U2 := by unfold seg; rw [f1, List.drop_left' (by simp; omega), List.take_left' (by omega)]
            have g4 : (P ++ (U1 ++ U2) ++ (V1 ++ V2) ++ Q).drop (mid + m - s) = V2 ++ Q := by rw [f3, List.drop_left' (by simp; omega)]
            rw [g1, g2, g3, g4]; simp
          rw [e] at this
          exact this
        have g1' : ¬ (s < m ∧ s < mid) → (P ++ (U1 ++ U2) ++ (V1 ++ V2) ++ Q) = (P ++ U1 ++ V1 ++ (U2 ++ V2 ++ Q)) := by
          intro c
          have : U2 = [] ∨ V1 = [] := by
            by_cases h : s < m
            · right; exact List.eq_nil_of_length_eq_zero (by omega)
            · left; exact List.eq_nil_of_length_eq_zero (by omega)
          rcases this with rfl | rfl <;> simp
        have g2 : a < s → s < mid → Is cx (.call 187 [.all 0 none, vi a, vi s, vi mid, .t (.clo 129 [])] [.arr 15 ((P ++ U1 ++ V1 ++ (U2 ++ V2 ++ Q)).map Cross.enc) none false]) ⟨.ret, [], [.arr 15 ((P ++ sortS Cross.less (U1 ++ V1) ++ (U2 ++ V2 ++ Q)).map Cross.enc) none false]⟩ := by
          intro c1 c2
          exact ih P U1 V1 (U2 ++ V2 ++ Q) a s mid (by omega) ha (by omega) (by omega) (by omega) (by omega) u1 v1 (hsm (by simp; omega) hn)
        have g2' : ¬ (a < s ∧ s < mid) → (P ++ U1 ++ V1 ++ (U2 ++ V2 ++ Q)) = (P ++ sortS Cross.less (U1 ++ V1) ++ (U2 ++ V2 ++ Q)) := by
          intro c
          have : U1 = [] ∨ V1 = [] := by
            by_cases h : a < s
            · right; exact List.eq_nil_of_length_eq_zero (by omega)
            · left; exact List.eq_nil_of_length_eq_zero (by omega)
          rcases this with rfl | rfl
          · simp [sortS_self Cross_swo v1]
          · simp [sortS_self Cross_swo u1]
        have g3 : s < m → mid + m < b + s → Is cx (.call 187 [.all 0 none, vi mid, vi (mid + m - s : Nat), vi b, .t (.clo 129 [])] [.arr 15 ((P ++ sortS Cross.less (U1 ++ V1) ++ (U2 ++ V2 ++ Q)).map Cross.enc) none false]) ⟨.ret, [], [.arr 15 ((P ++ sortS Cross.less ((U1 ++ U2) ++ (V1 ++ V2)) ++ Q).map Cross.enc) none false]⟩ := by
          intro c1 c2
          have hL : (sortS Cross.less (U1 ++ V1)).length = U1.length + V1.length := by rw [sortS_len Cross_swo]; simp
          have := ih (P ++ sortS Cross.less (U1 ++ V1)) U2 V2 Q mid (mid + m - s) b (by omega) (by simp; omega) (by omega) (by omega) (by omega) (by omega) u2 v2 (hsm (by simp; omega) hn)
          rw [← e3]
          simpa using this
        have g3' : ¬ (s < m ∧ mid + m < b + s) → (P ++ sortS Cross.less (U1 ++ V1) ++ (U2 ++ V2 ++ Q)) = (P ++ sortS Cross.less ((U1 ++ U2) ++ (V1 ++ V2)) ++ Q) := by
          intro c
          have : U2 = [] ∨ V2 = [] := by
            by_cases h : s < m
            · right; exact List.eq_nil_of_length_eq_zero (by omega)
            · left; exact List.eq_nil_of_length_eq_zero (by omega)
          rw [← e3]
          rcases this with rfl | rfl
          · simp [sortS_self Cross_swo v2]
          · simp [sortS_self Cross_swo u2]
        rcases hs0 with ⟨hc, rfl, rfl⟩ | ⟨hc, rfl, rfl⟩
        · exact f_symMerge_genA_Cross _ _ _ _ s0 r0 b mid s hmid hc (by omega) (by omega) (by simp; omega) hn ⟨k1, k2⟩ hbs g1 g1' g2 g2' g3 g3'
        · exact f_symMerge_genB_Cross _ _ _ _ a m b r0 s hmid hc (by omega) (by omega) (by simp; omega) hn ⟨k1, k2⟩ hbs g1 g1' g2 g2' g3 g3'
theorem f_symMerge_genA_Entity (A0 A1 A2 A3 : List Entity) (a m b mid s : Nat) (hmid : (a + b) / 2 = mid) (hc : m ≤ mid)
    (h1 : a + 1 < m) (h2 : m + 1 < b) (hb : b ≤ A0.length) (hn : small A0) (hs : a ≤ s ∧ s ≤ m)
    (hbs : Is cx (.loop 182 [0, 0, 1, 1, 1, 1, 1, 1, 1] 1 [.all 0 none, vi a, vi m, vi b, .t (.clo 88 []), vi mid, vi (mid + m : Nat), vi a, vi m, vi (mid + m - 1 : Nat)] [.arr 9 (A0.map Entity.enc) none false])
      ⟨.exit 8, [.all 0 none, vi a, vi m, vi b, .t (.clo 88 []), vi mid, vi (mid + m : Nat), vi s, vi s, vi (mid + m - 1 : Nat)], [.arr 9 (A0.map Entity.enc) none false]⟩)
    (k1 : s < m → s < mid → Is cx (.call 193 [.all 0 none, vi s, vi m, vi (mid + m - s : Nat), .t (.clo 88 [])] [.arr 9 (A0.map Entity.enc) none false]) ⟨.ret, [], [.arr 9 (A1.map Entity.enc) none false]⟩)
    (k1' : ¬ (s < m ∧ s < mid) → A0 = A1)
    (k2 : a < s → s < mid → Is cx (.call 182 [.all 0 none, vi a, vi s, vi mid, .t (.clo 88 [])] [.arr 9 (A1.map Entity.enc) none false]) ⟨.ret, [], [.arr 9 (A2.map Entity.enc) none false]⟩)
    (k2' : ¬ (a < s ∧ s < mid) → A1 = A2)
    (k3 : s < m → mid + m < b + s → Is cx (.call 182 [.all 0 none, vi mid, vi (mid + m - s : Nat), vi b, .t (.clo 88 [])] [.arr 9 (A2.map Entity.enc) none false]) ⟨.ret, [], [.arr 9 (A3.map Entity.enc) none false]⟩)
    (k3' : ¬ (s < m ∧ mid + m < b + s) → A2 = A3) :
    Is cx (.call 182 [.all 0 none, vi a, vi m, vi b, .t (.clo 88 [])] [.arr 9 (A0.map Entity.enc) none false])
   ⟨.ret, [], [.arr 9 (A3.map Entity.enc) none false]⟩ := by
  have hf : Int.fdiv ((a + b : Nat) : Int) 2 = (mid : Nat) := by rw [Int.fdiv_eq_ediv_of_nonneg _ (by omega)]; omega
  have hmm : a < mid ∧ mid < b := by omega
  unfold small at hn
  have e1 : ((mid + m : Nat) : Int) - 1 = (mid + m - 1 : Nat) := by omega
  have e2 : ((mid + m : Nat) : Int) - s = (mid + m - s : Nat) := by omega
  by_cases c1 : s < m ∧ s < mid
  · have j1 := k1 c1.1 c1.2
    by_cases c2 : a < s
    · have j2 := k2 c2 c1.2
      by_cases c3 : mid + m < b + s
      · have j3 := k3 c1.1 c3
        clear k1' k2' k3' k1 k2 k3
        refine Wp.ev ?_
        refine gg [.i IntKind.i64 ((↑m : Int) - (↑a : Int)) ((↑m : Int) - (↑a : Int)), .b ((↑m : Int) - (↑a : Int) == 1) false, .i IntKind.i64 ((↑b : Int) - (↑m : Int)) ((↑b : Int) - (↑m : Int)), .b ((↑b : Int) - (↑m : Int) == 1) false, .i IntKind.i64 ((↑a : Int) + (↑b : Int)) ((↑(a + b) : Int)), .i IntKind.u64 ((↑(a + b) : Int)) ((↑(a + b) : Int)), .w ((0 : Int) ≤ (1 : Int)), .t (T.int IntKind.u64 (Int.fdiv (↑(a + b) : Int) 2)) (T.int IntKind.u64 (↑mid : Int)), .i IntKind.i64 (↑mid : Int) (↑mid : Int), .i IntKind.i64 ((↑mid : Int) + (↑m : Int)) ((↑(mid + m) : Int)), .b (decide ((↑m : Int) > (↑mid : Int))) false, .i IntKind.i64 ((↑(mid + m) : Int) - 1) ((↑(mid + m - 1) : Int)), .a _ _, .i IntKind.i64 ((↑(mid + m) : Int) - (↑s : Int)) ((↑(mid + m - s) : Int)), .b (decide ((↑s : Int) < (↑m : Int))) true, .tt] ⟨oI, fE, oI, fE, oI, oU, oW, o_t (by rw [hf]), oI, oI, fP, oI, o_a hbs, oI, tP, trivial⟩ ?_
        refine gg [.tt, .tt, .b (decide ((↑m : Int) < (↑(mid + m - s) : Int))) true, .a _ _, .b (decide ((↑a : Int) < (↑s : Int))) true, .tt, .tt, .tt, .b (decide ((↑s : Int) < (↑mid : Int))) true, .a _ _, .b (decide ((↑mid : Int) < (↑(mid + m - s) : Int))) true, .tt, .tt, .tt, .b (decide ((↑(mid + m - s) : Int) < (↑b : Int))) true, .a _ _] ⟨tP, o_a j1, tP, tP, o_a j2, tP, tP, o_a j3, trivial⟩ ?_
        exact ge
      · obtain rfl := k3' (fun h => c3 h.2)
        clear k1' k2' k3' k1 k2 k3
        omega
    · obtain rfl := k2' (fun h => c2 h.1)
      by_cases c3 : mid + m < b + s
      · have j3 := k3 c1.1 c3
        clear k1' k2' k3' k1 k2 k3
        refine Wp.ev ?_
        refine gg [.i IntKind.i64 ((↑m : Int) - (↑a : Int)) ((↑m : Int) - (↑a : Int)), .b ((↑m : Int) - (↑a : Int) == 1) false, .i IntKind.i64 ((↑b : Int) - (↑m : Int)) ((↑b : Int) - (↑m : Int)), .b ((↑b : Int) - (↑m : Int) == 1) false, .i IntKind.i64 ((↑a : Int) + (↑b : Int)) ((↑(a + b) : Int)), .i IntKind.u64 ((↑(a + b) : Int)) ((↑(a + b) : Int)), .w ((0 : Int) ≤ (1 : Int)), .t (T.int IntKind.u64 (Int.fdiv (↑(a + b) : Int) 2)) (T.int IntKind.u64 (↑mid : Int)), .i IntKind.i64 (↑mid : Int) (↑mid : Int), .i IntKind.i64 ((↑mid : Int) + (↑m : Int)) ((↑(mid + m) : Int)), .b (decide ((↑m : Int) > (↑mid : Int))) false, .i IntKind.i64 ((↑(mid + m) : Int) - 1) ((↑(mid + m - 1) : Int)), .a _ _, .i IntKind.i64 ((↑(mid + m) : Int) - (↑s : Int)) ((↑(mid + m - s) : Int)), .b (decide ((↑s : Int) < (↑m : Int))) true, .tt] ⟨oI, fE, oI, fE, oI, oU, oW, o_t (by rw [hf]), oI, oI, fP, oI, o_a hbs, oI, tP, trivial⟩ ?_
        refine gg [.tt, .tt, .b (decide ((↑m : Int) < (↑(mid + m - s) : Int))) true, .a _ _, .b (decide ((↑a : Int) < (↑s : Int))) false, .ff, .ff, .ff, .ff, .b (decide ((↑mid : Int) < (↑(mid + m - s) : Int))) true, .tt, .tt, .tt, .b (decide ((↑(mid + m - s) : Int) < (↑b : Int))) true, .a _ _] ⟨tP, o_a j1, fP, tP, tP, o_a j3, trivial⟩ ?_
        exact ge
      · obtain rfl := k3' (fun h => c3 h.2)
        clear k1' k2' k3' k1 k2 k3
        refine Wp.ev ?_
        refine gg [.i IntKind.i64 ((↑m : Int) - (↑a : Int)) ((↑m : Int) - (↑a : Int)), .b ((↑m : Int) - (↑a : Int) == 1) false, .i IntKind.i64 ((↑b : Int) - (↑m : Int)) ((↑b : Int) - (↑m : Int)), .b ((↑b : Int) - (↑m : Int) == 1) false, .i IntKind.i64 ((↑a : Int) + (↑b : Int)) ((↑(a + b) : Int)), .i IntKind.u64 ((↑(a + b) : Int)) ((↑(a + b) : Int)), .w ((0 : Int) ≤ (1 : Int)), .t (T.int IntKind.u64 (Int.fdiv (↑(a + b) : Int) 2)) (T.int IntKind.u64 (↑mid : Int)), .i IntKind.i64 (↑mid : Int) (↑mid : Int), .i IntKind.i64 ((↑mid : Int) + (↑m : Int)) ((↑(mid + m) : Int)), .b (decide ((↑m : Int) > (↑mid : Int))) false, .i IntKind.i64 ((↑(mid + m) : Int) - 1) ((↑(mid + m - 1) : Int)), .a _ _, .i IntKind.i64 ((↑(mid + m) : Int) - (↑s : Int)) ((↑(mid + m - s) : Int)), .b (decide ((↑s : Int) < (↑m : Int))) true, .tt] ⟨oI, fE, oI, fE, oI, oU, oW, o_t (by rw [hf]), oI, oI, fP, oI, o_a hbs, oI, tP, trivial⟩ ?_
        refine gg [.tt, .tt, .b (decide ((↑m : Int) < (↑(mid + m - s) : Int))) true, .a _ _, .b (decide ((↑a : Int) < (↑s : Int))) false, .ff, .ff, .ff, .ff, .b (decide ((↑mid : Int) < (↑(mid + m - s) : Int))) true, .tt, .tt, .tt, .b (decide ((↑(mid + m - s) : Int) < (↑b : Int))) false] ⟨tP, o_a j1, fP, tP, fP, trivial⟩ ?_
        exact ge
  · obtain rfl := k1' c1
    by_cases c0 : s < m
    · have c4 : ¬ s < mid := fun h => c1 ⟨c0, h⟩
      obtain rfl := k2' (fun h => c4 h.2)
      by_cases c3 : mid + m < b + s
      · have j3 := k3 c0 c3
        clear k1' k2' k3' k1 k2 k3
        by_cases c2 : a < s
        · omega
        · omega
      · obtain rfl := k3' (fun h => c3 h.2)
        clear k1' k2' k3' k1 k2 k3
        by_cases c2 : a < s
        · omega
        · omega
    · obtain rfl := k3' (fun h => c0 h.1)
      by_cases c4 : s < mid
      · have j2 := k2 (by omega) c4
        clear k1' k2' k3' k1 k2 k3
        refine Wp.ev ?_
        refine gg [.i IntKind.i64 ((↑m : Int) - (↑a : Int)) ((↑m : Int) - (↑a : Int)), .b ((↑m : Int) - (↑a : Int) == 1) false, .i IntKind.i64 ((↑b : Int) - (↑m : Int)) ((↑b : Int) - (↑m : Int)), .b ((↑b : Int) - (↑m : Int) == 1) false, .i IntKind.i64 ((↑a : Int) + (↑b : Int)) ((↑(a + b) : Int)), .i IntKind.u64 ((↑(a + b) : Int)) ((↑(a + b) : Int)), .w ((0 : Int) ≤ (1 : Int)), .t (T.int IntKind.u64 (Int.fdiv (↑(a + b) : Int) 2)) (T.int IntKind.u64 (↑mid : Int)), .i IntKind.i64 (↑mid : Int) (↑mid : Int), .i IntKind.i64 ((↑mid : Int) + (↑m : Int)) ((↑(mid + m) : Int)), .b (decide ((↑m : Int) > (↑mid : Int))) false, .i IntKind.i64 ((↑(mid + m) : Int) - 1) ((↑(mid + m - 1) : Int)), .a _ _, .i IntKind.i64 ((↑(mid + m) : Int) - (↑s : Int)) ((↑(mid + m - s) : Int)), .b (decide ((↑s : Int) < (↑m : Int))) false, .ff] ⟨oI, fE, oI, fE, oI, oU, oW, o_t (by rw [hf]), oI, oI, fP, oI, o_a hbs, oI, fP, trivial⟩ ?_
        refine gg [.ff, .ff, .ff, .b (decide ((↑a : Int) < (↑s : Int))) true, .tt, .tt, .tt, .b (decide ((↑s : Int) < (↑mid : Int))) true, .a _ _, .b (decide ((↑mid : Int) < (↑(mid + m - s) : Int))) false, .ff, .ff, .ff, .ff] ⟨tP, tP, o_a j2, fP, trivial⟩ ?_
        exact ge
      · obtain rfl := k2' (fun h => c4 h.2)
        clear k1' k2' k3' k1 k2 k3
        by_cases c2 : a < s
        · refine Wp.ev ?_
          refine gg [.i IntKind.i64 ((↑m : Int) - (↑a : Int)) ((↑m : Int) - (↑a : Int)), .b ((↑m : Int) - (↑a : Int) == 1) false, .i IntKind.i64 ((↑b : Int) - (↑m : Int)) ((↑b : Int) - (↑m : Int)), .b ((↑b : Int) - (↑m : Int) == 1) false, .i IntKind.i64 ((↑a : Int) + (↑b : Int)) ((↑(a + b) : Int)), .i IntKind.u64 ((↑(a + b) : Int)) ((↑(a + b) : Int)), .w ((0 : Int) ≤ (1 : Int)), .t (T.int IntKind.u64 (Int.fdiv (↑(a + b) : Int) 2)) (T.int IntKind.u64 (↑mid : Int)), .i IntKind.i64 (↑mid : Int) (↑mid : Int), .i IntKind.i64 ((↑mid : Int) + (↑m : Int)) ((↑(mid + m) : Int)), .b (decide ((↑m : Int) > (↑mid : Int))) false, .i IntKind.i64 ((↑(mid + m) : Int) - 1) ((↑(mid + m - 1) : Int)), .a _ _, .i IntKind.i64 ((↑(mid + m) : Int) - (↑s : Int)) ((↑(mid + m - s) : Int)), .b (decide ((↑s : Int) < (↑m : Int))) false, .ff] ⟨oI, fE, oI, fE, oI, oU, oW, o_t (by rw [hf]), oI, oI, fP, oI, o_a hbs, oI, fP, trivial⟩ ?_
          refine gg [.ff, .ff, .ff, .b (decide ((↑a : Int) < (↑s : Int))) true, .tt, .tt, .tt, .b (decide ((↑s : Int) < (↑mid : Int))) false, .b (decide ((↑mid : Int) < (↑(mid + m - s) : Int))) false, .ff, .ff, .ff, .ff] ⟨tP, fP, fP, trivial⟩ ?_
          exact ge
        · omega
theorem f_symMerge_genB_Entity (A0 A1 A2 A3 : List Entity) (a m b mid s : Nat) (hmid : (a + b) / 2 = mid) (hc : mid < m)
    (h1 : a + 1 < m) (h2 : m + 1 < b) (hb : b ≤ A0.length) (hn : small A0) (hs : mid + m - b ≤ s ∧ s ≤ mid)
    (hbs : Is cx (.loop 182 [0, 0, 1, 1, 1, 1, 1, 1, 1] 1 [.all 0 none, vi a, vi m, vi b, .t (.clo 88 []), vi mid, vi (mid + m : Nat), vi (mid + m - b : Nat), vi mid, vi (mid + m - 1 : Nat)] [.arr 9 (A0.map Entity.enc) none false])
      ⟨.exit 8, [.all 0 none, vi a, vi m, vi b, .t (.clo 88 []), vi mid, vi (mid + m : Nat), vi s, vi s, vi (mid + m - 1 : Nat)], [.arr 9 (A0.map Entity.enc) none false]⟩)
    (k1 : s < m → s < mid → Is cx (.call 193 [.all 0 none, vi s, vi m, vi (mid + m - s : Nat), .t (.clo 88 [])] [.arr 9 (A0.map Entity.enc) none false]) ⟨.ret, [], [.arr 9 (A1.map Entity.enc) none false]⟩)
    (k1' : ¬ (s < m ∧ s < mid) → A0 = A1)
    (k2 : a < s → s < mid → Is cx (.call 182 [.all 0 none, vi a, vi s, vi mid, .t (.clo 88 [])] [.arr 9 (A1.map Entity.enc) none false]) ⟨.ret, [], [.arr 9 (A2.map Entity.enc) none false]⟩)
    (k2' : ¬ (a < s ∧ s < mid) → A1 = A2)
    (k3 : s < m → mid + m < b + s → Is cx (.call 182 [.all 0 none, vi mid, vi (mid + m - s : Nat), vi b, .t (.clo 88 [])] [.arr 9 (A2.map Entity.enc) none false]) ⟨.ret, [], [.arr 9 (A3.map Entity.enc) none false]⟩)
    (k3' : ¬ (s < m ∧ mid + m < b + s) → A2 = A3) :
    Is cx (.call 182 [.all 0 none, vi a, vi m, vi b, .t (.clo 88 [])] [.arr 9 (A0.map Entity.enc) none false])
   ⟨.ret, [], [.arr 9 (A3.map Entity.enc) none false]⟩ := by
  have hf : Int.fdiv ((a + b : Nat) : Int) 2 = (mid : Nat) := by rw [Int.fdiv_eq_ediv_of_nonneg _ (by omega)]; omega
  have hmm : a < mid ∧ mid < b := by omega
  unfold small at hn
  have e1 : ((mid + m : Nat) : Int) - 1 = (mid + m - 1 : Nat) := by omega
  have e2 : ((mid + m : Nat) : Int) - s = (mid + m - s : Nat) := by omega
  have e3 : ((mid + m : Nat) : Int) - b = (mid + m - b : Nat) := by omega
  by_cases c1 : s < m ∧ s < mid
  · have j1 := k1 c1.1 c1.2
    by_cases c2 : a < s
    · have j2 := k2 c2 c1.2
      by_cases c3 : mid + m < b + s
      · have j3 := k3 c1.1 c3
        clear k1' k2' k3' k1 k2 k3
        refine Wp.ev ?_
        refine gg [.i IntKind.i64 ((↑m : Int) - (↑a : Int)) ((↑m : Int) - (↑a : Int)), .b ((↑m : Int) - (↑a : Int) == 1) false, .i IntKind.i64 ((↑b : Int) - (↑m : Int)) ((↑b : Int) - (↑m : Int)), .b ((↑b : Int) - (↑m : Int) == 1) false, .i IntKind.i64 ((↑a : Int) + (↑b : Int)) ((↑(a + b) : Int)), .i IntKind.u64 ((↑(a + b) : Int)) ((↑(a + b) : Int)), .w ((0 : Int) ≤ (1 : Int)), .t (T.int IntKind.u64 (Int.fdiv (↑(a + b) : Int) 2)) (T.int IntKind.u64 (↑mid : Int)), .i IntKind.i64 (↑mid : Int) (↑mid : Int), .i IntKind.i64 ((↑mid : Int) + (↑m : Int)) ((↑(mid + m) : Int)), .b (decide ((↑m : Int) > (↑mid : Int))) true, .i IntKind.i64 ((↑(mid + m) : Int) - (↑b : Int)) ((↑(mid + m - b) : Int)), .i IntKind.i64 ((↑(mid + m) : Int) - 1) ((↑(mid + m - 1) : Int)), .a _ _, .i IntKind.i64 ((↑(mid + m) : Int) - (↑s : Int)) ((↑(mid + m - s) : Int)), .b (decide ((↑s : Int) < (↑m : Int))) true] ⟨oI, fE, oI, fE, oI, oU, oW, o_t (by rw [hf]), oI, oI, tP, oI, oI, o_a hbs, oI, tP, trivial⟩ ?_
        refine gg [.tt, .tt, .tt, .b (decide ((↑m : Int) < (↑(mid + m - s) : Int))) true, .a _ _, .b (decide ((↑a : Int) < (↑s : Int))) true, .tt, .tt, .tt, .b (decide ((↑s : Int) < (↑mid : Int))) true, .a _ _, .b (decide ((↑mid : Int) < (↑(mid + m - s) : Int))) true, .tt, .tt, .tt, .b (decide ((↑(mid + m - s) : Int) < (↑b : Int))) true] ⟨tP, o_a j1, tP, tP, o_a j2, tP, tP, trivial⟩ ?_
        refine gg [.a _ _] ⟨o_a j3, trivial⟩ ?_
        exact ge
      · obtain rfl := k3' (fun h => c3 h.2)
        clear k1' k2' k3' k1 k2 k3
        refine Wp.ev ?_
        refine gg [.i IntKind.i64 ((↑m : Int) - (↑a : Int)) ((↑m : Int) - (↑a : Int)), .b ((↑m : Int) - (↑a : Int) == 1) false, .i IntKind.i64 ((↑b : Int) - (↑m : Int)) ((↑b : Int) - (↑m : Int)), .b ((↑b : Int) - (↑m : Int) == 1) false, .i IntKind.i64 ((↑a : Int) + (↑b : Int)) ((↑(a + b) : Int)), .i IntKind.u64 ((↑(a + b) : Int)) ((↑(a + b) : Int)), .w ((0 : Int) ≤ (1 : Int)), .t (T.int IntKind.u64 (Int.fdiv (↑(a + b) : Int) 2)) (T.int IntKind.u64 (↑mid : Int)), .i IntKind.i64 (↑mid : Int) (↑mid : Int), .i IntKind.i64 ((↑mid : Int) + (↑m : Int)) ((↑(mid + m) : Int)), .b (decide ((↑m : Int) > (↑mid : Int))) true, .i IntKind.i64 ((↑(mid + m) : Int) - (↑b : Int)) ((↑(mid + m - b) : Int)), .i IntKind.i64 ((↑(mid + m) : Int) - 1) ((↑(mid + m - 1) : Int)), .a _ _, .i IntKind.i64 ((↑(mid + m) : Int) - (↑s : Int)) ((↑(mid + m - s) : Int)), .b (decide ((↑s : Int) < (↑m : Int))) true] ⟨oI, fE, oI, fE, oI, oU, oW, o_t (by rw [hf]), oI, oI, tP, oI, oI, o_a hbs, oI, tP, trivial⟩ ?_
        refine gg [.tt, .tt, .tt, .b (decide ((↑m : Int) < (↑(mid + m - s) : Int))) true, .a _ _, .b (decide ((↑a : Int) < (↑s : Int))) true, .tt, .tt, .tt, .b (decide ((↑s : Int) < (↑mid : Int))) true, .a _ _, .b (decide ((↑mid : Int) < (↑(mid + m - s) : Int))) true, .tt, .tt, .tt, .b (decide ((↑(mid + m - s) : Int) < (↑b : Int))) false] ⟨tP, o_a j1, tP, tP, o_a j2, tP, fP, trivial⟩ ?_
        exact ge
    · obtain rfl := k2' (fun h => c2 h.1)
      by_cases c3 : mid + m < b + s
      · have j3 := k3 c1.1 c3
        clear k1' k2' k3' k1 k2 k3
        omega
      · obtain rfl := k3' (fun h => c3 h.2)
        clear k1' k2' k3' k1 k2 k3
        refine Wp.ev ?_
        refine gg [.i IntKind.i64 ((↑m : Int) - (↑a : Int)) ((↑m : Int) - (↑a : Int)), .b ((↑m : Int) - (↑a : Int) == 1) false, .i IntKind.i64 ((↑b : Int) - (↑m : Int)) ((↑b : Int) - (↑m : Int)), .b ((↑b : Int) - (↑m : Int) == 1) false, .i IntKind.i64 ((↑a : Int) + (↑b : Int)) ((↑(a + b) : Int)), .i IntKind.u64 ((↑(a + b) : Int)) ((↑(a + b) : Int)), .w ((0 : Int) ≤ (1 : Int)), .t (T.int IntKind.u64 (Int.fdiv (↑(a + b) : Int) 2)) (T.int IntKind.u64 (↑mid : Int)), .i IntKind.i64 (↑mid : Int) (↑mid : Int), .i IntKind.i64 ((↑mid : Int) + (↑m : Int)) ((↑(mid + m) : Int)), .b (decide ((↑m : Int) > (↑mid : Int))) true, .i IntKind.i64 ((↑(mid + m) : Int) - (↑b : Int)) ((↑(mid + m - b) : Int)), .i IntKind.i64 ((↑(mid + m) : Int) - 1) ((↑(mid + m - 1) : Int)), .a _ _, .i IntKind.i64 ((↑(mid + m) : Int) - (↑s : Int)) ((↑(mid + m - s) : Int)), .b (decide ((↑s : Int) < (↑m : Int))) true] ⟨oI, fE, oI, fE, oI, oU, oW, o_t (by rw [hf]), oI, oI, tP, oI, oI, o_a hbs, oI, tP, trivial⟩ ?_
        refine gg [.tt, .tt, .tt, .b (decide ((↑m : Int) < (↑(mid + m - s) : Int))) true, .a _ _, .b (decide ((↑a : Int) < (↑s : Int))) false, .ff, .ff, .ff, .ff, .b (decide ((↑mid : Int) < (↑(mid + m - s) : Int))) true, .tt, .tt, .tt, .b (decide ((↑(mid + m - s) : Int) < (↑b : Int))) false] ⟨tP, o_a j1, fP, tP, fP, trivial⟩ ?_
        exact ge
  · obtain rfl := k1' c1
    by_cases c0 : s < m
    · have c4 : ¬ s < mid := fun h => c1 ⟨c0, h⟩
      obtain rfl := k2' (fun h => c4 h.2)
      by_cases c3 : mid + m < b + s
      · have j3 := k3 c0 c3
        clear k1' k2' k3' k1 k2 k3
        by_cases c2 : a < s
        · refine Wp.ev ?_
          refine gg [.i IntKind.i64 ((↑m : Int) - (↑a : Int)) ((↑m : Int) - (↑a : Int)), .b ((↑m : Int) - (↑a : Int) == 1) false, .i IntKind.i64 ((↑b : Int) - (↑m : Int)) ((↑b : Int) - (↑m : Int)), .b ((↑b : Int) - (↑m : Int) == 1) false, .i IntKind.i64 ((↑a : Int) + (↑b : Int)) ((↑(a + b) : Int)), .i IntKind.u64 ((↑(a + b) : Int)) ((↑(a + b) : Int)), .w ((0 : Int) ≤ (1 : Int)), .t (T.int IntKind.u64 (Int.fdiv (↑(a + b) : Int) 2)) (T.int IntKind.u64 (↑mid : Int)), .i IntKind.i64 (↑mid : Int) (↑mid : Int), .i IntKind.i64 ((↑mid : Int) + (↑m : Int)) ((↑(mid + m) : Int)), .b (decide ((↑m : Int) > (↑mid : Int))) true, .i IntKind.i64 ((↑(mid + m) : Int) - (↑b : Int)) ((↑(mid + m - b) : Int)), .i IntKind.i64 ((↑(mid + m) : Int) - 1) ((↑(mid + m - 1) : Int)), .a _ _, .i IntKind.i64 ((↑(mid + m) : Int) - (↑s : Int)) ((↑(mid + m - s) : Int)), .b (decide ((↑s : Int) < (↑m : Int))) true] ⟨oI, fE, oI, fE, oI, oU, oW, o_t (by rw [hf]), oI, oI, tP, oI, oI, o_a hbs, oI, tP, trivial⟩ ?_
          refine gg [.tt, .tt, .tt, .b (decide ((↑m : Int) < (↑(mid + m - s) : Int))) false, .b (decide ((↑a : Int) < (↑s : Int))) true, .tt, .tt, .tt, .b (decide ((↑s : Int) < (↑mid : Int))) false, .b (decide ((↑mid : Int) < (↑(mid + m - s) : Int))) true, .tt, .tt, .tt, .b (decide ((↑(mid + m - s) : Int) < (↑b : Int))) true, .a _ _] ⟨fP, tP, fP, tP, tP, o_a j3, trivial⟩ ?_
          exact ge
        · omega
      · obtain rfl := k3' (fun h => c3 h.2)
        clear k1' k2' k3' k1 k2 k3
        by_cases c2 : a < s
        · omega
        · omega
    · obtain rfl := k3' (fun h => c0 h.1)
      by_cases c4 : s < mid
      · have j2 := k2 (by omega) c4
        clear k1' k2' k3' k1 k2 k3
        omega
      · obtain rfl := k2' (fun h => c4 h.2)
        clear k1' k2' k3' k1 k2 k3
        by_cases c2 : a < s
        · omega
        · omega
theorem f_symMerge_Entity : ∀ (n : Nat) (P U V Q : List Entity) (a m b : Nat), U.length + V.length ≤ n → a = P.length → m = a + U.length → b = m + V.length → 0 < U.length → 0 < V.length → Sd Entity.less U → Sd Entity.less V → small (P ++ U ++ V ++ Q) →
    Is cx (.call 182 [.all 0 none, vi a, vi m, vi b, .t (.clo 88 [])] [.arr 9 ((P ++ U ++ V ++ Q).map Entity.enc) none false])
   ⟨.ret, [], [.arr 9 ((P ++ sortS Entity.less (U ++ V) ++ Q).map Entity.enc) none false]⟩ := by
  intro n
  induction n with
  | zero => intros; omega
  | succ n ih =>
    intro P U V Q a m b hl ha hm hb hu hv hU hV hn
    by_cases hu1 : U.length = 1
    · obtain ⟨x, rfl⟩ := List.length_eq_one_iff.1 hu1
      exact f_symMerge_first_Entity P V Q x a m b ha (by simpa using hm) hb hv hV hn
    · by_cases hv1 : V.length = 1
      · obtain ⟨y, rfl⟩ := List.length_eq_one_iff.1 hv1
        exact f_symMerge_last_Entity P U Q y a m b ha hm (by simpa using hb) (by omega) hU hn
      · obtain ⟨mid, hmid⟩ : ∃ mid, (a + b) / 2 = mid := ⟨_, rfl⟩
        obtain ⟨s0, r0, hs0⟩ : ∃ s0 r0, m ≤ mid ∧ s0 = a ∧ r0 = m ∨ mid < m ∧ s0 = mid + m - b ∧ r0 = mid := by
          by_cases h : m ≤ mid
          · exact ⟨a, m, .inl ⟨h, rfl, rfl⟩⟩
          · exact ⟨mid + m - b, mid, .inr ⟨by omega, rfl, rfl⟩⟩
        have hlen : (P ++ U ++ V ++ Q).length = b + Q.length := by simp; omega
        have hbs := f_symMerge_bs3_Entity (P ++ U ++ V ++ Q) a m b mid (mid + m) (mid + m - 1) hn (r0 - s0) s0 r0 (by omega) (by omega) (by omega) (by omega) (by omega)
        have hp : (fun c => !Entity.less (gt (P ++ U ++ V ++ Q) (mid + m - 1 - c)) (gt (P ++ U ++ V ++ Q) c)) = fun c => !Entity.less (gt (P ++ U ++ V ++ Q) (mid + m - 1 - c)) (gt (P ++ U ++ V ++ Q) c) := rfl
        obtain ⟨k1, k2, U1, U2, V1, V2, e1, e2, l1, l2, e3, u1, u2, v1, v2⟩ := merge_gen Entity_swo (Q := Q) ha hm hb hU hV hu hv hmid hs0 (d := r0 - s0) (by omega) rfl
        generalize bs _ (r0 - s0) s0 r0 = s at *
        subst e1 e2
        simp only [List.length_append] at hl hm hb hu hv hlen hu1 hv1
        have hsm : ∀ {X Y : List Entity}, X.length = Y.length → small Y → small X := fun h k => by unfold small at *; rw [h]; exact k
        have g1 : s < m → s < mid → Is cx (.call 193 [.all 0 none, vi s, vi m, vi (mid + m - s : Nat), .t (.clo 88 [])] [.arr 9 ((P ++ (U1 ++ U2) ++ (V1 ++ V2) ++ Q).map Entity.enc) none false]) ⟨.ret, [], [.arr 9 ((P ++ U1 ++ V1 ++ (U2 ++ V2 ++ Q)).map Entity.enc) none false]⟩ := by
          intro c1 c2
          have := f_rotate_Entity (P ++ (U1 ++ U2) ++ (V1 ++ V2) ++ Q) s m (mid + m - s) c1 (by omega) (by simp; omega) hn
          have e : (P ++ (U1 ++ U2) ++ (V1 ++ V2) ++ Q).take s ++ seg (P ++ (U1 ++ U2) ++ (V1 ++ V2) ++ Q) m (mid + m - s) ++ seg (P ++ (U1 ++ U2) ++ (V1 ++ V2) ++ Q) s m ++ (P ++ (U1 ++ U2) ++ (V1 ++ V2) ++ Q).drop (mid + m - s) = P ++ U1 ++ V1 ++ (U2 ++ V2 ++ Q) := by
            have f1 : P ++ (U1 ++ U2) ++ (V1 ++ V2) ++ Q = (P ++ U1) ++ (U2 ++ (V1 ++ (V2 ++ Q))) := by simp
            have f2 : P ++ (U1 ++ U2) ++ (V1 ++ V2) ++ Q = (P ++ U1 ++ U2) ++ (V1 ++ (V2 ++ Q)) := by simp
            have f3 : P ++ (U1 ++ U2) ++ (V1 ++ V2) ++ Q = (P ++ U1 ++ U2 ++ V1) ++ (V2 ++ Q) := by simp
            have g1 : (P ++ (U1 ++ U2) ++ (V1 ++ V2) ++ Q).take s = P ++ U1 := by rw [f1, List.take_left' (by simp; omega)]
            have g2 : seg (P ++ (U1 ++ U2) ++ (V1 ++ V2) ++ Q) m (mid + m - s) = V1 := by unfold seg; rw [f2, List.drop_left' (by simp; omega), List.take_left' (by omega)]
            have g3 : seg (P ++ (U1 ++ U2) ++ (V1 ++ V2) ++ Q) s m = U2 := by unfold seg; rw [f1, List.drop_left' (by simp; omega), List.take_left' (by omega)]
            have g4 : (P ++ (U1 ++ U2) ++ (V1 ++ V2) ++ Q).drop (mid + m - s) = V2 ++ Q := by rw [f3, List.drop_left' (by simp; omega)]
            rw [g1, g2, g3, g4]; simp
          rw [e] at this
          exact this
        have g1' : ¬ (s < m ∧ s < mid) → (P ++ (U1 ++ U2) ++ (V1 ++ V2) ++ Q) = (P ++ U1 ++ V1 ++ (U2 ++ V2 ++ Q)) := by
          intro c
          have : U2 = [] ∨ V1 = [] := by
            by_cases h : s < m
            · right; exact List.eq_nil_of_length_eq_zero (by omega)
            · left; exact List.eq_nil_of_length_eq_zero (by omega)
          rcases this with rfl | rfl <;> simp
        have g2 : a < s → s < mid → Is cx (.call 182 [.all 0 none, vi a, vi s, vi mid, .t (.clo 88 [])] [.arr 9 ((P ++ U1 ++ V1 ++ (U2 ++ V2 ++ Q)).map Entity.enc) none false]) ⟨.ret, [], [.arr 9 ((P ++ sortS Entity.less (U1 ++ V1) ++ (U2 ++ V2 ++ Q)).map Entity.enc) none false]⟩ := by
          intro c1 c2
          exact ih P U1 V1 (U2 ++ V2 ++ Q) a s mid (by omega) ha (by omega) (by omega) (by omega) (by omega) u1 v1 (hsm (by simp; omega) hn)
        have g2' : ¬ (a < s ∧ s < mid) → (P ++ U1 ++ V1 ++ (U2 ++ V2 ++ Q)) = (P ++ sortS Entity.less (U1 ++ V1) ++ (U2 ++ V2 ++ Q)) := by
          intro c
          have : U1 = [] ∨ V1 = [] := by
            by_cases h : a < s
            · right; exact List.eq_nil_of_length_eq_zero (by omega)
            · left; exact List.eq_nil_of_length_eq_zero (by omega)
          rcases this with rfl | rfl
          · simp [sortS_self Entity_swo v1]
          · simp [sortS_self Entity_swo u1]
        have g3 : s < m → mid + m < b + s → Is cx (.call 182 [.all 0 none, vi mid, vi (mid + m - s : Nat), vi b, .t (.clo 88 [])] [.arr 9 ((P ++ sortS Entity.less (U1 ++ V1) ++ (U2 ++ V2 ++ Q)).map Entity.enc) none false]) ⟨.ret, [], [.arr 9 ((P ++ sortS Entity.less ((U1 ++ U2) ++ (V1 ++ V2)) ++ Q).map Entity.enc) none false]⟩ := by
          intro c1 c2
          have hL : (sortS Entity.less (U1 ++ V1)).length = U1.length + V1.length := by rw [sortS_len Entity_swo]; simp
          have := ih (P ++ sortS Entity.less (U1 ++ V1)) U2 V2 Q mid (mid + m - s) b (by omega) (by simp; omega) (by omega) (by omega) (by omega) (by omega) u2 v2 (hsm (by simp; omega) hn)
          rw [← e3]
          simpa using this
        have g3' : ¬ (s < m ∧ mid + m < b + s) → (P ++ sortS Entity.less (U1 ++ V1) ++ (U2 ++ V2 ++ Q)) = (P ++ sortS Entity.less ((U1 ++ U2) ++ (V1 ++ V2)) ++ Q) := by
          intro c
          have : U2 = [] ∨ V2 = [] := by
            by_cases h : s < m
            · right; exact List.eq_nil_of_length_eq_zero (by omega)
            · left; exact List.eq_nil_of_length_eq_zero (by omega)
          rw [← e3]
          rcases this with rfl | rfl
          · simp [sortS_self Entity_swo v2]
          · simp [sortS_self Entity_swo u2]
        rcases hs0 with ⟨hc, rfl, rfl⟩ | ⟨hc, rfl, rfl⟩
        · exact f_symMerge_genA_Entity _ _ _ _ s0 r0 b mid s hmid hc (by omega) (by omega) (by simp; omega) hn ⟨k1, k2⟩ hbs g1 g1' g2 g2' g3 g3'
        · exact f_symMerge_genB_Entity _ _ _ _ a m b r0 s hmid hc (by omega) (by omega) (by simp; omega) hn ⟨k1, k2⟩ hbs g1 g1' g2 g2' g3 g3'
end Go.Eva.S3

/- Messages: sorted. -/
namespace Go.Eva.S3
theorem f_stable_first_Cross (n : Nat) (hn : n ≤ 1000000) : ∀ (d : Nat) (P R : List Cross) (a : Nat), a = P.length → R.length ≤ d → (P ++ R).length = n → Full Cross.less 20 P →
    ∃ (P' R' : List Cross), Is cx (.loop 172 [0, 0, 1, 1] 1 [.all 0 none, vi n, .t (.clo 129 []), vi 20, vi a, vi (a + 20 : Nat)] [.arr 15 ((P ++ R).map Cross.enc) none false])
      ⟨.exit 0, [.all 0 none, vi n, .t (.clo 129 []), vi 20, vi P'.length, vi (P'.length + 20 : Nat)], [.arr 15 ((P' ++ R').map Cross.enc) none false]⟩ ∧
      Full Cross.less 20 P' ∧ R'.length < 20 ∧ StEq Cross.less (P' ++ R') (P ++ R) ∧ (P' ++ R').length = n := by
  intro d
  induction d with
  | zero =>
    intro P R a ha hR hl hP
    refine ⟨P, R, ?_, hP, by omega, .refl _, hl⟩
    rw [List.length_append] at hl
    subst ha
    refine Wp.ev ?_
    refine gg [.b (decide ((↑(List.length P + 20) : Int) ≤ (↑n : Int))) false] ⟨fP, trivial⟩ ?_
    exact ge
  | succ d ih =>
    intro P R a ha hR hl hP
    by_cases h : 20 ≤ R.length
    · obtain ⟨S, R, rfl, hS⟩ := split_at R h
      rw [List.length_append] at hR
      have hs : (sortS Cross.less S).length = 20 := by rw [sortS_len Cross_swo, hS]
      have hl' : ((P ++ sortS Cross.less S) ++ R).length = n := by rw [← hl]; simp; omega
      obtain ⟨P', R', h1, h2, h3, h4, h5⟩ := ih (P ++ sortS Cross.less S) R (a + 20) (by simp; omega) (by omega) hl' (.snoc hP hs (sortS_sd Cross_swo S))
      refine ⟨P', R', ?_, h2, h3, ?_, h5⟩
      · clear ih
        have hA : (P ++ (S ++ R)).length = n := hl
        have hi := f_insertionSort_Cross (P ++ (S ++ R)) a (a + 20) (by omega) (by simp; omega) (by unfold small; omega)
        rw [show srt Cross.less (P ++ (S ++ R)) a (a + 20) = P ++ sortS Cross.less S ++ R by rw [← List.append_assoc]; exact srt_app P S R ha (by omega)] at hi
        simp only [List.length_append] at hA
        generalize P ++ (S ++ R) = A at *
        generalize P ++ sortS Cross.less S ++ R = B at *
        refine Wp.ev ?_
        refine gg [.b (decide ((↑(a + 20) : Int) ≤ (↑n : Int))) true, .a _ _, .i IntKind.i64 ((↑(a + 20) : Int) + 20) ((↑(a + 20 + 20) : Int)), .a _ _] ⟨tP, o_a hi, oI, o_a h1, trivial⟩ ?_
        exact ge
      · refine h4.trans ?_
        have := StEq.mid (P := P) (Q := R) (sortS_st Cross_swo S)
        simpa using this
    · refine ⟨P, R, ?_, hP, by omega, .refl _, hl⟩
      rw [List.length_append] at hl
      subst ha
      clear ih
      refine Wp.ev ?_
      refine gg [.b (decide ((↑(List.length P + 20) : Int) ≤ (↑n : Int))) false] ⟨fP, trivial⟩ ?_
      exact ge
theorem f_stable_inner_Cross (n bs : Nat) (hn : n ≤ 1000000) (hb : 20 ≤ bs) (hbs : bs ≤ n) : ∀ (d : Nat) (P R : List Cross) (a : Nat), a = P.length → R.length ≤ d → (P ++ R).length = n → Full Cross.less (2 * bs) P → Blks Cross.less bs R →
    ∃ (P' R' : List Cross), Is cx (.loop 172 [0, 0, 1, 0, 1, 0, 0, 1, 1, 1, 1] 1 [.all 0 none, vi n, .t (.clo 129 []), vi bs, vi a, vi (a + 2 * bs : Nat)] [.arr 15 ((P ++ R).map Cross.enc) none false])
      ⟨.exit 4, [.all 0 none, vi n, .t (.clo 129 []), vi bs, vi P'.length, vi (P'.length + 2 * bs : Nat)], [.arr 15 ((P' ++ R').map Cross.enc) none false]⟩ ∧
      Full Cross.less (2 * bs) P' ∧ Blks Cross.less bs R' ∧ R'.length < 2 * bs ∧ StEq Cross.less (P' ++ R') (P ++ R) ∧ (P' ++ R').length = n := by
  intro d
  induction d with
  | zero =>
    intro P R a ha hR hl hP hB
    refine ⟨P, R, ?_, hP, hB, by omega, .refl _, hl⟩
    rw [List.length_append] at hl
    subst ha
    refine Wp.ev ?_
    refine gg [.b (decide ((↑(List.length P + 2 * bs) : Int) ≤ (↑n : Int))) false] ⟨fP, trivial⟩ ?_
    exact ge
  | succ d ih =>
    intro P R a ha hR hl hP hB
    by_cases h : 2 * bs ≤ R.length
    · obtain ⟨S1, S2, R, rfl, l1, l2, s1, s2, hB⟩ := hB.two (by omega) h
      simp only [List.length_append] at hR h
      have hs : (sortS Cross.less (S1 ++ S2)).length = 2 * bs := by rw [sortS_len Cross_swo]; simp; omega
      have hl' : ((P ++ sortS Cross.less (S1 ++ S2)) ++ R).length = n := by rw [← hl]; simp; omega
      obtain ⟨P', R', h1, h2, h3, h4, h5, h6⟩ := ih (P ++ sortS Cross.less (S1 ++ S2)) R (a + 2 * bs) (by simp; omega) (by omega) hl' (.snoc hP hs (sortS_sd Cross_swo _)) hB
      refine ⟨P', R', ?_, h2, h3, h4, ?_, h6⟩
      · clear ih
        have hA : (P ++ (S1 ++ S2 ++ R)).length = n := hl
        have hi := f_symMerge_Cross (S1.length + S2.length) P S1 S2 R a (a + bs) (a + 2 * bs) (Nat.le_refl _) ha (by omega) (by omega) (by omega) (by omega) s1 s2 (by unfold small; simp at hA ⊢; omega)
        rw [show P ++ S1 ++ S2 ++ R = P ++ (S1 ++ S2 ++ R) by simp] at hi
        simp only [List.length_append] at hA
        generalize P ++ (S1 ++ S2 ++ R) = A at *
        generalize P ++ sortS Cross.less (S1 ++ S2) ++ R = B at *
        refine Wp.ev ?_
        refine gg [.b (decide ((↑(a + 2 * bs) : Int) ≤ (↑n : Int))) true, .i IntKind.i64 ((↑a : Int) + (↑bs : Int)) ((↑(a + bs) : Int)), .a _ _, .i IntKind.i64 (2 * (↑bs : Int)) ((↑(2 * bs) : Int)), .i IntKind.i64 ((↑(a + 2 * bs) : Int) + (↑(2 * bs) : Int)) ((↑(a + 2 * bs + 2 * bs) : Int)), .a _ _] ⟨tP, oI, o_a hi, oI, oI, o_a h1, trivial⟩ ?_
        exact ge
      · refine h5.trans ?_
        have := StEq.mid (P := P) (Q := R) (sortS_st Cross_swo (S1 ++ S2))
        simpa using this
    · refine ⟨P, R, ?_, hP, hB, by omega, .refl _, hl⟩
      rw [List.length_append] at hl
      subst ha
      clear ih
      refine Wp.ev ?_
      refine gg [.b (decide ((↑(List.length P + 2 * bs) : Int) ≤ (↑n : Int))) false] ⟨fP, trivial⟩ ?_
      exact ge
theorem f_stable_outer_Cross (n : Nat) (hn : n ≤ 1000000) : ∀ (d bs : Nat) (A : List Cross), n ≤ bs + d → 20 ≤ bs → bs ≤ 2000000 → A.length = n → Blks Cross.less bs A →
    ∃ (bs' : Nat) (B : List Cross), Is cx (.loop 172 [0, 1, 1, 1, 1] 1 [.all 0 none, vi n, .t (.clo 129 []), vi bs] [.arr 15 (A.map Cross.enc) none false])
      ⟨.exit 2, [.all 0 none, vi n, .t (.clo 129 []), vi bs'], [.arr 15 (B.map Cross.enc) none false]⟩ ∧ Sd Cross.less B ∧ StEq Cross.less B A := by
  intro d
  induction d with
  | zero =>
    intro bs A h1 h2 h3 hl hB
    refine ⟨bs, A, ?_, hB.sd (by omega), .refl _⟩
    refine Wp.ev ?_
    refine gg [.b (decide ((↑bs : Int) < (↑n : Int))) false] ⟨fP, trivial⟩ ?_
    exact ge
  | succ d ih =>
    intro bs A h1 h2 h3 hl hB
    by_cases h : bs < n
    · obtain ⟨P, R, k1, k2, k3, k4, k5, k6⟩ := f_stable_inner_Cross n bs hn h2 (by omega) A.length [] A 0 rfl (Nat.le_refl _) (by simpa using hl) .nil hB
      rw [List.nil_append, Nat.zero_add] at k1
      rw [List.nil_append] at k5
      by_cases hr : bs < R.length
      · obtain ⟨S1, S2, rfl, l1, s1, s2, l2⟩ := k3.one hr k4
        have hm := f_symMerge_Cross (S1.length + S2.length) P S1 S2 [] P.length (P.length + bs) n (Nat.le_refl _) rfl (by omega) (by simp at k6; omega) (by omega) l2 s1 s2 (by unfold small; simp at k6 ⊢; omega)
        simp only [List.append_nil] at hm
        rw [List.append_assoc] at hm
        simp only [List.length_append] at k4 k6 hr
        have hs : (sortS Cross.less (S1 ++ S2)).length = S1.length + S2.length := by rw [sortS_len Cross_swo]; simp
        obtain ⟨bs', B, j1, j2, j3⟩ := ih (bs * 2) (P ++ sortS Cross.less (S1 ++ S2)) (by omega) (by omega) (by omega) (by simp; omega) (by rw [Nat.mul_comm]; exact k2.blks (.last (by omega) (sortS_sd Cross_swo _)))
        refine ⟨bs', B, ?_, j2, j3.trans (StEq.trans ?_ k5)⟩
        · clear ih j2 j3 k2 k3 k5
          have e1 : (P ++ (S1 ++ S2)).length = n := by simp; omega
          have e2 : (P ++ sortS Cross.less (S1 ++ S2)).length = n := by simp; omega
          generalize P ++ (S1 ++ S2) = X at *
          generalize P ++ sortS Cross.less (S1 ++ S2) = Y at *
          refine Wp.ev ?_
          refine gg [.b (decide ((↑bs : Int) < (↑n : Int))) true, .i IntKind.i64 (2 * (↑bs : Int)) ((↑(2 * bs) : Int)), .a _ _, .i IntKind.i64 ((↑(List.length P) : Int) + (↑bs : Int)) ((↑(List.length P + bs) : Int)), .b (decide ((↑(List.length P + bs) : Int) < (↑n : Int))) true, .a _ _, .i IntKind.i64 ((↑bs : Int) * 2) ((↑(bs * 2) : Int)), .a _ _] ⟨tP, oI, o_a k1, oI, tP, o_a hm, oI, o_a j1, trivial⟩ ?_
          exact ge
        · exact (StEq.refl _).append (sortS_st Cross_swo _)
      · obtain ⟨bs', B, j1, j2, j3⟩ := ih (bs * 2) (P ++ R) (by omega) (by omega) (by omega) k6 (by rw [Nat.mul_comm]; exact k2.blks (.last (by omega) (k3.sd (by omega))))
        refine ⟨bs', B, ?_, j2, j3.trans k5⟩
        clear ih j2 j3 k2 k3 k5
        rw [List.length_append] at k6
        generalize P ++ R = X at *
        refine Wp.ev ?_
        refine gg [.b (decide ((↑bs : Int) < (↑n : Int))) true, .i IntKind.i64 (2 * (↑bs : Int)) ((↑(2 * bs) : Int)), .a _ _, .i IntKind.i64 ((↑(List.length P) : Int) + (↑bs : Int)) ((↑(List.length P + bs) : Int)), .b (decide ((↑(List.length P + bs) : Int) < (↑n : Int))) false, .i IntKind.i64 ((↑bs : Int) * 2) ((↑(bs * 2) : Int)), .a _ _] ⟨tP, oI, o_a k1, oI, fP, oI, o_a j1, trivial⟩ ?_
        exact ge
    · refine ⟨bs, A, ?_, hB.sd (by omega), .refl _⟩
      clear ih
      refine Wp.ev ?_
      refine gg [.b (decide ((↑bs : Int) < (↑n : Int))) false] ⟨fP, trivial⟩ ?_
      exact ge
theorem f_stableCmpFunc_Cross (A : List Cross) (hn : small A) : Is cx (.call 172 [.all 0 none, vi A.length, .t (.clo 129 [])] [.arr 15 (A.map Cross.enc) none false])
   ⟨.ret, [], [.arr 15 ((sortS Cross.less A).map Cross.enc) none false]⟩ := by
  unfold small at hn
  obtain ⟨P, R, k1, k2, k3, k4, k5⟩ := f_stable_first_Cross A.length hn A.length [] A 0 rfl (Nat.le_refl _) (by simp) .nil
  rw [List.nil_append, Nat.zero_add] at k1
  rw [List.nil_append] at k4
  rw [List.length_append] at k5
  have hi := f_insertionSort_Cross (P ++ R) P.length A.length (by omega) (by simp; omega) (by unfold small; simp; omega)
  rw [show srt Cross.less (P ++ R) P.length A.length = P ++ sortS Cross.less R by have := srt_app (lt := Cross.less) P R [] rfl k5.symm; simpa using this] at hi
  have hs : (sortS Cross.less R).length = R.length := sortS_len Cross_swo R
  obtain ⟨bs, B, j1, j2, j3⟩ := f_stable_outer_Cross A.length hn A.length 20 (P ++ sortS Cross.less R) (by omega) (by omega) (by omega) (by simp; omega) (k2.blks (.last (by omega) (sortS_sd Cross_swo _)))
  rw [sortS_eq Cross_swo j2 (j3.trans (((StEq.refl _).append (sortS_st Cross_swo _)).trans k4))] at j1
  clear j2 j3 k2 k4
  have e1 : (P ++ R).length = A.length := by simp; omega
  have e2 : (P ++ sortS Cross.less R).length = A.length := by simp; omega
  generalize P ++ R = X at *
  generalize P ++ sortS Cross.less R = Y at *
  refine Wp.ev ?_
  refine gg [.a _ _, .a _ _, .a _ _] ⟨o_a k1, o_a hi, o_a j1, trivial⟩ ?_
  exact ge
theorem f_SortStableFunc_Cross (A : List Cross) (hn : small A) : Is cx (.call 128 [.all 0 none, .t (.clo 129 [])] [.arr 15 (A.map Cross.enc) none false])
   ⟨.ret, [], [.arr 15 ((sortS Cross.less A).map Cross.enc) none false]⟩ := by
  have h := f_stableCmpFunc_Cross A hn
  unfold small at hn
  refine Wp.ev ?_
  refine gg [.n (List.length (List.map Cross.enc A)) (List.length A), .a _ _] ⟨o_n (by simp), o_a h, trivial⟩ ?_
  exact ge
theorem f_stable_first_Entity (n : Nat) (hn : n ≤ 1000000) : ∀ (d : Nat) (P R : List Entity) (a : Nat), a = P.length → R.length ≤ d → (P ++ R).length = n → Full Entity.less 20 P →
    ∃ (P' R' : List Entity), Is cx (.loop 153 [0, 0, 1, 1] 1 [.all 0 none, vi n, .t (.clo 88 []), vi 20, vi a, vi (a + 20 : Nat)] [.arr 9 ((P ++ R).map Entity.enc) none false])
      ⟨.exit 0, [.all 0 none, vi n, .t (.clo 88 []), vi 20, vi P'.length, vi (P'.length + 20 : Nat)], [.arr 9 ((P' ++ R').map Entity.enc) none false]⟩ ∧
      Full Entity.less 20 P' ∧ R'.length < 20 ∧ StEq Entity.less (P' ++ R') (P ++ R) ∧ (P' ++ R').length = n := by
  intro d
  induction d with
  | zero =>
    intro P R a ha hR hl hP
    refine ⟨P, R, ?_, hP, by omega, .refl _, hl⟩
    rw [List.length_append] at hl
    subst ha
    refine Wp.ev ?_
    refine gg [.b (decide ((↑(List.length P + 20) : Int) ≤ (↑n : Int))) false] ⟨fP, trivial⟩ ?_
    exact ge
  | succ d ih =>
    intro P R a ha hR hl hP
    by_cases h : 20 ≤ R.length
    · obtain ⟨S, R, rfl, hS⟩ := split_at R h
      rw [List.length_append] at hR
      have hs : (sortS Entity.less S).length = 20 := by rw [sortS_len Entity_swo, hS]
      have hl' : ((P ++ sortS Entity.less S) ++ R).length = n := by rw [← hl]; simp; omega
      obtain ⟨P', R', h1, h2, h3, h4, h5⟩ := ih (P ++ sortS Entity.less S) R (a + 20) (by simp; omega) (by omega) hl' (.snoc hP hs (sortS_sd Entity_swo S))
      refine ⟨P', R', ?_, h2, h3, ?_, h5⟩
      · clear ih
        have hA : (P ++ (S ++ R)).length = n := hl
        have hi := f_insertionSort_Entity (P ++ (S ++ R)) a (a + 20) (by omega) (by simp; omega) (by unfold small; omega)
        rw [show srt Entity.less (P ++ (S ++ R)) a (a + 20) = P ++ sortS Entity.less S ++ R by rw [← List.append_assoc]; exact srt_app P S R ha (by omega)] at hi
        simp only [List.length_append] at hA
        generalize P ++ (S ++ R) = A at *
        generalize P ++ sortS Entity.less S ++ R = B at *
        refine Wp.ev ?_
        refine gg [.b (decide ((↑(a + 20) : Int) ≤ (↑n : Int))) true, .a _ _, .i IntKind.i64 ((↑(a + 20) : Int) + 20) ((↑(a + 20 + 20) : Int)), .a _ _] ⟨tP, o_a hi, oI, o_a h1, trivial⟩ ?_
        exact ge
      · refine h4.trans ?_
        have := StEq.mid (P := P) (Q := R) (sortS_st Entity_swo S)
        simpa using this
    · refine ⟨P, R, ?_, hP, by omega, .refl _, hl⟩
      rw [List.length_append] at hl
      subst ha
      clear ih
      refine Wp.ev ?_
      refine gg [.b (decide ((↑(List.length P + 20) : Int) ≤ (↑n : Int))) false] ⟨fP, trivial⟩ ?_
      exact ge
theorem f_stable_inner_Entity (n bs : Nat) (hn : n ≤ 1000000) (hb : 20 ≤ bs) (hbs : bs ≤ n) : ∀ (d : Nat) (P R : List Entity) (a : Nat), a = P.length → R.length ≤ d → (P ++ R).length = n → Full Entity.less (2 * bs) P → Blks Entity.less bs R →
    ∃ (P' R' : List Entity), Is cx (.loop 153 [0, 0, 1, 0, 1, 0, 0, 1, 1, 1, 1] 1 [.all 0 none, vi n, .t (.clo 88 []), vi bs, vi a, vi (a + 2 * bs : Nat)] [.arr 9 ((P ++ R).map Entity.enc) none false])
      ⟨.exit 4, [.all 0 none, vi n, .t (.clo 88 []), vi bs, vi P'.length, vi (P'.length + 2 * bs : Nat)], [.arr 9 ((P' ++ R').map Entity.enc) none false]⟩ ∧
      Full Entity.less (2 * bs) P' ∧ Blks Entity.less bs R' ∧ R'.length < 2 * bs ∧ StEq Entity.less (P' ++ R') (P ++ R) ∧ (P' ++ R').length = n := by
  intro d
  induction d with
  | zero =>
    intro P R a ha hR hl hP hB
    refine ⟨P, R, ?_, hP, hB, by omega, .refl _, hl⟩
    rw [List.length_append] at hl
    subst ha
    refine Wp.ev ?_
    refine gg [.b (decide ((↑(List.length P + 2 * bs) : Int) ≤ (↑n : Int))) false] ⟨fP, trivial⟩ ?_
    exact ge
  | succ d ih =>
    intro P R a ha hR hl hP hB
    by_cases h : 2 * bs ≤ R.length
    · obtain ⟨S1, S2, R, rfl, l1, l2, s1, s2, hB⟩ := hB.two (by omega) h
      simp only [List.length_append] at hR h
      have hs : (sortS Entity.less (S1 ++ S2)).length = 2 * bs := by rw [sortS_len Entity_swo]; simp; omega
      have hl' : ((P ++ sortS Entity.less (S1 ++ S2)) ++ R).length = n := by rw [← hl]; simp; omega
      obtain ⟨P', R', h1, h2, h3, h4, h5, h6⟩ := ih (P ++ sortS Entity.less (S1 ++ S2)) R (a + 2 * bs) (by simp; omega) (by omega) hl' (.snoc hP hs (sortS_sd Entity_swo _)) hB
      refine ⟨P', R', ?_, h2, h3, h4, ?_, h6⟩
      · clear ih
        have hA : (P ++ (S1 ++ S2 ++ R)).length = n := hl
        have hi := f_symMerge_Entity (S1.length + S2.length) P S1 S2 R a (a + bs) (a + 2 * bs) (Nat.le_refl _) ha (by omega) (by omega) (by omega) (by omega) s1 s2 (by unfold small; simp at hA ⊢; omega)
        rw [show P ++ S1 ++ S2 ++ R = P ++ (S1 ++ S2 ++ R) by simp] at hi
        simp only [List.length_append] at hA
        generalize P ++ (S1 ++ S2 ++ R) = A at *
        generalize P ++ sortS Entity.less (S1 ++ S2) ++ R = B at *
        refine Wp.ev ?_
        refine gg [.b (decide ((↑(a + 2 * bs) : Int) ≤ (↑n : Int))) true, .i IntKind.i64 ((↑a : Int) + (↑bs : Int)) ((↑(a + bs) : Int)), .a _ _, .i IntKind.i64 (2 * (↑bs : Int)) ((↑(2 * bs) : Int)), .i IntKind.i64 ((↑(a + 2 * bs) : Int) + (↑(2 * bs) : Int)) ((↑(a + 2 * bs + 2 * bs) : Int)), .a _ _] ⟨tP, oI, o_a hi, oI, oI, o_a h1, trivial⟩ ?_
        exact ge
      · refine h5.trans ?_
        have := StEq.mid (P := P) (Q := R) (sortS_st Entity_swo (S1 ++ S2))
        simpa using this
    · refine ⟨P, R, ?_, hP, hB, by omega, .refl _, hl⟩
      rw [List.length_append] at hl
      subst ha
      clear ih
      refine Wp.ev ?_
      refine gg [.b (decide ((↑(List.length P + 2 * bs) : Int) ≤ (↑n : Int))) false] ⟨fP, trivial⟩ ?_
      exact ge
theorem f_stable_outer_Entity (n : Nat) (hn : n ≤ 1000000) : ∀ (d bs : Nat) (A : List Entity), n ≤ bs + d → 20 ≤ bs → bs ≤ 2000000 → A.length = n → Blks Entity.less bs A →
    ∃ (bs' : Nat) (B : List Entity), Is cx (.loop 153 [0, 1, 1, 1, 1] 1 [.all 0 none, vi n, .t (.clo 88 []), vi bs] [.arr 9 (A.map Entity.enc) none false])
      ⟨.exit 2, [.all 0 none, vi n, .t (.clo 88 []), vi bs'], [.arr 9 (B.map Entity.enc) none false]⟩ ∧ Sd Entity.less B ∧ StEq Entity.less B A := by
  intro d
  induction d with
  | zero =>
    intro bs A h1 h2 h3 hl hB
    refine ⟨bs, A, ?_, hB.sd (by omega), .refl _⟩
    refine Wp.ev ?_
    refine gg [.b (decide ((↑bs : Int) < (↑n : Int))) false] ⟨fP, trivial⟩ ?_
    exact ge
  | succ d ih =>
    intro bs A h1 h2 h3 hl hB
    by_cases h : bs < n
    · obtain ⟨P, R, k1, k2, k3, k4, k5, k6⟩ := f_stable_inner_Entity n bs hn h2 (by omega) A.length [] A 0 rfl (Nat.le_refl _) (by simpa using hl) .nil hB
      rw [List.nil_append, Nat.zero_add] at k1
      rw [List.nil_append] at k5
      by_cases hr : bs < R.length
      · obtain ⟨S1, S2, rfl, l1, s1, s2, l2⟩ := k3.one hr k4
        have hm := f_symMerge_Entity (S1.length + S2.length) P S1 S2 [] P.length (P.length + bs) n (Nat.le_refl _) rfl (by omega) (by simp at k6; omega) (by omega) l2 s1 s2 (by unfold small; simp at k6 ⊢; omega)
        simp only [List.append_nil] at hm
        rw [List.append_assoc] at hm
        simp only [List.length_append] at k4 k6 hr
        have hs : (sortS Entity.less (S1 ++ S2)).length = S1.length + S2.length := by rw [sortS_len Entity_swo]; simp
        obtain ⟨bs', B, j1, j2, j3⟩ := ih (bs * 2) (P ++ sortS Entity.less (S1 ++ S2)) (by omega) (by omega) (by omega) (by simp; omega) (by rw [Nat.mul_comm]; exact k2.blks (.last (by omega) (sortS_sd Entity_swo _)))
        refine ⟨bs', B, ?_, j2, j3.trans (StEq.trans ?_ k5)⟩
        · clear ih j2 j3 k2 k3 k5
          have e1 : (P ++ (S1 ++ S2)).length = n := by simp; omega
          have e2 : (P ++ sortS Entity.less (S1 ++ S2)).length = n := by simp; omega
          generalize P ++ (S1 ++ S2) = X at *
          generalize P ++ sortS Entity.less (S1 ++ S2) = Y at *
          refine Wp.ev ?_
          refine gg [.b (decide ((↑bs : Int) < (↑n : Int))) true, .i IntKind.i64 (2 * (↑bs : Int)) ((↑(2 * bs) : Int)), .a _ _, .i IntKind.i64 ((↑(List.length P) : Int) + (↑bs : Int)) ((↑(List.length P + bs) : Int)), .b (decide ((↑(List.length P + bs) : Int) < (↑n : Int))) true, .a _ _, .i IntKind.i64 ((↑bs : Int) * 2) ((↑(bs * 2) : Int)), .a _ _] ⟨tP, oI, o_a k1, oI, tP, o_a hm, oI, o_a j1, trivial⟩ ?_
          exact ge
        · exact (StEq.refl _).append (sortS_st Entity_swo _)
      · obtain ⟨bs', B, j1, j2, j3⟩ := ih (bs * 2) (P ++ R) (by omega) (by omega) (by omega) k6 (by rw [Nat.mul_comm]; exact k2.blks (.last (by omega) (k3.sd (by omega))))
        refine ⟨bs', B, ?_, j2, j3.trans k5⟩
        clear ih j2 j3 k2 k3 k5
        rw [List.length_append] at k6
        generalize P ++ R = X at *
        refine Wp.ev ?_
        refine gg [.b (decide ((↑bs : Int) < (↑n : Int))) true, .i IntKind.i64 (2 * (↑bs : Int)) ((↑(2 * bs) : Int)), .a _ _, .i IntKind.i64 ((↑(List.length P) : Int) + (↑bs : Int)) ((↑(List.length P + bs) : Int)), .b (decide ((↑(List.length P + bs) : Int) < (↑n : Int))) false, .i IntKind.i64 ((↑bs : Int) * 2) ((↑(bs * 2) : Int)), .a _ _] ⟨tP, oI, o_a k1, oI, fP, oI, o_a j1, trivial⟩ ?_
        exact ge
    · refine ⟨bs, A, ?_, hB.sd (by omega), .refl _⟩
      clear ih
      refine Wp.ev ?_
      refine gg [.b (decide ((↑bs : Int) < (↑n : Int))) false] ⟨fP, trivial⟩ ?_
      exact ge
theorem f_stableCmpFunc_Entity (A : List Entity) (hn : small A) : Is cx (.call 153 [.all 0 none, vi A.length, .t (.clo 88 [])] [.arr 9 (A.map Entity.enc) none false])
   ⟨.ret, [], [.arr 9 ((sortS Entity.less A).map Entity.enc) none false]⟩ := by
  unfold small at hn
  obtain ⟨P, R, k1, k2, k3, k4, k5⟩ := f_stable_first_Entity A.length hn A.length [] A 0 rfl (Nat.le_refl _) (by simp) .nil
  rw [List.nil_append, Nat.zero_add] at k1
  rw [List.nil_append] at k4
  rw [List.length_append] at k5
  have hi := f_insertionSort_Entity (P ++ R) P.length A.length (by omega) (by simp; omega) (by unfold small; simp; omega)
  rw [show srt Entity.less (P ++ R) P.length A.length = P ++ sortS Entity.less R by have := srt_app (lt := Entity.less) P R [] rfl k5.symm; simpa using this] at hi
  have hs : (sortS Entity.less R).length = R.length := sortS_len Entity_swo R
  obtain ⟨bs, B, j1, j2, j3⟩ := f_stable_outer_Entity A.length hn A.length 20 (P ++ sortS Entity.less R) (by omega) (by omega) (by omega) (by simp; omega) (k2.blks (.last (by omega) (sortS_sd Entity_swo _)))
  rw [sortS_eq Entity_swo j2 (j3.trans (((StEq.refl _).append (sortS_st Entity_swo _)).trans k4))] at j1
  clear j2 j3 k2 k4
  have e1 : (P ++ R).length = A.length := by simp; omega
  have e2 : (P ++ sortS Entity.less R).length = A.length := by simp; omega
  generalize P ++ R = X at *
  generalize P ++ sortS Entity.less R = Y at *
  refine Wp.ev ?_
  refine gg [.a _ _, .a _ _, .a _ _] ⟨o_a k1, o_a hi, o_a j1, trivial⟩ ?_
  exact ge
theorem f_SortStableFunc_Entity (A : List Entity) (hn : small A) : Is cx (.call 87 [.all 0 none, .t (.clo 88 [])] [.arr 9 (A.map Entity.enc) none false])
   ⟨.ret, [], [.arr 9 ((sortS Entity.less A).map Entity.enc) none false]⟩ := by
  have h := f_stableCmpFunc_Entity A hn
  unfold small at hn
  refine Wp.ev ?_
  refine gg [.n (List.length (List.map Entity.enc A)) (List.length A), .a _ _] ⟨o_n (by simp), o_a h, trivial⟩ ?_
  exact ge
end Go.Eva.S3

/- Messages: lists put together, and sorted. -/
namespace Go.Eva.S3
theorem f_slices_Grow (n : Nat) (hn : n ≤ 1000000) : Is cx (.call 171 [.fit 15 [], vi n] []) ⟨.ret, [.all 0 none], [.arr 15 [] none false]⟩ := by
  refine Wp.ev ?_
  refine gg [.b (decide ((↑n : Int) < 0)) false, .l 0, .l 0, .i IntKind.i64 0 0, .i IntKind.i64 ((↑n : Int) - 0) ((↑n : Int) - 0)] ⟨o_b (by kernel_rfl), oK, o_i (w64 (by (simp [room, appendMax]; omega))), trivial⟩ ?_
  refine brp (p := (↑n : Int) - 0 > 0) (by kernel_rfl) (fun h1 => ?_) (fun h1 => ?_)
  · refine gg [.l 0, .w ((0 : Int) ≤ (0 : Int)), .l 0, .w ((0 : Nat) ≤ (0 : Nat) ∧ (0 : Nat) ≤ (0 : Nat)), .b (decide (0 = 0)) true, .s (T.sl 15 []), .w ((0 : Int) ≤ (↑n : Int) - (0 : Int) ∧ room (Int.toNat ((↑n : Int) - (0 : Int))) (120 : Nat)), .n (Int.toNat ((↑n : Int) - 0)) n, .s (T.sl 0 (List.replicate n (T.agg [ti 0, ti 0, ti 0, ti 0, ti 0, ti 0, ti 0, ti 0, ti 0, ti 0, ti 0, ti 0, ti 0, ti 0, ti 0]))), .w (room (List.length (List.replicate n (T.agg [ti (0 : Int), ti (0 : Int), ti (0 : Int), ti (0 : Int), ti (0 : Int), ti (0 : Int), ti (0 : Int), ti (0 : Int), ti (0 : Int), ti (0 : Int), ti (0 : Int), ti (0 : Int), ti (0 : Int), ti (0 : Int), ti (0 : Int)]))) (120 : Nat)), .l 0, .w ((0 : Int) ≤ (0 : Int)), .l 0, .w ((0 : Nat) ≤ (0 : Nat) ∧ (0 : Nat) ≤ List.length (List.replicate n (T.agg [ti (0 : Int), ti (0 : Int), ti (0 : Int), ti (0 : Int), ti (0 : Int), ti (0 : Int), ti (0 : Int), ti (0 : Int), ti (0 : Int), ti (0 : Int), ti (0 : Int), ti (0 : Int), ti (0 : Int), ti (0 : Int), ti (0 : Int)]))), .l 0, .l 0] ⟨oW, o_w ⟨(Nat.le_of_ble_eq_true (by kernel_rfl)), (Nat.le_of_ble_eq_true (by kernel_rfl))⟩, o_b (by kernel_rfl), o_w ⟨(by omega), (by (simp [room, appendMax]; omega))⟩, o_n (by kernel_rfl), o_w (by (simp [room, appendMax]; omega)), oW, o_w ⟨(Nat.le_of_ble_eq_true (by kernel_rfl)), (by omega)⟩, trivial⟩ ?_
    refine gg [.s (T.sl 0 [])] trivial ?_
    refine rt (a := Res.mk Ex.ret [V.all 0 none] [Ob.arr 15 [] none false]) (by kernel_rfl) ?_
    simp
  · refine rt (a := Res.mk Ex.ret [V.all 0 none] [Ob.arr 15 [] none false]) (by kernel_rfl) ?_
    simp
theorem f_slices_Concat_count (ls : List (List Cross)) (hl : ls.length ≤ 1000) (ht : total ls ≤ 1000000) : ∀ (d i s : Nat), i + d = ls.length → s + total (ls.drop i) = total ls →
    Is cx (.loop 127 [0, 1, 0, 1, 1] 0 [.t (.sl 1 (ls.map encL)), vi s, .t (.sl 1 (ls.map encL)), vi ls.length, vi i] [])
      ⟨.exit 0, [.t (.sl 1 (ls.map encL)), vi (total ls), .t (.sl 1 (ls.map encL)), vi ls.length, vi ls.length], []⟩ := by
  intro d
  induction d with
  | zero =>
    intro i s hi hs
    rw [total_end (by omega)] at hs
    refine Wp.ev ?_
    refine gg [.b (decide ((↑i : Int) < (↑(List.length ls) : Int))) false] ⟨fP, trivial⟩ ?_
    refine rt (a := Res.mk (Ex.exit 0) [V.t (T.sl 1 (List.map encL ls)), vi (↑s : Int), V.t (T.sl 1 (List.map encL ls)), vi (↑(List.length ls) : Int), vi (↑i : Int)] []) (by kernel_rfl) ?_
    ((have hq : i = ls.length := by omega); subst hq; (have hq2 : s = total ls := by omega); subst hq2; rfl)
  | succ d ih =>
    intro i s hi hs
    have hlt : i < ls.length := by omega
    rw [total_gt hlt] at hs
    have ih1 := ih (i + 1) (s + (gt ls i).length) (by omega) (by omega)
    clear ih
    refine Wp.ev ?_
    refine gg [.b (decide ((↑i : Int) < (↑(List.length ls) : Int))) true, .w ((0 : Int) ≤ (↑i : Int)), .n (Int.toNat (↑i : Int)) i, .g (List.map encL ls) i (encL (gt ls i)), .n (List.length (List.map Cross.enc (gt ls i))) (List.length (gt ls i)), .i IntKind.i64 ((↑s : Int) + (↑(List.length (gt ls i)) : Int)) ((↑(s + List.length (gt ls i)) : Int)), .b (decide ((↑(s + List.length (gt ls i)) : Int) < 0)) false, .i IntKind.i64 ((↑i : Int) + 1) ((↑(i + 1) : Int)), .a _ _] ⟨tP, oW, o_n (by kernel_rfl), o_gt rfl (by assumption) (by intro h; cases h), o_n (by simp), oI, o_b (by kernel_rfl), oI, o_a ih1, trivial⟩ ?_
    exact ge
theorem f_slices_Concat_add (ls : List (List Cross)) (hl : ls.length ≤ 1000) (ht : total ls ≤ 1000000) : ∀ (d i : Nat) (A : List Cross), i + d = ls.length → A.length + total (ls.drop i) = total ls →
    Is cx (.loop 127 [0, 1, 0, 1, 1, 1, 1] 0 [.all 0 none, .t (.sl 1 (ls.map encL)), vi ls.length, vi i] [.arr 15 (A.map Cross.enc) none false])
      ⟨.exit 2, [.all 0 none, .t (.sl 1 (ls.map encL)), vi ls.length, vi ls.length], [.arr 15 ((A ++ (ls.drop i).flatten).map Cross.enc) none false]⟩ := by
  intro d
  induction d with
  | zero =>
    intro i A hi hs
    rw [drop_end (by omega)]
    refine Wp.ev ?_
    refine gg [.b (decide ((↑i : Int) < (↑(List.length ls) : Int))) false] ⟨fP, trivial⟩ ?_
    refine rt (a := Res.mk (Ex.exit 2) [V.all 0 none, V.t (T.sl 1 (List.map encL ls)), vi (↑(List.length ls) : Int), vi (↑i : Int)] [Ob.arr 15 (List.map Cross.enc A) none false]) (by kernel_rfl) ?_
    ((have hq : i = ls.length := by omega); subst hq; simp)
  | succ d ih =>
    intro i A hi hs
    have hlt : i < ls.length := by omega
    rw [total_gt hlt] at hs
    have ih1 := ih (i + 1) (A ++ gt ls i) (by omega) (by simp; omega)
    clear ih
    rw [flat_gt hlt]
    refine Wp.ev ?_
    refine gg [.b (decide ((↑i : Int) < (↑(List.length ls) : Int))) true, .w ((0 : Int) ≤ (↑i : Int)), .n (Int.toNat (↑i : Int)) i, .g (List.map encL ls) i (encL (gt ls i)), .w ((0 : Nat) < (120 : Nat)), .s (T.sl 0 (List.map Cross.enc (gt ls i))), .t (T.sl 0 (List.map Cross.enc A ++ List.map Cross.enc (gt ls i))) (T.sl 0 (List.map Cross.enc (A ++ gt ls i))), .w (room (List.length (List.map Cross.enc (A ++ gt ls i))) (120 : Nat)), .i IntKind.i64 ((↑i : Int) + 1) ((↑(i + 1) : Int)), .a _ _] ⟨tP, oW, o_n (by kernel_rfl), o_gt rfl (by assumption) (by intro h; cases h), oW, o_l (nm_app rfl rfl), o_w (by (simp [room, appendMax]; omega)), o_i (w64 (by (simp [room, appendMax]; omega))), o_a ih1, trivial⟩ ?_
    refine rt (a := Res.mk (Ex.exit 2) [V.all 0 none, V.t (T.sl 1 (List.map encL ls)), vi (↑(List.length ls) : Int), vi (↑(List.length ls) : Int)] [Ob.arr 15 (List.map Cross.enc (A ++ gt ls i ++ List.flatten (List.drop (i + 1) ls))) none false]) (by kernel_rfl) ?_
    simp
theorem f_slices_Concat (ls : List (List Cross)) (hl : ls.length ≤ 1000) (ht : total ls ≤ 1000000) :
    Is cx (.call 127 [.t (.sl 1 (ls.map encL))] []) ⟨.ret, [.all 0 none], [.arr 15 (ls.flatten.map Cross.enc) none false]⟩ := by
  have h1 := f_slices_Concat_count ls hl ht ls.length 0 0 (by omega) (by simp)
  have h2 := f_slices_Concat_add ls hl ht ls.length 0 [] (by omega) (by simp)
  rw [List.drop_zero, List.nil_append] at h2
  have h3 := f_slices_Grow (total ls) ht
  refine Wp.ev ?_
  refine gg [.n (List.length (List.map encL ls)) (List.length ls), .a _ _, .a _ _, .n (List.length (List.map encL ls)) (List.length ls), .a _ _] ⟨o_n (by simp), o_a h1, o_a h3, o_n (by simp), o_a h2, trivial⟩ ?_
  exact ge
theorem f_cross_Sort (ls : List (List Cross)) (hl : ls.length ≤ 1000) (ht : total ls ≤ 1000000) :
    Is cx (.call 70 [.t (.sl 1 (ls.map encL))] []) ⟨.ret, [.all 0 none], [.arr 15 ((sortS Cross.less ls.flatten).map Cross.enc) none false]⟩ := by
  have h1 := f_slices_Concat ls hl ht
  have h2 := f_SortStableFunc_Cross ls.flatten (by unfold small; rw [flat_len]; exact ht)
  refine Wp.ev ?_
  refine gg [.a _ _, .a _ _] ⟨o_a h1, o_a h2, trivial⟩ ?_
  exact ge
theorem f_cross_Sort_1 (l : List Cross) (h : small l) : Is cx (.call 70 [.t (.sl 1 [.sl 15 (l.map Cross.enc)])] []) ⟨.ret, [.all 0 none], [.arr 15 ((sortS Cross.less l).map Cross.enc) none false]⟩ := by
  have := f_cross_Sort [l] (by simp) (by unfold small at h; simpa [total] using h)
  rw [show [l].flatten = l by simp] at this
  exact this
end Go.Eva.S3

/- Eva, part 67: what stays so from moving to leaving; in plain words. -/
namespace Go.Eva

theorem things_map {l : List Entity} {g : Entity → Entity} (h : ∀ e ∈ l, (g e).kind = e.kind) : things (l.map g) = things l := by
  unfold things
  rw [List.countP_map]
  congr 1
  refine List.countP_congr fun e he => ?_
  simp [h e he]
theorem move_moved {c : Config} {r : Int} {A : List Entity} (h : Sane c r A) : Moved c r (moveL c A) ∧ ∀ e ∈ moveL c A, e.right c = true := by
  have hmem : ∀ e ∈ moveL c A, ∃ x ∈ A, (goE c x).2 = true ∧ e = (goE c x).1 := by
    intro e he
    unfold moveL at he
    obtain ⟨x, hx, rfl⟩ := List.mem_map.1 he
    obtain ⟨h1, h2⟩ := List.mem_filter.1 hx
    exact ⟨x, h1, h2, rfl⟩
  have hr : ∀ e ∈ moveL c A, e.right c = true := by
    intro e he
    obtain ⟨x, hx, hg, rfl⟩ := hmem e he
    exact (go_right hg).1
  refine ⟨⟨?_, ?_, fun e he => ⟨(right_weak (hr e he)).1, ?_⟩⟩, hr⟩
  · unfold moveL
    rw [Srt, List.pairwise_map]
    refine List.Pairwise.imp_of_mem ?_ (srt_filter h.srt)
    intro a b ha hb hab
    have h1 := (goE_id (List.mem_filter.1 ha).2).1
    have h2 := (goE_id (List.mem_filter.1 hb).2).1
    omega
  · unfold moveL
    rw [things_map fun e he => (goE_id (List.mem_filter.1 he).2).2.1]
    have := things_sub (List.filter_sublist (p := fun e => (goE c e).2) (l := A))
    have := h.things
    omega
  · obtain ⟨x, hx, hg, rfl⟩ := hmem e he
    obtain ⟨g1, g2, g3, g4⟩ := go_right hg
    obtain ⟨hxr, hxo⟩ := h.ents x hx
    obtain ⟨hc, p1, p2⟩ := right_place hxr
    obtain ⟨_, q1, q2⟩ := right_place g1
    have := near_step hc p1 p2 q1 q2 g3 g4
    rwa [hxo] at this
theorem Moved.len {c : Config} {r : Int} {l : List Entity} (h : Moved c r l) (hc : c.right = true) : l.length ≤ 30 := by
  have h3 := Config.right_iff.1 hc
  have h1 := len_le (n := c.players) h.srt (fun x hx hk => by
    have := Entity.right_player (h.ents x hx).1.1 hk
    exact this) (by omega)
  have h2 := h.things
  omega
theorem right_low {c : Config} {e : Entity} (h : e.right c = true) : e.health ≤ 100 := (right_weak h).1.2.1
theorem hits_moved {c : Config} {r : Int} {M : List Entity} {inbox : List Cross} (h : Moved c r M) : Moved c r (blastsL (gemsL (shotsL M)) inbox) ∧ ((blastsL (gemsL (shotsL M)) inbox).filter fun e => decide (e.kind = 1)).map Entity.id = (M.filter fun e => decide (e.kind = 1)).map Entity.id := by
  have l0 : ∀ e ∈ M, e.kind = 1 → e.health ≤ 100 := fun e he _ => (h.ents e he).1.2.1
  have h1 := shots_hit l0
  have m1 := h1.moved h
  have h2 := gems_hit (l := shotsL M) h1.low
  have m2 := h2.moved m1
  obtain ⟨b1, b2⟩ := blasts_core (bs := inbox) (l := gemsL (shotsL M)) h2.low
  refine ⟨moved_core b1 m2 b2, ?_⟩
  rw [pl_ids b1, h2.players, h1.players]

/-- Once one has fallen, and begun anew. -/
theorem fall_len {c : Config} {r f : Int} : ∀ {ids : List Int} {s : Stg}, (ids.foldl (fall1 c r f) s).l.length = s.l.length ∧ (ids.foldl (fall1 c r f) s).made = s.made ∧ (ids.foldl (fall1 c r f) s).out.length = s.out.length + ids.length * (c.near r).length := by
  intro ids
  induction ids with
  | nil => intro s; simp
  | cons id ids ih =>
    intro s
    obtain ⟨h1, h2, h3⟩ := @ih (fall1 c r f s id)
    rw [List.foldl_cons]
    refine ⟨by rw [h1]; simp [fall1], by rw [h2]; rfl, ?_⟩
    rw [h3]
    simp only [fall1, blastsAt, List.length_append, List.length_map, List.length_cons]
    rw [Nat.add_mul]; omega
theorem near_pos {c : Config} {r : Int} (h : c.is r = true) : 0 < (c.near r).length := by
  have := near_self h
  cases hn : c.near r with
  | nil => rw [hn] at this; simp [has] at this
  | cons a l => simp

/-- What holds behind falling: right, and in a near region. -/
structure Still2 (c : Config) (r : Int) (l : List Entity) : Prop where
  srt : Srt l
  things : things l ≤ 24
  ents : ∀ e ∈ l, e.right c = true ∧ has (c.near r) (c.of e.x e.y) = true
/-- A blast that a fall makes is right. -/
def blastOk (c : Config) (r f : Int) (m : Cross) : Prop := m.right c = true ∧ m.frm = r ∧ m.frame = f ∧ has (c.near r) m.to = true
theorem has_mem {l : List Int} {x : Int} : has l x = true ↔ x ∈ l := by
  unfold has
  rw [List.any_eq_true]
  constructor
  · rintro ⟨y, h1, h2⟩; simp at h2; subst h2; exact h1
  · intro h; exact ⟨x, h, by simp⟩
theorem anew_right {c : Config} {r f : Int} {e : Entity} {id : Int} (h : weak c e) (hk : e.kind = 1) (hr : c.is r = true) : (anewE c r f id e).right c = true ∧ c.of (anewE c r f id e).x (anewE c r f id e).y = r := by
  obtain ⟨h1, h2, h3⟩ := place_of (c := c) (r := r) (f := f) (o1 := id) (o2 := id) (a := 1) (b := 2) hr
  refine ⟨?_, h3⟩
  have hin : c.inside (placeX c r f 1 id) (placeY c r f 2 id) = true := by
    simp only [Config.inside, Bool.and_eq_true, within_iff]; omega
  have hp := h.1
  simp only [Entity.right, hk, if_true, Bool.and_eq_true, within_iff, decide_eq_true_eq] at hp
  simp only [anewE, Entity.right, hk, if_true, Bool.and_eq_true, within_iff, decide_eq_true_eq]
  refine ⟨hin, ?_⟩
  omega
theorem blast_ok {c : Config} {r f : Int} {e : Entity} {q : Int} (h : weak c e) (hr : c.is r = true) (hf : 0 ≤ f ∧ f < 10000) (hq : q ∈ c.near r) : blastOk c r f ⟨2, r, q, f, Entity.zero, e.x, e.y⟩ := by
  obtain ⟨h1, h2, h3⟩ := weak_place h
  have hin : c.inside e.x e.y = true := by simp only [Config.inside, Bool.and_eq_true, within_iff]; omega
  have hw : within f 0 9999 = true := within_iff.2 (by omega)
  refine ⟨?_, rfl, rfl, has_mem.2 hq⟩
  simp [Cross.right, has_mem.2 hq, hw, hin]
theorem fall_fold {c : Config} {r f : Int} (hr : c.is r = true) (hf : 0 ≤ f ∧ f < 10000) : ∀ {ids : List Int} {s : Stg}, Moved c r s.l → (∀ id ∈ ids, ∃ x ∈ s.l, x.id = id ∧ x.kind = 1) → (∀ e ∈ s.l, e.health ≤ 0 → e.id ∈ ids) → (∀ m ∈ s.out, blastOk c r f m) →
    Still2 c r (ids.foldl (fall1 c r f) s).l ∧ (∀ m ∈ (ids.foldl (fall1 c r f) s).out, blastOk c r f m) ∧ ((ids.foldl (fall1 c r f) s).l.filter fun e => decide (e.kind = 1)).map Entity.id = (s.l.filter fun e => decide (e.kind = 1)).map Entity.id := by
  intro ids
  induction ids with
  | nil =>
    intro s hm _ hh ho
    refine ⟨⟨hm.srt, hm.things, fun e he => ?_⟩, ho, rfl⟩
    obtain ⟨h1, h2⟩ := hm.ents e he
    refine ⟨weak_right h1 ?_, h2⟩
    rcases Int.lt_or_le 0 e.health with h | h
    · omega
    · have := hh e he h; simp at this
  | cons id ids ih =>
    intro s hm hp hh ho
    obtain ⟨x, hx, hxi, hxk⟩ := hp id (List.mem_cons_self ..)
    obtain ⟨k, k1, k2, k3⟩ := find_of hm.srt hx
    rw [hxi] at k1
    have e1 : fall1 c r f s id = ⟨s.l.set k (anewE c r f id x), s.made, s.out ++ blastsAt c r f x⟩ := by
      unfold fall1
      rw [k1, Int.toNat_natCast, k3]
    rw [List.foldl_cons, e1]
    obtain ⟨wx, _⟩ := hm.ents x hx
    obtain ⟨a1, a2⟩ := anew_right (f := f) (id := id) wx hxk hr
    have hids : (s.l.set k (anewE c r f id x)).map Entity.id = s.l.map Entity.id := map_id_set k2 (by rw [k3]; rfl)
    have hkinds : things (s.l.set k (anewE c r f id x)) = things s.l := by
      have := setId_things (e := anewE c r f id x) hm.srt hx rfl
      rwa [setId_eq (by rw [hxi]; exact k1)] at this
    have hpl : ((s.l.set k (anewE c r f id x)).filter fun e => decide (e.kind = 1)).map Entity.id = (s.l.filter fun e => decide (e.kind = 1)).map Entity.id := by
      have hkk : (s.l.set k (anewE c r f id x)).map (fun e => (e.id, e.kind)) = s.l.map fun e => (e.id, e.kind) := by
        rw [List.map_set]
        apply List.ext_getElem?
        intro i
        rw [List.getElem?_set]
        split
        · rename_i hik
          subst hik
          rw [List.length_map, if_pos k2, List.getElem?_map, get_gt k2, Option.map_some, k3]
          rfl
        · rfl
      have e : ∀ l : List Entity, (l.filter fun e => decide (e.kind = 1)).map Entity.id = ((l.map fun e => (e.id, e.kind)).filter fun p => decide (p.2 = 1)).map Prod.fst := fun l => by
        rw [List.filter_map, List.map_map]; rfl
      rw [e, e s.l, hkk]
    have := ih (s := ⟨s.l.set k (anewE c r f id x), s.made, s.out ++ blastsAt c r f x⟩) ?_ ?_ ?_ ?_
    · simp only at this
      rw [hpl] at this
      exact this
    · refine ⟨srt_ids hids.symm hm.srt, by simp only; rw [hkinds]; exact hm.things, fun e he => ?_⟩
      rcases set_mem he with rfl | he
      · exact ⟨(right_weak a1).1, by rw [a2]; exact near_self hr⟩
      · exact hm.ents e he
    · intro id2 hid2
      obtain ⟨y, hy, hyi, hyk⟩ := hp id2 (List.mem_cons_of_mem _ hid2)
      by_cases hne : y.id = x.id
      · have : y = x := uniq_id hm.srt hy hx hne
        subst this
        exact ⟨anewE c r f id y, List.mem_set k2 _, hyi, hyk⟩
      · have := setId_keep (e := anewE c r f id x) hm.srt hx hy hne
        rw [setId_eq (by rw [hxi]; exact k1)] at this
        exact ⟨y, this, hyi, hyk⟩
    · intro e he hle
      rcases set_mem he with h | h
      · subst h
        have := (right_weak a1).2
        omega
      · have := hh e h hle
        rcases List.mem_cons.1 this with h2 | h2
        · -- the one that began anew
          have : e = x := uniq_id hm.srt h hx (by omega)
          subst this
          exfalso
          obtain ⟨j, hj⟩ := List.mem_iff_getElem?.1 he
          rw [List.getElem?_set] at hj
          split at hj
          · rename_i hkj
            injection hj with hj
            have := (right_weak a1).2
            rw [hj] at this
            omega
          · rename_i hkj
            have hj2 := (List.getElem?_eq_some_iff.1 hj).1
            have hg : gt s.l j = e := by unfold gt; rw [hj]; rfl
            have := hm.srt
            rw [Srt, List.pairwise_iff_getElem] at this
            rw [gt_eq hj2] at hg
            rw [gt_eq k2] at k3
            rcases Nat.lt_or_gt_of_ne hkj with hlt | hlt
            · have := this k j k2 hj2 hlt
              rw [hg, k3] at this; omega
            · have := this j k hj2 k2 hlt
              rw [hg, k3] at this; omega
        · exact h2
    · intro m hm2
      rcases List.mem_append.1 hm2 with h | h
      · exact ho m h
      · unfold blastsAt at h
        obtain ⟨q, hq, rfl⟩ := List.mem_map.1 h
        exact blast_ok wx hr hf hq
theorem fall_ok {c : Config} {r f : Int} (hr : c.is r = true) (hf : 0 ≤ f ∧ f < 10000) {H : List Entity} {made : Int} (hm : Moved c r H) : Still2 c r (fallS c r f ⟨H, made, []⟩).l ∧ (∀ m ∈ (fallS c r f ⟨H, made, []⟩).out, blastOk c r f m) ∧ ((fallS c r f ⟨H, made, []⟩).l.filter fun e => decide (e.kind = 1)).map Entity.id = (H.filter fun e => decide (e.kind = 1)).map Entity.id := by
  refine fall_fold (s := ⟨H, made, []⟩) hr hf hm ?_ ?_ (by simp)
  · intro id hid
    obtain ⟨x, h1, h2⟩ := List.mem_map.1 hid
    obtain ⟨h3, h4⟩ := List.mem_filter.1 h1
    simp only [fallenP, Bool.and_eq_true, decide_eq_true_eq] at h4
    exact ⟨x, h3, h2, h4.1⟩
  · intro e he hle
    have hk : e.kind = 1 := by
      by_cases q : e.kind = 1
      · exact q
      · have := (hm.ents e he).1.2.2 q; omega
    exact List.mem_map.2 ⟨e, List.mem_filter.2 ⟨he, by simp [fallenP, hk, hle]⟩, rfl⟩
theorem right_age {c : Config} {e : Entity} (h : e.right c = true) : 0 ≤ e.age ∧ e.age ≤ 12 := by
  simp only [Entity.right, Bool.and_eq_true] at h
  have h2 := h.2
  by_cases k1 : e.kind = 1
  · rw [if_pos k1] at h2
    simp only [Bool.and_eq_true, within_iff, decide_eq_true_eq] at h2
    omega
  · rw [if_neg k1] at h2
    by_cases k2 : e.kind = 2
    · rw [if_pos k2] at h2
      simp only [Bool.and_eq_true, within_iff] at h2
      omega
    · rw [if_neg k2] at h2
      by_cases k3 : e.kind = 3
      · rw [if_pos k3] at h2
        simp only [Bool.and_eq_true, decide_eq_true_eq] at h2
        omega
      · rw [if_neg k3] at h2; contradiction
theorem leave_len {c : Config} {r f : Int} {s : Stg} : (leaveS c r f s).out.length ≤ s.out.length + s.l.length := by
  simp only [leaveS, List.length_append, List.length_map]
  have := List.length_filter_le (fun e => !decide (c.of e.x e.y = r)) s.l
  omega
theorem leave_none {c : Config} {r f : Int} {s : Stg} (h : (s.l.filter fun e => !decide (c.of e.x e.y = r)) = []) : (leaveS c r f s).out = s.out := by
  simp [leaveS, h]
end Go.Eva

/- A region's step. -/
namespace Go.Eva.S3
theorem f_region_Step_yes (c : Config) (r : Int) (s : Region) (ins : List Input) (inbox : List Cross) (hn : s.ents.length ≤ 100000) (hi : small ins) (hb : inbox.length ≤ 100000) (h : askedE c r s ins inbox = 0) :
    Is cx (.call 23 [.t c.enc, vi r, .t s.enc, .t (.sl 3 (ins.map Input.enc)), .t (.sl 15 (inbox.map Cross.enc))] []) ⟨.ret, [.t (Region.enc ⟨s.frame + 1, (stepS c r s ins inbox).l⟩), .t (.sl 15 ((sortS Cross.less (stepS c r s ins inbox).out).map Cross.enc)), vi 0], []⟩ := by
  have hfine := asked_fine h
  have hrc := Config.is_right hfine.is
  have ha := f_region_asked c r s ins inbox (by unfold small; omega) hi (by unfold small; omega)
  rw [h] at ha
  have hA := f_region_Arrive c r s inbox hn hb
  have hsane := hfine.sane
  obtain ⟨hst1, hst2⟩ := steer_ok hfine
  have hr := Config.is_le hfine.is
  have hreg := @Config.regions_le c
  have hf := hfine.frame
  have hst := f_region_steer c r s.frame ins (arriveL s.ents inbox) hi (by omega) (by omega) (Nat.le_trans (hsane.len hrc) (by omega)) fun p hp => by
    have hpr := (hsane.ents p hp).1
    refine ⟨?_, fun hk => ?_⟩
    · have := right_age hpr; omega
    · have := Entity.right_player hpr hk
      have := hfine.len
      omega
  unfold stepS restS
  have hnear := near_pos hfine.is
  generalize steerS c r s.frame ins ⟨arriveL s.ents inbox, 0, []⟩ = S at *
  generalize arriveL s.ents inbox = L at *
  obtain ⟨A, made, o⟩ := S
  simp only at hst hst1 hst2 ⊢
  subst hst2
  have hmade := hst1.made
  simp only at hmade
  have hAs := hst1.sane
  simp only at hAs
  have hAl := hAs.len hrc
  have hmv := f_region_move c r s.frame made A (by unfold small; omega) fun e he => by have := right_age (hAs.ents e he).1; omega
  obtain ⟨hM, hMr⟩ := move_moved hAs
  have hMl := hM.len hrc
  have hHm := (hits_moved (inbox := inbox) hM).1
  have hHl := hHm.len hrc
  have hsh := f_hitting_Shots (moveL c A) (by unfold small; omega)
  have h1l : (shotsL (moveL c A)).length ≤ 30 := by
    have := (shots_hit (l := moveL c A) fun e he _ => right_low (hMr e he)).moved hM
    exact this.len hrc
  have hge := f_hitting_Gems (shotsL (moveL c A)) (by unfold small; omega)
  have h2l : (gemsL (shotsL (moveL c A))).length ≤ 30 := by
    have k1 := shots_hit (l := moveL c A) fun e he _ => right_low (hMr e he)
    have := (gems_hit (l := shotsL (moveL c A)) k1.low).moved (k1.moved hM)
    exact this.len hrc
  have hbl := f_hitting_Blasts (gemsL (shotsL (moveL c A))) inbox (by unfold small; omega) (by unfold small; omega)
  clear hHm hM hMr hst1 hsane hfine h hAs
  generalize blastsL (gemsL (shotsL (moveL c A))) inbox = H at *
  generalize gemsL (shotsL (moveL c A)) = M2 at *
  generalize shotsL (moveL c A) = M1 at *
  generalize moveL c A = M at *
  obtain ⟨f, l⟩ := s
  simp only at *
  by_cases hfl : fallenL H = []
  · have hfa := f_region_fall_a c r f made H (by omega) hfl
    have e1 : fallS c r f ⟨H, made, []⟩ = ⟨H, made, []⟩ := by unfold fallS; simp only; rw [hfl]; rfl
    rw [e1]
    by_cases hg : below 8 c.seed [3, f, r] ≠ 0 ∨ 3 ≤ (H.countP fun e => e.kind == 3) ∨ Stg.room ⟨H, made, []⟩ = false
    · have hgr := f_region_grow_no_a c r f made H [] (by omega) hg
      have e2 : growS c r f ⟨H, made, []⟩ = ⟨H, made, []⟩ := by unfold growS; rw [if_pos hg]
      rw [e2]
      clear e1 e2 hg hfl
      have hlv := f_region_leave_a c r f made H (by omega)
      have hso := f_cross_Sort_1 (leaveS c r f ⟨H, made, []⟩).out (by have := @leave_len c r f ⟨H, made, []⟩; unfold small; simp only [List.length_nil] at this; omega)
      split at hlv
      · rename_i hq
        rw [hq] at hso ⊢
        change Is cx _ ⟨_, [_, .t (.sl 15 []), _], _⟩
        replace hso := f_cross_Sort_1 [] (by simp [small])
        clear hq
        generalize (leaveS c r f ⟨H, made, []⟩).l = Z at *
        rcases hst with hst | ⟨X, hst⟩
        · refine Wp.ev ?_
          refine gg [.a _ _, .b (0 != 0) false, .a _ _, .a _ _, .a _ _, .a _ _, .a _ _, .a _ _, .a _ _, .a _ _, .a _ _] ⟨o_a ha, o_b (by kernel_rfl), o_a hA, o_a hst, o_a hmv, o_a hsh, o_a hge, o_a hbl, o_a hfa, o_a hgr, o_a hlv, trivial⟩ ?_
          refine gg [.i IntKind.i64 (f + 1) (f + 1), .a _ _] ⟨oI, o_a hso, trivial⟩ ?_
          exact ge
        · refine Wp.ev ?_
          refine gg [.a _ _, .b (0 != 0) false, .a _ _, .a _ _, .a _ _, .a _ _, .a _ _, .a _ _, .a _ _, .a _ _, .a _ _] ⟨o_a ha, o_b (by kernel_rfl), o_a hA, o_a hst, o_a hmv, o_a hsh, o_a hge, o_a hbl, o_a hfa, o_a hgr, o_a hlv, trivial⟩ ?_
          refine gg [.i IntKind.i64 (f + 1) (f + 1), .a _ _] ⟨oI, o_a hso, trivial⟩ ?_
          exact ge
      · rename_i hq
        clear hq
        generalize (leaveS c r f ⟨H, made, []⟩).l = Z at *
        generalize hoo : (leaveS c r f ⟨H, made, []⟩).out = oo at *
        generalize sortS Cross.less oo = so at *
        rcases hst with hst | ⟨X, hst⟩
        · refine Wp.ev ?_
          refine gg [.a _ _, .b (0 != 0) false, .a _ _, .a _ _, .a _ _, .a _ _, .a _ _, .a _ _, .a _ _, .a _ _, .a _ _] ⟨o_a ha, o_b (by kernel_rfl), o_a hA, o_a hst, o_a hmv, o_a hsh, o_a hge, o_a hbl, o_a hfa, o_a hgr, o_a hlv, trivial⟩ ?_
          refine gg [.i IntKind.i64 (f + 1) (f + 1), .s (T.sl 15 (List.map Cross.enc oo)), .a _ _] ⟨oI, o_a hso, trivial⟩ ?_
          exact ge
        · refine Wp.ev ?_
          refine gg [.a _ _, .b (0 != 0) false, .a _ _, .a _ _, .a _ _, .a _ _, .a _ _, .a _ _, .a _ _, .a _ _, .a _ _] ⟨o_a ha, o_b (by kernel_rfl), o_a hA, o_a hst, o_a hmv, o_a hsh, o_a hge, o_a hbl, o_a hfa, o_a hgr, o_a hlv, trivial⟩ ?_
          refine gg [.i IntKind.i64 (f + 1) (f + 1), .s (T.sl 15 (List.map Cross.enc oo)), .a _ _] ⟨oI, o_a hso, trivial⟩ ?_
          exact ge
    · have hgr := f_region_grow_yes_a c r f made H (by omega) (by omega) (by omega) (by omega) hg
      have e2 : growS c r f ⟨H, made, []⟩ = ⟨put1 H (gemE c r f made), made + 1, []⟩ := by unfold growS; rw [if_neg hg]
      rw [e2]
      clear e1 e2 hg hfl
      have hpl := (@put1_len H (gemE c r f made)).2
      generalize put1 H (gemE c r f made) = G at *
      have hlv := f_region_leave_a c r f (made + 1) G (by omega)
      have hso := f_cross_Sort_1 (leaveS c r f ⟨G, made + 1, []⟩).out (by have := @leave_len c r f ⟨G, made + 1, []⟩; unfold small; simp only [List.length_nil] at this; omega)
      split at hlv
      · rename_i hq
        rw [hq] at hso ⊢
        change Is cx _ ⟨_, [_, .t (.sl 15 []), _], _⟩
        replace hso := f_cross_Sort_1 [] (by simp [small])
        clear hq
        generalize (leaveS c r f ⟨G, made + 1, []⟩).l = Z at *
        rcases hst with hst | ⟨X, hst⟩
        · refine Wp.ev ?_
          refine gg [.a _ _, .b (0 != 0) false, .a _ _, .a _ _, .a _ _, .a _ _, .a _ _, .a _ _, .a _ _, .a _ _, .a _ _] ⟨o_a ha, o_b (by kernel_rfl), o_a hA, o_a hst, o_a hmv, o_a hsh, o_a hge, o_a hbl, o_a hfa, o_a hgr, o_a hlv, trivial⟩ ?_
          refine gg [.i IntKind.i64 (f + 1) (f + 1), .a _ _] ⟨oI, o_a hso, trivial⟩ ?_
          exact ge
        · refine Wp.ev ?_
          refine gg [.a _ _, .b (0 != 0) false, .a _ _, .a _ _, .a _ _, .a _ _, .a _ _, .a _ _, .a _ _, .a _ _, .a _ _] ⟨o_a ha, o_b (by kernel_rfl), o_a hA, o_a hst, o_a hmv, o_a hsh, o_a hge, o_a hbl, o_a hfa, o_a hgr, o_a hlv, trivial⟩ ?_
          refine gg [.i IntKind.i64 (f + 1) (f + 1), .a _ _] ⟨oI, o_a hso, trivial⟩ ?_
          exact ge
      · rename_i hq
        clear hq
        generalize (leaveS c r f ⟨G, made + 1, []⟩).l = Z at *
        generalize hoo : (leaveS c r f ⟨G, made + 1, []⟩).out = oo at *
        generalize sortS Cross.less oo = so at *
        rcases hst with hst | ⟨X, hst⟩
        · refine Wp.ev ?_
          refine gg [.a _ _, .b (0 != 0) false, .a _ _, .a _ _, .a _ _, .a _ _, .a _ _, .a _ _, .a _ _, .a _ _, .a _ _] ⟨o_a ha, o_b (by kernel_rfl), o_a hA, o_a hst, o_a hmv, o_a hsh, o_a hge, o_a hbl, o_a hfa, o_a hgr, o_a hlv, trivial⟩ ?_
          refine gg [.i IntKind.i64 (f + 1) (f + 1), .s (T.sl 15 (List.map Cross.enc oo)), .a _ _] ⟨oI, o_a hso, trivial⟩ ?_
          exact ge
        · refine Wp.ev ?_
          refine gg [.a _ _, .b (0 != 0) false, .a _ _, .a _ _, .a _ _, .a _ _, .a _ _, .a _ _, .a _ _, .a _ _, .a _ _] ⟨o_a ha, o_b (by kernel_rfl), o_a hA, o_a hst, o_a hmv, o_a hsh, o_a hge, o_a hbl, o_a hfa, o_a hgr, o_a hlv, trivial⟩ ?_
          refine gg [.i IntKind.i64 (f + 1) (f + 1), .s (T.sl 15 (List.map Cross.enc oo)), .a _ _] ⟨oI, o_a hso, trivial⟩ ?_
          exact ge
  · have hfa := f_region_fall_b c r f made H (by omega) hnear hfl
    have hlen : (fallS c r f ⟨H, made, []⟩).l.length = H.length ∧ (fallS c r f ⟨H, made, []⟩).made = made ∧ (fallS c r f ⟨H, made, []⟩).out.length ≤ 1000 := by
      obtain ⟨k1, k2, k3⟩ := @fall_len c r f (fallenL H) ⟨H, made, []⟩
      refine ⟨k1, k2, ?_⟩
      change ((fallenL H).foldl (fall1 c r f) ⟨H, made, []⟩).out.length ≤ 1000
      rw [k3]
      have hfn := @fallen_len H
      have hns := @near_small c r
      have := Nat.mul_le_mul (Nat.le_trans hfn hHl) hns
      simp only [List.length_nil]
      omega
    generalize fallS c r f ⟨H, made, []⟩ = F at *
    obtain ⟨FL, fm, o⟩ := F
    simp only at hlen hfa ⊢
    obtain ⟨hl1, rfl, hl3⟩ := hlen
    by_cases hg : below 8 c.seed [3, f, r] ≠ 0 ∨ 3 ≤ (FL.countP fun e => e.kind == 3) ∨ Stg.room ⟨FL, fm, o⟩ = false
    · have hgr := f_region_grow_no_b c r f fm FL o (by omega) hg
      have e2 : growS c r f ⟨FL, fm, o⟩ = ⟨FL, fm, o⟩ := by unfold growS; rw [if_pos hg]
      rw [e2]
      clear e2 hg hfl
      have hlv := f_region_leave_b c r f fm FL o (by omega) (by omega)
      have hso := f_cross_Sort_1 (leaveS c r f ⟨FL, fm, o⟩).out (by have := @leave_len c r f ⟨FL, fm, o⟩; unfold small; simp only at this; omega)
      split at hlv
      · rename_i hq
        rw [show (leaveS c r f ⟨FL, fm, o⟩).out = o from leave_none hq] at hso ⊢
        clear hq
        generalize (leaveS c r f ⟨FL, fm, o⟩).l = Z at *
        generalize sortS Cross.less o = so at *
        rcases hst with hst | ⟨X, hst⟩
        · refine Wp.ev ?_
          refine gg [.a _ _, .b (0 != 0) false, .a _ _, .a _ _, .a _ _, .a _ _, .a _ _, .a _ _, .a _ _, .a _ _, .a _ _] ⟨o_a ha, o_b (by kernel_rfl), o_a hA, o_a hst, o_a hmv, o_a hsh, o_a hge, o_a hbl, o_a hfa, o_a hgr, o_a hlv, trivial⟩ ?_
          refine gg [.i IntKind.i64 (f + 1) (f + 1), .s (T.sl 15 (List.map Cross.enc o)), .a _ _] ⟨oI, o_a hso, trivial⟩ ?_
          exact ge
        · refine Wp.ev ?_
          refine gg [.a _ _, .b (0 != 0) false, .a _ _, .a _ _, .a _ _, .a _ _, .a _ _, .a _ _, .a _ _, .a _ _, .a _ _] ⟨o_a ha, o_b (by kernel_rfl), o_a hA, o_a hst, o_a hmv, o_a hsh, o_a hge, o_a hbl, o_a hfa, o_a hgr, o_a hlv, trivial⟩ ?_
          refine gg [.i IntKind.i64 (f + 1) (f + 1), .s (T.sl 15 (List.map Cross.enc o)), .a _ _] ⟨oI, o_a hso, trivial⟩ ?_
          exact ge
      · rename_i hq
        clear hq
        generalize (leaveS c r f ⟨FL, fm, o⟩).l = Z at *
        generalize hoo : (leaveS c r f ⟨FL, fm, o⟩).out = oo at *
        generalize sortS Cross.less oo = so at *
        rcases hst with hst | ⟨X, hst⟩
        · refine Wp.ev ?_
          refine gg [.a _ _, .b (0 != 0) false, .a _ _, .a _ _, .a _ _, .a _ _, .a _ _, .a _ _, .a _ _, .a _ _, .a _ _] ⟨o_a ha, o_b (by kernel_rfl), o_a hA, o_a hst, o_a hmv, o_a hsh, o_a hge, o_a hbl, o_a hfa, o_a hgr, o_a hlv, trivial⟩ ?_
          refine gg [.i IntKind.i64 (f + 1) (f + 1), .s (T.sl 15 (List.map Cross.enc oo)), .a _ _] ⟨oI, o_a hso, trivial⟩ ?_
          exact ge
        · refine Wp.ev ?_
          refine gg [.a _ _, .b (0 != 0) false, .a _ _, .a _ _, .a _ _, .a _ _, .a _ _, .a _ _, .a _ _, .a _ _, .a _ _] ⟨o_a ha, o_b (by kernel_rfl), o_a hA, o_a hst, o_a hmv, o_a hsh, o_a hge, o_a hbl, o_a hfa, o_a hgr, o_a hlv, trivial⟩ ?_
          refine gg [.i IntKind.i64 (f + 1) (f + 1), .s (T.sl 15 (List.map Cross.enc oo)), .a _ _] ⟨oI, o_a hso, trivial⟩ ?_
          exact ge
    · have hgr := f_region_grow_yes_b c r f fm FL o (by omega) (by omega) (by omega) (by omega) hg
      have e2 : growS c r f ⟨FL, fm, o⟩ = ⟨put1 FL (gemE c r f fm), fm + 1, o⟩ := by unfold growS; rw [if_neg hg]
      rw [e2]
      clear e2 hg hfl
      have hpl := (@put1_len FL (gemE c r f fm)).2
      generalize put1 FL (gemE c r f fm) = G at *
      have hlv := f_region_leave_b c r f (fm + 1) G o (by omega) (by omega)
      have hso := f_cross_Sort_1 (leaveS c r f ⟨G, fm + 1, o⟩).out (by have := @leave_len c r f ⟨G, fm + 1, o⟩; unfold small; simp only at this; omega)
      split at hlv
      · rename_i hq
        rw [show (leaveS c r f ⟨G, fm + 1, o⟩).out = o from leave_none hq] at hso ⊢
        clear hq
        generalize (leaveS c r f ⟨G, fm + 1, o⟩).l = Z at *
        generalize sortS Cross.less o = so at *
        rcases hst with hst | ⟨X, hst⟩
        · refine Wp.ev ?_
          refine gg [.a _ _, .b (0 != 0) false, .a _ _, .a _ _, .a _ _, .a _ _, .a _ _, .a _ _, .a _ _, .a _ _, .a _ _] ⟨o_a ha, o_b (by kernel_rfl), o_a hA, o_a hst, o_a hmv, o_a hsh, o_a hge, o_a hbl, o_a hfa, o_a hgr, o_a hlv, trivial⟩ ?_
          refine gg [.i IntKind.i64 (f + 1) (f + 1), .s (T.sl 15 (List.map Cross.enc o)), .a _ _] ⟨oI, o_a hso, trivial⟩ ?_
          exact ge
        · refine Wp.ev ?_
          refine gg [.a _ _, .b (0 != 0) false, .a _ _, .a _ _, .a _ _, .a _ _, .a _ _, .a _ _, .a _ _, .a _ _, .a _ _] ⟨o_a ha, o_b (by kernel_rfl), o_a hA, o_a hst, o_a hmv, o_a hsh, o_a hge, o_a hbl, o_a hfa, o_a hgr, o_a hlv, trivial⟩ ?_
          refine gg [.i IntKind.i64 (f + 1) (f + 1), .s (T.sl 15 (List.map Cross.enc o)), .a _ _] ⟨oI, o_a hso, trivial⟩ ?_
          exact ge
      · rename_i hq
        clear hq
        generalize (leaveS c r f ⟨G, fm + 1, o⟩).l = Z at *
        generalize hoo : (leaveS c r f ⟨G, fm + 1, o⟩).out = oo at *
        generalize sortS Cross.less oo = so at *
        rcases hst with hst | ⟨X, hst⟩
        · refine Wp.ev ?_
          refine gg [.a _ _, .b (0 != 0) false, .a _ _, .a _ _, .a _ _, .a _ _, .a _ _, .a _ _, .a _ _, .a _ _, .a _ _] ⟨o_a ha, o_b (by kernel_rfl), o_a hA, o_a hst, o_a hmv, o_a hsh, o_a hge, o_a hbl, o_a hfa, o_a hgr, o_a hlv, trivial⟩ ?_
          refine gg [.i IntKind.i64 (f + 1) (f + 1), .s (T.sl 15 (List.map Cross.enc oo)), .a _ _] ⟨oI, o_a hso, trivial⟩ ?_
          exact ge
        · refine Wp.ev ?_
          refine gg [.a _ _, .b (0 != 0) false, .a _ _, .a _ _, .a _ _, .a _ _, .a _ _, .a _ _, .a _ _, .a _ _, .a _ _] ⟨o_a ha, o_b (by kernel_rfl), o_a hA, o_a hst, o_a hmv, o_a hsh, o_a hge, o_a hbl, o_a hfa, o_a hgr, o_a hlv, trivial⟩ ?_
          refine gg [.i IntKind.i64 (f + 1) (f + 1), .s (T.sl 15 (List.map Cross.enc oo)), .a _ _] ⟨oI, o_a hso, trivial⟩ ?_
          exact ge
end Go.Eva.S3

/- Eva, part 68: steps of regions where there is nobody, or one; in plain words. -/
namespace Go.Eva

theorem grow_cases {c : Config} {r f : Int} {s : Stg} : growS c r f s = s ∨ growS c r f s = ⟨put1 s.l (gemE c r f s.made), s.made + 1, s.out⟩ := by
  unfold growS
  split
  · exact .inl rfl
  · exact .inr rfl
theorem gem_of {c : Config} {r f made : Int} (hr : c.is r = true) : c.of (gemE c r f made).x (gemE c r f made).y = r := (place_of (o1 := r) (o2 := r) (a := 4) (b := 5) hr).2.2
/-- How many there are behind a step. -/
theorem fine_next {c : Config} {r : Int} {s : Region} {ins : List Input} {inbox : List Cross} (h : askedE c r s ins inbox = 0) : (stepS c r s ins inbox).l.length ≤ 31 := by
  have hfine := asked_fine h
  have hrc := Config.is_right hfine.is
  obtain ⟨hst1, hst2⟩ := steer_ok hfine
  unfold stepS restS
  generalize steerS c r s.frame ins ⟨arriveL s.ents inbox, 0, []⟩ = S at *
  obtain ⟨A, made, o⟩ := S
  simp only at hst1 hst2 ⊢
  have hM := (move_moved hst1.sane).1
  have hH := ((hits_moved (inbox := inbox) hM).1).len hrc
  simp only at hH
  generalize blastsL (gemsL (shotsL (moveL c A))) inbox = H at *
  have hF := (@fall_len c r s.frame (fallenL H) ⟨H, made, o⟩).1
  change (fallS c r s.frame ⟨H, made, o⟩).l.length = H.length at hF
  have hG : (growS c r s.frame (fallS c r s.frame ⟨H, made, o⟩)).l.length ≤ 31 := by
    rcases @grow_cases c r s.frame (fallS c r s.frame ⟨H, made, o⟩) with h | h
    · rw [h]; omega
    · rw [h]
      have := (@put1_len (fallS c r s.frame ⟨H, made, o⟩).l (gemE c r s.frame (fallS c r s.frame ⟨H, made, o⟩).made)).2
      simp only; omega
  have : (leaveS c r s.frame (growS c r s.frame (fallS c r s.frame ⟨H, made, o⟩))).l.length ≤ (growS c r s.frame (fallS c r s.frame ⟨H, made, o⟩)).l.length := List.length_filter_le ..
  omega
end Go.Eva

/- Eva, part 69: arenas; in plain words. -/
namespace Go.Eva

structure World where
  regions : List Region
  outs : List CrossL
deriving DecidableEq, Inhabited
def World.enc (w : World) : T := .agg [.sl 2 (w.regions.map Region.enc), .sl 1 (w.outs.map encL)]
/-- A player at first. -/
def playerP (cols n i : Int) : Entity := ⟨i, 1, ((i - 1).tmod n).tmod cols * 1024 + 512, ((i - 1).tmod n).tdiv cols * 1024 + 512, 0, 0, 100, 0, 0⟩
def begin1 (cols n : Int) (rs : List Region) (i : Int) : List Region := rs.set ((i - 1).tmod n).toNat ⟨(gt rs ((i - 1).tmod n).toNat).frame, put1 (gt rs ((i - 1).tmod n).toNat).ents (playerP cols n i)⟩
def beginP (cols n : Int) : Nat → Int → List Region → List Region
  | 0, _, rs => rs
  | d + 1, i, rs => beginP cols n d (i + 1) (begin1 cols n rs i)
def beginW (cols n : Int) (players : Nat) : World := ⟨beginP cols n players 1 (List.replicate n.toNat ⟨0, []⟩), List.replicate n.toNat []⟩
/-- Handed over, of one list; of all. -/
def handed (l : List Cross) : List Entity := (l.filter fun m => decide (m.kind = 1)).map Cross.ent
def entsAll (rs : List Region) : List Entity := (rs.map Region.ents).flatten
def handedAll (os : List CrossL) : List Entity := (os.map handed).flatten
def allL (w : World) : List Entity := sortS Entity.less (entsAll w.regions ++ handedAll w.outs)
theorem beginP_len {cols n : Int} : ∀ {d : Nat} {i : Int} {rs : List Region}, (beginP cols n d i rs).length = rs.length
  | 0, _, _ => rfl
  | d + 1, i, rs => by rw [beginP, beginP_len]; simp [begin1]
/-- All players, in their order. -/
def playersP (cols n : Int) : Nat → Int → List Entity
  | 0, _ => []
  | d + 1, i => playerP cols n i :: playersP cols n d (i + 1)
theorem begin_all {a b p : Int} (ha : 1 ≤ a ∧ a ≤ 3) (hb : 1 ≤ b ∧ b ≤ 3) (hp : 1 ≤ p ∧ p ≤ 4) : allL (beginW a (a * b) p.toNat) = playersP a (a * b) p.toNat 1 := by
  have key : ∀ x ∈ [1, 2, 3], ∀ y ∈ [1, 2, 3], ∀ q ∈ [1, 2, 3, 4], allL (beginW (x : Nat) ((x : Nat) * (y : Nat) : Int) q) = playersP (x : Nat) ((x : Nat) * (y : Nat) : Int) q 1 := by decide +kernel
  obtain ⟨x, rfl⟩ : ∃ x : Nat, a = x := ⟨a.toNat, by omega⟩
  obtain ⟨y, rfl⟩ : ∃ y : Nat, b = y := ⟨b.toNat, by omega⟩
  obtain ⟨q, rfl⟩ : ∃ q : Nat, p = q := ⟨p.toNat, by omega⟩
  refine key x ?_ y ?_ q ?_
  · have : x = 1 ∨ x = 2 ∨ x = 3 := by omega
    simpa using this
  · have : y = 1 ∨ y = 2 ∨ y = 3 := by omega
    simpa using this
  · have : q = 1 ∨ q = 2 ∨ q = 3 ∨ q = 4 := by omega
    simpa using this
end Go.Eva

/- Arenas: at first; all that there is. -/
namespace Go.Eva.S3
theorem f_arena_Begin_loop (g : Config) (os : List T) (hg : g.right = true) : ∀ (d j : Nat) (rs : List Region), ((j + d : Nat) : Int) = g.players → (rs.length : Int) = g.regions → (∀ s ∈ rs, s.ents.length ≤ j) →
    Is cx (.loop 37 [0, 1, 0, 1, 1, 1, 1] 0 [.ptr 0 0 0, .ptr 1 0 0, .ptr 2 0 0, vi (j + 1 : Nat)] [.one 2 (.agg [.fit 2 [], .fit 1 []]) false, .one 5 (.t g.enc) false, .one 2 (.agg [.all 3 none, .all 4 none]) false, .arr 2 (rs.map Region.enc) (some 0) false, .arr 1 os (some 0) false])
      ⟨.exit 0, [.ptr 0 0 0, .ptr 1 0 0, .ptr 2 0 0, vi (j + d + 1 : Nat)], [.one 2 (.agg [.fit 2 [], .fit 1 []]) false, .one 5 (.t g.enc) false, .one 2 (.agg [.all 3 none, .all 4 none]) false, .arr 2 ((beginP g.cols g.regions d (j + 1 : Nat) rs).map Region.enc) (some 0) false, .arr 1 os (some 0) false]⟩ := by
  have hgr := Config.right_iff.1 hg
  have hgl := @Config.regions_le g
  have hml := Config.mul_le hg
  have hre : g.regions = g.cols * g.rows := by simp [Config.regions, hg]
  intro d
  induction d with
  | zero =>
    intro j rs hj hl hb
    rw [beginP]
    clear hre
    refine Wp.ev ?_
    refine gg [.b (decide ((↑(j + 1) : Int) ≤ g.players)) false] ⟨fP, trivial⟩ ?_
    exact ge
  | succ d ih =>
    intro j rs hj hl hb
    obtain ⟨k, hk⟩ : ∃ k : Nat, Int.tmod (j : Int) g.regions = k := ⟨(Int.tmod (j : Int) g.regions).toNat, by
      have := tmod_le (v := (j : Int)) (k := g.regions) (by omega) (by omega); omega⟩
    have hk2 := tmod_le (v := (j : Int)) (k := g.regions) (by omega) (by omega)
    rw [hk] at hk2
    have hkl : k < rs.length := by omega
    have ej : ((j + 1 : Nat) : Int) - 1 = (j : Nat) := by omega
    have eb : begin1 g.cols g.regions rs (j + 1 : Nat) = rs.set k ⟨(gt rs k).frame, put1 (gt rs k).ents ⟨(j + 1 : Nat), 1, (k : Int).tmod g.cols * 1024 + 512, (k : Int).tdiv g.cols * 1024 + 512, 0, 0, 100, 0, 0⟩⟩ := by
      unfold begin1 playerP
      rw [ej, hk]
      rfl
    rw [beginP, eb]
    have hpl := (@put1_len (gt rs k).ents ⟨(j + 1 : Nat), 1, (k : Int).tmod g.cols * 1024 + 512, (k : Int).tdiv g.cols * 1024 + 512, 0, 0, 100, 0, 0⟩).2
    have hbk := hb _ (gt_mem hkl)
    have ih1 := ih (j + 1) (rs.set k ⟨(gt rs k).frame, put1 (gt rs k).ents ⟨(j + 1 : Nat), 1, (k : Int).tmod g.cols * 1024 + 512, (k : Int).tdiv g.cols * 1024 + 512, 0, 0, 100, 0, 0⟩⟩) (by omega) (by simpa using hl) fun s hs => by
      rcases set_mem hs with rfl | hs
      · simp only; omega
      · have := hb s hs; omega
    have hC := f_grid_Corner g k
    have his : g.is k = true := by rw [Config.is_iff hg]; omega
    simp only [Config.cornerX, Config.cornerY, his, if_true] at hC
    have q1 := tdiv_le (v := (k : Int)) (k := g.cols) (m := g.rows) (by omega) (by omega) (by omega)
    have q2 := tmod_le (v := (k : Int)) (k := g.cols) (by omega) (by omega)
    have hG := f_grid_Regions g
    have hput := f_entity_Put (gt rs k).ents [⟨(j + 1 : Nat), 1, (k : Int).tmod g.cols * 1024 + 512, (k : Int).tdiv g.cols * 1024 + 512, 0, 0, 100, 0, 0⟩] (by omega) (by simp)
    change Is cx _ ⟨_, _, [.arr 9 ((put1 (gt rs k).ents ⟨(j + 1 : Nat), 1, (k : Int).tmod g.cols * 1024 + 512, (k : Int).tdiv g.cols * 1024 + 512, 0, 0, 100, 0, 0⟩).map Entity.enc) none false]⟩ at hput
    generalize put1 (gt rs k).ents ⟨(j + 1 : Nat), 1, (k : Int).tmod g.cols * 1024 + 512, (k : Int).tdiv g.cols * 1024 + 512, 0, 0, 100, 0, 0⟩ = B at *
    clear ih eb hre hb his
    rw [show j + 1 + d + 1 = j + (d + 1) + 1 by omega] at ih1
    refine Wp.ev ?_
    refine gg [.b (decide ((↑(j + 1) : Int) ≤ g.players)) true, .i IntKind.i64 ((↑(j + 1) : Int) - 1) (↑j : Int), .a _ _, .w (Config.regions g ≠ (0 : Int)), .t (ti (Int.tmod (↑j : Int) (Config.regions g))) (ti (↑k : Int)), .a _ _, .i IntKind.i64 (Int.tmod (↑k : Int) g.cols * 1024 + 512) (Int.tmod (↑k : Int) g.cols * 1024 + 512), .i IntKind.i64 (Int.tdiv (↑k : Int) g.cols * 1024 + 512) (Int.tdiv (↑k : Int) g.cols * 1024 + 512), .w ((0 : Int) ≤ (↑k : Int)), .n (Int.toNat (↑k : Int)) k, .w (k < List.length (List.map Region.enc rs)), .g (List.map Region.enc rs) k (Region.enc (gt rs k)), .a _ _, .w ((0 : Int) ≤ (↑k : Int)), .n (Int.toNat (↑k : Int)) k, .w (k < List.length (List.map Region.enc rs))] ⟨tP, oI, o_a hG, oW, o_t (by rw [hk]), o_a hC, oI, oI, oW, o_n (by kernel_rfl), o_w (by (simp; omega)), o_gt rfl (by assumption) (by intro h; cases h), o_a hput, oW, o_n (by kernel_rfl), o_w (by (simp; omega)), trivial⟩ ?_
    refine gg [.s (T.sl 9 (List.map Entity.enc B)), .g (List.map Region.enc rs) k (Region.enc (gt rs k)), .t (T.sl 0 (List.set (List.map Region.enc rs) k (T.agg [ti (gt rs k).frame, T.sl 9 (List.map Entity.enc B)]))) (T.sl 0 (List.map Region.enc (List.set rs k (Region.mk (gt rs k).frame B)))), .i IntKind.i64 ((↑(j + 1) : Int) + 1) ((↑(j + 1 + 1) : Int)), .a _ _] ⟨o_gt rfl (by assumption) (by intro h; cases h), o_l (nm_set (e := Region.mk (gt rs k).frame B) rfl rfl), oI, o_a ih1, trivial⟩ ?_
    exact ge
theorem f_arena_Begin_yes (c : Config) (h : c.right = true) : Is cx (.call 37 [.t c.enc] []) ⟨.ret, [.t (beginW c.cols (c.cols * c.rows) c.players.toNat).enc, vi 0], []⟩ := by
  have hgr := Config.right_iff.1 h
  have hgl := @Config.regions_le c
  have hre : c.regions = c.cols * c.rows := by simp [Config.regions, h]
  have hN := f_grid_New c
  rw [Config.grid_of h, Config.err_of h] at hN
  have hG := f_grid_Regions c
  have hL := f_arena_Begin_loop c (List.replicate c.regions.toNat (T.sl 15 [])) h c.players.toNat 0 (List.replicate c.regions.toNat ⟨0, []⟩) (by omega) (by simp; omega) (fun s hs => by rw [List.eq_of_mem_replicate hs]; simp)
  have e1 : beginP c.cols c.regions c.players.toNat ((0 + 1 : Nat) : Int) (List.replicate c.regions.toNat ⟨0, []⟩) = (beginW c.cols (c.cols * c.rows) c.players.toNat).regions := by rw [← hre]; rfl
  have e2 : List.replicate c.regions.toNat (T.sl 15 []) = (beginW c.cols (c.cols * c.rows) c.players.toNat).outs.map encL := by rw [← hre]; simp only [beginW, List.map_replicate]; rfl
  rw [e1, List.map_replicate] at hL
  generalize hW : beginW c.cols (c.cols * c.rows) c.players.toNat = W at *
  obtain ⟨R, O⟩ := W
  simp only at hL e2 ⊢
  simp only [Nat.zero_add] at hL
  clear hre e1 hW
  have hfin : (World.enc ⟨R, O⟩) = .agg [.sl 2 (R.map Region.enc), .sl 1 (List.replicate c.regions.toNat (T.sl 15 []))] := by rw [e2]; rfl
  rw [hfin]
  clear hfin e2
  refine Wp.ev ?_
  refine gg [.a _ _, .b (0 != 0) false] ⟨o_a hN, o_b (by kernel_rfl), trivial⟩ ?_
  refine bo (by kernel_rfl) ?_ ?_
  · refine gg [.a _ _] ⟨o_a hG, trivial⟩ ?_
    refine bo (by kernel_rfl) ?_ ?_
    · refine gg [.s (T.agg [ti 0, T.sl 9 []]), .w ((0 : Int) ≤ Config.regions c ∧ Config.regions c ≤ Config.regions c ∧ room (Int.toNat (Config.regions c)) (32 : Nat)), .l (Int.toNat (Config.regions c))] ⟨o_w ⟨(by omega), ⟨(by omega), (by (simp [room, appendMax]; omega))⟩⟩, trivial⟩ ?_
      refine bo (by kernel_rfl) ?_ ?_
      · refine gg [.a _ _] ⟨o_a hG, trivial⟩ ?_
        refine bo (by kernel_rfl) ?_ ?_
        all_goals
          refine gg [.w ((0 : Int) ≤ Config.regions c ∧ Config.regions c ≤ Config.regions c ∧ room (Int.toNat (Config.regions c)) (24 : Nat)), .l (Int.toNat (Config.regions c)), .a _ _] ⟨o_w ⟨(by omega), ⟨(by omega), (by (simp [room, appendMax]; omega))⟩⟩, o_a hL, trivial⟩ ?_
          exact ge
      · refine gg [.a _ _, .w ((0 : Int) ≤ Config.regions c ∧ Config.regions c ≤ Config.regions c ∧ room (Int.toNat (Config.regions c)) (24 : Nat)), .l (Int.toNat (Config.regions c)), .a _ _] ⟨o_a hG, o_w ⟨(by omega), ⟨(by omega), (by (simp [room, appendMax]; omega))⟩⟩, o_a hL, trivial⟩ ?_
        exact ge
    · refine bo (by kernel_rfl) ?_ ?_
      · refine gg [.a _ _] ⟨o_a hG, trivial⟩ ?_
        refine bo (by kernel_rfl) ?_ ?_
        · refine gg [.s (T.agg [ti 0, T.sl 9 []]), .w ((0 : Int) ≤ Config.regions c ∧ Config.regions c ≤ Config.regions c ∧ room (Int.toNat (Config.regions c)) (32 : Nat)), .l (Int.toNat (Config.regions c))] ⟨o_w ⟨(by omega), ⟨(by omega), (by (simp [room, appendMax]; omega))⟩⟩, trivial⟩ ?_
          refine bo (by kernel_rfl) ?_ ?_
          all_goals
            refine gg [.w ((0 : Int) ≤ Config.regions c ∧ Config.regions c ≤ Config.regions c ∧ room (Int.toNat (Config.regions c)) (24 : Nat)), .l (Int.toNat (Config.regions c)), .a _ _] ⟨o_w ⟨(by omega), ⟨(by omega), (by (simp [room, appendMax]; omega))⟩⟩, o_a hL, trivial⟩ ?_
            exact ge
        · refine bo (by kernel_rfl) ?_ ?_
          · refine gg [.w ((0 : Int) ≤ Config.regions c ∧ Config.regions c ≤ Config.regions c ∧ room (Int.toNat (Config.regions c)) (24 : Nat)), .l (Int.toNat (Config.regions c))] ⟨o_w ⟨(by omega), ⟨(by omega), (by (simp [room, appendMax]; omega))⟩⟩, trivial⟩ ?_
            refine bo (by kernel_rfl) ?_ ?_
            all_goals
              refine gg [.s (T.agg [ti 0, T.sl 9 []]), .w ((0 : Int) ≤ Config.regions c ∧ Config.regions c ≤ Config.regions c ∧ room (Int.toNat (Config.regions c)) (32 : Nat)), .l (Int.toNat (Config.regions c)), .a _ _] ⟨o_w ⟨(by omega), ⟨(by omega), (by (simp [room, appendMax]; omega))⟩⟩, o_a hL, trivial⟩ ?_
              exact ge
          · refine bo (by kernel_rfl) ?_ ?_
            · refine gg [.s (T.agg [ti 0, T.sl 9 []]), .w ((0 : Int) ≤ Config.regions c ∧ Config.regions c ≤ Config.regions c ∧ room (Int.toNat (Config.regions c)) (32 : Nat)), .l (Int.toNat (Config.regions c)), .w ((0 : Int) ≤ Config.regions c ∧ Config.regions c ≤ Config.regions c ∧ room (Int.toNat (Config.regions c)) (24 : Nat)), .l (Int.toNat (Config.regions c)), .a _ _] ⟨o_w ⟨(by omega), ⟨(by omega), (by (simp [room, appendMax]; omega))⟩⟩, o_w ⟨(by omega), ⟨(by omega), (by (simp [room, appendMax]; omega))⟩⟩, o_a hL, trivial⟩ ?_
              exact ge
            · refine gg [.w ((0 : Int) ≤ Config.regions c ∧ Config.regions c ≤ Config.regions c ∧ room (Int.toNat (Config.regions c)) (24 : Nat)), .l (Int.toNat (Config.regions c)), .s (T.agg [ti 0, T.sl 9 []]), .w ((0 : Int) ≤ Config.regions c ∧ Config.regions c ≤ Config.regions c ∧ room (Int.toNat (Config.regions c)) (32 : Nat)), .l (Int.toNat (Config.regions c)), .a _ _] ⟨o_w ⟨(by omega), ⟨(by omega), (by (simp [room, appendMax]; omega))⟩⟩, o_w ⟨(by omega), ⟨(by omega), (by (simp [room, appendMax]; omega))⟩⟩, o_a hL, trivial⟩ ?_
              exact ge
      · refine bo (by kernel_rfl) ?_ ?_
        · refine gg [.s (T.agg [ti 0, T.sl 9 []]), .w ((0 : Int) ≤ Config.regions c ∧ Config.regions c ≤ Config.regions c ∧ room (Int.toNat (Config.regions c)) (32 : Nat)), .l (Int.toNat (Config.regions c)), .a _ _, .w ((0 : Int) ≤ Config.regions c ∧ Config.regions c ≤ Config.regions c ∧ room (Int.toNat (Config.regions c)) (24 : Nat)), .l (Int.toNat (Config.regions c)), .a _ _] ⟨o_w ⟨(by omega), ⟨(by omega), (by (simp [room, appendMax]; omega))⟩⟩, o_a hG, o_w ⟨(by omega), ⟨(by omega), (by (simp [room, appendMax]; omega))⟩⟩, o_a hL, trivial⟩ ?_
          exact ge
        · refine gg [.a _ _] ⟨o_a hG, trivial⟩ ?_
          refine bo (by kernel_rfl) ?_ ?_
          · refine gg [.s (T.agg [ti 0, T.sl 9 []]), .w ((0 : Int) ≤ Config.regions c ∧ Config.regions c ≤ Config.regions c ∧ room (Int.toNat (Config.regions c)) (32 : Nat)), .l (Int.toNat (Config.regions c)), .w ((0 : Int) ≤ Config.regions c ∧ Config.regions c ≤ Config.regions c ∧ room (Int.toNat (Config.regions c)) (24 : Nat)), .l (Int.toNat (Config.regions c)), .a _ _] ⟨o_w ⟨(by omega), ⟨(by omega), (by (simp [room, appendMax]; omega))⟩⟩, o_w ⟨(by omega), ⟨(by omega), (by (simp [room, appendMax]; omega))⟩⟩, o_a hL, trivial⟩ ?_
            exact ge
          · refine gg [.w ((0 : Int) ≤ Config.regions c ∧ Config.regions c ≤ Config.regions c ∧ room (Int.toNat (Config.regions c)) (24 : Nat)), .l (Int.toNat (Config.regions c)), .s (T.agg [ti 0, T.sl 9 []]), .w ((0 : Int) ≤ Config.regions c ∧ Config.regions c ≤ Config.regions c ∧ room (Int.toNat (Config.regions c)) (32 : Nat)), .l (Int.toNat (Config.regions c)), .a _ _] ⟨o_w ⟨(by omega), ⟨(by omega), (by (simp [room, appendMax]; omega))⟩⟩, o_w ⟨(by omega), ⟨(by omega), (by (simp [room, appendMax]; omega))⟩⟩, o_a hL, trivial⟩ ?_
            exact ge
  · refine gg [.a _ _] ⟨o_a hG, trivial⟩ ?_
    refine bo (by kernel_rfl) ?_ ?_
    · refine gg [.s (T.agg [ti 0, T.sl 9 []]), .w ((0 : Int) ≤ Config.regions c ∧ Config.regions c ≤ Config.regions c ∧ room (Int.toNat (Config.regions c)) (32 : Nat)), .l (Int.toNat (Config.regions c)), .a _ _, .w ((0 : Int) ≤ Config.regions c ∧ Config.regions c ≤ Config.regions c ∧ room (Int.toNat (Config.regions c)) (24 : Nat)), .l (Int.toNat (Config.regions c)), .a _ _] ⟨o_w ⟨(by omega), ⟨(by omega), (by (simp [room, appendMax]; omega))⟩⟩, o_a hG, o_w ⟨(by omega), ⟨(by omega), (by (simp [room, appendMax]; omega))⟩⟩, o_a hL, trivial⟩ ?_
      exact ge
    · refine gg [.a _ _] ⟨o_a hG, trivial⟩ ?_
      refine bo (by kernel_rfl) ?_ ?_
      · refine gg [.s (T.agg [ti 0, T.sl 9 []]), .w ((0 : Int) ≤ Config.regions c ∧ Config.regions c ≤ Config.regions c ∧ room (Int.toNat (Config.regions c)) (32 : Nat)), .l (Int.toNat (Config.regions c)), .w ((0 : Int) ≤ Config.regions c ∧ Config.regions c ≤ Config.regions c ∧ room (Int.toNat (Config.regions c)) (24 : Nat)), .l (Int.toNat (Config.regions c)), .a _ _] ⟨o_w ⟨(by omega), ⟨(by omega), (by (simp [room, appendMax]; omega))⟩⟩, o_w ⟨(by omega), ⟨(by omega), (by (simp [room, appendMax]; omega))⟩⟩, o_a hL, trivial⟩ ?_
        exact ge
      · refine gg [.w ((0 : Int) ≤ Config.regions c ∧ Config.regions c ≤ Config.regions c ∧ room (Int.toNat (Config.regions c)) (24 : Nat)), .l (Int.toNat (Config.regions c)), .s (T.agg [ti 0, T.sl 9 []]), .w ((0 : Int) ≤ Config.regions c ∧ Config.regions c ≤ Config.regions c ∧ room (Int.toNat (Config.regions c)) (32 : Nat)), .l (Int.toNat (Config.regions c)), .a _ _] ⟨o_w ⟨(by omega), ⟨(by omega), (by (simp [room, appendMax]; omega))⟩⟩, o_w ⟨(by omega), ⟨(by omega), (by (simp [room, appendMax]; omega))⟩⟩, o_a hL, trivial⟩ ?_
        exact ge
theorem ents_gt {rs : List Region} {i : Nat} (h : i < rs.length) : entsAll (rs.drop i) = (gt rs i).ents ++ entsAll (rs.drop (i + 1)) := by unfold entsAll; rw [drop_gt h]; simp
theorem handed_gt {l : List Cross} {i : Nat} (h : i < l.length) : handed (l.drop i) = (if (gt l i).kind = 1 then [(gt l i).ent] else []) ++ handed (l.drop (i + 1)) := by
  unfold handed; rw [filter_gt _ h]; split <;> simp_all
theorem handedAll_gt {os : List CrossL} {i : Nat} (h : i < os.length) : handedAll (os.drop i) = handed (gt os i) ++ handedAll (os.drop (i + 1)) := by unfold handedAll; rw [drop_gt h]; simp
theorem f_arena_All_regions (w : World) (hn : w.regions.length ≤ 1000) (hs : (entsAll w.regions).length ≤ 100000) : ∀ (d i : Nat) (A : List Entity), i + d = w.regions.length → A.length + (entsAll (w.regions.drop i)).length = (entsAll w.regions).length →
    Is cx (.loop 46 [0, 1, 0, 1, 1] 0 [.ptr 0 0 0, .all 1 none, .t (.sl 2 (w.regions.map Region.enc)), vi w.regions.length, vi i] [.one 2 (.t w.enc) false, .arr 9 (A.map Entity.enc) none false])
      ⟨.exit 0, [.ptr 0 0 0, .all 1 none, .t (.sl 2 (w.regions.map Region.enc)), vi w.regions.length, vi w.regions.length], [.one 2 (.t w.enc) false, .arr 9 ((A ++ entsAll (w.regions.drop i)).map Entity.enc) none false]⟩ := by
  obtain ⟨R, O⟩ := w
  simp only at *
  intro d
  induction d with
  | zero =>
    intro i A hi hA
    rw [drop_end (by omega)]
    refine Wp.ev ?_
    refine gg [.b (decide ((↑i : Int) < (↑(List.length R) : Int))) false] ⟨fP, trivial⟩ ?_
    refine rt (a := Res.mk (Ex.exit 0) [V.ptr 0 0 0, V.all 1 none, V.t (T.sl 2 (List.map Region.enc R)), vi (↑(List.length R) : Int), vi (↑i : Int)] [Ob.one 2 (V.t (World.enc (World.mk R O))) false, Ob.arr 9 (List.map Entity.enc A) none false]) (by kernel_rfl) ?_
    ((have hq : i = R.length := by omega); subst hq; simp [entsAll])
  | succ d ih =>
    intro i A hi hA
    have hlt : i < R.length := by omega
    rw [ents_gt hlt] at hA ⊢
    rw [List.length_append] at hA
    have ih1 := ih (i + 1) (A ++ (gt R i).ents) (by omega) (by rw [List.length_append]; omega)
    clear ih
    rw [← List.append_assoc]
    refine Wp.ev ?_
    refine gg [.b (decide ((↑i : Int) < (↑(List.length R) : Int))) true, .w ((0 : Int) ≤ (↑i : Int)), .n (Int.toNat (↑i : Int)) i, .g (List.map Region.enc R) i (Region.enc (gt R i)), .w ((0 : Nat) < (72 : Nat)), .s (T.sl 0 (List.map Entity.enc (gt R i).ents)), .t (T.sl 0 (List.map Entity.enc A ++ List.map Entity.enc (gt R i).ents)) (T.sl 0 (List.map Entity.enc (A ++ (gt R i).ents))), .w (room (List.length (List.map Entity.enc (A ++ (gt R i).ents))) (72 : Nat)), .i IntKind.i64 ((↑i : Int) + 1) ((↑(i + 1) : Int)), .a _ _] ⟨tP, oW, o_n (by kernel_rfl), o_gt rfl (by assumption) (by intro h; cases h), oW, o_l (nm_app rfl rfl), o_w (by (simp [room, appendMax]; omega)), oI, o_a ih1, trivial⟩ ?_
    exact ge
theorem f_arena_All_list (os : List T) (n i : Nat) (l : List Cross) (hl : l.length ≤ 1000) : ∀ (d j : Nat) (A : List Entity), j + d = l.length → A.length ≤ 500000 + j →
    Is cx (.loop 46 [0, 1, 1, 0, 0, 1, 1, 0, 0, 1, 0, 1, 1, 1] 0 [.all 0 none, .t (.sl 1 os), vi n, vi i, .t (.sl 15 (l.map Cross.enc)), vi l.length, vi j] [.arr 9 (A.map Entity.enc) none false])
      ⟨.exit 4, [.all 0 none, .t (.sl 1 os), vi n, vi i, .t (.sl 15 (l.map Cross.enc)), vi l.length, vi l.length], [.arr 9 ((A ++ handed (l.drop j)).map Entity.enc) none false]⟩ := by
  intro d
  induction d with
  | zero =>
    intro j A hj hA
    rw [drop_end (by omega)]
    refine Wp.ev ?_
    refine gg [.b (decide ((↑j : Int) < (↑(List.length l) : Int))) false] ⟨fP, trivial⟩ ?_
    refine rt (a := Res.mk (Ex.exit 4) [V.all 0 none, V.t (T.sl 1 os), vi (↑n : Int), vi (↑i : Int), V.t (T.sl 15 (List.map Cross.enc l)), vi (↑(List.length l) : Int), vi (↑j : Int)] [Ob.arr 9 (List.map Entity.enc A) none false]) (by kernel_rfl) ?_
    ((have hq : j = l.length := by omega); subst hq; simp [handed])
  | succ d ih =>
    intro j A hj hA
    have hlt : j < l.length := by omega
    rw [handed_gt hlt]
    by_cases hk : (gt l j).kind = 1
    · have ih1 := ih (j + 1) (A ++ [(gt l j).ent]) (by omega) (by simp; omega)
      rw [if_pos hk, ← List.append_assoc]
      clear ih
      refine Wp.ev ?_
      refine gg [.b (decide ((↑j : Int) < (↑(List.length l) : Int))) true, .w ((0 : Int) ≤ (↑j : Int)), .n (Int.toNat (↑j : Int)) j, .g (List.map Cross.enc l) j (Cross.enc (gt l j)), .b ((gt l j).kind == 1) true, .w ((0 : Nat) < (72 : Nat)), .t (T.sl 0 [Entity.enc (gt l j).ent]) (T.sl 0 (List.map Entity.enc [(gt l j).ent])), .t (T.sl 0 (List.map Entity.enc A ++ List.map Entity.enc [(gt l j).ent])) (T.sl 0 (List.map Entity.enc (A ++ [(gt l j).ent]))), .w (room (List.length (List.map Entity.enc (A ++ [(gt l j).ent]))) (72 : Nat)), .i IntKind.i64 ((↑j : Int) + 1) ((↑(j + 1) : Int)), .a _ _] ⟨tP, oW, o_n (by kernel_rfl), o_gt rfl (by assumption) (by intro h; cases h), t_bre (by assumption), oW, o_l (nm_cons rfl nm_nil), o_l (nm_app rfl rfl), o_w (by (simp [room, appendMax]; omega)), oI, o_a ih1, trivial⟩ ?_
      exact ge
    · have ih1 := ih (j + 1) A (by omega) (by omega)
      rw [if_neg hk, List.nil_append]
      clear ih
      refine Wp.ev ?_
      refine gg [.b (decide ((↑j : Int) < (↑(List.length l) : Int))) true, .w ((0 : Int) ≤ (↑j : Int)), .n (Int.toNat (↑j : Int)) j, .g (List.map Cross.enc l) j (Cross.enc (gt l j)), .b ((gt l j).kind == 1) false, .i IntKind.i64 ((↑j : Int) + 1) ((↑(j + 1) : Int)), .a _ _] ⟨tP, oW, o_n (by kernel_rfl), o_gt rfl (by assumption) (by intro h; cases h), f_bre (by assumption), oI, o_a ih1, trivial⟩ ?_
      exact ge
theorem f_arena_All_outs (os : List CrossL) (hn : os.length ≤ 100) (hs : ∀ l ∈ os, l.length ≤ 1000) : ∀ (d i : Nat) (A : List Entity), i + d = os.length → A.length ≤ 100000 + 1000 * i →
    Is cx (.loop 46 [0, 1, 0, 1, 1, 1] 0 [.all 0 none, .t (.sl 1 (os.map encL)), vi os.length, vi i] [.arr 9 (A.map Entity.enc) none false])
      ⟨.exit 2, [.all 0 none, .t (.sl 1 (os.map encL)), vi os.length, vi os.length], [.arr 9 ((A ++ handedAll (os.drop i)).map Entity.enc) none false]⟩ := by
  intro d
  induction d with
  | zero =>
    intro i A hi hA
    rw [drop_end (by omega)]
    refine Wp.ev ?_
    refine gg [.b (decide ((↑i : Int) < (↑(List.length os) : Int))) false] ⟨fP, trivial⟩ ?_
    refine rt (a := Res.mk (Ex.exit 2) [V.all 0 none, V.t (T.sl 1 (List.map encL os)), vi (↑(List.length os) : Int), vi (↑i : Int)] [Ob.arr 9 (List.map Entity.enc A) none false]) (by kernel_rfl) ?_
    ((have hq : i = os.length := by omega); subst hq; simp [handedAll])
  | succ d ih =>
    intro i A hi hA
    have hlt : i < os.length := by omega
    rw [handedAll_gt hlt]
    have hl := hs _ (gt_mem hlt)
    have hh : (handed (gt os i)).length ≤ (gt os i).length := by unfold handed; rw [List.length_map]; exact List.length_filter_le ..
    have ih1 := ih (i + 1) (A ++ handed (gt os i)) (by omega) (by rw [List.length_append]; omega)
    have h2 := f_arena_All_list (os.map encL) os.length i (gt os i) hl (gt os i).length 0 A (by omega) (by omega)
    rw [List.drop_zero] at h2
    clear ih hs hh
    rw [← List.append_assoc]
    generalize handed (gt os i) = hd at *
    refine Wp.ev ?_
    refine gg [.b (decide ((↑i : Int) < (↑(List.length os) : Int))) true, .w ((0 : Int) ≤ (↑i : Int)), .n (Int.toNat (↑i : Int)) i, .g (List.map encL os) i (encL (gt os i)), .n (List.length (List.map Cross.enc (gt os i))) (List.length (gt os i)), .a _ _, .i IntKind.i64 ((↑i : Int) + 1) ((↑(i + 1) : Int)), .a _ _] ⟨tP, oW, o_n (by kernel_rfl), o_gt rfl (by assumption) (by intro h; cases h), o_n (by simp), o_a h2, oI, o_a ih1, trivial⟩ ?_
    exact ge
theorem handedAll_len {os : List CrossL} (hs : ∀ l ∈ os, l.length ≤ 1000) : (handedAll os).length ≤ 1000 * os.length := by
  induction os with
  | nil => simp [handedAll]
  | cons l os ih =>
    have h1 := ih fun x hx => hs x (List.mem_cons_of_mem _ hx)
    have h2 := hs l (List.mem_cons_self ..)
    have hh : (handed l).length ≤ l.length := by unfold handed; rw [List.length_map]; exact List.length_filter_le ..
    have e : handedAll (l :: os) = handed l ++ handedAll os := rfl
    rw [e, List.length_append, List.length_cons]
    omega
theorem f_arena_All (w : World) (hn : w.regions.length ≤ 1000) (hs : (entsAll w.regions).length ≤ 100000) (ho : w.outs.length ≤ 100) (hl : ∀ l ∈ w.outs, l.length ≤ 1000) : Fn cx 46 [w.enc] (.sl 9 ((allL w).map Entity.enc)) := by
  have h1 := f_arena_All_regions w hn hs w.regions.length 0 [] (by omega) (by simp)
  rw [List.drop_zero, List.nil_append] at h1
  have h2 := f_arena_All_outs w.outs ho hl w.outs.length 0 (entsAll w.regions) (by omega) (by omega)
  rw [List.drop_zero] at h2
  have hlen := handedAll_len hl
  unfold allL
  have h3 := f_SortStableFunc_Entity (entsAll w.regions ++ handedAll w.outs) (by unfold small; simp; omega)
  obtain ⟨R, O⟩ := w
  simp only at *
  generalize entsAll R = E at *
  generalize E ++ handedAll O = X at *
  generalize sortS Entity.less X = Y at *
  clear hl hlen
  refine Wp.ev ?_
  refine gg [.n (List.length (List.map Region.enc R)) (List.length R), .a _ _, .n (List.length (List.map encL O)) (List.length O), .a _ _, .a _ _] ⟨o_n (by simp), o_a h1, o_n (by simp), o_a h2, o_a h3, trivial⟩ ?_
  exact ge
end Go.Eva.S3

/- Eva, part 70: arenas, regions, messages and inputs that statements are about; in plain words. -/
namespace Go.Eva

/-- As long as a list may be. -/
def long {α : Type} (l : List α) : Prop := l.length ≤ 9223372036854775807

abbrev um (n k : Int) : Int := (IntKind.u64.wrap n).tmod k
theorem um_le {n k : Int} (h : 0 < k) : 0 ≤ um n k ∧ um n k < k := u64_tmod h
def playInput (i : Input) : Input := if i.right = true then i else ⟨um i.dx 5 - 2, um i.dy 5 - 2, i.fire⟩
theorem playInput_right (i : Input) : (playInput i).right = true := by
  unfold playInput
  split
  · assumption
  · have h1 := @um_le i.dx 5 (by decide)
    have h2 := @um_le i.dy 5 (by decide)
    simp only [Input.right, Bool.and_eq_true, within_iff]; omega
/-- A row of inputs, filled as far as 'k'. -/
def rowAt (n : Nat) (l : List Input) (k : Nat) : List Input := (l.take k).map playInput ++ List.replicate (n - k) Input.zero
def playRow (n : Nat) (l : List Input) : List Input := rowAt n l (min n l.length)
abbrev InputL := List Input
def encI (l : List Input) : T := .sl 3 (l.map Input.enc)
def playFrames (n : Nat) (l : List InputL) (most : Nat) : List InputL := (l.take most).map (playRow n)
theorem rowAt_len {n k : Nat} {l : List Input} (h : k ≤ n) (h2 : k ≤ l.length) : (rowAt n l k).length = n := by simp [rowAt]; omega
theorem playRow_len {n : Nat} {l : List Input} : (playRow n l).length = n := rowAt_len (by omega) (by omega)
theorem rowAt_set {n k : Nat} {l : List Input} (h : k < n) (h2 : k < l.length) : (rowAt n l k).set k (playInput (gt l k)) = rowAt n l (k + 1) := by
  have e1 : (l.take (k + 1)) = l.take k ++ [gt l k] := by rw [List.take_add_one, get_gt h2]; rfl
  have e2 : n - k = (n - (k + 1)) + 1 := by omega
  unfold rowAt
  rw [e1, e2, List.replicate_succ, List.set_append, if_neg (by simp; omega), List.map_append]
  have e3 : k - ((l.take k).map playInput).length = 0 := by simp; omega
  rw [e3]
  simp
theorem playRow_right {n : Nat} {l : List Input} : ∀ i ∈ playRow n l, i.right = true := by
  intro i hi
  unfold playRow rowAt at hi
  rcases List.mem_append.1 hi with h | h
  · obtain ⟨x, _, rfl⟩ := List.mem_map.1 h
    exact playInput_right x
  · rw [List.eq_of_mem_replicate h]; decide

theorem corner_le {c : Config} {r : Int} : (0 ≤ c.cornerX r ∧ c.cornerX r ≤ 4096) ∧ (0 ≤ c.cornerY r ∧ c.cornerY r ≤ 4096) := by
  unfold Config.cornerX Config.cornerY
  cases hr : c.is r with
  | false => simp
  | true =>
    have h := Config.is_right hr
    have hi := (Config.is_iff h).1 hr
    obtain ⟨hc, hrr, _⟩ := Config.right_iff.1 h
    have k1 := tdiv_le (v := r) (k := c.cols) (m := c.rows) (by omega) (by omega) (by omega)
    have k2 := tmod_le (v := r) (k := c.cols) (by omega) (by omega)
    simp only [if_true]
    omega
theorem corner_of {c : Config} {r x y : Int} (hr : c.is r = true) (hx : 0 ≤ x ∧ x < 1024) (hy : 0 ≤ y ∧ y < 1024) : c.inside (c.cornerX r + x) (c.cornerY r + y) = true ∧ c.of (c.cornerX r + x) (c.cornerY r + y) = r := by
  have h := Config.is_right hr
  have hi := (Config.is_iff h).1 hr
  obtain ⟨hc, hrr, _⟩ := Config.right_iff.1 h
  have hw : c.width = c.cols * 1024 := by simp [Config.width, h]
  have hh : c.height = c.rows * 1024 := by simp [Config.height, h]
  have k1 := tdiv_le (v := r) (k := c.cols) (m := c.rows) (by omega) (by omega) (by omega)
  have k2 := tmod_le (v := r) (k := c.cols) (by omega) (by omega)
  have e := Int.tmod_add_tdiv_mul r c.cols
  have ex : c.cornerX r = r.tmod c.cols * 1024 := by unfold Config.cornerX; rw [if_pos hr]
  have ey : c.cornerY r = r.tdiv c.cols * 1024 := by unfold Config.cornerY; rw [if_pos hr]
  have hin : c.inside (c.cornerX r + x) (c.cornerY r + y) = true := by
    simp only [Config.inside, Bool.and_eq_true, within_iff]; omega
  refine ⟨hin, ?_⟩
  rw [(of_eq h (by omega) (by omega)).1, Int.tdiv_eq_ediv_of_nonneg (by omega), Int.tdiv_eq_ediv_of_nonneg (by omega), ex, ey]
  have d1 : (r.tmod c.cols * 1024 + x) / 1024 = r.tmod c.cols := by omega
  have d2 : (r.tdiv c.cols * 1024 + y) / 1024 = r.tdiv c.cols := by omega
  rw [d1, d2]
  omega
end Go.Eva

/- What statements make of raw arguments: inputs, regions, messages. -/
namespace Go.Eva.S3
theorem f_joustplay_Input (i : Input) : Fn cx 59 [i.enc] (playInput i).enc := by
  have h := f_joustref05_Input i
  unfold playInput
  cases hr : i.right with
  | true =>
    rw [hr] at h
    refine Wp.ev ?_
    refine gg [.a _ _, .tt] ⟨o_a h, trivial⟩ ?_
    exact ge
  | false =>
    rw [hr] at h
    have h1 := @um_le i.dx 5 (by decide)
    have h2 := @um_le i.dy 5 (by decide)
    unfold um at h1 h2
    refine Wp.ev ?_
    refine gg [.a _ _, .ff, .i IntKind.u64 i.dx (IntKind.wrap IntKind.u64 i.dx), .w ((5 : Int) ≠ (0 : Int)), .s (T.int IntKind.u64 (Int.tmod (IntKind.wrap IntKind.u64 i.dx) 5)), .i IntKind.i64 (Int.tmod (IntKind.wrap IntKind.u64 i.dx) 5) (Int.tmod (IntKind.wrap IntKind.u64 i.dx) 5), .i IntKind.i64 (Int.tmod (IntKind.wrap IntKind.u64 i.dx) 5 - 2) (Int.tmod (IntKind.wrap IntKind.u64 i.dx) 5 - 2), .i IntKind.u64 i.dy (IntKind.wrap IntKind.u64 i.dy), .w ((5 : Int) ≠ (0 : Int)), .s (T.int IntKind.u64 (Int.tmod (IntKind.wrap IntKind.u64 i.dy) 5)), .i IntKind.i64 (Int.tmod (IntKind.wrap IntKind.u64 i.dy) 5) (Int.tmod (IntKind.wrap IntKind.u64 i.dy) 5), .i IntKind.i64 (Int.tmod (IntKind.wrap IntKind.u64 i.dy) 5 - 2) (Int.tmod (IntKind.wrap IntKind.u64 i.dy) 5 - 2)] ⟨o_a h, o_i rfl, o_w (by intro h; cases h), oI, oI, o_i rfl, o_w (by intro h; cases h), oI, oI, trivial⟩ ?_
    exact ge
theorem f_joustplay_Frames_inner (c : Config) (l : List InputL) (A : List InputL) (most : Int) (i n : Nat) (hc : c.players = (n : Int)) (hn : n ≤ 100) (hi : i < l.length) (hl : long l) (hr : long (gt l i)) : ∀ (d k : Nat), k + d = min n (gt l i).length →
    Is cx (.loop 22 [0, 1, 0, 1, 0, 0, 1, 0, 0, 1, 0, 1, 1] 0 [.t (.sl 1 (l.map encI)), vi most, .ptr 0 0 0, .all 1 none, vi i, .all 2 none, vi k] [.one 5 (.t c.enc) false, .arr 1 (A.map encI) none false, .arr 3 ((rowAt n (gt l i) k).map Input.enc) (some 0) false])
      ⟨.exit 2, [.t (.sl 1 (l.map encI)), vi most, .ptr 0 0 0, .all 1 none, vi i, .all 2 none, vi (min n (gt l i).length : Nat)], [.one 5 (.t c.enc) false, .arr 1 (A.map encI) none false, .arr 3 ((playRow n (gt l i)).map Input.enc) (some 0) false]⟩ := by
  unfold long at hl hr
  intro d
  induction d with
  | zero =>
    intro k hk
    obtain rfl : k = min n (gt l i).length := by omega
    unfold playRow
    generalize hm : min n (gt l i).length = m at *
    by_cases hmn : m = n
    · subst hmn
      refine Wp.ev ?_
      refine gg [.b (decide ((↑m : Int) < c.players)) false, .ff, .ff, .ff, .ff, .ff, .ff, .ff, .ff] ⟨fP, trivial⟩ ?_
      exact ge
    · have : m = (gt l i).length := by omega
      refine Wp.ev ?_
      refine gg [.b (decide ((↑m : Int) < c.players)) true, .tt, .tt, .tt, .w ((0 : Int) ≤ (↑i : Int)), .n (Int.toNat (↑i : Int)) i, .g (List.map encI l) i (encI (gt l i)), .tt, .tt, .n (List.length (List.map Input.enc (gt l i))) (List.length (gt l i)), .tt, .tt, .b (decide ((↑m : Int) < (↑(List.length (gt l i)) : Int))) false] ⟨tP, oW, o_n (by kernel_rfl), o_gt rfl (by assumption) (by intro h; cases h), o_n (by simp), fP, trivial⟩ ?_
      exact ge
  | succ d ih =>
    intro k hk
    have ih1 := ih (k + 1) (by omega)
    rw [← rowAt_set (by omega) (by omega)] at ih1
    have hlen := rowAt_len (n := n) (k := k) (l := gt l i) (by omega) (by omega)
    clear ih
    generalize rowAt n (gt l i) k = R at *
    generalize hm : min n (gt l i).length = m at *
    have hkl : k < (gt l i).length := by omega
    refine Wp.ev ?_
    refine gg [.b (decide ((↑k : Int) < c.players)) true, .tt, .tt, .tt, .w ((0 : Int) ≤ (↑i : Int)), .n (Int.toNat (↑i : Int)) i, .g (List.map encI l) i (encI (gt l i)), .tt, .tt, .n (List.length (List.map Input.enc (gt l i))) (List.length (gt l i)), .tt, .tt, .b (decide ((↑k : Int) < (↑(List.length (gt l i)) : Int))) true, .w ((0 : Int) ≤ (↑i : Int)), .n (Int.toNat (↑i : Int)) i, .g (List.map encI l) i (encI (gt l i))] ⟨tP, oW, o_n (by kernel_rfl), o_gt rfl (by assumption) (by intro h; cases h), o_n (by simp), tP, oW, o_n (by kernel_rfl), o_gt rfl (by assumption) (by intro h; cases h), trivial⟩ ?_
    refine gg [.w ((0 : Int) ≤ (↑k : Int)), .n (Int.toNat (↑k : Int)) k, .g (List.map Input.enc (gt l i)) k (Input.enc (gt (gt l i) k)), .a _ _, .w ((0 : Int) ≤ (↑k : Int)), .n (Int.toNat (↑k : Int)) k, .w (k < List.length (List.map Input.enc R)), .w (k < List.length (List.map Input.enc R)), .t (T.sl 0 (List.set (List.map Input.enc R) k (Input.enc (playInput (gt (gt l i) k))))) (T.sl 0 (List.map Input.enc (List.set R k (playInput (gt (gt l i) k))))), .i IntKind.i64 ((↑k : Int) + 1) ((↑(k + 1) : Int)), .a _ _] ⟨oW, o_n (by kernel_rfl), o_gt rfl (by assumption) (by intro h; cases h), o_a (f_joustplay_Input (gt (gt l i) k)), oW, o_n (by kernel_rfl), o_w (by (simp; omega)), o_w (by (simp; omega)), o_l (nm_set rfl rfl), oI, o_a ih1, trivial⟩ ?_
    exact ge
theorem f_joustplay_Frames_outer (c : Config) (l : List InputL) (most n : Nat) (hc : c.players = (n : Int)) (hn : n ≤ 100) (hl : long l) (hmo : most ≤ 1000) (hr : ∀ x ∈ l, long x) : ∀ (d i : Nat) (A : List InputL), i + d = min l.length most → A.length = i →
    Is cx (.loop 22 [0, 1, 0, 1, 1] 0 [.t (.sl 1 (l.map encI)), vi most, .ptr 0 0 0, .all 1 none, vi i] [.one 5 (.t c.enc) false, .arr 1 (A.map encI) none false])
      ⟨.exit 0, [.t (.sl 1 (l.map encI)), vi most, .ptr 0 0 0, .all 1 none, vi (min l.length most : Nat)], [.one 5 (.t c.enc) false, .arr 1 ((A ++ ((l.take most).drop i).map (playRow n)).map encI) none false]⟩ := by
  intro d
  induction d with
  | zero =>
    intro i A hi hA
    obtain rfl : i = min l.length most := by omega
    rw [drop_end (by simp; omega)]
    unfold long at hl
    clear hr
    generalize hm : min l.length most = m at *
    by_cases h : m = l.length
    · refine Wp.ev ?_
      refine gg [.n (List.length (List.map encI l)) (List.length l), .b (decide ((↑m : Int) < (↑(List.length l) : Int))) false, .ff, .ff, .ff, .ff] ⟨o_n (by simp), fP, trivial⟩ ?_
      refine rt (a := Res.mk (Ex.exit 0) [V.t (T.sl 1 (List.map encI l)), vi (↑most : Int), V.ptr 0 0 0, V.all 1 none, vi (↑m : Int)] [Ob.one 5 (V.t (Config.enc c)) false, Ob.arr 1 (List.map encI A) none false]) (by kernel_rfl) ?_
      simp
    · have : m = most := by omega
      refine Wp.ev ?_
      refine gg [.n (List.length (List.map encI l)) (List.length l), .b (decide ((↑m : Int) < (↑(List.length l) : Int))) true, .tt, .tt, .tt, .b (decide ((↑m : Int) < (↑most : Int))) false] ⟨o_n (by simp), tP, fP, trivial⟩ ?_
      refine rt (a := Res.mk (Ex.exit 0) [V.t (T.sl 1 (List.map encI l)), vi (↑most : Int), V.ptr 0 0 0, V.all 1 none, vi (↑m : Int)] [Ob.one 5 (V.t (Config.enc c)) false, Ob.arr 1 (List.map encI A) none false]) (by kernel_rfl) ?_
      simp
  | succ d ih =>
    intro i A hi hA
    have hlt : i < l.length := by omega
    have hrx := hr _ (gt_mem hlt)
    have h1 := f_joustplay_Frames_inner c l A most i n hc hn hlt hl hrx (min n (gt l i).length) 0 (by omega)
    have ih1 := ih (i + 1) (A ++ [playRow n (gt l i)]) (by omega) (by simp; omega)
    have e : (l.take most).drop i = gt l i :: (l.take most).drop (i + 1) := by
      have hlt2 : i < (l.take most).length := by simp; omega
      have hg : gt (l.take most) i = gt l i := by unfold gt; rw [List.getElem?_take, if_pos (by omega)]
      rw [drop_gt hlt2, hg]
    rw [e, List.map_cons, List.append_cons]
    have e0 : rowAt n (gt l i) 0 = List.replicate n Input.zero := by simp [rowAt]
    rw [e0, List.map_replicate, show List.replicate n (Input.enc Input.zero) = List.replicate c.players.toNat (Input.enc Input.zero) by rw [hc, Int.toNat_natCast]] at h1
    clear ih hr e e0
    unfold long at hl hrx
    generalize playRow n (gt l i) = P at *
    generalize hm : min l.length most = m at *
    generalize min n (gt l i).length = q at *
    refine Wp.ev ?_
    refine gg [.n (List.length (List.map encI l)) (List.length l), .b (decide ((↑i : Int) < (↑(List.length l) : Int))) true, .tt, .tt, .tt, .b (decide ((↑i : Int) < (↑most : Int))) true, .w ((0 : Int) ≤ c.players ∧ c.players ≤ c.players ∧ room (Int.toNat c.players) (24 : Nat)), .l (Int.toNat c.players), .a _ _, .s (T.sl 3 (List.map Input.enc P)), .w ((0 : Nat) < (24 : Nat)), .s (T.sl 0 [T.sl 3 (List.map Input.enc P)]), .t (T.sl 0 (List.map encI A ++ [T.sl 3 (List.map Input.enc P)])) (T.sl 0 (List.map encI (A ++ [P]))), .w (room (List.length (List.map encI (A ++ [P]))) (24 : Nat)), .i IntKind.i64 ((↑i : Int) + 1) ((↑(i + 1) : Int)), .a _ _] ⟨o_n (by simp), tP, tP, o_w ⟨(by omega), ⟨(by omega), (by (simp [room, appendMax]; omega))⟩⟩, o_a h1, oW, o_l (nm_app rfl (nm_cons (e := P) rfl nm_nil)), o_w (by (simp [room, appendMax]; omega)), oI, o_a ih1, trivial⟩ ?_
    exact ge
theorem f_joustplay_Frames (c : Config) (l : List InputL) (most n : Nat) (hc : c.players = (n : Int)) (hn : n ≤ 100) (hl : long l) (hmo : most ≤ 1000) (hr : ∀ x ∈ l, long x) : Fn cx 22 [c.enc, .sl 1 (l.map encI), ti most] (.sl 1 ((playFrames n l most).map encI)) := by
  have h := f_joustplay_Frames_outer c l most n hc hn hl hmo hr (min l.length most) 0 [] (by omega) rfl
  rw [List.drop_zero, List.nil_append] at h
  unfold playFrames
  generalize (l.take most).map (playRow n) = X at *
  generalize min l.length most = m at *
  clear hr
  refine Wp.ev ?_
  refine gg [.a _ _] ⟨o_a h, trivial⟩ ?_
  exact ge
end Go.Eva.S3

/- Eva, part 71: what a step makes of what is right; in plain words. -/
namespace Go.Eva

theorem gem_right {c : Config} {r f made : Int} (hr : c.is r = true) (hf : 0 ≤ f ∧ f < 10000) (hm : 0 ≤ made ∧ made ≤ 8) : (gemE c r f made).right c = true ∧ c.of (gemE c r f made).x (gemE c r f made).y = r := by
  refine ⟨?_, gem_of hr⟩
  obtain ⟨h1, h2, _⟩ := place_of (c := c) (r := r) (f := f) (o1 := r) (o2 := r) (a := 4) (b := 5) hr
  have hin : c.inside (placeX c r f 4 r) (placeY c r f 5 r) = true := by simp only [Config.inside, Bool.and_eq_true, within_iff]; omega
  have hn : within (numI c r f made) 1000 2147483647 = true := within_iff.2 (num_le (Config.is_le hr) hf hm)
  simp [Entity.right, gemE, hin, hn]
theorem hand_ok {c : Config} {r f : Int} {e : Entity} (h : e.right c = true) (hn : has (c.near r) (c.of e.x e.y) = true) (hne : c.of e.x e.y ≠ r) (hf : 0 ≤ f ∧ f < 10000) : blastOk c r f (handE c r f e) := by
  have hw : within f 0 9999 = true := within_iff.2 (by omega)
  refine ⟨?_, rfl, rfl, hn⟩
  simp [Cross.right, handE, hn, hw, h, hne]
/-- Numbers of players, in order. -/
def plI (l : List Entity) : List Int := (l.filter fun e => decide (e.kind = 1)).map Entity.id
theorem plI_same : ∀ {l m : List Entity}, l.map (fun e => (e.id, decide (e.kind = 1))) = m.map (fun e => (e.id, decide (e.kind = 1))) → plI l = plI m
  | [], [], _ => rfl
  | [], _ :: _, h => by simp at h
  | _ :: _, [], h => by simp at h
  | a :: l, b :: m, h => by
    simp only [List.map_cons, List.cons.injEq, Prod.mk.injEq] at h
    have := plI_same h.2
    unfold plI at *
    rw [List.filter_cons, List.filter_cons, ← h.1.2]
    split
    · rw [List.map_cons, List.map_cons, this, h.1.1]
    · exact this
theorem plI_setId {l : List Entity} {p e : Entity} (hs : Srt l) (h : p ∈ l) (hi : e.id = p.id) (hk : e.kind = p.kind) : plI (setId l p.id e) = plI l := by
  obtain ⟨k, h1, h2, h3⟩ := find_of hs h
  rw [setId_eq h1]
  refine plI_same ?_
  rw [List.map_set]
  apply List.ext_getElem?
  intro i
  rw [List.getElem?_set]
  split
  · rename_i hik
    subst hik
    rw [List.length_map, if_pos h2, List.getElem?_map, get_gt h2, Option.map_some, h3, hi, hk]
  · rfl
theorem plI_put1 {l : List Entity} {e : Entity} (hk : e.kind ≠ 1) : plI (put1 l e) = plI l := by
  have hd : decide (e.kind = 1) = false := by simp [hk]
  have : plI (ins l e) = plI l := by
    unfold ins plI
    split
    · rename_i k hk2
      rw [List.filter_append, List.filter_cons, hd]
      conv => rhs; rw [← List.take_append_drop k l, List.filter_append]
      rfl
    · rw [List.filter_append, List.filter_cons, hd]
      simp
  unfold put1
  split
  · rfl
  · exact this
theorem steer1_players {c : Config} {r f : Int} {ins : List Input} {s : Stg} {p : Entity} (hs : Srt s.l) (hp : p ∈ s.l) : plI (steer1 c r f ins s p).l = plI s.l := by
  unfold steer1
  split
  · rfl
  · rename_i hk
    obtain ⟨i1, i2, _⟩ := @steerE_id p (inAt ins p.id)
    split
    · split
      · simp only
        rw [plI_setId (put1_sorted hs) (put1_sub p hp) i1 i2, plI_put1 (by simp [shootE])]
      · exact plI_setId hs hp i1 i2
    · exact plI_setId hs hp i1 i2
theorem steer_fold_players {c : Config} {r f : Int} {ins : List Input} (hr : c.is r = true) (hf : 0 ≤ f ∧ f < 10000) (hins : (ins.length : Int) = c.players) (hi : ∀ i ∈ ins, i.right = true) : ∀ {R : List Entity} {s : Stg}, Steer c r s → Srt R → (∀ p ∈ R, p ∈ s.l) →
    plI (R.foldl (steer1 c r f ins) s).l = plI s.l := by
  intro R
  induction R with
  | nil => intro s h _ _; rfl
  | cons p R ih =>
    intro s h hR hm
    have hp := hm p (List.mem_cons_self ..)
    obtain ⟨h1, h2, h3⟩ := steer1_ok (f := f) (ins := ins) h hr hf hp fun hk => by
      have := Entity.right_player (h.sane.ents p hp).1 hk
      unfold inAt
      exact hi _ (gt_mem (by omega))
    obtain ⟨hR1, hR2⟩ := List.pairwise_cons.1 hR
    have := ih h1 hR2 fun q hq => h2 q (hm q (List.mem_cons_of_mem _ hq)) (by have := hR1 q hq; omega)
    rw [List.foldl_cons, this, steer1_players h.sane.srt hp]
theorem plI_move {c : Config} {A : List Entity} (h : ∀ e ∈ A, e.right c = true) : plI (moveL c A) = plI A := by
  induction A with
  | nil => rfl
  | cons e A ih =>
    have ih := ih fun x hx => h x (List.mem_cons_of_mem _ hx)
    have he := h e (List.mem_cons_self ..)
    unfold moveL plI at *
    by_cases hk : e.kind = 1
    · have hg : (goE c e).2 = true ∧ (goE c e).1.id = e.id ∧ (goE c e).1.kind = 1 := by
        unfold goE
        rw [if_neg (by simp [he]), if_neg (by omega)]
        exact ⟨rfl, rfl, hk⟩
      rw [List.filter_cons, if_pos hg.1, List.map_cons, List.filter_cons, if_pos (by simp [hg.2.2]), List.map_cons, hg.2.1, ih]
      rw [List.filter_cons, if_pos (by simp [hk]), List.map_cons]
    · rw [List.filter_cons]
      conv => rhs; rw [List.filter_cons, if_neg (by simp [hk])]
      split
      · rename_i hg
        have := (goE_id hg).2.1
        rw [List.map_cons, List.filter_cons, if_neg (by simp [this, hk])]
        exact ih
      · exact ih
theorem fall_kind {c : Config} {r f : Int} : ∀ {ids : List Int} {s : Stg}, (∀ m ∈ s.out, m.kind = 2) → ∀ m ∈ (ids.foldl (fall1 c r f) s).out, m.kind = 2
  | [], _, h => h
  | id :: ids, s, h => by
    rw [List.foldl_cons]
    refine fall_kind fun m hm => ?_
    rcases List.mem_append.1 hm with hm | hm
    · exact h m hm
    · obtain ⟨q, _, rfl⟩ := List.mem_map.1 hm
      rfl

/-- What a step leaves and sends, of what is right. -/
theorem stepS_right {c : Config} {r : Int} {s : Region} {ins : List Input} {inbox : List Cross} (h : Fine c r s ins inbox) :
    Sane c r (stepS c r s ins inbox).l ∧ (∀ m ∈ (stepS c r s ins inbox).out, blastOk c r s.frame m) ∧
    (plI (stepS c r s ins inbox).l ++ plI ((stepS c r s ins inbox).out.filter (fun m => decide (m.kind = 1)) |>.map Cross.ent)).Perm (presentL s.ents inbox) := by
  have hrc := Config.is_right h.is
  obtain ⟨hst1, hst2⟩ := steer_ok h
  have hpl := steer_fold_players (ins := ins) h.is h.frame h.len h.ins (R := arriveL s.ents inbox) (s := ⟨arriveL s.ents inbox, 0, []⟩) ⟨h.sane, by simp⟩ h.sane.srt fun p hp => hp
  change plI (steerS c r s.frame ins ⟨arriveL s.ents inbox, 0, []⟩).l = presentL s.ents inbox at hpl
  rw [← hpl]
  unfold stepS restS
  generalize steerS c r s.frame ins ⟨arriveL s.ents inbox, 0, []⟩ = S at *
  obtain ⟨A, made, o⟩ := S
  simp only at hst1 hst2 ⊢
  subst hst2
  have hM := (move_moved hst1.sane).1
  have hpm := plI_move fun e he => (hst1.sane.ents e he).1
  rw [← hpm]
  obtain ⟨hH, hph⟩ := hits_moved (inbox := inbox) hM
  change plI _ = plI _ at hph
  rw [← hph]
  generalize blastsL (gemsL (shotsL (moveL c A))) inbox = H at *
  obtain ⟨hF, hO, hpf⟩ := fall_ok (made := made) h.is h.frame hH
  change plI _ = plI _ at hpf
  rw [← hpf]
  have hmd := (@fall_len c r s.frame (fallenL H) ⟨H, made, []⟩).2.1
  have hki : ∀ m ∈ (fallS c r s.frame ⟨H, made, []⟩).out, m.kind = 2 := fall_kind (by simp)
  change (fallS c r s.frame ⟨H, made, []⟩).made = made at hmd
  generalize fallS c r s.frame ⟨H, made, []⟩ = F at *
  have hG : Still2 c r (growS c r s.frame F).l ∧ (growS c r s.frame F).out = F.out ∧ plI (growS c r s.frame F).l = plI F.l := by
    unfold growS
    split
    · exact ⟨hF, rfl, rfl⟩
    · rename_i hroom
      have hroom : F.room = true := by
        cases hq : F.room with
        | true => rfl
        | false => exact absurd (.inr (.inr hq)) hroom
      have hroom := Stg.room_iff.1 hroom
      obtain ⟨g1, g2⟩ := gem_right (made := F.made) h.is h.frame (by rw [hmd]; exact hst1.made)
      have ht := @put1_things F.l (gemE c r s.frame F.made)
      refine ⟨⟨put1_sorted hF.srt, ?_, fun e he => ?_⟩, rfl, plI_put1 (by simp [gemE])⟩
      · simp only
        split at ht <;> omega
      · rcases put1_mem_iff he with rfl | he
        · exact ⟨g1, by rw [g2]; exact near_self h.is⟩
        · exact hF.ents e he
  obtain ⟨hG1, hG2, hG3⟩ := hG
  rw [← hG3]
  rw [← hG2] at hO hki
  generalize growS c r s.frame F = G at *
  refine ⟨⟨srt_filter hG1.srt, ?_, fun e he => ?_⟩, fun m hm => ?_, ?_⟩
  · have := things_sub (List.filter_sublist (p := fun e => decide (c.of e.x e.y = r)) (l := G.l))
    have := hG1.things
    show things (G.l.filter _) ≤ 24
    omega
  · obtain ⟨h1, h2⟩ := List.mem_filter.1 he
    exact ⟨(hG1.ents e h1).1, by simpa using h2⟩
  · rcases List.mem_append.1 hm with hm | hm
    · exact hO m hm
    · obtain ⟨e, he, rfl⟩ := List.mem_map.1 hm
      obtain ⟨h1, h2⟩ := List.mem_filter.1 he
      exact hand_ok (hG1.ents e h1).1 (hG1.ents e h1).2 (by simpa using h2) h.frame
  · have e1 : (G.out ++ (G.l.filter fun e => !decide (c.of e.x e.y = r)).map (handE c r s.frame)).filter (fun m => decide (m.kind = 1)) = (G.l.filter fun e => !decide (c.of e.x e.y = r)).map (handE c r s.frame) := by
      rw [List.filter_append, List.filter_eq_nil_iff.2 fun m hm => by have := hki m hm; simp; omega, List.nil_append, List.filter_eq_self]
      intro m hm
      obtain ⟨e, _, rfl⟩ := List.mem_map.1 hm
      rfl
    have e2 : ((G.l.filter fun e => !decide (c.of e.x e.y = r)).map (handE c r s.frame)).map Cross.ent = G.l.filter fun e => !decide (c.of e.x e.y = r) := by
      rw [List.map_map]
      exact List.map_id _
    show (plI (G.l.filter fun e => decide (c.of e.x e.y = r)) ++ plI (((G.out ++ (G.l.filter fun e => !decide (c.of e.x e.y = r)).map (handE c r s.frame)).filter fun m => decide (m.kind = 1)).map Cross.ent)).Perm (plI G.l)
    rw [e1, e2]
    have hp := ((List.filter_append_perm (fun e : Entity => decide (c.of e.x e.y = r)) G.l).filter (fun e : Entity => decide (e.kind = 1))).map Entity.id
    rw [List.filter_append, List.map_append] at hp
    exact hp
/-- Messages that go out, sorted. -/
theorem insS_perm {α : Type} {lt : α → α → Bool} {x : α} : ∀ {l : List α}, (insS lt l x).Perm (x :: l)
  | [] => .refl _
  | y :: l => by
    unfold insS
    split
    · exact .refl _
    · exact (List.Perm.cons y insS_perm).trans (.swap x y l)
theorem fold_perm {α : Type} {lt : α → α → Bool} : ∀ {l acc : List α}, (l.foldl (insS lt) acc).Perm (acc ++ l)
  | [], acc => by simp
  | x :: l, acc => by
    rw [List.foldl_cons]
    refine fold_perm.trans ?_
    refine (insS_perm.append_right l).trans ?_
    exact List.perm_middle.symm
theorem sort_perm {α : Type} {lt : α → α → Bool} {l : List α} : (sortS lt l).Perm l := fold_perm
/-- The players of a list, and who is handed over. -/
theorem stepS_keeps {c : Config} {r : Int} {s : Region} {ins : List Input} {inbox : List Cross} (h : Fine c r s ins inbox) :
    (plI (stepS c r s ins inbox).l ++ plI (((sortS Cross.less (stepS c r s ins inbox).out).filter fun m => decide (m.kind = 1)).map Cross.ent)).Perm (presentL s.ents inbox) := by
  refine .trans ?_ (stepS_right h).2.2
  refine List.Perm.append_left _ ?_
  exact ((((sort_perm (lt := Cross.less) (l := (stepS c r s ins inbox).out)).filter fun m : Cross => decide (m.kind = 1)).map Cross.ent).filter fun e : Entity => decide (e.kind = 1)).map Entity.id
theorem stepS_sent {c : Config} {r : Int} {s : Region} {ins : List Input} {inbox : List Cross} (h : Fine c r s ins inbox) : ∀ m ∈ sortS Cross.less (stepS c r s ins inbox).out, blastOk c r s.frame m := fun m hm => (stepS_right h).2.1 m (sort_perm.mem_iff.1 hm)
theorem stepS_outs {c : Config} {r : Int} {s : Region} {ins : List Input} {inbox : List Cross} (h : Fine c r s ins inbox) : (sortS Cross.less (stepS c r s ins inbox).out).length ≤ 400 := by
  rw [sort_perm.length_eq]
  have hrc := Config.is_right h.is
  obtain ⟨hst1, hst2⟩ := steer_ok h
  unfold stepS restS
  generalize steerS c r s.frame ins ⟨arriveL s.ents inbox, 0, []⟩ = S at *
  obtain ⟨A, made, o⟩ := S
  simp only at hst1 hst2 ⊢
  subst hst2
  have hM := (move_moved hst1.sane).1
  have hH := ((hits_moved (inbox := inbox) hM).1).len hrc
  simp only at hH
  generalize blastsL (gemsL (shotsL (moveL c A))) inbox = H at *
  obtain ⟨hF, _, hO⟩ := @fall_len c r s.frame (fallenL H) ⟨H, made, []⟩
  change (fallS c r s.frame ⟨H, made, []⟩).l.length = H.length at hF
  change (fallS c r s.frame ⟨H, made, []⟩).out.length = _ at hO
  have hids : (fallenL H).length ≤ 30 := by
    unfold fallenL
    rw [List.length_map]
    exact Nat.le_trans (List.length_filter_le ..) hH
  have hns : (c.near r).length ≤ 9 := near_small
  have hmul : (fallenL H).length * (c.near r).length ≤ 30 * 9 := Nat.mul_le_mul hids hns
  simp only [List.length_nil, Nat.zero_add] at hO
  have hG : (growS c r s.frame (fallS c r s.frame ⟨H, made, []⟩)).l.length ≤ 31 ∧ (growS c r s.frame (fallS c r s.frame ⟨H, made, []⟩)).out.length ≤ 270 := by
    rcases @grow_cases c r s.frame (fallS c r s.frame ⟨H, made, []⟩) with h | h
    · rw [h]; omega
    · rw [h]
      have := (@put1_len (fallS c r s.frame ⟨H, made, []⟩).l (gemE c r s.frame (fallS c r s.frame ⟨H, made, []⟩).made)).2
      simp only; omega
  have := @leave_len c r s.frame (growS c r s.frame (fallS c r s.frame ⟨H, made, []⟩))
  omega
end Go.Eva

/- Eva, part 72: all regions, frame by frame; in plain words. -/
namespace Go.Eva

def inboxL (c : Config) (outs : List CrossL) (r : Int) : List Cross := (((c.near r).filter fun q => decide (q < (outs.length : Int))).map fun q => toL (gt outs q.toNat) r).flatten
def stgW (c : Config) (w : World) (ins : List Input) (r : Nat) : Stg := stepS c r (gt w.regions r) ins (inboxL c w.outs r)
def nextR (c : Config) (w : World) (ins : List Input) (r : Nat) : Region := ⟨(gt w.regions r).frame + 1, (stgW c w ins r).l⟩
def nextO (c : Config) (w : World) (ins : List Input) (r : Nat) : CrossL := sortS Cross.less (stgW c w ins r).out
def nextW (c : Config) (w : World) (ins : List Input) : World := ⟨(List.range w.regions.length).map (nextR c w ins), (List.range w.regions.length).map (nextO c w ins)⟩
def runW (c : Config) (w : World) (rows : List InputL) : World := rows.foldl (nextW c) w
/-- A world that may be, in a frame. -/
structure WFine (c : Config) (w : World) (f : Int) : Prop where
  right : c.right = true
  regs : (w.regions.length : Int) = c.regions
  outs : w.outs.length = w.regions.length
  sane : ∀ r : Nat, r < w.regions.length → Sane c r (gt w.regions r).ents ∧ (gt w.regions r).frame = f ∧ (gt w.regions r).ents.length ≤ 31
  sent : ∀ q : Nat, q < w.outs.length → (∀ m ∈ gt w.outs q, blastOk c q (f - 1) m) ∧ (gt w.outs q).length ≤ 400
theorem flat_le {α β : Type} {g : α → List β} {n : Nat} : ∀ {l : List α}, (∀ x ∈ l, (g x).length ≤ n) → ((l.map g).flatten).length ≤ l.length * n
  | [], _ => by simp
  | x :: l, h => by
    have h1 := h x (List.mem_cons_self ..)
    have h2 := flat_le (l := l) fun y hy => h y (List.mem_cons_of_mem _ hy)
    have e : (l.length + 1) * n = l.length * n + n := Nat.succ_mul ..
    rw [List.map_cons, List.flatten_cons, List.length_append, List.length_cons]
    omega
theorem near_in {c : Config} {r q : Int} (hr : c.is r = true) (h : q ∈ c.near r) : 0 ≤ q ∧ q < c.regions := by
  have := ((near_has hr).1 (has_mem.2 h)).1
  have e : c.regions = c.cols * c.rows := by simp [Config.regions, Config.is_right hr]
  omega
theorem inbox_ok {c : Config} {w : World} {f : Int} (h : WFine c w f) {r : Nat} (hr : r < w.regions.length) :
    (∀ m ∈ inboxL c w.outs r, m.right c = true ∧ m.to = r ∧ m.frame = f - 1) ∧ (inboxL c w.outs r).length ≤ 3600 := by
  have hreg := h.regs
  have hlen := h.outs
  have his : c.is r = true := by
    have e : c.regions = c.cols * c.rows := by simp [Config.regions, h.right]
    rw [Config.is_iff h.right]; omega
  refine ⟨fun m hm => ?_, ?_⟩
  · unfold inboxL at hm
    obtain ⟨l, h1, h2⟩ := List.mem_flatten.1 hm
    obtain ⟨q, h3, rfl⟩ := List.mem_map.1 h1
    obtain ⟨h4, h5⟩ := List.mem_filter.1 h3
    have h6 := near_in his h4
    obtain ⟨h7, h8⟩ := List.mem_filter.1 h2
    have h9 := (h.sent q.toNat (by omega)).1 m h7
    exact ⟨h9.1, by simpa using h8, h9.2.2.1⟩
  · unfold inboxL
    have h1 := flat_le (g := fun q : Int => toL (gt w.outs q.toNat) r) (n := 400) (l := (c.near r).filter fun q => decide (q < (w.outs.length : Int))) fun q hq => by
      obtain ⟨h4, h5⟩ := List.mem_filter.1 hq
      have h6 := near_in his h4
      exact Nat.le_trans toL_len (h.sent q.toNat (by omega)).2
    have h2 : ((c.near r).filter fun q => decide (q < (w.outs.length : Int))).length ≤ 9 := Nat.le_trans (List.length_filter_le ..) near_small
    have h3 : ((c.near r).filter fun q => decide (q < (w.outs.length : Int))).length * 400 ≤ 9 * 400 := Nat.mul_le_mul_right _ h2
    omega
theorem world_fine {c : Config} {w : World} {f : Int} (h : WFine c w f) (hf : 0 ≤ f ∧ f < 10000) {ins : List Input} (hl : (ins.length : Int) = c.players) (hi : ∀ i ∈ ins, i.right = true) {r : Nat} (hr : r < w.regions.length) :
    Fine c r (gt w.regions r) ins (inboxL c w.outs r) := by
  have hreg := h.regs
  have his : c.is r = true := by
    have e : c.regions = c.cols * c.rows := by simp [Config.regions, h.right]
    rw [Config.is_iff h.right]; omega
  obtain ⟨h1, h2, h3⟩ := h.sane r hr
  exact ⟨his, by omega, h1.srt, h1.things, h1.ents, hl, hi, by rw [h2]; exact (inbox_ok h hr).1⟩
theorem gt_range {α : Type} [Inhabited α] {g : Nat → α} {n r : Nat} (h : r < n) : gt ((List.range n).map g) r = g r := by
  simp [gt, h]
theorem next_fine {c : Config} {w : World} {f : Int} (h : WFine c w f) (hf : 0 ≤ f ∧ f < 10000) {ins : List Input} (hl : (ins.length : Int) = c.players) (hi : ∀ i ∈ ins, i.right = true) : WFine c (nextW c w ins) (f + 1) := by
  have hlen : (nextW c w ins).regions.length = w.regions.length := by simp [nextW]
  have hlen2 : (nextW c w ins).outs.length = w.regions.length := by simp [nextW]
  refine ⟨h.right, by rw [hlen]; exact h.regs, by rw [hlen, hlen2], fun r hr => ?_, fun q hq => ?_⟩
  · rw [hlen] at hr
    have hF := world_fine h hf hl hi hr
    have e : gt (nextW c w ins).regions r = nextR c w ins r := gt_range hr
    rw [e]
    refine ⟨(stepS_right hF).1, ?_, fine_next (fine_asked hF)⟩
    show (gt w.regions r).frame + 1 = f + 1
    rw [(h.sane r hr).2.1]
  · rw [hlen2] at hq
    have hF := world_fine h hf hl hi hq
    have e : gt (nextW c w ins).outs q = nextO c w ins q := gt_range hq
    rw [e, show f + 1 - 1 = f by omega]
    refine ⟨fun m hm => ?_, stepS_outs hF⟩
    have := stepS_sent hF m hm
    rwa [(h.sane q hq).2.1] at this
theorem run_fine {c : Config} : ∀ {rows : List InputL} {w : World} {f : Int}, WFine c w f → 0 ≤ f → f + rows.length ≤ 10000 → (∀ i ∈ rows, (i.length : Int) = c.players ∧ ∀ x ∈ i, x.right = true) → WFine c (runW c w rows) (f + rows.length)
  | [], w, f, h, _, _, _ => by simpa [runW] using h
  | i :: rows, w, f, h, h0, hf, hi => by
    have h1 := hi i (List.mem_cons_self ..)
    rw [List.length_cons] at hf ⊢
    have := run_fine (rows := rows) (next_fine h (by omega) h1.1 h1.2) (by omega) (by omega) fun j hj => hi j (List.mem_cons_of_mem _ hj)
    rw [show f + ((rows.length + 1 : Nat) : Int) = f + 1 + rows.length by omega]
    exact this
/-- The beginning. -/
theorem player_ok {c : Config} (hr : c.right = true) {i : Int} (hi : 1 ≤ i ∧ i ≤ c.players) : (playerP c.cols c.regions i).right c = true ∧ c.of (playerP c.cols c.regions i).x (playerP c.cols c.regions i).y = (i - 1).tmod c.regions := by
  have hml := Config.mul_le hr
  have hre : c.regions = c.cols * c.rows := by simp [Config.regions, hr]
  have hk := tmod_le (v := i - 1) (k := c.regions) (by omega) (by omega)
  have his : c.is ((i - 1).tmod c.regions) = true := by rw [Config.is_iff hr]; omega
  obtain ⟨h1, h2⟩ := corner_of (x := 512) (y := 512) his (by omega) (by omega)
  simp only [Config.cornerX, Config.cornerY, his, if_true] at h1 h2
  have e1 : within i 1 c.players = true := within_iff.2 hi
  have e2 : within 0 (-64) 64 = true := by decide
  have e3 : within 100 1 100 = true := by decide
  have e4 : within 0 0 6 = true := by decide
  refine ⟨?_, h2⟩
  simp only [Entity.right, playerP, h1, e1, e2, e3, e4]
  simp
theorem begin_sane {c : Config} (hr : c.right = true) : ∀ {d : Nat} {i : Int} {rs : List Region}, 1 ≤ i → i + d = c.players + 1 → (rs.length : Int) = c.regions → (∀ r : Nat, r < rs.length → Srt (gt rs r).ents ∧ things (gt rs r).ents = 0 ∧ (gt rs r).frame = 0 ∧ ∀ e ∈ (gt rs r).ents, e.right c = true ∧ c.of e.x e.y = r) →
    ∀ r : Nat, r < rs.length → Srt (gt (beginP c.cols c.regions d i rs) r).ents ∧ things (gt (beginP c.cols c.regions d i rs) r).ents = 0 ∧ (gt (beginP c.cols c.regions d i rs) r).frame = 0 ∧ ∀ e ∈ (gt (beginP c.cols c.regions d i rs) r).ents, e.right c = true ∧ c.of e.x e.y = r
  | 0, _, _, _, _, _, h => h
  | d + 1, i, rs, h1, h2, hl, h => by
    have hml := Config.mul_le hr
    have hre : c.regions = c.cols * c.rows := by simp [Config.regions, hr]
    have hk := tmod_le (v := i - 1) (k := c.regions) (by omega) (by omega)
    obtain ⟨p1, p2⟩ := player_ok hr (i := i) (by omega)
    have hkl : ((i - 1).tmod c.regions).toNat < rs.length := by omega
    have hb : (begin1 c.cols c.regions rs i).length = rs.length := by simp [begin1]
    rw [beginP]
    intro r hrr
    refine begin_sane hr (d := d) (i := i + 1) (by omega) (by omega) (by rw [hb]; exact hl) (fun q hq => ?_) r (by rw [hb]; exact hrr)
    rw [hb] at hq
    unfold begin1
    rw [gt_set hkl]
    split
    · rename_i e
      obtain ⟨a1, a2, a3, a4⟩ := h _ hkl
      have ht := @put1_things (gt rs ((i - 1).tmod c.regions).toNat).ents (playerP c.cols c.regions i)
      rw [show (playerP c.cols c.regions i).kind = 1 from rfl, if_pos rfl] at ht
      have ht0 : 0 ≤ things (put1 (gt rs ((i - 1).tmod c.regions).toNat).ents (playerP c.cols c.regions i)) := by unfold things; omega
      refine ⟨put1_sorted a1, by simp only; omega, a3, fun x hx => ?_⟩
      rcases put1_mem_iff hx with rfl | hx
      · exact ⟨p1, by rw [p2]; omega⟩
      · have := a4 x hx
        exact ⟨this.1, by rw [this.2]; omega⟩
    · exact h q hq
theorem begin_fine {c : Config} (hr : c.right = true) : WFine c (beginW c.cols c.regions c.players.toNat) 0 := by
  have hcr := Config.right_iff.1 hr
  have hgl := @Config.regions_le c
  have hl : (beginW c.cols c.regions c.players.toNat).regions.length = c.regions.toNat := by simp [beginW, beginP_len]
  have hl2 : (beginW c.cols c.regions c.players.toNat).outs.length = c.regions.toNat := by simp [beginW]
  refine ⟨hr, by rw [hl]; omega, by rw [hl, hl2], fun r h => ?_, fun q h => ?_⟩
  · have key := begin_sane hr (d := c.players.toNat) (i := 1) (rs := List.replicate c.regions.toNat ⟨0, []⟩) (by omega) (by omega) (by simp; omega) (fun r h => by
      rw [show gt (List.replicate c.regions.toNat (⟨0, []⟩ : Region)) r = ⟨0, []⟩ by
        unfold gt; rw [List.getElem?_replicate]; simp at h; simp [h]]
      simp [Srt, things]) r (by simpa [hl] using h)
    obtain ⟨a1, a2, a3, a4⟩ := key
    have hlen := len_le (n := c.players) a1 (fun x hx hk => Entity.right_player (a4 x hx).1 hk) (by omega)
    refine ⟨⟨a1, Int.le_trans (Int.le_of_eq a2) (by decide), a4⟩, a3, ?_⟩
    show (gt (beginP c.cols c.regions c.players.toNat 1 (List.replicate c.regions.toNat ⟨0, []⟩)) r).ents.length ≤ 31
    omega
  · have e : gt (beginW c.cols c.regions c.players.toNat).outs q = [] := by
      show gt (List.replicate c.regions.toNat ([] : CrossL)) q = []
      unfold gt; rw [List.getElem?_replicate]; rw [hl2] at h; simp [h]
    rw [e]
    simp
end Go.Eva

/- Arenas: what comes in; a step; some frames. -/
namespace Go.Eva.S3
theorem inboxL_step {c : Config} {outs : List CrossL} {r : Int} {l : List Int} {i : Nat} (h : i < l.length) : (((l.drop i).filter fun q => decide (q < (outs.length : Int))).map fun q => toL (gt outs q.toNat) r).flatten = (if gt l i < (outs.length : Int) then toL (gt outs (gt l i).toNat) r else []) ++ (((l.drop (i + 1)).filter fun q => decide (q < (outs.length : Int))).map fun q => toL (gt outs q.toNat) r).flatten := by
  rw [drop_gt h, List.filter_cons]
  by_cases h2 : gt l i < (outs.length : Int) <;> simp [h2]
theorem f_arena_Inbox_loop (c : Config) (outs : List CrossL) (r : Int) (hr : c.is r = true) (ho : outs.length ≤ 16) (hs : ∀ l ∈ outs, l.length ≤ 400) : ∀ (d i : Nat) (A : List Cross), i + d = (c.near r).length → A.length ≤ 400 * i →
    Is cx (.loop 38 [0, 1, 0, 1, 1] 0 [.t (.sl 1 (outs.map encL)), vi r, .all 0 none, .t (.sl 1 ((c.near r).map ti)), vi (c.near r).length, vi i] [.arr 15 (A.map Cross.enc) none false])
      ⟨.exit 0, [.t (.sl 1 (outs.map encL)), vi r, .all 0 none, .t (.sl 1 ((c.near r).map ti)), vi (c.near r).length, vi (c.near r).length], [.arr 15 ((A ++ ((((c.near r).drop i).filter fun q => decide (q < (outs.length : Int))).map fun q => toL (gt outs q.toNat) r).flatten).map Cross.enc) none false]⟩ := by
  have hns : (c.near r).length ≤ 9 := near_small
  intro d
  induction d with
  | zero =>
    intro i A hi hA
    rw [drop_end (by omega)]
    refine Wp.ev ?_
    refine gg [.b (decide ((↑i : Int) < (↑(List.length (Config.near c r)) : Int))) false] ⟨fP, trivial⟩ ?_
    refine rt (a := Res.mk (Ex.exit 0) [V.t (T.sl 1 (List.map encL outs)), vi r, V.all 0 none, V.t (T.sl 1 (List.map ti (Config.near c r))), vi (↑(List.length (Config.near c r)) : Int), vi (↑i : Int)] [Ob.arr 15 (List.map Cross.enc A) none false]) (by kernel_rfl) ?_
    ((have : i = (c.near r).length := by omega); subst this; simp)
  | succ d ih =>
    intro i A hi hA
    have hlt : i < (c.near r).length := by omega
    have hq := near_in hr (gt_mem hlt)
    rw [inboxL_step (c := c) hlt]
    have ih0 := ih (i + 1) A (by omega) (by omega)
    by_cases h2 : gt (c.near r) i < (outs.length : Int)
    · rw [if_pos h2]
      have hl := hs _ (gt_mem (show (gt (c.near r) i).toNat < outs.length by omega))
      have hT := f_cross_To (gt outs (gt (c.near r) i).toNat) r (by unfold small; omega)
      have hTl := @toL_len (gt outs (gt (c.near r) i).toNat) r
      have ih1 := ih (i + 1) (A ++ toL (gt outs (gt (c.near r) i).toNat) r) (by omega) (by rw [List.length_append]; omega)
      rw [List.append_assoc] at ih1
      clear ih ih0 hs
      generalize ((((c.near r).drop (i + 1)).filter fun q => decide (q < (outs.length : Int))).map fun q => toL (gt outs q.toNat) r).flatten = X at *
      generalize toL (gt outs (gt (c.near r) i).toNat) r = W at *
      refine Wp.ev ?_
      refine gg [.b (decide ((↑i : Int) < (↑(List.length (Config.near c r)) : Int))) true, .w ((0 : Int) ≤ (↑i : Int)), .n (Int.toNat (↑i : Int)) i, .g (List.map ti (Config.near c r)) i (ti (gt (Config.near c r) i)), .n (List.length (List.map encL outs)) (List.length outs), .b (decide (gt (Config.near c r) i < (↑(List.length outs) : Int))) true, .w ((0 : Int) ≤ gt (Config.near c r) i), .l (Int.toNat (gt (Config.near c r) i)), .g (List.map encL outs) (Int.toNat (gt (Config.near c r) i)) (encL (gt outs (Int.toNat (gt (Config.near c r) i)))), .a _ _, .w ((0 : Nat) < (120 : Nat)), .s (T.sl 0 (List.map Cross.enc W)), .t (T.sl 0 (List.map Cross.enc A ++ List.map Cross.enc W)) (T.sl 0 (List.map Cross.enc (A ++ W))), .w (room (List.length (List.map Cross.enc (A ++ W))) (120 : Nat)), .i IntKind.i64 ((↑i : Int) + 1) ((↑(i + 1) : Int)), .a _ _] ⟨tP, oW, o_n (by kernel_rfl), o_gt rfl (by assumption) (by intro h; cases h), o_n (by simp), t_brp (by assumption), oW, oT, o_a hT, oW, o_l (nm_app rfl rfl), o_w (by (simp [room, appendMax]; omega)), oI, o_a ih1, trivial⟩ ?_
      exact ge
    · rw [if_neg h2, List.nil_append]
      clear ih hs
      generalize ((((c.near r).drop (i + 1)).filter fun q => decide (q < (outs.length : Int))).map fun q => toL (gt outs q.toNat) r).flatten = X at *
      refine Wp.ev ?_
      refine gg [.b (decide ((↑i : Int) < (↑(List.length (Config.near c r)) : Int))) true, .w ((0 : Int) ≤ (↑i : Int)), .n (Int.toNat (↑i : Int)) i, .g (List.map ti (Config.near c r)) i (ti (gt (Config.near c r) i)), .n (List.length (List.map encL outs)) (List.length outs), .b (decide (gt (Config.near c r) i < (↑(List.length outs) : Int))) false, .i IntKind.i64 ((↑i : Int) + 1) ((↑(i + 1) : Int)), .a _ _] ⟨tP, oW, o_n (by kernel_rfl), o_gt rfl (by assumption) (by intro h; cases h), o_n (by simp), f_brp (by assumption), oI, o_a ih0, trivial⟩ ?_
      exact ge
theorem f_arena_Inbox (c : Config) (outs : List CrossL) (r : Int) (hr : c.is r = true) (ho : outs.length ≤ 16) (hs : ∀ l ∈ outs, l.length ≤ 400) : Is cx (.call 38 [.t c.enc, .t (.sl 1 (outs.map encL)), vi r] []) ⟨.ret, [.t (.sl 15 ((inboxL c outs r).map Cross.enc))], []⟩ := by
  have hN := f_grid_Near c r
  have h := f_arena_Inbox_loop c outs r hr ho hs (c.near r).length 0 [] (by omega) (by simp)
  rw [List.drop_zero, List.nil_append] at h
  unfold inboxL
  clear hs
  generalize (((c.near r).filter fun q => decide (q < (outs.length : Int))).map fun q => toL (gt outs q.toNat) r).flatten = X at *
  have hns : (c.near r).length ≤ 9 := near_small
  refine Wp.ev ?_
  refine gg [.a _ _, .n (List.length (List.map ti (Config.near c r))) (List.length (Config.near c r)), .a _ _] ⟨o_a hN, o_n (by simp), o_a h, trivial⟩ ?_
  exact ge
theorem f_arena_Step_one (c : Config) (w : World) (f : Int) (ins : List Input) (h : WFine c w f) (hf : 0 ≤ f ∧ f < 10000) (hl : (ins.length : Int) = c.players) (hi : ∀ i ∈ ins, i.right = true) {r : Nat} (hr : r < w.regions.length) :
    Is cx (.call 38 [.t c.enc, .t (.sl 1 (w.outs.map encL)), vi r] []) ⟨.ret, [.t (.sl 15 ((inboxL c w.outs r).map Cross.enc))], []⟩ ∧
    Is cx (.call 23 [.t c.enc, vi r, .t (gt w.regions r).enc, .t (.sl 3 (ins.map Input.enc)), .t (.sl 15 ((inboxL c w.outs r).map Cross.enc))] []) ⟨.ret, [.t (nextR c w ins r).enc, .t (.sl 15 ((nextO c w ins r).map Cross.enc)), vi 0], []⟩ := by
  have hreg := h.regs
  have hout := h.outs
  have hgl := @Config.regions_le c
  have hcr := Config.right_iff.1 h.right
  have hF := world_fine h hf hl hi hr
  have hb := inbox_ok h hr
  have hs := h.sane r hr
  refine ⟨f_arena_Inbox c w.outs r hF.is (by omega) (fun l hl => ?_), f_region_Step_yes c r (gt w.regions r) ins (inboxL c w.outs r) (by omega) (by unfold small; omega) (by omega) (fine_asked hF)⟩
  obtain ⟨k, hk, rfl⟩ := List.mem_iff_getElem.1 hl
  have := (h.sent k hk).2
  have e : gt w.outs k = w.outs[k] := by simp [gt, hk]
  rwa [e] at this
theorem f_arena_Step_loop (c : Config) (w : World) (f : Int) (ins : List Input) (h : WFine c w f) (hf : 0 ≤ f ∧ f < 10000) (hl : (ins.length : Int) = c.players) (hi : ∀ i ∈ ins, i.right = true) : ∀ (d i : Nat), i + d = w.regions.length →
    Is cx (.loop 34 [0, 1, 0, 1, 1, 1, 1] 0 [.t (.sl 3 (ins.map Input.enc)), .ptr 0 0 0, .ptr 1 0 0, vi 0, .ptr 2 0 0, .ptr 3 0 0, .t (.sl 2 (w.regions.map Region.enc)), vi w.regions.length, vi i] [.one 2 (.t w.enc) false, .one 2 (.agg [.fit 2 [], .fit 1 []]) false, .one 5 (.t c.enc) false, .one 2 (.agg [.all 4 none, .all 5 none]) false, .arr 2 (((List.range i).map (nextR c w ins)).map Region.enc) none false, .arr 1 (((List.range i).map (nextO c w ins)).map encL) none false])
      ⟨.exit 1, [.t (.sl 3 (ins.map Input.enc)), .ptr 0 0 0, .ptr 1 0 0, vi 0, .ptr 2 0 0, .ptr 3 0 0, .t (.sl 2 (w.regions.map Region.enc)), vi w.regions.length, vi w.regions.length], [.one 2 (.t w.enc) false, .one 2 (.agg [.fit 2 [], .fit 1 []]) false, .one 5 (.t c.enc) false, .one 2 (.agg [.all 4 none, .all 5 none]) false, .arr 2 (((List.range w.regions.length).map (nextR c w ins)).map Region.enc) none false, .arr 1 (((List.range w.regions.length).map (nextO c w ins)).map encL) none false]⟩ := by
  have hreg := h.regs
  have hgl := @Config.regions_le c
  intro d
  induction d with
  | zero =>
    intro i hi
    obtain rfl : i = w.regions.length := by omega
    generalize (List.range w.regions.length).map (nextR c w ins) = A at *
    generalize (List.range w.regions.length).map (nextO c w ins) = B at *
    obtain ⟨R, O⟩ := w
    refine Wp.ev ?_
    refine gg [.b (decide ((↑(List.length R) : Int) < (↑(List.length R) : Int))) false] ⟨fP, trivial⟩ ?_
    exact ge
  | succ d ih =>
    intro i hid
    have hlt : i < w.regions.length := by omega
    have ih1 := ih (i + 1) (by omega)
    obtain ⟨hI, hS⟩ := f_arena_Step_one c w f ins h hf hl hi hlt
    have e1 : (List.range (i + 1)).map (nextR c w ins) = (List.range i).map (nextR c w ins) ++ [nextR c w ins i] := by rw [List.range_succ, List.map_append]; rfl
    have e2 : (List.range (i + 1)).map (nextO c w ins) = (List.range i).map (nextO c w ins) ++ [nextO c w ins i] := by rw [List.range_succ, List.map_append]; rfl
    rw [e1, e2] at ih1
    have hA : ((List.range i).map (nextR c w ins)).length = i := by simp
    have hB : ((List.range i).map (nextO c w ins)).length = i := by simp
    clear ih hi e1 e2
    generalize (List.range i).map (nextR c w ins) = A at *
    generalize (List.range i).map (nextO c w ins) = B at *
    generalize (List.range w.regions.length).map (nextR c w ins) = A2 at *
    generalize (List.range w.regions.length).map (nextO c w ins) = B2 at *
    generalize nextR c w ins i = x at *
    generalize nextO c w ins i = y at *
    generalize inboxL c w.outs i = box at *
    obtain ⟨R, O⟩ := w
    simp only at hreg hlt hI hS ih1 ⊢
    clear h
    refine Wp.ev ?_
    refine gg [.b (decide ((↑i : Int) < (↑(List.length R) : Int))) true, .w ((0 : Int) ≤ (↑i : Int)), .n (Int.toNat (↑i : Int)) i, .g (List.map Region.enc R) i (Region.enc (gt R i))] ⟨tP, oW, o_n (by kernel_rfl), o_gt rfl (by assumption) (by intro h; cases h), trivial⟩ ?_
    refine bo (by kernel_rfl) ?_ ?_
    · refine gg [.a _ _] ⟨o_a hI, trivial⟩ ?_
      refine bo (by kernel_rfl) ?_ ?_
      all_goals
        refine gg [.a _ _, .b (0 != 0) false] ⟨o_a hS, o_b (by kernel_rfl), trivial⟩ ?_
        refine bo (by kernel_rfl) (bo (by kernel_rfl) ?_ (bo (by kernel_rfl) (bo (by kernel_rfl) ?_ ?_) (bo (by kernel_rfl) ?_ ?_))) (bo (by kernel_rfl) (bo (by kernel_rfl) (bo (by kernel_rfl) ?_ ?_) ?_) (bo (by kernel_rfl) (bo (by kernel_rfl) ?_ ?_) ?_))
        all_goals
          refine gg [.w ((0 : Nat) < (32 : Nat)), .t (T.sl 0 [Region.enc x]) (T.sl 0 (List.map Region.enc [x])), .t (T.sl 0 (List.map Region.enc A ++ List.map Region.enc [x])) (T.sl 0 (List.map Region.enc (A ++ [x]))), .w (room (List.length (List.map Region.enc (A ++ [x]))) (32 : Nat)), .w ((0 : Nat) < (24 : Nat)), .s (T.sl 0 [T.sl 15 (List.map Cross.enc y)]), .t (T.sl 0 (List.map encL B ++ [T.sl 15 (List.map Cross.enc y)])) (T.sl 0 (List.map encL (B ++ [y]))), .w (room (List.length (List.map encL (B ++ [y]))) (24 : Nat)), .i IntKind.i64 ((↑i : Int) + 1) ((↑(i + 1) : Int)), .a _ _] ⟨oW, o_l (nm_cons rfl nm_nil), o_l (nm_app rfl rfl), o_w (by (simp [room, appendMax]; omega)), oW, o_l (nm_app rfl (nm_cons (e := y) rfl nm_nil)), o_w (by (simp [room, appendMax]; omega)), oI, o_a ih1, trivial⟩ ?_
          exact ge
    · refine gg [.a _ _, .a _ _, .b (0 != 0) false] ⟨o_a hI, o_a hS, o_b (by kernel_rfl), trivial⟩ ?_
      refine bo (by kernel_rfl) (bo (by kernel_rfl) ?_ (bo (by kernel_rfl) (bo (by kernel_rfl) ?_ ?_) (bo (by kernel_rfl) ?_ ?_))) (bo (by kernel_rfl) (bo (by kernel_rfl) (bo (by kernel_rfl) ?_ ?_) ?_) (bo (by kernel_rfl) (bo (by kernel_rfl) ?_ ?_) ?_))
      all_goals
        refine gg [.w ((0 : Nat) < (32 : Nat)), .t (T.sl 0 [Region.enc x]) (T.sl 0 (List.map Region.enc [x])), .t (T.sl 0 (List.map Region.enc A ++ List.map Region.enc [x])) (T.sl 0 (List.map Region.enc (A ++ [x]))), .w (room (List.length (List.map Region.enc (A ++ [x]))) (32 : Nat)), .w ((0 : Nat) < (24 : Nat)), .s (T.sl 0 [T.sl 15 (List.map Cross.enc y)]), .t (T.sl 0 (List.map encL B ++ [T.sl 15 (List.map Cross.enc y)])) (T.sl 0 (List.map encL (B ++ [y]))), .w (room (List.length (List.map encL (B ++ [y]))) (24 : Nat)), .i IntKind.i64 ((↑i : Int) + 1) ((↑(i + 1) : Int)), .a _ _] ⟨oW, o_l (nm_cons rfl nm_nil), o_l (nm_app rfl rfl), o_w (by (simp [room, appendMax]; omega)), oW, o_l (nm_app rfl (nm_cons (e := y) rfl nm_nil)), o_w (by (simp [room, appendMax]; omega)), oI, o_a ih1, trivial⟩ ?_
        exact ge
theorem f_arena_Step_first (c : Config) (w : World) (f : Int) (ins : List Input) (h : WFine c w f) (hf : 0 ≤ f ∧ f < 10000) (hl : (ins.length : Int) = c.players) (hi : ∀ i ∈ ins, i.right = true) :
    Is cx (.loop 34 [0, 1, 0, 1, 1, 1, 1] 0 [.t (.sl 3 (ins.map Input.enc)), .ptr 0 0 0, .ptr 1 0 0, vi 0, .ptr 2 0 0, .ptr 3 0 0, .t (.sl 2 (w.regions.map Region.enc)), vi w.regions.length, vi 0] [.one 2 (.t w.enc) false, .one 2 (.agg [.fit 2 [], .fit 1 []]) false, .one 5 (.t c.enc) false, .one 2 (.agg [.fit 2 [], .fit 1 []]) false])
      ⟨.exit 1, [.t (.sl 3 (ins.map Input.enc)), .ptr 0 0 0, .ptr 1 0 0, vi 0, .ptr 2 0 0, .ptr 3 0 0, .t (.sl 2 (w.regions.map Region.enc)), vi w.regions.length, vi w.regions.length], [.one 2 (.t w.enc) false, .one 2 (.agg [.fit 2 [], .fit 1 []]) false, .one 5 (.t c.enc) false, .one 2 (.agg [.all 4 none, .all 5 none]) false, .arr 2 (((List.range w.regions.length).map (nextR c w ins)).map Region.enc) none false, .arr 1 (((List.range w.regions.length).map (nextO c w ins)).map encL) none false]⟩ := by
  have hreg := h.regs
  have hgl := @Config.regions_le c
  have hml := Config.mul_le h.right
  have hgr : c.regions = c.cols * c.rows := by simp [Config.regions, h.right]
  have hlt : 0 < w.regions.length := by omega
  have ih1 := f_arena_Step_loop c w f ins h hf hl hi (w.regions.length - 1) 1 (by omega)
  obtain ⟨hI, hS⟩ := f_arena_Step_one c w f ins h hf hl hi hlt
  change Is cx (.loop _ _ _ _ [_, _, _, _, .arr 2 [(nextR c w ins 0).enc] _ _, .arr 1 [encL (nextO c w ins 0)] _ _]) _ at ih1
  clear hi hgr
  generalize (List.range w.regions.length).map (nextR c w ins) = A2 at *
  generalize (List.range w.regions.length).map (nextO c w ins) = B2 at *
  generalize nextR c w ins 0 = x at *
  generalize nextO c w ins 0 = y at *
  generalize inboxL c w.outs (0 : Nat) = box at *
  obtain ⟨R, O⟩ := w
  simp only at hreg hlt hI hS ih1 ⊢
  clear h
  refine Wp.ev ?_
  refine gg [.b (decide (0 < (↑(List.length R) : Int))) true, .w ((0 : Int) ≤ (0 : Int)), .l 0, .g (List.map Region.enc R) 0 (Region.enc (gt R 0))] ⟨tP, oW, o_gt rfl (by assumption) (by intro h; cases h), trivial⟩ ?_
  refine bo (by kernel_rfl) ?_ ?_
  · refine gg [.a _ _] ⟨o_a hI, trivial⟩ ?_
    refine bo (by kernel_rfl) ?_ ?_
    all_goals
      refine gg [.a _ _, .b (0 != 0) false] ⟨o_a hS, o_b (by kernel_rfl), trivial⟩ ?_
      refine bo (by kernel_rfl) (bo (by kernel_rfl) ?_ (bo (by kernel_rfl) (bo (by kernel_rfl) ?_ ?_) (bo (by kernel_rfl) ?_ ?_))) (bo (by kernel_rfl) (bo (by kernel_rfl) (bo (by kernel_rfl) ?_ ?_) ?_) (bo (by kernel_rfl) (bo (by kernel_rfl) ?_ ?_) ?_))
      all_goals
        refine gg [.w ((0 : Nat) < (32 : Nat)), .t (T.sl 0 [Region.enc x]) (T.sl 0 (List.map Region.enc [x])), .t (T.sl 0 [Region.enc x]) (T.sl 0 (List.map Region.enc [x])), .w (room (List.length (List.map Region.enc [x])) (32 : Nat)), .w ((0 : Nat) < (24 : Nat)), .s (T.sl 0 [T.sl 15 (List.map Cross.enc y)]), .s (T.sl 0 [T.sl 15 (List.map Cross.enc y)]), .w (room (List.length [T.sl (15 : Nat) (List.map Cross.enc y)]) (24 : Nat)), .i IntKind.i64 1 1, .a _ _] ⟨oW, o_l (nm_cons rfl nm_nil), o_l (nm_cons rfl nm_nil), o_w (by (simp [room, appendMax])), oW, o_w (by (simp [room, appendMax])), oK, o_a ih1, trivial⟩ ?_
        exact ge
  · refine gg [.a _ _, .a _ _, .b (0 != 0) false] ⟨o_a hI, o_a hS, o_b (by kernel_rfl), trivial⟩ ?_
    refine bo (by kernel_rfl) (bo (by kernel_rfl) ?_ (bo (by kernel_rfl) (bo (by kernel_rfl) ?_ ?_) (bo (by kernel_rfl) ?_ ?_))) (bo (by kernel_rfl) (bo (by kernel_rfl) (bo (by kernel_rfl) ?_ ?_) ?_) (bo (by kernel_rfl) (bo (by kernel_rfl) ?_ ?_) ?_))
    all_goals
      refine gg [.w ((0 : Nat) < (32 : Nat)), .t (T.sl 0 [Region.enc x]) (T.sl 0 (List.map Region.enc [x])), .t (T.sl 0 [Region.enc x]) (T.sl 0 (List.map Region.enc [x])), .w (room (List.length (List.map Region.enc [x])) (32 : Nat)), .w ((0 : Nat) < (24 : Nat)), .s (T.sl 0 [T.sl 15 (List.map Cross.enc y)]), .s (T.sl 0 [T.sl 15 (List.map Cross.enc y)]), .w (room (List.length [T.sl (15 : Nat) (List.map Cross.enc y)]) (24 : Nat)), .i IntKind.i64 1 1, .a _ _] ⟨oW, o_l (nm_cons rfl nm_nil), o_l (nm_cons rfl nm_nil), o_w (by (simp [room, appendMax])), oW, o_w (by (simp [room, appendMax])), oK, o_a ih1, trivial⟩ ?_
      exact ge
theorem f_arena_Step_yes (c : Config) (w : World) (f : Int) (ins : List Input) (h : WFine c w f) (hf : 0 ≤ f ∧ f < 10000) (hl : (ins.length : Int) = c.players) (hi : ∀ i ∈ ins, i.right = true) :
    Is cx (.call 34 [.t c.enc, .t w.enc, .t (.sl 3 (ins.map Input.enc))] []) ⟨.ret, [.t (nextW c w ins).enc, vi 0], []⟩ := by
  have hr := h.right
  have hreg := h.regs
  have hout := h.outs
  have hgl := @Config.regions_le c
  have hml := Config.mul_le hr
  have hgr : c.regions = c.cols * c.rows := by simp [Config.regions, hr]
  have hN := f_grid_New c
  rw [Config.grid_of hr, Config.err_of hr] at hN
  have hG := f_grid_Regions c
  rw [← hreg] at hG
  have hE := f_arena_Step_first c w f ins h hf hl hi
  have e3 : (nextW c w ins).enc = .agg [.sl 2 (((List.range w.regions.length).map (nextR c w ins)).map Region.enc), .sl 1 (((List.range w.regions.length).map (nextO c w ins)).map encL)] := rfl
  rw [e3]
  clear hi e3
  generalize (List.range w.regions.length).map (nextR c w ins) = A at *
  generalize (List.range w.regions.length).map (nextO c w ins) = B at *
  obtain ⟨R, O⟩ := w
  simp only at hreg hout hG hE ⊢
  clear hgr h
  refine Wp.ev ?_
  refine gg [.a _ _, .b (0 != 0) false, .n (List.length (List.map Region.enc R)) (List.length R), .a _ _, .b ((↑(List.length R) : Int) != (↑(List.length R) : Int)) false, .ff, .ff, .n (List.length (List.map encL O)) (List.length O), .ff, .ff, .a _ _, .ff, .ff, .b ((↑(List.length O) : Int) != (↑(List.length R) : Int)) false, .n (List.length (List.map Region.enc R)) (List.length R), .a _ _] ⟨o_a hN, o_b (by kernel_rfl), o_n (by simp), o_a hG, f_brn rfl, o_n (by simp), o_a hG, fN, o_n (by simp), o_a hE, trivial⟩ ?_
  exact ge
end Go.Eva.S3

/- Arenas: some frames. -/
namespace Go.Eva.S3
theorem f_arena_Run_loop (c : Config) (rows : List InputL) (hi : ∀ i ∈ rows, (i.length : Int) = c.players ∧ ∀ x ∈ i, x.right = true) (hn : rows.length ≤ 100) : ∀ (d i : Nat) (w : World) (f : Int), i + d = rows.length → WFine c w f → 0 ≤ f → f + d ≤ 10000 →
    Is cx (.loop 43 [0, 1, 0, 1, 1] 0 [.ptr 0 0 0, .ptr 1 0 0, vi 0, .ptr 2 0 0, vi 0, .t (.sl 1 (rows.map encI)), vi rows.length, vi i] [.one 5 (.t c.enc) false, .one 2 (.agg [.fit 2 [], .fit 1 []]) false, .one 2 (.t w.enc) false])
      ⟨.exit 0, [.ptr 0 0 0, .ptr 1 0 0, vi 0, .ptr 2 0 0, vi 0, .t (.sl 1 (rows.map encI)), vi rows.length, vi rows.length], [.one 5 (.t c.enc) false, .one 2 (.agg [.fit 2 [], .fit 1 []]) false, .one 2 (.t (runW c w (rows.drop i)).enc) false]⟩ := by
  intro d
  induction d with
  | zero =>
    intro i w f hid hw h0 hf
    rw [drop_end (by omega)]
    refine Wp.ev ?_
    refine gg [.b (decide ((↑i : Int) < (↑(List.length rows) : Int))) false] ⟨fP, trivial⟩ ?_
    refine rt (a := Res.mk (Ex.exit 0) [V.ptr 0 0 0, V.ptr 1 0 0, vi 0, V.ptr 2 0 0, vi 0, V.t (T.sl 1 (List.map encI rows)), vi (↑(List.length rows) : Int), vi (↑i : Int)] [Ob.one 5 (V.t (Config.enc c)) false, Ob.one 2 (V.agg [V.fit 2 [], V.fit 1 []]) false, Ob.one 2 (V.t (World.enc w)) false]) (by kernel_rfl) ?_
    ((have : i = rows.length := by omega); subst this; rfl)
  | succ d ih =>
    intro i w f hid hw h0 hf
    have hlt : i < rows.length := by omega
    have h1 := hi _ (gt_mem hlt)
    have hS := f_arena_Step_yes c w f (gt rows i) hw (by omega) h1.1 h1.2
    have ih1 := ih (i + 1) (nextW c w (gt rows i)) (f + 1) (by omega) (next_fine hw (by omega) h1.1 h1.2) (by omega) (by omega)
    rw [show runW c w (rows.drop i) = runW c (nextW c w (gt rows i)) (rows.drop (i + 1)) by rw [drop_gt hlt]; rfl]
    clear ih hi h1 hw
    generalize runW c (nextW c w (gt rows i)) (rows.drop (i + 1)) = W at *
    generalize nextW c w (gt rows i) = x at *
    refine Wp.ev ?_
    refine gg [.b (decide ((↑i : Int) < (↑(List.length rows) : Int))) true, .w ((0 : Int) ≤ (↑i : Int)), .n (Int.toNat (↑i : Int)) i, .g (List.map encI rows) i (encI (gt rows i)), .b (0 != 0) false, .a _ _, .i IntKind.i64 ((↑i : Int) + 1) ((↑(i + 1) : Int)), .a _ _] ⟨tP, oW, o_n (by kernel_rfl), o_gt rfl (by assumption) (by intro h; cases h), o_b (by kernel_rfl), o_a hS, oI, o_a ih1, trivial⟩ ?_
    exact ge
def worldAt (c : Config) (rows : List InputL) : World := runW c (beginW c.cols c.regions c.players.toNat) rows
theorem f_arena_Run (c : Config) (rows : List InputL) (hr : c.right = true) (hi : ∀ i ∈ rows, (i.length : Int) = c.players ∧ ∀ x ∈ i, x.right = true) (hn : rows.length ≤ 100) :
    Is cx (.call 43 [.t c.enc, .t (.sl 1 (rows.map encI))] []) ⟨.ret, [.t (worldAt c rows).enc, vi 0], []⟩ := by
  have hB := f_arena_Begin_yes c hr
  rw [show c.cols * c.rows = c.regions by simp [Config.regions, hr]] at hB
  have hL := f_arena_Run_loop c rows hi hn rows.length 0 (beginW c.cols c.regions c.players.toNat) 0 (by omega) (begin_fine hr) (by omega) (by omega)
  rw [List.drop_zero] at hL
  unfold worldAt
  generalize runW c (beginW c.cols c.regions c.players.toNat) rows = W at *
  generalize beginW c.cols c.regions c.players.toNat = B at *
  clear hi
  refine Wp.ev ?_
  refine gg [.a _ _, .n (List.length (List.map encI rows)) (List.length rows), .a _ _] ⟨o_a hB, o_n (by simp), o_a hL, trivial⟩ ?_
  exact ge
end Go.Eva.S3

/- Worlds held against each other; a frame of inputs that are not right. -/
namespace Go.Eva.S3
end Go.Eva.S3

/- The statement of the beginning of an arena. -/
namespace Go.Eva.S3
def c213 : Config := ⟨2, 1, 3, 1, 0⟩
theorem f_joustlaw10_awake : Fn cx 33 [] (.bool true) := by
  have hB := f_arena_Begin_yes c213 (by decide)
  have hA := f_arena_All (beginW 2 2 3) (by decide) (by decide) (by decide) (by decide)
  have e : allL (beginW 2 2 3) = playersP 2 2 3 1 := by decide +kernel
  rw [e] at hA
  have hl : (playersP 2 2 3 1).length = 3 := rfl
  have hr : (beginW 2 2 3).regions.length = 2 := rfl
  change Is cx _ ⟨_, [.t (beginW 2 2 3).enc, _], _⟩ at hB
  simp only [c213] at hB
  generalize playersP 2 2 3 1 = P at *
  generalize beginW 2 2 3 = W at *
  obtain ⟨R, O⟩ := W
  simp only at hr
  refine Wp.ev ?_
  refine gg [.a _ _, .b (0 == 0) true, .tt, .tt, .n (List.length (List.map Region.enc R)) (List.length R), .tt, .tt, .b ((↑(List.length R) : Int) == 2) true, .tt, .a _ _, .tt, .n (List.length (List.map Entity.enc P)) (List.length P), .tt, .tt] ⟨o_a hB, o_b (by kernel_rfl), o_n (by simp), tE, o_a hA, o_n (by simp), trivial⟩ ?_
  refine rt (a := Res.mk Ex.ret [vb ((↑(List.length P) : Int) == 3)] []) (by kernel_rfl) ?_
  (simp; omega)
end Go.Eva.S3

/- Eva, part 73: lists that are written from the end on; in plain words. -/
namespace Go.Eva

end Go.Eva
namespace Go.Eva
end Go.Eva

/- Eva, part 74: who is where, over frames; in plain words. -/
namespace Go.Eva

/-- Lists of all numbers below one, behind one another. -/
def cat {α : Type} : Nat → (Nat → List α) → List α
  | 0, _ => []
  | n + 1, g => cat n g ++ g n
section
variable {α β : Type}
theorem cat_range {g : Nat → List α} : ∀ {n : Nat}, ((List.range n).map g).flatten = cat n g
  | 0 => rfl
  | n + 1 => by rw [List.range_succ, List.map_append, List.flatten_append, cat_range]; simp [cat]
theorem cat_eq {g h : Nat → List α} : ∀ {n : Nat}, (∀ r, r < n → g r = h r) → cat n g = cat n h
  | 0, _ => rfl
  | n + 1, e => by rw [cat, cat, cat_eq fun r hr => e r (by omega), e n (by omega)]
theorem cat_perm {g h : Nat → List α} : ∀ {n : Nat}, (∀ r, r < n → (g r).Perm (h r)) → (cat n g).Perm (cat n h)
  | 0, _ => .refl _
  | n + 1, e => (cat_perm fun r hr => e r (by omega)).append (e n (by omega))
theorem cat_nil : ∀ {n : Nat}, cat n (fun _ => ([] : List α)) = []
  | 0 => rfl
  | n + 1 => by rw [cat, cat_nil]; rfl
theorem cat_append {g h : Nat → List α} : ∀ {n : Nat}, (cat n fun r => g r ++ h r).Perm (cat n g ++ cat n h)
  | 0 => .refl _
  | n + 1 => by
    have ih := @cat_append g h n
    rw [cat, cat, cat]
    refine (ih.append_right _).trans ?_
    rw [List.append_assoc, List.append_assoc]
    refine List.Perm.append_left _ ?_
    rw [← List.append_assoc, ← List.append_assoc]
    exact List.Perm.append_right _ List.perm_append_comm
theorem cat_swap {g : Nat → Nat → List α} {m : Nat} : ∀ {n : Nat}, (cat n fun r => cat m fun q => g r q).Perm (cat m fun q => cat n fun r => g r q)
  | 0 => by
    rw [cat]
    show List.Perm [] (cat m fun _ => [])
    rw [cat_nil]
  | n + 1 => by
    have ih := @cat_swap g m n
    rw [cat]
    exact (ih.append_right _).trans cat_append.symm
theorem cat_map {g : Nat → List α} {f : α → β} : ∀ {n : Nat}, (cat n g).map f = cat n fun r => (g r).map f
  | 0 => rfl
  | n + 1 => by rw [cat, cat, List.map_append, cat_map]
theorem cat_mem {g : Nat → List α} {x : α} : ∀ {n : Nat}, x ∈ cat n g ↔ ∃ r, r < n ∧ x ∈ g r
  | 0 => by simp [cat]
  | n + 1 => by
    rw [cat, List.mem_append, cat_mem]
    constructor
    · rintro (⟨r, h1, h2⟩ | h)
      · exact ⟨r, by omega, h2⟩
      · exact ⟨n, by omega, h⟩
    · rintro ⟨r, h1, h2⟩
      by_cases e : r = n
      · subst e; exact .inr h2
      · exact .inl ⟨r, by omega, h2⟩
/-- Without twins: each by itself, and no two have one in common. -/
theorem cat_nodup {g : Nat → List α} : ∀ {n : Nat}, (∀ r, r < n → (g r).Nodup) → (∀ r q, r < n → q < n → r ≠ q → ∀ x ∈ g r, x ∉ g q) → (cat n g).Nodup
  | 0, _, _ => .nil
  | n + 1, h1, h2 => by
    rw [cat, List.nodup_append]
    refine ⟨cat_nodup (fun r hr => h1 r (by omega)) fun r q hr hq => h2 r q (by omega) (by omega), h1 n (by omega), fun x hx y hy => ?_⟩
    obtain ⟨r, hr, hx⟩ := cat_mem.1 hx
    intro e
    subst e
    exact h2 r n (by omega) (by omega) (by omega) x hx hy
theorem cat_nodup_at {g : Nat → List α} : ∀ {n : Nat}, (cat n g).Nodup → (∀ r, r < n → (g r).Nodup) ∧ ∀ r q, r < n → q < n → r ≠ q → ∀ x ∈ g r, x ∉ g q
  | 0, _ => ⟨fun r h => by omega, fun r q h => by omega⟩
  | n + 1, h => by
    rw [cat, List.nodup_append] at h
    obtain ⟨h1, h2, h3⟩ := h
    obtain ⟨i1, i2⟩ := cat_nodup_at h1
    refine ⟨fun r hr => ?_, fun r q hr hq hne x hx hy => ?_⟩
    · by_cases e : r = n
      · subst e; exact h2
      · exact i1 r (by omega)
    · by_cases e : r = n
      · subst e
        exact h3 x (cat_mem.2 ⟨q, by omega, hy⟩) x hx rfl
      · by_cases e2 : q = n
        · subst e2
          exact h3 x (cat_mem.2 ⟨r, by omega, hx⟩) x hy rfl
        · exact i2 r q (by omega) (by omega) hne x hx hy
end
theorem cat_one {l : List Cross} : ∀ {n : Nat}, (∀ m ∈ l, 0 ≤ m.to ∧ m.to < n) → (cat n fun r => toL l r).Perm l := by
  induction l with
  | nil => intro n _; rw [show (fun r : Nat => toL [] (r : Int)) = fun _ => [] from rfl, cat_nil]
  | cons m l ih =>
    intro n h
    have hm := h m (List.mem_cons_self ..)
    have ih := ih fun x hx => h x (List.mem_cons_of_mem _ hx)
    have e : (fun r : Nat => toL (m :: l) (r : Int)) = fun r : Nat => (if m.to = (r : Int) then [m] else []) ++ toL l r := by
      funext r
      unfold toL
      rw [List.filter_cons]
      by_cases q : m.to = (r : Int) <;> simp [q]
    have e2 : ∀ {k : Nat}, (cat k fun r : Nat => if m.to = (r : Int) then [m] else []) = if m.to < (k : Int) then [m] else [] := by
      intro k
      induction k with
      | zero => rw [if_neg (by omega)]; rfl
      | succ k ih =>
        rw [cat, ih]
        by_cases q1 : m.to < (k : Int)
        · rw [if_pos q1, if_neg (by omega), if_pos (by omega)]; rfl
        · by_cases q2 : m.to = (k : Int)
          · rw [if_neg q1, if_pos q2, if_pos (by omega)]; rfl
          · rw [if_neg q1, if_neg q2, if_neg (by omega)]; rfl
    rw [e]
    refine cat_append.trans ?_
    rw [e2, if_pos hm.2]
    exact List.Perm.cons m ih
/-- What comes in is what all send there. -/
theorem near_cat {α : Type} {cols r : Int} {h : Int → List α} : ∀ {d : Nat} {a : Int}, ((nearR cols r a d).map h).flatten = ((List.range d).map fun k : Nat => if isNear cols r (a + k) = true then h (a + k) else []).flatten
  | 0, _ => rfl
  | d + 1, a => by
    have ih := @near_cat α cols r h d (a + 1)
    rw [nearR, List.map_append, List.flatten_append, ih, List.range_succ_eq_map, List.map_cons, List.flatten_cons, List.map_map]
    congr 1
    · simp only [Int.natCast_zero, Int.add_zero]
      split <;> simp
    · congr 1
      refine List.map_congr_left fun k _ => ?_
      have e : a + 1 + (k : Int) = a + ((k + 1 : Nat) : Int) := by omega
      simp only [Function.comp, e, Nat.succ_eq_add_one]
theorem isNear_symm {cols r q : Int} (h : isNear cols r q = true) : isNear cols q r = true := by
  simp only [isNear, decide_eq_true_eq] at *
  omega
theorem inbox_cat {c : Config} {w : World} {f : Int} (h : WFine c w f) {r : Nat} (hr : r < w.regions.length) : inboxL c w.outs r = cat w.regions.length fun q => toL (gt w.outs q) r := by
  have hreg := h.regs
  have hlen := h.outs
  have hre : c.regions = c.cols * c.rows := by simp [Config.regions, h.right]
  have his : c.is r = true := by rw [Config.is_iff h.right]; omega
  obtain ⟨hc, hrr, _⟩ := Config.right_iff.1 h.right
  have hN : c.near r = nearR c.cols r 0 (c.cols * c.rows).toNat := by rw [near_eq hc hrr (by omega)]; simp [Config.near, his]
  have hn : (c.cols * c.rows).toNat = w.regions.length := by omega
  have hfil : ((c.near r).filter fun q => decide (q < (w.outs.length : Int))) = c.near r := by
    rw [List.filter_eq_self]
    intro q hq
    have := near_in his hq
    simp; omega
  unfold inboxL
  rw [hfil, hN, near_cat, hn, cat_range]
  refine cat_eq fun q hq => ?_
  rw [Int.zero_add]
  split
  · rw [Int.toNat_natCast]
  · rename_i hnn
    rw [toL_none fun m hm e => hnn ?_]
    have hb := ((h.sent q (by omega)).1 m hm).2.2.2
    rw [e] at hb
    have hisq : c.is q = true := by rw [Config.is_iff h.right]; omega
    exact isNear_symm ((near_has hisq).1 hb).2
theorem inbox_all {c : Config} {w : World} {f : Int} (h : WFine c w f) : (cat w.regions.length fun r => inboxL c w.outs r).Perm (cat w.regions.length fun q => gt w.outs q) := by
  have hreg := h.regs
  have hlen := h.outs
  rw [cat_eq fun r hr => inbox_cat h hr]
  refine cat_swap.trans ?_
  refine cat_perm fun q hq => cat_one fun m hm => ?_
  have hb := ((h.sent q (by omega)).1 m hm).2.2.2
  have hre : c.regions = c.cols * c.rows := by simp [Config.regions, h.right]
  have hisq : c.is q = true := by rw [Config.is_iff h.right]; omega
  have := near_in hisq (has_mem.1 hb)
  omega
/-- All numbers of a list are such. -/
def IdOf (P : Int → Prop) (l : List Entity) : Prop := ∀ e ∈ l, P e.id
theorem idOf_put1 {P : Int → Prop} {l : List Entity} {e : Entity} (h : IdOf P l) (he : P e.id) : IdOf P (put1 l e) := fun x hx => by
  rcases put1_mem_iff hx with rfl | hx
  · exact he
  · exact h x hx
theorem idOf_setId {P : Int → Prop} {l : List Entity} {p e : Entity} (h : IdOf P l) (hp : p ∈ l) (he : e.id = p.id) : IdOf P (setId l p.id e) := fun x hx => by
  rcases setId_mem hx with rfl | hx
  · rw [he]; exact h p hp
  · exact h x hx
theorem idOf_steer1 {P : Int → Prop} {c : Config} {r f : Int} {ins : List Input} {s : Stg} {p : Entity} (h : IdOf P s.l) (hp : p ∈ s.l) (hm : 0 ≤ s.made) (hw : ∀ k : Int, 0 ≤ k ∧ k < 8 → P (numI c r f k)) : IdOf P (steer1 c r f ins s p).l := by
  unfold Go.Eva.steer1
  split
  · exact h
  · obtain ⟨i1, _⟩ := @steerE_id p (inAt ins p.id)
    split
    · split
      · rename_i hroom
        have hroom := Stg.room_iff.1 hroom
        exact idOf_setId (idOf_put1 h (hw s.made ⟨hm, hroom.1⟩)) (put1_sub p hp) i1
      · exact idOf_setId h hp i1
    · exact idOf_setId h hp i1
theorem idOf_steer {P : Int → Prop} {c : Config} {r f : Int} {ins : List Input} (hr : c.is r = true) (hf : 0 ≤ f ∧ f < 10000) (hins : (ins.length : Int) = c.players) (hi : ∀ i ∈ ins, i.right = true) (hw : ∀ k : Int, 0 ≤ k ∧ k < 8 → P (numI c r f k)) : ∀ {R : List Entity} {s : Stg}, Steer c r s → Srt R → (∀ p ∈ R, p ∈ s.l) → IdOf P s.l →
    IdOf P (R.foldl (steer1 c r f ins) s).l := by
  intro R
  induction R with
  | nil => intro s _ _ _ h; exact h
  | cons p R ih =>
    intro s h hR hm hP
    have hp := hm p (List.mem_cons_self ..)
    obtain ⟨h1, h2, h3⟩ := steer1_ok (f := f) (ins := ins) h hr hf hp fun hk => by
      have := Entity.right_player (h.sane.ents p hp).1 hk
      unfold inAt
      exact hi _ (gt_mem (by omega))
    obtain ⟨hR1, hR2⟩ := List.pairwise_cons.1 hR
    exact ih h1 hR2 (fun q hq => h2 q (hm q (List.mem_cons_of_mem _ hq)) (by have := hR1 q hq; omega)) (idOf_steer1 hP hp h.made.1 hw)
theorem idOf_move {P : Int → Prop} {c : Config} {l : List Entity} (h : IdOf P l) : IdOf P (moveL c l) := fun e he => by
  unfold moveL at he
  obtain ⟨x, hx, rfl⟩ := List.mem_map.1 he
  obtain ⟨h1, h2⟩ := List.mem_filter.1 hx
  rw [(goE_id h2).1]
  exact h x h1
theorem idOf_core {P : Int → Prop} {l m : List Entity} (e : l.map core = m.map core) (h : IdOf P m) : IdOf P l := fun x hx => by
  obtain ⟨y, hy, hc⟩ := core_mem e hx
  rw [(core_eq hc).1]
  exact h y hy
theorem idOf_hit {P : Int → Prop} {l m : List Entity} (hh : Hit l m) (h : IdOf P m) : IdOf P l := fun x hx => by
  obtain ⟨k, h1, h2, _⟩ := hh.sub
  exact (idOf_core h2 h) x (h1.subset hx)
theorem idOf_hits {P : Int → Prop} {M : List Entity} {inbox : List Cross} (hh : ∀ e ∈ M, e.kind = 1 → e.health ≤ 100) (h : IdOf P M) : IdOf P (blastsL (gemsL (shotsL M)) inbox) := by
  have h1 := shots_hit hh
  have h2 := gems_hit h1.low
  exact idOf_core (blasts_core h2.low).1 (idOf_hit h2 (idOf_hit h1 h))
theorem idOf_fall {P : Int → Prop} {c : Config} {r f : Int} : ∀ {ids : List Int} {s : Stg}, (∀ id ∈ ids, ∃ x ∈ s.l, x.id = id) → IdOf P s.l → IdOf P (ids.foldl (fall1 c r f) s).l
  | [], _, _, h => h
  | id :: ids, s, hi, h => by
    rw [List.foldl_cons]
    obtain ⟨k, k1, k2, k3⟩ := find_lt (hi id (List.mem_cons_self ..))
    have hids : (fall1 c r f s id).l.map Entity.id = s.l.map Entity.id := by
      unfold fall1
      rw [k1, Int.toNat_natCast]
      exact map_id_set k2 rfl
    refine idOf_fall (fun j hj => mem_ids hids.symm (hi j (List.mem_cons_of_mem _ hj))) fun e he => ?_
    obtain ⟨y, hy, he2⟩ := mem_ids hids ⟨e, he, rfl⟩
    rw [← he2]
    exact h y hy
theorem srt_nodup {l : List Entity} (h : Srt l) : (l.map Entity.id).Nodup := by
  rw [List.Nodup, List.pairwise_map]
  exact List.Pairwise.imp (fun h => by omega) h
/-- Numbers of what a step leaves and hands over: each once, of those that were there, or new ones. -/
theorem stepS_ids {c : Config} {r : Int} {s : Region} {ins : List Input} {inbox : List Cross} (h : Fine c r s ins inbox) {P : Int → Prop} (hP : IdOf P (arriveL s.ents inbox)) (hw : ∀ k : Int, 0 ≤ k ∧ k < 8 → P (numI c r s.frame k)) :
    ((stepS c r s ins inbox).l.map Entity.id ++ (handed (stepS c r s ins inbox).out).map Entity.id).Nodup ∧ ∀ i ∈ (stepS c r s ins inbox).l.map Entity.id ++ (handed (stepS c r s ins inbox).out).map Entity.id, P i := by
  obtain ⟨hst1, hst2⟩ := steer_ok h
  have hid := idOf_steer (s := ⟨arriveL s.ents inbox, 0, []⟩) h.is h.frame h.len h.ins hw (R := arriveL s.ents inbox) ⟨h.sane, by simp⟩ h.sane.srt (fun p hp => hp) hP
  change IdOf P (steerS c r s.frame ins ⟨arriveL s.ents inbox, 0, []⟩).l at hid
  unfold stepS restS
  generalize steerS c r s.frame ins ⟨arriveL s.ents inbox, 0, []⟩ = S at *
  obtain ⟨A, made, o⟩ := S
  simp only at hst1 hst2 hid ⊢
  subst hst2
  obtain ⟨hM, hMr⟩ := move_moved hst1.sane
  have hidM := idOf_hits (inbox := inbox) (fun e he hk => right_low (hMr e he)) (idOf_move (c := c) hid)
  obtain ⟨hH, _⟩ := hits_moved (inbox := inbox) hM
  generalize blastsL (gemsL (shotsL (moveL c A))) inbox = H at *
  obtain ⟨hF, _, _⟩ := fall_ok (made := made) h.is h.frame hH
  have hmd := (@fall_len c r s.frame (fallenL H) ⟨H, made, []⟩).2.1
  have hki : ∀ m ∈ (fallS c r s.frame ⟨H, made, []⟩).out, m.kind = 2 := fall_kind (by simp)
  have hidF : IdOf P (fallS c r s.frame ⟨H, made, []⟩).l := idOf_fall (s := ⟨H, made, []⟩) (fun id hid => by
    obtain ⟨x, h1, h2⟩ := List.mem_map.1 hid
    exact ⟨x, (List.mem_filter.1 h1).1, h2⟩) hidM
  change (fallS c r s.frame ⟨H, made, []⟩).made = made at hmd
  generalize fallS c r s.frame ⟨H, made, []⟩ = F at *
  have hG : Srt (growS c r s.frame F).l ∧ (growS c r s.frame F).out = F.out ∧ IdOf P (growS c r s.frame F).l := by
    unfold growS
    split
    · exact ⟨hF.srt, rfl, hidF⟩
    · rename_i hroom
      have hroom : F.room = true := by
        cases hq : F.room with
        | true => rfl
        | false => exact absurd (.inr (.inr hq)) hroom
      have hroom := Stg.room_iff.1 hroom
      exact ⟨put1_sorted hF.srt, rfl, idOf_put1 hidF (hw F.made ⟨by rw [hmd]; exact hst1.made.1, hroom.1⟩)⟩
  obtain ⟨hG1, hG2, hG3⟩ := hG
  rw [← hG2] at hki
  generalize growS c r s.frame F = G at *
  have e1 : (G.out ++ (G.l.filter fun e => !decide (c.of e.x e.y = r)).map (handE c r s.frame)).filter (fun m => decide (m.kind = 1)) = (G.l.filter fun e => !decide (c.of e.x e.y = r)).map (handE c r s.frame) := by
    rw [List.filter_append, List.filter_eq_nil_iff.2 fun m hm => by have := hki m hm; simp; omega, List.nil_append, List.filter_eq_self]
    intro m hm
    obtain ⟨e, _, rfl⟩ := List.mem_map.1 hm
    rfl
  have e2 : ((G.l.filter fun e => !decide (c.of e.x e.y = r)).map (handE c r s.frame)).map Cross.ent = G.l.filter fun e => !decide (c.of e.x e.y = r) := by
    rw [List.map_map]
    exact List.map_id _
  have e3 : (leaveS c r s.frame G).l.map Entity.id ++ (handed (leaveS c r s.frame G).out).map Entity.id = (G.l.filter fun e => decide (c.of e.x e.y = r)).map Entity.id ++ (G.l.filter fun e => !decide (c.of e.x e.y = r)).map Entity.id := by
    show _ ++ (handed (G.out ++ (G.l.filter fun e => !decide (c.of e.x e.y = r)).map (handE c r s.frame))).map Entity.id = _
    unfold handed
    rw [e1, e2]
    rfl
  have hp := (List.filter_append_perm (fun e : Entity => decide (c.of e.x e.y = r)) G.l).map Entity.id
  rw [List.map_append] at hp
  rw [e3]
  refine ⟨hp.nodup_iff.2 (srt_nodup hG1), fun i hi => ?_⟩
  obtain ⟨e, he, rfl⟩ := List.mem_map.1 (hp.mem_iff.1 hi)
  exact hG3 e he
end Go.Eva
