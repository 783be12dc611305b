/- A reading of the program, proved sound against the model, and what its functions answer by it: part 1. -/
import Derived.Test.YtnoedioeadiafaaEva0
import Derived.Below
import Derived.ArgAppend
import Derived.Laws.MakeOwn
import Derived.Laws.CopyRow
import Derived.Laws.Rows
import Derived.Laws.Entries
import Derived.Laws.IdiomCopy
import Derived.Laws.StructEq
import Derived.Laws.Tables
/- Lists held against each other; which entities are right. -/
namespace Go.Eva.S1
theorem f_jousthelp_Plain_1_Entity (a b : Entity) : Fn cx 56 [a.enc, b.enc] (.bool (decide (a = b))) := by
  rw [← teq_ent]
  refine Wp.ev ?_
  refine gs (l := [.w (conform cx (40 : Nat) (28 : Nat) (T.agg [ti a.id, ti a.kind, ti a.x, ti a.y, ti a.vx, ti a.vy, ti a.health, ti a.age, ti a.owner]) = true ∧ conform cx (40 : Nat) (28 : Nat) (T.agg [ti b.id, ti b.kind, ti b.x, ti b.y, ti b.vx, ti b.vy, ti b.health, ti b.age, ti b.owner]) = true)]) (by kernel_rfl) ⟨o_w ⟨(by kernel_rfl), (by kernel_rfl)⟩, trivial⟩ ?_
  refine rt (a := Res.mk Ex.ret [vb (teq (T.agg [ti a.id, ti a.kind, ti a.x, ti a.y, ti a.vx, ti a.vy, ti a.health, ti a.age, ti a.owner]) (T.agg [ti b.id, ti b.kind, ti b.x, ti b.y, ti b.vx, ti b.vy, ti b.health, ti b.age, ti b.owner]))] []) (by kernel_rfl) ?_
  rfl
theorem f_jousthelp_Same_loop_Entity (a b : List Entity) (g : Nat) (p : Entity → Entity → Bool) (hb : isFnB cx g = true) (hn : small a) (hl : a.length = b.length)
    (hg : ∀ x y, Fn cx g [x.enc, y.enc] (.bool (p x y))) : ∀ (d i : Nat), i + d = a.length →
    ∃ k : Nat, Is cx (.loop 55 [0, 1, 0, 1, 1] 0 [.t (.sl 9 (a.map Entity.enc)), .t (.sl 9 (b.map Entity.enc)), .t (.clo g []), vb false, vi i] [])
      (match sameL p (a.drop i) (b.drop i) with
        | true => ⟨.exit 0, [.t (.sl 9 (a.map Entity.enc)), .t (.sl 9 (b.map Entity.enc)), .t (.clo g []), vb false, vi a.length], []⟩
        | false => ⟨.ret, [.t (.sl 9 (a.map Entity.enc)), .t (.sl 9 (b.map Entity.enc)), .t (.clo g []), vb false, vi k], []⟩) := by
  unfold small at hn
  intro d
  induction d with
  | zero =>
    intro i hi
    refine ⟨0, ?_⟩
    rw [drop_end (by omega), drop_end (by omega)]
    refine Wp.ev ?_
    refine gs (l := [.n (List.length (List.map Entity.enc a)) (List.length a), .b (decide ((↑i : Int) < (↑(List.length a) : Int))) false]) (by kernel_rfl) ⟨o_n (by simp), f_brp (by omega), trivial⟩ ?_
    refine rt (a := Res.mk (Ex.exit 0) [V.t (T.sl 9 (List.map Entity.enc a)), V.t (T.sl 9 (List.map Entity.enc b)), V.t (T.clo g []), vb false, vi (↑i : Int)] []) (by kernel_rfl) ?_
    ((have hq : i = a.length := by omega); subst hq; rfl)
  | succ d ih =>
    intro i hi
    have hlt : i < a.length := by omega
    have hlt' : i < b.length := by omega
    obtain ⟨k, ih1⟩ := ih (i + 1) (by omega)
    have hy := hg (gt a i) (gt b i)
    clear ih hg
    rw [same_gt hlt hlt']
    cases hp : p (gt a i) (gt b i) with
    | true =>
      rw [hp] at hy
      refine ⟨k, ?_⟩
      rw [Bool.true_and]
      cases hq : sameL p (a.drop (i + 1)) (b.drop (i + 1)) with
      | true =>
        rw [hq] at ih1
        refine Wp.ev ?_
        refine gs (l := [.n (List.length (List.map Entity.enc a)) (List.length a), .b (decide ((↑i : Int) < (↑(List.length a) : Int))) true, .w ((0 : Int) ≤ (↑i : Int)), .n (Int.toNat (↑i : Int)) i, .g (List.map Entity.enc a) i (Entity.enc (gt a i)), .w ((0 : Int) ≤ (↑i : Int)), .n (Int.toNat (↑i : Int)) i, .g (List.map Entity.enc b) i (Entity.enc (gt b i)), .w (isFnB cx g = true), .a (Task.call g [V.t (Entity.enc (gt a i)), V.t (Entity.enc (gt b i))] []) (Res.mk Ex.ret [vb true] []), .b (!true) false, .i IntKind.i64 ((↑i : Int) + 1) ((↑(i + 1) : Int)), .a (Task.loop 55 [0, 1, 0, 1, 1] 0 [V.t (T.sl 9 (List.map Entity.enc a)), V.t (T.sl 9 (List.map Entity.enc b)), V.t (T.clo g []), vb false, vi (↑(i + 1) : Int)] []) (Res.mk (Ex.exit 0) [V.t (T.sl 9 (List.map Entity.enc a)), V.t (T.sl 9 (List.map Entity.enc b)), V.t (T.clo g []), vb false, vi (↑(List.length a) : Int)] [])]) (by kernel_rfl) ⟨o_n (by simp), t_brp (by omega), o_w (by omega), o_n (by kernel_rfl), o_gt rfl (by assumption) (by intro h; cases h), o_w (by omega), o_n (by kernel_rfl), o_gt rfl (by assumption) (by intro h; cases h), o_w (by assumption), o_a hy, o_b (by kernel_rfl), o_i (w64 (by omega)), o_a ih1, trivial⟩ ?_
        refine rt (a := Res.mk (Ex.exit 0) [V.t (T.sl 9 (List.map Entity.enc a)), V.t (T.sl 9 (List.map Entity.enc b)), V.t (T.clo g []), vb false, vi (↑(List.length a) : Int)] []) (by kernel_rfl) ?_
        rfl
      | false =>
        rw [hq] at ih1
        refine Wp.ev ?_
        refine gs (l := [.n (List.length (List.map Entity.enc a)) (List.length a), .b (decide ((↑i : Int) < (↑(List.length a) : Int))) true, .w ((0 : Int) ≤ (↑i : Int)), .n (Int.toNat (↑i : Int)) i, .g (List.map Entity.enc a) i (Entity.enc (gt a i)), .w ((0 : Int) ≤ (↑i : Int)), .n (Int.toNat (↑i : Int)) i, .g (List.map Entity.enc b) i (Entity.enc (gt b i)), .w (isFnB cx g = true), .a (Task.call g [V.t (Entity.enc (gt a i)), V.t (Entity.enc (gt b i))] []) (Res.mk Ex.ret [vb true] []), .b (!true) false, .i IntKind.i64 ((↑i : Int) + 1) ((↑(i + 1) : Int)), .a (Task.loop 55 [0, 1, 0, 1, 1] 0 [V.t (T.sl 9 (List.map Entity.enc a)), V.t (T.sl 9 (List.map Entity.enc b)), V.t (T.clo g []), vb false, vi (↑(i + 1) : Int)] []) (Res.mk Ex.ret [V.t (T.sl 9 (List.map Entity.enc a)), V.t (T.sl 9 (List.map Entity.enc b)), V.t (T.clo g []), vb false, vi (↑k : Int)] [])]) (by kernel_rfl) ⟨o_n (by simp), t_brp (by omega), o_w (by omega), o_n (by kernel_rfl), o_gt rfl (by assumption) (by intro h; cases h), o_w (by omega), o_n (by kernel_rfl), o_gt rfl (by assumption) (by intro h; cases h), o_w (by assumption), o_a hy, o_b (by kernel_rfl), o_i (w64 (by omega)), o_a ih1, trivial⟩ ?_
        refine rt (a := Res.mk Ex.ret [V.t (T.sl 9 (List.map Entity.enc a)), V.t (T.sl 9 (List.map Entity.enc b)), V.t (T.clo g []), vb false, vi (↑k : Int)] []) (by kernel_rfl) ?_
        rfl
    | false =>
      rw [hp] at hy
      refine ⟨i, ?_⟩
      rw [Bool.false_and]
      refine Wp.ev ?_
      refine gs (l := [.n (List.length (List.map Entity.enc a)) (List.length a), .b (decide ((↑i : Int) < (↑(List.length a) : Int))) true, .w ((0 : Int) ≤ (↑i : Int)), .n (Int.toNat (↑i : Int)) i, .g (List.map Entity.enc a) i (Entity.enc (gt a i)), .w ((0 : Int) ≤ (↑i : Int)), .n (Int.toNat (↑i : Int)) i, .g (List.map Entity.enc b) i (Entity.enc (gt b i)), .w (isFnB cx g = true), .a (Task.call g [V.t (Entity.enc (gt a i)), V.t (Entity.enc (gt b i))] []) (Res.mk Ex.ret [vb false] []), .b (!false) true]) (by kernel_rfl) ⟨o_n (by simp), t_brp (by omega), o_w (by omega), o_n (by kernel_rfl), o_gt rfl (by assumption) (by intro h; cases h), o_w (by omega), o_n (by kernel_rfl), o_gt rfl (by assumption) (by intro h; cases h), o_w (by assumption), o_a hy, o_b (by kernel_rfl), trivial⟩ ?_
      refine rt (a := Res.mk Ex.ret [V.t (T.sl 9 (List.map Entity.enc a)), V.t (T.sl 9 (List.map Entity.enc b)), V.t (T.clo g []), vb false, vi (↑i : Int)] []) (by kernel_rfl) ?_
      rfl
theorem f_jousthelp_Same_Entity (a b : List Entity) (g : Nat) (p : Entity → Entity → Bool) (hb : isFnB cx g = true) (hn : small a)
    (hg : ∀ x y, Fn cx g [x.enc, y.enc] (.bool (p x y))) : Fn cx 55 [.sl 9 (a.map Entity.enc), .sl 9 (b.map Entity.enc), .clo g []] (.bool (decide (a.length = b.length) && sameL p a b)) := by
  by_cases hl : a.length = b.length
  · obtain ⟨k, h⟩ := f_jousthelp_Same_loop_Entity a b g p hb hn hl hg a.length 0 (by omega)
    clear hg
    rw [List.drop_zero, List.drop_zero] at h
    rw [show decide (a.length = b.length) = true by simpa using hl, Bool.true_and]
    cases hq : sameL p a b with
    | true =>
      rw [hq] at h
      refine Wp.ev ?_
      refine gs (l := [.n (List.length (List.map Entity.enc a)) (List.length a), .n (List.length (List.map Entity.enc b)) (List.length b), .b ((↑(List.length a) : Int) != (↑(List.length b) : Int)) false, .a (Task.loop 55 [0, 1, 0, 1, 1] 0 [V.t (T.sl 9 (List.map Entity.enc a)), V.t (T.sl 9 (List.map Entity.enc b)), V.t (T.clo g []), vb false, vi 0] []) (Res.mk (Ex.exit 0) [V.t (T.sl 9 (List.map Entity.enc a)), V.t (T.sl 9 (List.map Entity.enc b)), V.t (T.clo g []), vb false, vi (↑(List.length a) : Int)] [])]) (by kernel_rfl) ⟨o_n (by simp), o_n (by simp), f_brn (by omega), o_a h, trivial⟩ ?_
      refine rt (a := Res.mk Ex.ret [vb true] []) (by kernel_rfl) ?_
      rfl
    | false =>
      rw [hq] at h
      refine Wp.ev ?_
      refine gs (l := [.n (List.length (List.map Entity.enc a)) (List.length a), .n (List.length (List.map Entity.enc b)) (List.length b), .b ((↑(List.length a) : Int) != (↑(List.length b) : Int)) false, .a (Task.loop 55 [0, 1, 0, 1, 1] 0 [V.t (T.sl 9 (List.map Entity.enc a)), V.t (T.sl 9 (List.map Entity.enc b)), V.t (T.clo g []), vb false, vi 0] []) (Res.mk Ex.ret [V.t (T.sl 9 (List.map Entity.enc a)), V.t (T.sl 9 (List.map Entity.enc b)), V.t (T.clo g []), vb false, vi (↑k : Int)] [])]) (by kernel_rfl) ⟨o_n (by simp), o_n (by simp), f_brn (by omega), o_a h, trivial⟩ ?_
      refine rt (a := Res.mk Ex.ret [vb false] []) (by kernel_rfl) ?_
      rfl
  · clear hg
    simp only [hl, decide_false, Bool.false_and]
    refine Wp.ev ?_
    refine gs (l := [.n (List.length (List.map Entity.enc a)) (List.length a), .n (List.length (List.map Entity.enc b)) (List.length b), .b ((↑(List.length a) : Int) != (↑(List.length b) : Int)) true]) (by kernel_rfl) ⟨o_n (by simp), o_n (by simp), t_brn (by omega), trivial⟩ ?_
    refine rt (a := Res.mk Ex.ret [vb false] []) (by kernel_rfl) ?_
    rfl
theorem f_jousthelp_Plain_Entity (a b : List Entity) (hn : small a) : Fn cx 18 [.sl 9 (a.map Entity.enc), .sl 9 (b.map Entity.enc)] (.bool (plain a b)) := by
  have h := f_jousthelp_Same_Entity a b 56 (fun x y => decide (x = y)) (by kernel_rfl) hn f_jousthelp_Plain_1_Entity
  have e : (decide (a.length = b.length) && sameL (fun x y => decide (x = y)) a b) = plain a b := by
    by_cases hl : a.length = b.length
    · rw [same_eq hl]; simp [hl, plain]
    · have : a ≠ b := fun h => hl (by rw [h])
      simp [hl, plain, this]
  rw [e] at h
  refine Wp.ev ?_
  refine gs (l := [.a (Task.call 55 [V.t (T.sl 9 (List.map Entity.enc a)), V.t (T.sl 9 (List.map Entity.enc b)), V.t (T.clo 56 [])] []) (Res.mk Ex.ret [vb (plain a b)] [])]) (by kernel_rfl) ⟨o_a h, trivial⟩ ?_
  refine rt (a := Res.mk Ex.ret [vb (plain a b)] []) (by kernel_rfl) ?_
  rfl
theorem f_jousthelp_Own_loop_Entity (f : Entity) (n : Nat) (hn : n ≤ 1000) : ∀ (d i : Nat) (A : List Entity), i + d = n + 3 → A.length = n + 3 →
    Is cx (.loop 23 [0, 1, 0, 1, 1, 1, 1] 0 [.ptr 0 0 0, .sl 1 0 n none, .sl 1 0 (n + 3) none, vi i] [.one 9 (.t f.enc) false, .arr 9 (A.map Entity.enc) (some 0) false])
      ⟨.exit 0, [.ptr 0 0 0, .sl 1 0 n none, .sl 1 0 (n + 3) none, vi (n + 3 : Nat)], [.one 9 (.t f.enc) false, .arr 9 ((A.take i ++ List.replicate d f).map Entity.enc) (some 0) false]⟩ := by
  intro d
  induction d with
  | zero =>
    intro i A hi hA
    have hq : i = n + 3 := by omega
    subst hq
    rw [List.take_of_length_le (by omega)]
    refine Wp.ev ?_
    refine gs (l := [.l (n + 3), .b (decide ((↑(n + 3) : Int) < (↑(n + 3) : Int))) false]) (by kernel_rfl) ⟨f_brp (by omega), trivial⟩ ?_
    refine rt (a := Res.mk (Ex.exit 0) [V.ptr 0 0 0, V.sl 1 0 n none, V.sl 1 0 (n + 3) none, vi (↑(n + 3) : Int)] [Ob.one 9 (V.t (Entity.enc f)) false, Ob.arr 9 (List.map Entity.enc A) (some 0) false]) (by kernel_rfl) ?_
    simp
  | succ d ih =>
    intro i A hi hA
    have ih1 := ih (i + 1) (A.set i f) (by omega) (by simpa using hA)
    clear ih
    have e : (A.set i f).take (i + 1) ++ List.replicate d f = A.take i ++ List.replicate (d + 1) f := by
      rw [List.take_add_one, List.replicate_succ]
      simp [List.getElem?_set, List.take_set_of_le, show i < A.length by omega]
    rw [e] at ih1
    refine Wp.ev ?_
    refine gs (l := [.l (n + 3), .b (decide ((↑i : Int) < (↑(n + 3) : Int))) true, .w ((0 : Int) ≤ (↑i : Int)), .n (Int.toNat (↑i : Int)) i, .w (i < n + (3 : Nat)), .n (0 + i) i, .w (i < List.length (List.map Entity.enc A)), .t (T.sl 0 (List.set (List.map Entity.enc A) i (Entity.enc f))) (T.sl 0 (List.map Entity.enc (List.set A i f))), .i IntKind.i64 ((↑i : Int) + 1) ((↑(i + 1) : Int)), .a (Task.loop 23 [0, 1, 0, 1, 1, 1, 1] 0 [V.ptr 0 0 0, V.sl 1 0 n none, V.sl 1 0 (n + 3) none, vi (↑(i + 1) : Int)] [Ob.one 9 (V.t (Entity.enc f)) false, Ob.arr 9 (List.map Entity.enc (List.set A i f)) (some 0) false]) (Res.mk (Ex.exit 0) [V.ptr 0 0 0, V.sl 1 0 n none, V.sl 1 0 (n + 3) none, vi (↑(n + 3) : Int)] [Ob.one 9 (V.t (Entity.enc f)) false, Ob.arr 9 (List.map Entity.enc (List.take i A ++ List.replicate (d + 1) f)) (some 0) false])]) (by kernel_rfl) ⟨t_brp (by omega), o_w (by omega), o_n (by kernel_rfl), o_w (by omega), o_n (by omega), o_w (by (simp; omega)), o_l (nm_set rfl rfl), o_i (w64 (by omega)), o_a ih1, trivial⟩ ?_
    refine rt (a := Res.mk (Ex.exit 0) [V.ptr 0 0 0, V.sl 1 0 n none, V.sl 1 0 (n + 3) none, vi (↑(n + 3) : Int)] [Ob.one 9 (V.t (Entity.enc f)) false, Ob.arr 9 (List.map Entity.enc (List.take i A ++ List.replicate (d + 1) f)) (some 0) false]) (by kernel_rfl) ?_
    rfl
theorem f_jousthelp_Own_Entity (l : List Entity) (f : Entity) (hn : l.length ≤ 1000) : Is cx (.call 23 [.t (.sl 9 (l.map Entity.enc)), .t f.enc] []) ⟨.ret, [.sl 0 0 l.length none], [.arr 9 ((l ++ [f, f, f]).map Entity.enc) (some 0) false]⟩ := by
  have h := f_jousthelp_Own_loop_Entity f l.length hn 3 l.length
  refine Wp.ev ?_
  refine gs (l := [.n (List.length (List.map Entity.enc l)) (List.length l), .i IntKind.i64 ((↑(List.length l) : Int) + 3) ((↑(List.length l + 3) : Int)), .w ((0 : Int) ≤ (0 : Int) ∧ (0 : Int) ≤ (↑(List.length l + (3 : Nat)) : Int) ∧ room (Int.toNat (↑(List.length l + (3 : Nat)) : Int)) (72 : Nat)), .n (Int.toNat (↑(List.length l + 3) : Int)) (List.length l + 3), .l 0, .w ((0 : Nat) < (72 : Nat)), .s (T.sl 0 (List.map Entity.enc l)), .b (decide (0 = 0)) true, .b (decide (0 + List.length (List.map Entity.enc l) ≤ List.length (List.replicate (List.length l + 3) (T.agg [ti 0, ti 0, ti 0, ti 0, ti 0, ti 0, ti 0, ti 0, ti 0])))) true, .t (T.sl 0 (List.take 0 (List.replicate (List.length l + 3) (T.agg [ti 0, ti 0, ti 0, ti 0, ti 0, ti 0, ti 0, ti 0, ti 0])) ++ List.map Entity.enc l ++ List.drop (0 + List.length (List.map Entity.enc l)) (List.replicate (List.length l + 3) (T.agg [ti 0, ti 0, ti 0, ti 0, ti 0, ti 0, ti 0, ti 0, ti 0])))) (T.sl 0 (List.map Entity.enc (l ++ List.drop (List.length l) (List.replicate (List.length l + 3) (Entity.mk 0 0 0 0 0 0 0 0 0))))), .n (0 + List.length (List.map Entity.enc l)) (List.length l), .n (List.length (List.map Entity.enc l)) (List.length l), .i IntKind.i64 ((↑(List.length l) : Int) + 3) ((↑(List.length l + 3) : Int)), .w ((0 : Int) ≤ (↑(List.length l + (3 : Nat)) : Int)), .n (Int.toNat (↑(List.length l + 3) : Int)) (List.length l + 3), .b (decide (0 = 0)) true]) (by kernel_rfl) ⟨o_n (by simp), o_i (w64 (by (simp [room, appendMax]; omega))), o_w ⟨(by omega), ⟨(by (simp [room, appendMax]; omega)), (by (simp [room, appendMax]; omega))⟩⟩, o_n (by kernel_rfl), o_w (by omega), o_b (by kernel_rfl), t_brp (by simp), o_l (nm_eq (nm_app (nm_app (nm_take (nm_rep (e := Entity.mk 0 0 0 0 0 0 0 0 0) rfl)) rfl) (nm_drop (nm_rep (e := Entity.mk 0 0 0 0 0 0 0 0 0) rfl))) (by simp)), o_n (by simp), o_n (by simp), o_i (w64 (by (simp [room, appendMax]; omega))), o_w (by (simp [room, appendMax]; omega)), o_n (by kernel_rfl), o_b (by kernel_rfl), trivial⟩ ?_
  refine gs (l := [.w ((0 : Nat) ≤ List.length l + (3 : Nat) ∧ (0 : Nat) + (List.length l + (3 : Nat)) ≤ List.length (List.map Entity.enc (l ++ List.drop (List.length l) (List.replicate (List.length l + (3 : Nat)) (Entity.mk (0 : Int) (0 : Int) (0 : Int) (0 : Int) (0 : Int) (0 : Int) (0 : Int) (0 : Int) (0 : Int)))))), .l 0, .n (List.length l + 3 - 0) (List.length l + 3), .n (List.length (List.map Entity.enc l)) (List.length l), .a (Task.loop 23 [0, 1, 0, 1, 1, 1, 1] 0 [V.ptr 0 0 0, V.sl 1 0 (List.length l) none, V.sl 1 0 (List.length l + 3) none, vi (↑(List.length l) : Int)] [Ob.one 9 (V.t (Entity.enc f)) false, Ob.arr 9 (List.map Entity.enc (l ++ List.drop (List.length l) (List.replicate (List.length l + 3) (Entity.mk 0 0 0 0 0 0 0 0 0)))) (some 0) false]) (Res.mk (Ex.exit 0) [V.ptr 0 0 0, V.sl 1 0 (List.length l) none, V.sl 1 0 (List.length l + 3) none, vi (↑(List.length l + 3) : Int)] [Ob.one 9 (V.t (Entity.enc f)) false, Ob.arr 9 (List.map Entity.enc (List.take (List.length l) (l ++ List.drop (List.length l) (List.replicate (List.length l + 3) (Entity.mk 0 0 0 0 0 0 0 0 0))) ++ List.replicate 3 f)) (some 0) false])]) (by kernel_rfl) ⟨o_w ⟨(by omega), (by simp)⟩, o_n (by kernel_rfl), o_n (by simp), o_a (h _ (by kernel_rfl) (by simp)), trivial⟩ ?_
  refine rt (a := Res.mk Ex.ret [V.sl 0 0 (List.length l) none] [Ob.arr 9 (List.map Entity.enc (List.take (List.length l) (l ++ List.drop (List.length l) (List.replicate (List.length l + 3) (Entity.mk 0 0 0 0 0 0 0 0 0))) ++ List.replicate 3 f)) (some 0) false]) (by kernel_rfl) ?_
  simp
theorem f_jousthelp_Plain_1_Cross (a b : Cross) : Fn cx 69 [a.enc, b.enc] (.bool (decide (a = b))) := by
  rw [← teq_cross]
  refine Wp.ev ?_
  refine gs (l := [.w (conform cx (40 : Nat) (55 : Nat) (T.agg [ti a.kind, ti a.frm, ti a.to, ti a.frame, ti a.ent.id, ti a.ent.kind, ti a.ent.x, ti a.ent.y, ti a.ent.vx, ti a.ent.vy, ti a.ent.health, ti a.ent.age, ti a.ent.owner, ti a.x, ti a.y]) = true ∧ conform cx (40 : Nat) (55 : Nat) (T.agg [ti b.kind, ti b.frm, ti b.to, ti b.frame, ti b.ent.id, ti b.ent.kind, ti b.ent.x, ti b.ent.y, ti b.ent.vx, ti b.ent.vy, ti b.ent.health, ti b.ent.age, ti b.ent.owner, ti b.x, ti b.y]) = true)]) (by kernel_rfl) ⟨o_w ⟨(by kernel_rfl), (by kernel_rfl)⟩, trivial⟩ ?_
  refine rt (a := Res.mk Ex.ret [vb (teq (T.agg [ti a.kind, ti a.frm, ti a.to, ti a.frame, ti a.ent.id, ti a.ent.kind, ti a.ent.x, ti a.ent.y, ti a.ent.vx, ti a.ent.vy, ti a.ent.health, ti a.ent.age, ti a.ent.owner, ti a.x, ti a.y]) (T.agg [ti b.kind, ti b.frm, ti b.to, ti b.frame, ti b.ent.id, ti b.ent.kind, ti b.ent.x, ti b.ent.y, ti b.ent.vx, ti b.ent.vy, ti b.ent.health, ti b.ent.age, ti b.ent.owner, ti b.x, ti b.y]))] []) (by kernel_rfl) ?_
  rfl
theorem f_jousthelp_Same_loop_Cross (a b : List Cross) (g : Nat) (p : Cross → Cross → Bool) (hb : isFnB cx g = true) (hn : small a) (hl : a.length = b.length)
    (hg : ∀ x y, Fn cx g [x.enc, y.enc] (.bool (p x y))) : ∀ (d i : Nat), i + d = a.length →
    ∃ k : Nat, Is cx (.loop 68 [0, 1, 0, 1, 1] 0 [.t (.sl 15 (a.map Cross.enc)), .t (.sl 15 (b.map Cross.enc)), .t (.clo g []), vb false, vi i] [])
      (match sameL p (a.drop i) (b.drop i) with
        | true => ⟨.exit 0, [.t (.sl 15 (a.map Cross.enc)), .t (.sl 15 (b.map Cross.enc)), .t (.clo g []), vb false, vi a.length], []⟩
        | false => ⟨.ret, [.t (.sl 15 (a.map Cross.enc)), .t (.sl 15 (b.map Cross.enc)), .t (.clo g []), vb false, vi k], []⟩) := by
  unfold small at hn
  intro d
  induction d with
  | zero =>
    intro i hi
    refine ⟨0, ?_⟩
    rw [drop_end (by omega), drop_end (by omega)]
    refine Wp.ev ?_
    refine gs (l := [.n (List.length (List.map Cross.enc a)) (List.length a), .b (decide ((↑i : Int) < (↑(List.length a) : Int))) false]) (by kernel_rfl) ⟨o_n (by simp), f_brp (by omega), trivial⟩ ?_
    refine rt (a := Res.mk (Ex.exit 0) [V.t (T.sl 15 (List.map Cross.enc a)), V.t (T.sl 15 (List.map Cross.enc b)), V.t (T.clo g []), vb false, vi (↑i : Int)] []) (by kernel_rfl) ?_
    ((have hq : i = a.length := by omega); subst hq; rfl)
  | succ d ih =>
    intro i hi
    have hlt : i < a.length := by omega
    have hlt' : i < b.length := by omega
    obtain ⟨k, ih1⟩ := ih (i + 1) (by omega)
    have hy := hg (gt a i) (gt b i)
    clear ih hg
    rw [same_gt hlt hlt']
    cases hp : p (gt a i) (gt b i) with
    | true =>
      rw [hp] at hy
      refine ⟨k, ?_⟩
      rw [Bool.true_and]
      cases hq : sameL p (a.drop (i + 1)) (b.drop (i + 1)) with
      | true =>
        rw [hq] at ih1
        refine Wp.ev ?_
        refine gs (l := [.n (List.length (List.map Cross.enc a)) (List.length a), .b (decide ((↑i : Int) < (↑(List.length a) : Int))) true, .w ((0 : Int) ≤ (↑i : Int)), .n (Int.toNat (↑i : Int)) i, .g (List.map Cross.enc a) i (Cross.enc (gt a i)), .w ((0 : Int) ≤ (↑i : Int)), .n (Int.toNat (↑i : Int)) i, .g (List.map Cross.enc b) i (Cross.enc (gt b i)), .w (isFnB cx g = true), .a (Task.call g [V.t (Cross.enc (gt a i)), V.t (Cross.enc (gt b i))] []) (Res.mk Ex.ret [vb true] []), .b (!true) false, .i IntKind.i64 ((↑i : Int) + 1) ((↑(i + 1) : Int)), .a (Task.loop 68 [0, 1, 0, 1, 1] 0 [V.t (T.sl 15 (List.map Cross.enc a)), V.t (T.sl 15 (List.map Cross.enc b)), V.t (T.clo g []), vb false, vi (↑(i + 1) : Int)] []) (Res.mk (Ex.exit 0) [V.t (T.sl 15 (List.map Cross.enc a)), V.t (T.sl 15 (List.map Cross.enc b)), V.t (T.clo g []), vb false, vi (↑(List.length a) : Int)] [])]) (by kernel_rfl) ⟨o_n (by simp), t_brp (by omega), o_w (by omega), o_n (by kernel_rfl), o_gt rfl (by assumption) (by intro h; cases h), o_w (by omega), o_n (by kernel_rfl), o_gt rfl (by assumption) (by intro h; cases h), o_w (by assumption), o_a hy, o_b (by kernel_rfl), o_i (w64 (by omega)), o_a ih1, trivial⟩ ?_
        refine rt (a := Res.mk (Ex.exit 0) [V.t (T.sl 15 (List.map Cross.enc a)), V.t (T.sl 15 (List.map Cross.enc b)), V.t (T.clo g []), vb false, vi (↑(List.length a) : Int)] []) (by kernel_rfl) ?_
        rfl
      | false =>
        rw [hq] at ih1
        refine Wp.ev ?_
        refine gs (l := [.n (List.length (List.map Cross.enc a)) (List.length a), .b (decide ((↑i : Int) < (↑(List.length a) : Int))) true, .w ((0 : Int) ≤ (↑i : Int)), .n (Int.toNat (↑i : Int)) i, .g (List.map Cross.enc a) i (Cross.enc (gt a i)), .w ((0 : Int) ≤ (↑i : Int)), .n (Int.toNat (↑i : Int)) i, .g (List.map Cross.enc b) i (Cross.enc (gt b i)), .w (isFnB cx g = true), .a (Task.call g [V.t (Cross.enc (gt a i)), V.t (Cross.enc (gt b i))] []) (Res.mk Ex.ret [vb true] []), .b (!true) false, .i IntKind.i64 ((↑i : Int) + 1) ((↑(i + 1) : Int)), .a (Task.loop 68 [0, 1, 0, 1, 1] 0 [V.t (T.sl 15 (List.map Cross.enc a)), V.t (T.sl 15 (List.map Cross.enc b)), V.t (T.clo g []), vb false, vi (↑(i + 1) : Int)] []) (Res.mk Ex.ret [V.t (T.sl 15 (List.map Cross.enc a)), V.t (T.sl 15 (List.map Cross.enc b)), V.t (T.clo g []), vb false, vi (↑k : Int)] [])]) (by kernel_rfl) ⟨o_n (by simp), t_brp (by omega), o_w (by omega), o_n (by kernel_rfl), o_gt rfl (by assumption) (by intro h; cases h), o_w (by omega), o_n (by kernel_rfl), o_gt rfl (by assumption) (by intro h; cases h), o_w (by assumption), o_a hy, o_b (by kernel_rfl), o_i (w64 (by omega)), o_a ih1, trivial⟩ ?_
        refine rt (a := Res.mk Ex.ret [V.t (T.sl 15 (List.map Cross.enc a)), V.t (T.sl 15 (List.map Cross.enc b)), V.t (T.clo g []), vb false, vi (↑k : Int)] []) (by kernel_rfl) ?_
        rfl
    | false =>
      rw [hp] at hy
      refine ⟨i, ?_⟩
      rw [Bool.false_and]
      refine Wp.ev ?_
      refine gs (l := [.n (List.length (List.map Cross.enc a)) (List.length a), .b (decide ((↑i : Int) < (↑(List.length a) : Int))) true, .w ((0 : Int) ≤ (↑i : Int)), .n (Int.toNat (↑i : Int)) i, .g (List.map Cross.enc a) i (Cross.enc (gt a i)), .w ((0 : Int) ≤ (↑i : Int)), .n (Int.toNat (↑i : Int)) i, .g (List.map Cross.enc b) i (Cross.enc (gt b i)), .w (isFnB cx g = true), .a (Task.call g [V.t (Cross.enc (gt a i)), V.t (Cross.enc (gt b i))] []) (Res.mk Ex.ret [vb false] []), .b (!false) true]) (by kernel_rfl) ⟨o_n (by simp), t_brp (by omega), o_w (by omega), o_n (by kernel_rfl), o_gt rfl (by assumption) (by intro h; cases h), o_w (by omega), o_n (by kernel_rfl), o_gt rfl (by assumption) (by intro h; cases h), o_w (by assumption), o_a hy, o_b (by kernel_rfl), trivial⟩ ?_
      refine rt (a := Res.mk Ex.ret [V.t (T.sl 15 (List.map Cross.enc a)), V.t (T.sl 15 (List.map Cross.enc b)), V.t (T.clo g []), vb false, vi (↑i : Int)] []) (by kernel_rfl) ?_
      rfl
theorem f_jousthelp_Same_Cross (a b : List Cross) (g : Nat) (p : Cross → Cross → Bool) (hb : isFnB cx g = true) (hn : small a)
    (hg : ∀ x y, Fn cx g [x.enc, y.enc] (.bool (p x y))) : Fn cx 68 [.sl 15 (a.map Cross.enc), .sl 15 (b.map Cross.enc), .clo g []] (.bool (decide (a.length = b.length) && sameL p a b)) := by
  by_cases hl : a.length = b.length
  · obtain ⟨k, h⟩ := f_jousthelp_Same_loop_Cross a b g p hb hn hl hg a.length 0 (by omega)
    clear hg
    rw [List.drop_zero, List.drop_zero] at h
    rw [show decide (a.length = b.length) = true by simpa using hl, Bool.true_and]
    cases hq : sameL p a b with
    | true =>
      rw [hq] at h
      refine Wp.ev ?_
      refine gs (l := [.n (List.length (List.map Cross.enc a)) (List.length a), .n (List.length (List.map Cross.enc b)) (List.length b), .b ((↑(List.length a) : Int) != (↑(List.length b) : Int)) false, .a (Task.loop 68 [0, 1, 0, 1, 1] 0 [V.t (T.sl 15 (List.map Cross.enc a)), V.t (T.sl 15 (List.map Cross.enc b)), V.t (T.clo g []), vb false, vi 0] []) (Res.mk (Ex.exit 0) [V.t (T.sl 15 (List.map Cross.enc a)), V.t (T.sl 15 (List.map Cross.enc b)), V.t (T.clo g []), vb false, vi (↑(List.length a) : Int)] [])]) (by kernel_rfl) ⟨o_n (by simp), o_n (by simp), f_brn (by omega), o_a h, trivial⟩ ?_
      refine rt (a := Res.mk Ex.ret [vb true] []) (by kernel_rfl) ?_
      rfl
    | false =>
      rw [hq] at h
      refine Wp.ev ?_
      refine gs (l := [.n (List.length (List.map Cross.enc a)) (List.length a), .n (List.length (List.map Cross.enc b)) (List.length b), .b ((↑(List.length a) : Int) != (↑(List.length b) : Int)) false, .a (Task.loop 68 [0, 1, 0, 1, 1] 0 [V.t (T.sl 15 (List.map Cross.enc a)), V.t (T.sl 15 (List.map Cross.enc b)), V.t (T.clo g []), vb false, vi 0] []) (Res.mk Ex.ret [V.t (T.sl 15 (List.map Cross.enc a)), V.t (T.sl 15 (List.map Cross.enc b)), V.t (T.clo g []), vb false, vi (↑k : Int)] [])]) (by kernel_rfl) ⟨o_n (by simp), o_n (by simp), f_brn (by omega), o_a h, trivial⟩ ?_
      refine rt (a := Res.mk Ex.ret [vb false] []) (by kernel_rfl) ?_
      rfl
  · clear hg
    simp only [hl, decide_false, Bool.false_and]
    refine Wp.ev ?_
    refine gs (l := [.n (List.length (List.map Cross.enc a)) (List.length a), .n (List.length (List.map Cross.enc b)) (List.length b), .b ((↑(List.length a) : Int) != (↑(List.length b) : Int)) true]) (by kernel_rfl) ⟨o_n (by simp), o_n (by simp), t_brn (by omega), trivial⟩ ?_
    refine rt (a := Res.mk Ex.ret [vb false] []) (by kernel_rfl) ?_
    rfl
theorem f_jousthelp_Plain_Cross (a b : List Cross) (hn : small a) : Fn cx 33 [.sl 15 (a.map Cross.enc), .sl 15 (b.map Cross.enc)] (.bool (plain a b)) := by
  have h := f_jousthelp_Same_Cross a b 69 (fun x y => decide (x = y)) (by kernel_rfl) hn f_jousthelp_Plain_1_Cross
  have e : (decide (a.length = b.length) && sameL (fun x y => decide (x = y)) a b) = plain a b := by
    by_cases hl : a.length = b.length
    · rw [same_eq hl]; simp [hl, plain]
    · have : a ≠ b := fun h => hl (by rw [h])
      simp [hl, plain, this]
  rw [e] at h
  refine Wp.ev ?_
  refine gs (l := [.a (Task.call 68 [V.t (T.sl 15 (List.map Cross.enc a)), V.t (T.sl 15 (List.map Cross.enc b)), V.t (T.clo 69 [])] []) (Res.mk Ex.ret [vb (plain a b)] [])]) (by kernel_rfl) ⟨o_a h, trivial⟩ ?_
  refine rt (a := Res.mk Ex.ret [vb (plain a b)] []) (by kernel_rfl) ?_
  rfl
theorem f_jousthelp_In_loop_Cross (l : List Cross) (x : Cross) (hn : small l) : ∀ (d i : Nat), i + d = l.length →
    ∃ k : Nat, Is cx (.loop 35 [0, 1, 0, 1] 0 [.t (.sl 15 (l.map Cross.enc)), .ptr 0 0 0, vb false, vi i] [.one 15 (.t x.enc) false])
      (match (l.drop i).any fun y => decide (y = x) with
        | true => ⟨.ret, [.t (.sl 15 (l.map Cross.enc)), .ptr 0 0 0, vb true, vi k], [.one 15 (.t x.enc) false]⟩
        | false => ⟨.exit 0, [.t (.sl 15 (l.map Cross.enc)), .ptr 0 0 0, vb false, vi l.length], [.one 15 (.t x.enc) false]⟩) := by
  unfold small at hn
  intro d
  induction d with
  | zero =>
    intro i hi
    refine ⟨0, ?_⟩
    rw [drop_end (by omega)]
    refine Wp.ev ?_
    refine gs (l := [.n (List.length (List.map Cross.enc l)) (List.length l), .b (decide ((↑i : Int) < (↑(List.length l) : Int))) false]) (by kernel_rfl) ⟨o_n (by simp), f_brp (by omega), trivial⟩ ?_
    refine rt (a := Res.mk (Ex.exit 0) [V.t (T.sl 15 (List.map Cross.enc l)), V.ptr 0 0 0, vb false, vi (↑i : Int)] [Ob.one 15 (V.t (Cross.enc x)) false]) (by kernel_rfl) ?_
    ((have : i = l.length := by omega); subst this; rfl)
  | succ d ih =>
    intro i hi
    have hlt : i < l.length := by omega
    obtain ⟨k, ih1⟩ := ih (i + 1) (by omega)
    clear ih
    rw [any_gt _ hlt]
    by_cases hp : gt l i = x
    · have ht : teq (gt l i).enc x.enc = true := by rw [teq_cross]; simpa using hp
      rw [show decide (gt l i = x) = true by simpa using hp, Bool.true_or]
      clear ih1
      refine ⟨i, ?_⟩
      refine Wp.ev ?_
      refine gs (l := [.n (List.length (List.map Cross.enc l)) (List.length l), .b (decide ((↑i : Int) < (↑(List.length l) : Int))) true, .w ((0 : Int) ≤ (↑i : Int)), .n (Int.toNat (↑i : Int)) i, .g (List.map Cross.enc l) i (Cross.enc (gt l i)), .w (conform cx (40 : Nat) (55 : Nat) (T.agg [ti (gt l i).kind, ti (gt l i).frm, ti (gt l i).to, ti (gt l i).frame, ti (gt l i).ent.id, ti (gt l i).ent.kind, ti (gt l i).ent.x, ti (gt l i).ent.y, ti (gt l i).ent.vx, ti (gt l i).ent.vy, ti (gt l i).ent.health, ti (gt l i).ent.age, ti (gt l i).ent.owner, ti (gt l i).x, ti (gt l i).y]) = true ∧ conform cx (40 : Nat) (55 : Nat) (T.agg [ti x.kind, ti x.frm, ti x.to, ti x.frame, ti x.ent.id, ti x.ent.kind, ti x.ent.x, ti x.ent.y, ti x.ent.vx, ti x.ent.vy, ti x.ent.health, ti x.ent.age, ti x.ent.owner, ti x.x, ti x.y]) = true), .b (teq (Cross.enc (gt l i)) (Cross.enc x)) true]) (by kernel_rfl) ⟨o_n (by simp), t_brp (by omega), o_w (by omega), o_n (by kernel_rfl), o_gt rfl (by assumption) (by intro h; cases h), o_w ⟨(by kernel_rfl), (by kernel_rfl)⟩, t_br (by assumption), trivial⟩ ?_
      refine rt (a := Res.mk Ex.ret [V.t (T.sl 15 (List.map Cross.enc l)), V.ptr 0 0 0, vb true, vi (↑i : Int)] [Ob.one 15 (V.t (Cross.enc x)) false]) (by kernel_rfl) ?_
      rfl
    · have ht : teq (gt l i).enc x.enc = false := by rw [teq_cross]; simpa using hp
      rw [show decide (gt l i = x) = false by simpa using hp, Bool.false_or]
      refine ⟨k, ?_⟩
      cases hq : (l.drop (i+1)).any fun y => decide (y = x) with
      | true =>
        rw [hq] at ih1
        refine Wp.ev ?_
        refine gs (l := [.n (List.length (List.map Cross.enc l)) (List.length l), .b (decide ((↑i : Int) < (↑(List.length l) : Int))) true, .w ((0 : Int) ≤ (↑i : Int)), .n (Int.toNat (↑i : Int)) i, .g (List.map Cross.enc l) i (Cross.enc (gt l i)), .w (conform cx (40 : Nat) (55 : Nat) (T.agg [ti (gt l i).kind, ti (gt l i).frm, ti (gt l i).to, ti (gt l i).frame, ti (gt l i).ent.id, ti (gt l i).ent.kind, ti (gt l i).ent.x, ti (gt l i).ent.y, ti (gt l i).ent.vx, ti (gt l i).ent.vy, ti (gt l i).ent.health, ti (gt l i).ent.age, ti (gt l i).ent.owner, ti (gt l i).x, ti (gt l i).y]) = true ∧ conform cx (40 : Nat) (55 : Nat) (T.agg [ti x.kind, ti x.frm, ti x.to, ti x.frame, ti x.ent.id, ti x.ent.kind, ti x.ent.x, ti x.ent.y, ti x.ent.vx, ti x.ent.vy, ti x.ent.health, ti x.ent.age, ti x.ent.owner, ti x.x, ti x.y]) = true), .b (teq (Cross.enc (gt l i)) (Cross.enc x)) false, .i IntKind.i64 ((↑i : Int) + 1) ((↑(i + 1) : Int)), .a (Task.loop 35 [0, 1, 0, 1] 0 [V.t (T.sl 15 (List.map Cross.enc l)), V.ptr 0 0 0, vb false, vi (↑(i + 1) : Int)] [Ob.one 15 (V.t (Cross.enc x)) false]) (Res.mk Ex.ret [V.t (T.sl 15 (List.map Cross.enc l)), V.ptr 0 0 0, vb true, vi (↑k : Int)] [Ob.one 15 (V.t (Cross.enc x)) false])]) (by kernel_rfl) ⟨o_n (by simp), t_brp (by omega), o_w (by omega), o_n (by kernel_rfl), o_gt rfl (by assumption) (by intro h; cases h), o_w ⟨(by kernel_rfl), (by kernel_rfl)⟩, f_br (by assumption), o_i (w64 (by omega)), o_a ih1, trivial⟩ ?_
        refine rt (a := Res.mk Ex.ret [V.t (T.sl 15 (List.map Cross.enc l)), V.ptr 0 0 0, vb true, vi (↑k : Int)] [Ob.one 15 (V.t (Cross.enc x)) false]) (by kernel_rfl) ?_
        rfl
      | false =>
        rw [hq] at ih1
        refine Wp.ev ?_
        refine gs (l := [.n (List.length (List.map Cross.enc l)) (List.length l), .b (decide ((↑i : Int) < (↑(List.length l) : Int))) true, .w ((0 : Int) ≤ (↑i : Int)), .n (Int.toNat (↑i : Int)) i, .g (List.map Cross.enc l) i (Cross.enc (gt l i)), .w (conform cx (40 : Nat) (55 : Nat) (T.agg [ti (gt l i).kind, ti (gt l i).frm, ti (gt l i).to, ti (gt l i).frame, ti (gt l i).ent.id, ti (gt l i).ent.kind, ti (gt l i).ent.x, ti (gt l i).ent.y, ti (gt l i).ent.vx, ti (gt l i).ent.vy, ti (gt l i).ent.health, ti (gt l i).ent.age, ti (gt l i).ent.owner, ti (gt l i).x, ti (gt l i).y]) = true ∧ conform cx (40 : Nat) (55 : Nat) (T.agg [ti x.kind, ti x.frm, ti x.to, ti x.frame, ti x.ent.id, ti x.ent.kind, ti x.ent.x, ti x.ent.y, ti x.ent.vx, ti x.ent.vy, ti x.ent.health, ti x.ent.age, ti x.ent.owner, ti x.x, ti x.y]) = true), .b (teq (Cross.enc (gt l i)) (Cross.enc x)) false, .i IntKind.i64 ((↑i : Int) + 1) ((↑(i + 1) : Int)), .a (Task.loop 35 [0, 1, 0, 1] 0 [V.t (T.sl 15 (List.map Cross.enc l)), V.ptr 0 0 0, vb false, vi (↑(i + 1) : Int)] [Ob.one 15 (V.t (Cross.enc x)) false]) (Res.mk (Ex.exit 0) [V.t (T.sl 15 (List.map Cross.enc l)), V.ptr 0 0 0, vb false, vi (↑(List.length l) : Int)] [Ob.one 15 (V.t (Cross.enc x)) false])]) (by kernel_rfl) ⟨o_n (by simp), t_brp (by omega), o_w (by omega), o_n (by kernel_rfl), o_gt rfl (by assumption) (by intro h; cases h), o_w ⟨(by kernel_rfl), (by kernel_rfl)⟩, f_br (by assumption), o_i (w64 (by omega)), o_a ih1, trivial⟩ ?_
        refine rt (a := Res.mk (Ex.exit 0) [V.t (T.sl 15 (List.map Cross.enc l)), V.ptr 0 0 0, vb false, vi (↑(List.length l) : Int)] [Ob.one 15 (V.t (Cross.enc x)) false]) (by kernel_rfl) ?_
        rfl
theorem f_jousthelp_Own_loop_Cross (f : Cross) (n : Nat) (hn : n ≤ 1000) : ∀ (d i : Nat) (A : List Cross), i + d = n + 3 → A.length = n + 3 →
    Is cx (.loop 37 [0, 1, 0, 1, 1, 1, 1] 0 [.ptr 0 0 0, .sl 1 0 n none, .sl 1 0 (n + 3) none, vi i] [.one 15 (.t f.enc) false, .arr 15 (A.map Cross.enc) (some 0) false])
      ⟨.exit 0, [.ptr 0 0 0, .sl 1 0 n none, .sl 1 0 (n + 3) none, vi (n + 3 : Nat)], [.one 15 (.t f.enc) false, .arr 15 ((A.take i ++ List.replicate d f).map Cross.enc) (some 0) false]⟩ := by
  intro d
  induction d with
  | zero =>
    intro i A hi hA
    have hq : i = n + 3 := by omega
    subst hq
    rw [List.take_of_length_le (by omega)]
    refine Wp.ev ?_
    refine gs (l := [.l (n + 3), .b (decide ((↑(n + 3) : Int) < (↑(n + 3) : Int))) false]) (by kernel_rfl) ⟨f_brp (by omega), trivial⟩ ?_
    refine rt (a := Res.mk (Ex.exit 0) [V.ptr 0 0 0, V.sl 1 0 n none, V.sl 1 0 (n + 3) none, vi (↑(n + 3) : Int)] [Ob.one 15 (V.t (Cross.enc f)) false, Ob.arr 15 (List.map Cross.enc A) (some 0) false]) (by kernel_rfl) ?_
    simp
  | succ d ih =>
    intro i A hi hA
    have ih1 := ih (i + 1) (A.set i f) (by omega) (by simpa using hA)
    clear ih
    have e : (A.set i f).take (i + 1) ++ List.replicate d f = A.take i ++ List.replicate (d + 1) f := by
      rw [List.take_add_one, List.replicate_succ]
      simp [List.getElem?_set, List.take_set_of_le, show i < A.length by omega]
    rw [e] at ih1
    refine Wp.ev ?_
    refine gs (l := [.l (n + 3), .b (decide ((↑i : Int) < (↑(n + 3) : Int))) true, .w ((0 : Int) ≤ (↑i : Int)), .n (Int.toNat (↑i : Int)) i, .w (i < n + (3 : Nat)), .n (0 + i) i, .w (i < List.length (List.map Cross.enc A)), .t (T.sl 0 (List.set (List.map Cross.enc A) i (Cross.enc f))) (T.sl 0 (List.map Cross.enc (List.set A i f))), .i IntKind.i64 ((↑i : Int) + 1) ((↑(i + 1) : Int)), .a (Task.loop 37 [0, 1, 0, 1, 1, 1, 1] 0 [V.ptr 0 0 0, V.sl 1 0 n none, V.sl 1 0 (n + 3) none, vi (↑(i + 1) : Int)] [Ob.one 15 (V.t (Cross.enc f)) false, Ob.arr 15 (List.map Cross.enc (List.set A i f)) (some 0) false]) (Res.mk (Ex.exit 0) [V.ptr 0 0 0, V.sl 1 0 n none, V.sl 1 0 (n + 3) none, vi (↑(n + 3) : Int)] [Ob.one 15 (V.t (Cross.enc f)) false, Ob.arr 15 (List.map Cross.enc (List.take i A ++ List.replicate (d + 1) f)) (some 0) false])]) (by kernel_rfl) ⟨t_brp (by omega), o_w (by omega), o_n (by kernel_rfl), o_w (by omega), o_n (by omega), o_w (by (simp; omega)), o_l (nm_set rfl rfl), o_i (w64 (by omega)), o_a ih1, trivial⟩ ?_
    refine rt (a := Res.mk (Ex.exit 0) [V.ptr 0 0 0, V.sl 1 0 n none, V.sl 1 0 (n + 3) none, vi (↑(n + 3) : Int)] [Ob.one 15 (V.t (Cross.enc f)) false, Ob.arr 15 (List.map Cross.enc (List.take i A ++ List.replicate (d + 1) f)) (some 0) false]) (by kernel_rfl) ?_
    rfl
theorem f_jousthelp_Own_Cross (l : List Cross) (f : Cross) (hn : l.length ≤ 1000) : Is cx (.call 37 [.t (.sl 15 (l.map Cross.enc)), .t f.enc] []) ⟨.ret, [.sl 0 0 l.length none], [.arr 15 ((l ++ [f, f, f]).map Cross.enc) (some 0) false]⟩ := by
  have h := f_jousthelp_Own_loop_Cross f l.length hn 3 l.length
  refine Wp.ev ?_
  refine gs (l := [.n (List.length (List.map Cross.enc l)) (List.length l), .i IntKind.i64 ((↑(List.length l) : Int) + 3) ((↑(List.length l + 3) : Int)), .w ((0 : Int) ≤ (0 : Int) ∧ (0 : Int) ≤ (↑(List.length l + (3 : Nat)) : Int) ∧ room (Int.toNat (↑(List.length l + (3 : Nat)) : Int)) (120 : Nat)), .n (Int.toNat (↑(List.length l + 3) : Int)) (List.length l + 3), .l 0, .w ((0 : Nat) < (120 : Nat)), .s (T.sl 0 (List.map Cross.enc l)), .b (decide (0 = 0)) true, .b (decide (0 + List.length (List.map Cross.enc l) ≤ List.length (List.replicate (List.length l + 3) (T.agg [ti 0, ti 0, ti 0, ti 0, ti 0, ti 0, ti 0, ti 0, ti 0, ti 0, ti 0, ti 0, ti 0, ti 0, ti 0])))) true, .t (T.sl 0 (List.take 0 (List.replicate (List.length l + 3) (T.agg [ti 0, ti 0, ti 0, ti 0, ti 0, ti 0, ti 0, ti 0, ti 0, ti 0, ti 0, ti 0, ti 0, ti 0, ti 0])) ++ List.map Cross.enc l ++ List.drop (0 + List.length (List.map Cross.enc l)) (List.replicate (List.length l + 3) (T.agg [ti 0, ti 0, ti 0, ti 0, ti 0, ti 0, ti 0, ti 0, ti 0, ti 0, ti 0, ti 0, ti 0, ti 0, ti 0])))) (T.sl 0 (List.map Cross.enc (l ++ List.drop (List.length l) (List.replicate (List.length l + 3) (Cross.mk 0 0 0 0 (Entity.mk 0 0 0 0 0 0 0 0 0) 0 0))))), .n (0 + List.length (List.map Cross.enc l)) (List.length l), .n (List.length (List.map Cross.enc l)) (List.length l), .i IntKind.i64 ((↑(List.length l) : Int) + 3) ((↑(List.length l + 3) : Int)), .w ((0 : Int) ≤ (↑(List.length l + (3 : Nat)) : Int)), .n (Int.toNat (↑(List.length l + 3) : Int)) (List.length l + 3), .b (decide (0 = 0)) true]) (by kernel_rfl) ⟨o_n (by simp), o_i (w64 (by (simp [room, appendMax]; omega))), o_w ⟨(by omega), ⟨(by (simp [room, appendMax]; omega)), (by (simp [room, appendMax]; omega))⟩⟩, o_n (by kernel_rfl), o_w (by omega), o_b (by kernel_rfl), t_brp (by simp), o_l (nm_eq (nm_app (nm_app (nm_take (nm_rep (e := Cross.mk 0 0 0 0 (Entity.mk 0 0 0 0 0 0 0 0 0) 0 0) rfl)) rfl) (nm_drop (nm_rep (e := Cross.mk 0 0 0 0 (Entity.mk 0 0 0 0 0 0 0 0 0) 0 0) rfl))) (by simp)), o_n (by simp), o_n (by simp), o_i (w64 (by (simp [room, appendMax]; omega))), o_w (by (simp [room, appendMax]; omega)), o_n (by kernel_rfl), o_b (by kernel_rfl), trivial⟩ ?_
  refine gs (l := [.w ((0 : Nat) ≤ List.length l + (3 : Nat) ∧ (0 : Nat) + (List.length l + (3 : Nat)) ≤ List.length (List.map Cross.enc (l ++ List.drop (List.length l) (List.replicate (List.length l + (3 : Nat)) (Cross.mk (0 : Int) (0 : Int) (0 : Int) (0 : Int) (Entity.mk (0 : Int) (0 : Int) (0 : Int) (0 : Int) (0 : Int) (0 : Int) (0 : Int) (0 : Int) (0 : Int)) (0 : Int) (0 : Int)))))), .l 0, .n (List.length l + 3 - 0) (List.length l + 3), .n (List.length (List.map Cross.enc l)) (List.length l), .a (Task.loop 37 [0, 1, 0, 1, 1, 1, 1] 0 [V.ptr 0 0 0, V.sl 1 0 (List.length l) none, V.sl 1 0 (List.length l + 3) none, vi (↑(List.length l) : Int)] [Ob.one 15 (V.t (Cross.enc f)) false, Ob.arr 15 (List.map Cross.enc (l ++ List.drop (List.length l) (List.replicate (List.length l + 3) (Cross.mk 0 0 0 0 (Entity.mk 0 0 0 0 0 0 0 0 0) 0 0)))) (some 0) false]) (Res.mk (Ex.exit 0) [V.ptr 0 0 0, V.sl 1 0 (List.length l) none, V.sl 1 0 (List.length l + 3) none, vi (↑(List.length l + 3) : Int)] [Ob.one 15 (V.t (Cross.enc f)) false, Ob.arr 15 (List.map Cross.enc (List.take (List.length l) (l ++ List.drop (List.length l) (List.replicate (List.length l + 3) (Cross.mk 0 0 0 0 (Entity.mk 0 0 0 0 0 0 0 0 0) 0 0))) ++ List.replicate 3 f)) (some 0) false])]) (by kernel_rfl) ⟨o_w ⟨(by omega), (by simp)⟩, o_n (by kernel_rfl), o_n (by simp), o_a (h _ (by kernel_rfl) (by simp)), trivial⟩ ?_
  refine rt (a := Res.mk Ex.ret [V.sl 0 0 (List.length l) none] [Ob.arr 15 (List.map Cross.enc (List.take (List.length l) (l ++ List.drop (List.length l) (List.replicate (List.length l + 3) (Cross.mk 0 0 0 0 (Entity.mk 0 0 0 0 0 0 0 0 0) 0 0))) ++ List.replicate 3 f)) (some 0) false]) (by kernel_rfl) ?_
  simp
end Go.Eva.S1

/- Which entities are right; the statements of the entities. -/
namespace Go.Eva.S1
theorem f_entity_pace (v : Int) : Fn cx 61 [ti v] (.bool (pace v)) := by
  refine Wp.ev ?_
  refine bre (x := v) (y := 0) (by kernel_rfl) (fun h1 => ?_) (fun h1 => ?_)
  · refine gs (l := [.tt, .tt, .tt, .tt, .tt]) (by kernel_rfl) trivial ?_
    refine rt (a := Res.mk Ex.ret [vb true] []) (by kernel_rfl) ?_
    simp_all [pace, beqd]
  · refine gs (l := [.ff, .ff]) (by kernel_rfl) trivial ?_
    refine bre (x := v) (y := 160) (by kernel_rfl) (fun h2 => ?_) (fun h2 => ?_)
    · refine gs (l := [.tt, .tt]) (by kernel_rfl) trivial ?_
      refine rt (a := Res.mk Ex.ret [vb true] []) (by kernel_rfl) ?_
      simp_all [pace, beqd]
    · refine gs (l := [.ff, .ff]) (by kernel_rfl) trivial ?_
      refine rt (a := Res.mk Ex.ret [vb (v == -160)] []) (by kernel_rfl) ?_
      simp_all [pace, beqd]
theorem f_joustref05_step (v : Int) : Fn cx 64 [ti v] (.bool (pace v)) := by
  refine Wp.ev ?_
  refine bre (x := v) (y := -160) (by kernel_rfl) (fun h1 => ?_) (fun h1 => ?_)
  · refine gs (l := [.tt, .tt, .tt, .tt, .tt]) (by kernel_rfl) trivial ?_
    refine rt (a := Res.mk Ex.ret [vb true] []) (by kernel_rfl) ?_
    (simp_all [pace, beqd])
  · refine gs (l := [.ff, .ff]) (by kernel_rfl) trivial ?_
    refine bre (x := v) (y := 0) (by kernel_rfl) (fun h2 => ?_) (fun h2 => ?_)
    · refine gs (l := [.tt, .tt]) (by kernel_rfl) trivial ?_
      refine rt (a := Res.mk Ex.ret [vb true] []) (by kernel_rfl) ?_
      (simp_all [pace, beqd])
    · refine gs (l := [.ff, .ff]) (by kernel_rfl) trivial ?_
      refine rt (a := Res.mk Ex.ret [vb (v == 160)] []) (by kernel_rfl) ?_
      (simp_all [pace, beqd])
theorem f_entity_Right (c : Config) (e : Entity) : Fn cx 22 [c.enc, e.enc] (.bool (e.right c)) := by
  refine Wp.ev ?_
  refine gs (l := [.a (Task.call 59 [V.t (Config.enc c), vi e.x, vi e.y] []) (Res.mk Ex.ret [vb (Config.inside c e.x e.y)] [])]) (by kernel_rfl) ⟨o_a (f_grid_Inside _ _ _), trivial⟩ ?_
  refine brnot (b := Config.inside c e.x e.y) (by kernel_rfl) (fun h1 => ?_) (fun h1 => ?_)
  · refine rt (a := Res.mk Ex.ret [vb false] []) (by kernel_rfl) ?_
    simp_all [Entity.right, beqd, bned]
  · refine gs (l := [.a (Task.call 60 [vi e.id, vi 1000, vi 2147483647] []) (Res.mk Ex.ret [vb (within e.id 1000 2147483647)] [])]) (by kernel_rfl) ⟨o_a (f_entity_within _ _ _), trivial⟩ ?_
    refine br (b := within e.id 1000 2147483647) (by kernel_rfl) (fun h2 => ?_) (fun h2 => ?_)
    · refine gs (l := [.tt, .tt, .tt]) (by kernel_rfl) trivial ?_
      refine bre (x := e.kind) (y := 1) (by kernel_rfl) (fun h3 => ?_) (fun h3 => ?_)
      · refine gs (l := [.a (Task.call 60 [vi e.id, vi 1, vi c.players] []) (Res.mk Ex.ret [vb (within e.id 1 c.players)] [])]) (by kernel_rfl) ⟨o_a (f_entity_within _ _ _), trivial⟩ ?_
        refine br (b := within e.id 1 c.players) (by kernel_rfl) (fun h4 => ?_) (fun h4 => ?_)
        · refine gs (l := [.tt, .tt, .a (Task.call 60 [vi e.vx, vi (-64), vi 64] []) (Res.mk Ex.ret [vb (within e.vx (-64) 64)] []), .tt]) (by kernel_rfl) ⟨o_a (f_entity_within _ _ _), trivial⟩ ?_
          refine br (b := within e.vx (-64) 64) (by kernel_rfl) (fun h5 => ?_) (fun h5 => ?_)
          · refine gs (l := [.tt, .tt, .a (Task.call 60 [vi e.vy, vi (-64), vi 64] []) (Res.mk Ex.ret [vb (within e.vy (-64) 64)] []), .tt]) (by kernel_rfl) ⟨o_a (f_entity_within _ _ _), trivial⟩ ?_
            refine br (b := within e.vy (-64) 64) (by kernel_rfl) (fun h6 => ?_) (fun h6 => ?_)
            · refine gs (l := [.tt, .tt, .a (Task.call 60 [vi e.health, vi 1, vi 100] []) (Res.mk Ex.ret [vb (within e.health 1 100)] []), .tt]) (by kernel_rfl) ⟨o_a (f_entity_within _ _ _), trivial⟩ ?_
              refine br (b := within e.health 1 100) (by kernel_rfl) (fun h7 => ?_) (fun h7 => ?_)
              · refine gs (l := [.tt, .tt, .a (Task.call 60 [vi e.age, vi 0, vi 6] []) (Res.mk Ex.ret [vb (within e.age 0 6)] []), .tt]) (by kernel_rfl) ⟨o_a (f_entity_within _ _ _), trivial⟩ ?_
                refine br (b := within e.age 0 6) (by kernel_rfl) (fun h8 => ?_) (fun h8 => ?_)
                · refine gs (l := [.tt, .tt, .tt]) (by kernel_rfl) trivial ?_
                  refine rt (a := Res.mk Ex.ret [vb (e.owner == 0)] []) (by kernel_rfl) ?_
                  simp_all [Entity.right, beqd, bned]
                · refine gs (l := [.ff, .ff, .ff]) (by kernel_rfl) trivial ?_
                  refine rt (a := Res.mk Ex.ret [vb false] []) (by kernel_rfl) ?_
                  simp_all [Entity.right, beqd, bned]
              · refine gs (l := [.ff, .ff, .ff, .ff, .ff, .ff, .ff]) (by kernel_rfl) trivial ?_
                refine rt (a := Res.mk Ex.ret [vb false] []) (by kernel_rfl) ?_
                simp_all [Entity.right, beqd, bned]
            · refine gs (l := [.ff, .ff, .ff, .ff, .ff, .ff, .ff, .ff, .ff, .ff, .ff]) (by kernel_rfl) trivial ?_
              refine rt (a := Res.mk Ex.ret [vb false] []) (by kernel_rfl) ?_
              simp_all [Entity.right, beqd, bned]
          · refine gs (l := [.ff, .ff, .ff, .ff, .ff, .ff, .ff, .ff, .ff, .ff, .ff, .ff, .ff, .ff, .ff]) (by kernel_rfl) trivial ?_
            refine rt (a := Res.mk Ex.ret [vb false] []) (by kernel_rfl) ?_
            simp_all [Entity.right, beqd, bned]
        · refine gs (l := [.ff, .ff, .ff, .ff, .ff, .ff, .ff, .ff, .ff, .ff, .ff, .ff, .ff, .ff, .ff, .ff]) (by kernel_rfl) trivial ?_
          refine gs (l := [.ff, .ff, .ff]) (by kernel_rfl) trivial ?_
          refine rt (a := Res.mk Ex.ret [vb false] []) (by kernel_rfl) ?_
          simp_all [Entity.right, beqd, bned]
      · refine bre (x := e.kind) (y := 2) (by kernel_rfl) (fun h4 => ?_) (fun h4 => ?_)
        · refine bre (x := e.health) (y := 1) (by kernel_rfl) (fun h5 => ?_) (fun h5 => ?_)
          · refine gs (l := [.tt, .tt, .a (Task.call 61 [vi e.vx] []) (Res.mk Ex.ret [vb (pace e.vx)] []), .tt]) (by kernel_rfl) ⟨o_a (f_entity_pace _), trivial⟩ ?_
            refine br (b := pace e.vx) (by kernel_rfl) (fun h6 => ?_) (fun h6 => ?_)
            · refine gs (l := [.tt, .tt, .a (Task.call 61 [vi e.vy] []) (Res.mk Ex.ret [vb (pace e.vy)] []), .tt]) (by kernel_rfl) ⟨o_a (f_entity_pace _), trivial⟩ ?_
              refine br (b := pace e.vy) (by kernel_rfl) (fun h7 => ?_) (fun h7 => ?_)
              · refine gs (l := [.tt, .tt, .tt]) (by kernel_rfl) trivial ?_
                refine brn (x := e.vx) (y := 0) (by kernel_rfl) (fun h8 => ?_) (fun h8 => ?_)
                · refine gs (l := [.tt, .tt, .tt, .tt, .tt, .tt, .tt, .tt, .a (Task.call 60 [vi e.age, vi 0, vi 12] []) (Res.mk Ex.ret [vb (within e.age 0 12)] []), .tt]) (by kernel_rfl) ⟨o_a (f_entity_within _ _ _), trivial⟩ ?_
                  refine br (b := within e.age 0 12) (by kernel_rfl) (fun h9 => ?_) (fun h9 => ?_)
                  · refine gs (l := [.tt, .tt, .tt, .tt, .tt, .a (Task.call 60 [vi e.owner, vi 1, vi c.players] []) (Res.mk Ex.ret [vb (within e.owner 1 c.players)] []), .tt]) (by kernel_rfl) ⟨o_a (f_entity_within _ _ _), trivial⟩ ?_
                    refine rt (a := Res.mk Ex.ret [vb (within e.owner 1 c.players)] []) (by kernel_rfl) ?_
                    simp_all [Entity.right, beqd, bned]
                  · refine gs (l := [.ff, .ff, .ff, .ff, .ff, .ff]) (by kernel_rfl) trivial ?_
                    refine rt (a := Res.mk Ex.ret [vb false] []) (by kernel_rfl) ?_
                    simp_all [Entity.right, beqd, bned]
                · refine gs (l := [.ff, .ff, .tt, .ff, .tt]) (by kernel_rfl) trivial ?_
                  refine brn (x := e.vy) (y := 0) (by kernel_rfl) (fun h9 => ?_) (fun h9 => ?_)
                  · refine gs (l := [.tt, .tt, .a (Task.call 60 [vi e.age, vi 0, vi 12] []) (Res.mk Ex.ret [vb (within e.age 0 12)] []), .tt]) (by kernel_rfl) ⟨o_a (f_entity_within _ _ _), trivial⟩ ?_
                    refine br (b := within e.age 0 12) (by kernel_rfl) (fun h10 => ?_) (fun h10 => ?_)
                    · refine gs (l := [.tt, .tt, .tt, .tt, .tt, .a (Task.call 60 [vi e.owner, vi 1, vi c.players] []) (Res.mk Ex.ret [vb (within e.owner 1 c.players)] []), .tt]) (by kernel_rfl) ⟨o_a (f_entity_within _ _ _), trivial⟩ ?_
                      refine rt (a := Res.mk Ex.ret [vb (within e.owner 1 c.players)] []) (by kernel_rfl) ?_
                      simp_all [Entity.right, beqd, bned]
                    · refine gs (l := [.ff, .ff, .ff, .ff, .ff, .ff]) (by kernel_rfl) trivial ?_
                      refine rt (a := Res.mk Ex.ret [vb false] []) (by kernel_rfl) ?_
                      simp_all [Entity.right, beqd, bned]
                  · refine gs (l := [.ff, .ff, .ff, .ff, .ff, .ff, .ff, .ff, .ff, .ff]) (by kernel_rfl) trivial ?_
                    refine rt (a := Res.mk Ex.ret [vb false] []) (by kernel_rfl) ?_
                    simp_all [Entity.right, beqd, bned]
              · refine gs (l := [.ff, .ff, .ff, .ff, .ff, .ff, .ff, .ff, .ff, .ff, .ff, .ff, .ff, .ff, .ff, .ff]) (by kernel_rfl) trivial ?_
                refine rt (a := Res.mk Ex.ret [vb false] []) (by kernel_rfl) ?_
                simp_all [Entity.right, beqd, bned]
            · refine gs (l := [.ff, .ff, .ff, .ff, .ff, .ff, .ff, .ff, .ff, .ff, .ff, .ff, .ff, .ff, .ff, .ff]) (by kernel_rfl) trivial ?_
              refine gs (l := [.ff, .ff, .ff, .ff]) (by kernel_rfl) trivial ?_
              refine rt (a := Res.mk Ex.ret [vb false] []) (by kernel_rfl) ?_
              simp_all [Entity.right, beqd, bned]
          · refine gs (l := [.ff, .ff, .ff, .ff, .ff, .ff, .ff, .ff, .ff, .ff, .ff, .ff, .ff, .ff, .ff, .ff]) (by kernel_rfl) trivial ?_
            refine gs (l := [.ff, .ff, .ff, .ff, .ff, .ff, .ff, .ff]) (by kernel_rfl) trivial ?_
            refine rt (a := Res.mk Ex.ret [vb false] []) (by kernel_rfl) ?_
            simp_all [Entity.right, beqd, bned]
        · refine bre (x := e.kind) (y := 3) (by kernel_rfl) (fun h5 => ?_) (fun h5 => ?_)
          · refine bre (x := e.health) (y := 1) (by kernel_rfl) (fun h6 => ?_) (fun h6 => ?_)
            · refine gs (l := [.tt, .tt, .tt]) (by kernel_rfl) trivial ?_
              refine bre (x := e.vx) (y := 0) (by kernel_rfl) (fun h7 => ?_) (fun h7 => ?_)
              · refine gs (l := [.tt, .tt, .tt]) (by kernel_rfl) trivial ?_
                refine bre (x := e.vy) (y := 0) (by kernel_rfl) (fun h8 => ?_) (fun h8 => ?_)
                · refine gs (l := [.tt, .tt, .tt]) (by kernel_rfl) trivial ?_
                  refine bre (x := e.age) (y := 0) (by kernel_rfl) (fun h9 => ?_) (fun h9 => ?_)
                  · refine gs (l := [.tt, .tt, .tt]) (by kernel_rfl) trivial ?_
                    refine rt (a := Res.mk Ex.ret [vb (e.owner == 0)] []) (by kernel_rfl) ?_
                    simp_all [Entity.right, beqd, bned]
                  · refine gs (l := [.ff, .ff, .ff]) (by kernel_rfl) trivial ?_
                    refine rt (a := Res.mk Ex.ret [vb false] []) (by kernel_rfl) ?_
                    simp_all [Entity.right, beqd, bned]
                · refine gs (l := [.ff, .ff, .ff, .ff, .ff, .ff, .ff]) (by kernel_rfl) trivial ?_
                  refine rt (a := Res.mk Ex.ret [vb false] []) (by kernel_rfl) ?_
                  simp_all [Entity.right, beqd, bned]
              · refine gs (l := [.ff, .ff, .ff, .ff, .ff, .ff, .ff, .ff, .ff, .ff, .ff]) (by kernel_rfl) trivial ?_
                refine rt (a := Res.mk Ex.ret [vb false] []) (by kernel_rfl) ?_
                simp_all [Entity.right, beqd, bned]
            · refine gs (l := [.ff, .ff, .ff, .ff, .ff, .ff, .ff, .ff, .ff, .ff, .ff, .ff, .ff, .ff, .ff]) (by kernel_rfl) trivial ?_
              refine rt (a := Res.mk Ex.ret [vb false] []) (by kernel_rfl) ?_
              simp_all [Entity.right, beqd, bned]
          · refine rt (a := Res.mk Ex.ret [vb false] []) (by kernel_rfl) ?_
            simp_all [Entity.right, beqd, bned]
    · refine gs (l := [.ff, .ff, .ff]) (by kernel_rfl) trivial ?_
      refine bre (x := e.kind) (y := 1) (by kernel_rfl) (fun h3 => ?_) (fun h3 => ?_)
      · refine gs (l := [.a (Task.call 60 [vi e.id, vi 1, vi c.players] []) (Res.mk Ex.ret [vb (within e.id 1 c.players)] [])]) (by kernel_rfl) ⟨o_a (f_entity_within _ _ _), trivial⟩ ?_
        refine br (b := within e.id 1 c.players) (by kernel_rfl) (fun h4 => ?_) (fun h4 => ?_)
        · refine gs (l := [.tt, .tt, .a (Task.call 60 [vi e.vx, vi (-64), vi 64] []) (Res.mk Ex.ret [vb (within e.vx (-64) 64)] []), .tt]) (by kernel_rfl) ⟨o_a (f_entity_within _ _ _), trivial⟩ ?_
          refine br (b := within e.vx (-64) 64) (by kernel_rfl) (fun h5 => ?_) (fun h5 => ?_)
          · refine gs (l := [.tt, .tt, .a (Task.call 60 [vi e.vy, vi (-64), vi 64] []) (Res.mk Ex.ret [vb (within e.vy (-64) 64)] []), .tt]) (by kernel_rfl) ⟨o_a (f_entity_within _ _ _), trivial⟩ ?_
            refine br (b := within e.vy (-64) 64) (by kernel_rfl) (fun h6 => ?_) (fun h6 => ?_)
            · refine gs (l := [.tt, .tt, .a (Task.call 60 [vi e.health, vi 1, vi 100] []) (Res.mk Ex.ret [vb (within e.health 1 100)] []), .tt]) (by kernel_rfl) ⟨o_a (f_entity_within _ _ _), trivial⟩ ?_
              refine br (b := within e.health 1 100) (by kernel_rfl) (fun h7 => ?_) (fun h7 => ?_)
              · refine gs (l := [.tt, .tt, .a (Task.call 60 [vi e.age, vi 0, vi 6] []) (Res.mk Ex.ret [vb (within e.age 0 6)] []), .tt]) (by kernel_rfl) ⟨o_a (f_entity_within _ _ _), trivial⟩ ?_
                refine br (b := within e.age 0 6) (by kernel_rfl) (fun h8 => ?_) (fun h8 => ?_)
                · refine gs (l := [.tt, .tt, .tt]) (by kernel_rfl) trivial ?_
                  refine rt (a := Res.mk Ex.ret [vb (e.owner == 0)] []) (by kernel_rfl) ?_
                  simp_all [Entity.right, beqd, bned]
                · refine gs (l := [.ff, .ff, .ff]) (by kernel_rfl) trivial ?_
                  refine rt (a := Res.mk Ex.ret [vb false] []) (by kernel_rfl) ?_
                  simp_all [Entity.right, beqd, bned]
              · refine gs (l := [.ff, .ff, .ff, .ff, .ff, .ff, .ff]) (by kernel_rfl) trivial ?_
                refine rt (a := Res.mk Ex.ret [vb false] []) (by kernel_rfl) ?_
                simp_all [Entity.right, beqd, bned]
            · refine gs (l := [.ff, .ff, .ff, .ff, .ff, .ff, .ff, .ff, .ff, .ff, .ff]) (by kernel_rfl) trivial ?_
              refine rt (a := Res.mk Ex.ret [vb false] []) (by kernel_rfl) ?_
              simp_all [Entity.right, beqd, bned]
          · refine gs (l := [.ff, .ff, .ff, .ff, .ff, .ff, .ff, .ff, .ff, .ff, .ff, .ff, .ff, .ff, .ff]) (by kernel_rfl) trivial ?_
            refine rt (a := Res.mk Ex.ret [vb false] []) (by kernel_rfl) ?_
            simp_all [Entity.right, beqd, bned]
        · refine gs (l := [.ff, .ff, .ff, .ff, .ff, .ff, .ff, .ff, .ff, .ff, .ff, .ff, .ff, .ff, .ff, .ff]) (by kernel_rfl) trivial ?_
          refine gs (l := [.ff, .ff, .ff]) (by kernel_rfl) trivial ?_
          refine rt (a := Res.mk Ex.ret [vb false] []) (by kernel_rfl) ?_
          simp_all [Entity.right, beqd, bned]
      · refine bre (x := e.kind) (y := 2) (by kernel_rfl) (fun h4 => ?_) (fun h4 => ?_)
        · refine gs (l := [.ff, .ff, .ff, .ff, .ff, .ff, .ff, .ff, .ff, .ff, .ff, .ff, .ff, .ff, .ff, .ff]) (by kernel_rfl) trivial ?_
          refine gs (l := [.ff, .ff, .ff, .ff, .ff, .ff, .ff, .ff, .ff]) (by kernel_rfl) trivial ?_
          refine rt (a := Res.mk Ex.ret [vb false] []) (by kernel_rfl) ?_
          simp_all [Entity.right, beqd, bned]
        · refine bre (x := e.kind) (y := 3) (by kernel_rfl) (fun h5 => ?_) (fun h5 => ?_)
          · refine gs (l := [.ff, .ff, .ff, .ff, .ff, .ff, .ff, .ff, .ff, .ff, .ff, .ff, .ff, .ff, .ff, .ff]) (by kernel_rfl) trivial ?_
            refine rt (a := Res.mk Ex.ret [vb false] []) (by kernel_rfl) ?_
            simp_all [Entity.right, beqd, bned]
          · refine rt (a := Res.mk Ex.ret [vb false] []) (by kernel_rfl) ?_
            simp_all [Entity.right, beqd, bned]
theorem f_joustref05_Right (c : Config) (e : Entity) : Fn cx 25 [c.enc, e.enc] (.bool (e.right c)) := by
  refine Wp.ev ?_
  refine gs (l := [.a (Task.call 62 [V.t (Config.enc c), vi e.x, vi e.y] []) (Res.mk Ex.ret [vb (Config.inside c e.x e.y)] [])]) (by kernel_rfl) ⟨o_a (f_joustref03_Inside _ _ _), trivial⟩ ?_
  refine brnot (b := Config.inside c e.x e.y) (by kernel_rfl) (fun h1 => ?_) (fun h1 => ?_)
  · refine rt (a := Res.mk Ex.ret [vb false] []) (by kernel_rfl) ?_
    simp_all [Entity.right, beqd, bned]
  · refine gs (l := [.a (Task.call 63 [vi e.id, vi 1000, vi 2147483647] []) (Res.mk Ex.ret [vb (within e.id 1000 2147483647)] [])]) (by kernel_rfl) ⟨o_a (f_joustref05_within _ _ _), trivial⟩ ?_
    refine bre (x := e.kind) (y := 1) (by kernel_rfl) (fun h2 => ?_) (fun h2 => ?_)
    · refine gs (l := [.a (Task.call 63 [vi e.id, vi 1, vi c.players] []) (Res.mk Ex.ret [vb (within e.id 1 c.players)] [])]) (by kernel_rfl) ⟨o_a (f_joustref05_within _ _ _), trivial⟩ ?_
      refine br (b := within e.id 1 c.players) (by kernel_rfl) (fun h3 => ?_) (fun h3 => ?_)
      · refine gs (l := [.tt, .tt, .a (Task.call 63 [vi e.vx, vi (-64), vi 64] []) (Res.mk Ex.ret [vb (within e.vx (-64) 64)] []), .tt]) (by kernel_rfl) ⟨o_a (f_joustref05_within _ _ _), trivial⟩ ?_
        refine br (b := within e.vx (-64) 64) (by kernel_rfl) (fun h4 => ?_) (fun h4 => ?_)
        · refine gs (l := [.tt, .tt, .a (Task.call 63 [vi e.vy, vi (-64), vi 64] []) (Res.mk Ex.ret [vb (within e.vy (-64) 64)] []), .tt]) (by kernel_rfl) ⟨o_a (f_joustref05_within _ _ _), trivial⟩ ?_
          refine br (b := within e.vy (-64) 64) (by kernel_rfl) (fun h5 => ?_) (fun h5 => ?_)
          · refine gs (l := [.tt, .tt, .a (Task.call 63 [vi e.health, vi 1, vi 100] []) (Res.mk Ex.ret [vb (within e.health 1 100)] []), .tt]) (by kernel_rfl) ⟨o_a (f_joustref05_within _ _ _), trivial⟩ ?_
            refine br (b := within e.health 1 100) (by kernel_rfl) (fun h6 => ?_) (fun h6 => ?_)
            · refine gs (l := [.tt, .tt, .a (Task.call 63 [vi e.age, vi 0, vi 6] []) (Res.mk Ex.ret [vb (within e.age 0 6)] []), .tt]) (by kernel_rfl) ⟨o_a (f_joustref05_within _ _ _), trivial⟩ ?_
              refine br (b := within e.age 0 6) (by kernel_rfl) (fun h7 => ?_) (fun h7 => ?_)
              · refine gs (l := [.tt, .tt, .tt]) (by kernel_rfl) trivial ?_
                refine rt (a := Res.mk Ex.ret [vb (e.owner == 0)] []) (by kernel_rfl) ?_
                simp_all [Entity.right, beqd, bned]
              · refine gs (l := [.ff, .ff, .ff]) (by kernel_rfl) trivial ?_
                refine rt (a := Res.mk Ex.ret [vb false] []) (by kernel_rfl) ?_
                simp_all [Entity.right, beqd, bned]
            · refine gs (l := [.ff, .ff, .ff, .ff, .ff, .ff, .ff]) (by kernel_rfl) trivial ?_
              refine rt (a := Res.mk Ex.ret [vb false] []) (by kernel_rfl) ?_
              simp_all [Entity.right, beqd, bned]
          · refine gs (l := [.ff, .ff, .ff, .ff, .ff, .ff, .ff, .ff, .ff, .ff, .ff]) (by kernel_rfl) trivial ?_
            refine rt (a := Res.mk Ex.ret [vb false] []) (by kernel_rfl) ?_
            simp_all [Entity.right, beqd, bned]
        · refine gs (l := [.ff, .ff, .ff, .ff, .ff, .ff, .ff, .ff, .ff, .ff, .ff, .ff, .ff, .ff, .ff]) (by kernel_rfl) trivial ?_
          refine rt (a := Res.mk Ex.ret [vb false] []) (by kernel_rfl) ?_
          simp_all [Entity.right, beqd, bned]
      · refine gs (l := [.ff, .ff, .ff, .ff, .ff, .ff, .ff, .ff, .ff, .ff, .ff, .ff, .ff, .ff, .ff, .ff]) (by kernel_rfl) trivial ?_
        refine gs (l := [.ff, .ff, .ff]) (by kernel_rfl) trivial ?_
        refine rt (a := Res.mk Ex.ret [vb false] []) (by kernel_rfl) ?_
        simp_all [Entity.right, beqd, bned]
    · refine bre (x := e.kind) (y := 2) (by kernel_rfl) (fun h3 => ?_) (fun h3 => ?_)
      · refine br (b := within e.id 1000 2147483647) (by kernel_rfl) (fun h4 => ?_) (fun h4 => ?_)
        · refine gs (l := [.tt, .tt, .a (Task.call 64 [vi e.vx] []) (Res.mk Ex.ret [vb (pace e.vx)] []), .tt]) (by kernel_rfl) ⟨o_a (f_joustref05_step _), trivial⟩ ?_
          refine br (b := pace e.vx) (by kernel_rfl) (fun h5 => ?_) (fun h5 => ?_)
          · refine gs (l := [.tt, .tt, .a (Task.call 64 [vi e.vy] []) (Res.mk Ex.ret [vb (pace e.vy)] []), .tt]) (by kernel_rfl) ⟨o_a (f_joustref05_step _), trivial⟩ ?_
            refine br (b := pace e.vy) (by kernel_rfl) (fun h6 => ?_) (fun h6 => ?_)
            · refine gs (l := [.tt, .tt, .tt]) (by kernel_rfl) trivial ?_
              refine brn (x := e.vx) (y := 0) (by kernel_rfl) (fun h7 => ?_) (fun h7 => ?_)
              · refine gs (l := [.tt, .tt, .tt, .tt, .tt, .tt, .tt, .tt, .tt]) (by kernel_rfl) trivial ?_
                refine bre (x := e.health) (y := 1) (by kernel_rfl) (fun h8 => ?_) (fun h8 => ?_)
                · refine gs (l := [.tt, .tt, .a (Task.call 63 [vi e.age, vi 0, vi 12] []) (Res.mk Ex.ret [vb (within e.age 0 12)] []), .tt]) (by kernel_rfl) ⟨o_a (f_joustref05_within _ _ _), trivial⟩ ?_
                  refine br (b := within e.age 0 12) (by kernel_rfl) (fun h9 => ?_) (fun h9 => ?_)
                  · refine gs (l := [.tt, .tt, .tt, .tt, .a (Task.call 63 [vi e.owner, vi 1, vi c.players] []) (Res.mk Ex.ret [vb (within e.owner 1 c.players)] []), .tt]) (by kernel_rfl) ⟨o_a (f_joustref05_within _ _ _), trivial⟩ ?_
                    refine rt (a := Res.mk Ex.ret [vb (within e.owner 1 c.players)] []) (by kernel_rfl) ?_
                    simp_all [Entity.right, beqd, bned]
                  · refine gs (l := [.ff, .ff, .ff, .ff, .ff]) (by kernel_rfl) trivial ?_
                    refine rt (a := Res.mk Ex.ret [vb false] []) (by kernel_rfl) ?_
                    simp_all [Entity.right, beqd, bned]
                · refine gs (l := [.ff, .ff, .ff, .ff, .ff, .ff, .ff, .ff, .ff]) (by kernel_rfl) trivial ?_
                  refine rt (a := Res.mk Ex.ret [vb false] []) (by kernel_rfl) ?_
                  simp_all [Entity.right, beqd, bned]
              · refine gs (l := [.ff, .ff, .tt, .ff, .tt]) (by kernel_rfl) trivial ?_
                refine brn (x := e.vy) (y := 0) (by kernel_rfl) (fun h8 => ?_) (fun h8 => ?_)
                · refine gs (l := [.tt, .tt, .tt]) (by kernel_rfl) trivial ?_
                  refine bre (x := e.health) (y := 1) (by kernel_rfl) (fun h9 => ?_) (fun h9 => ?_)
                  · refine gs (l := [.tt, .tt, .a (Task.call 63 [vi e.age, vi 0, vi 12] []) (Res.mk Ex.ret [vb (within e.age 0 12)] []), .tt]) (by kernel_rfl) ⟨o_a (f_joustref05_within _ _ _), trivial⟩ ?_
                    refine br (b := within e.age 0 12) (by kernel_rfl) (fun h10 => ?_) (fun h10 => ?_)
                    · refine gs (l := [.tt, .tt, .tt, .tt, .a (Task.call 63 [vi e.owner, vi 1, vi c.players] []) (Res.mk Ex.ret [vb (within e.owner 1 c.players)] []), .tt]) (by kernel_rfl) ⟨o_a (f_joustref05_within _ _ _), trivial⟩ ?_
                      refine rt (a := Res.mk Ex.ret [vb (within e.owner 1 c.players)] []) (by kernel_rfl) ?_
                      simp_all [Entity.right, beqd, bned]
                    · refine gs (l := [.ff, .ff, .ff, .ff, .ff]) (by kernel_rfl) trivial ?_
                      refine rt (a := Res.mk Ex.ret [vb false] []) (by kernel_rfl) ?_
                      simp_all [Entity.right, beqd, bned]
                  · refine gs (l := [.ff, .ff, .ff, .ff, .ff, .ff, .ff, .ff, .ff]) (by kernel_rfl) trivial ?_
                    refine rt (a := Res.mk Ex.ret [vb false] []) (by kernel_rfl) ?_
                    simp_all [Entity.right, beqd, bned]
                · refine gs (l := [.ff, .ff, .ff, .ff, .ff, .ff, .ff, .ff, .ff, .ff, .ff, .ff, .ff]) (by kernel_rfl) trivial ?_
                  refine rt (a := Res.mk Ex.ret [vb false] []) (by kernel_rfl) ?_
                  simp_all [Entity.right, beqd, bned]
            · refine gs (l := [.ff, .ff, .ff, .ff, .ff, .ff, .ff, .ff, .ff, .ff, .ff, .ff, .ff, .ff, .ff, .ff]) (by kernel_rfl) trivial ?_
              refine gs (l := [.ff, .ff, .ff]) (by kernel_rfl) trivial ?_
              refine rt (a := Res.mk Ex.ret [vb false] []) (by kernel_rfl) ?_
              simp_all [Entity.right, beqd, bned]
          · refine gs (l := [.ff, .ff, .ff, .ff, .ff, .ff, .ff, .ff, .ff, .ff, .ff, .ff, .ff, .ff, .ff, .ff]) (by kernel_rfl) trivial ?_
            refine gs (l := [.ff, .ff, .ff, .ff, .ff, .ff, .ff]) (by kernel_rfl) trivial ?_
            refine rt (a := Res.mk Ex.ret [vb false] []) (by kernel_rfl) ?_
            simp_all [Entity.right, beqd, bned]
        · refine gs (l := [.ff, .ff, .ff, .ff, .ff, .ff, .ff, .ff, .ff, .ff, .ff, .ff, .ff, .ff, .ff, .ff]) (by kernel_rfl) trivial ?_
          refine gs (l := [.ff, .ff, .ff, .ff, .ff, .ff, .ff, .ff, .ff, .ff, .ff]) (by kernel_rfl) trivial ?_
          refine rt (a := Res.mk Ex.ret [vb false] []) (by kernel_rfl) ?_
          simp_all [Entity.right, beqd, bned]
      · refine bre (x := e.kind) (y := 3) (by kernel_rfl) (fun h4 => ?_) (fun h4 => ?_)
        · refine br (b := within e.id 1000 2147483647) (by kernel_rfl) (fun h5 => ?_) (fun h5 => ?_)
          · refine gs (l := [.tt, .tt, .tt]) (by kernel_rfl) trivial ?_
            refine bre (x := e.vx) (y := 0) (by kernel_rfl) (fun h6 => ?_) (fun h6 => ?_)
            · refine gs (l := [.tt, .tt, .tt]) (by kernel_rfl) trivial ?_
              refine bre (x := e.vy) (y := 0) (by kernel_rfl) (fun h7 => ?_) (fun h7 => ?_)
              · refine gs (l := [.tt, .tt, .tt]) (by kernel_rfl) trivial ?_
                refine bre (x := e.age) (y := 0) (by kernel_rfl) (fun h8 => ?_) (fun h8 => ?_)
                · refine gs (l := [.tt, .tt, .tt]) (by kernel_rfl) trivial ?_
                  refine bre (x := e.owner) (y := 0) (by kernel_rfl) (fun h9 => ?_) (fun h9 => ?_)
                  · refine gs (l := [.tt, .tt, .tt]) (by kernel_rfl) trivial ?_
                    refine rt (a := Res.mk Ex.ret [vb (e.health == 1)] []) (by kernel_rfl) ?_
                    simp_all [Entity.right, beqd, bned]
                  · refine gs (l := [.ff, .ff, .ff]) (by kernel_rfl) trivial ?_
                    refine rt (a := Res.mk Ex.ret [vb false] []) (by kernel_rfl) ?_
                    simp_all [Entity.right, beqd, bned]
                · refine gs (l := [.ff, .ff, .ff, .ff, .ff, .ff, .ff]) (by kernel_rfl) trivial ?_
                  refine rt (a := Res.mk Ex.ret [vb false] []) (by kernel_rfl) ?_
                  simp_all [Entity.right, beqd, bned]
              · refine gs (l := [.ff, .ff, .ff, .ff, .ff, .ff, .ff, .ff, .ff, .ff, .ff]) (by kernel_rfl) trivial ?_
                refine rt (a := Res.mk Ex.ret [vb false] []) (by kernel_rfl) ?_
                simp_all [Entity.right, beqd, bned]
            · refine gs (l := [.ff, .ff, .ff, .ff, .ff, .ff, .ff, .ff, .ff, .ff, .ff, .ff, .ff, .ff, .ff]) (by kernel_rfl) trivial ?_
              refine rt (a := Res.mk Ex.ret [vb false] []) (by kernel_rfl) ?_
              simp_all [Entity.right, beqd, bned]
          · refine gs (l := [.ff, .ff, .ff, .ff, .ff, .ff, .ff, .ff, .ff, .ff, .ff, .ff, .ff, .ff, .ff, .ff]) (by kernel_rfl) trivial ?_
            refine gs (l := [.ff, .ff, .ff]) (by kernel_rfl) trivial ?_
            refine rt (a := Res.mk Ex.ret [vb false] []) (by kernel_rfl) ?_
            simp_all [Entity.right, beqd, bned]
        · refine rt (a := Res.mk Ex.ret [vb false] []) (by kernel_rfl) ?_
          simp_all [Entity.right, beqd, bned]
theorem f_joustref05_Put_loop (l : List Entity) (e : Entity) (hn : small l) : ∀ (d k : Nat), k + d = l.length →
    Is cx (.loop 24 [0, 0, 1, 1, 1] 0 [.t (.sl 9 (l.map Entity.enc)), .ptr 0 0 0, vi k] [.one 9 (.t e.enc) false])
      ⟨.exit 0, [.t (.sl 9 (l.map Entity.enc)), .ptr 0 0 0, vi (match (l.drop k).findIdx? fun x => decide (x.id ≥ e.id) with | some j => k + j | none => l.length : Nat)], [.one 9 (.t e.enc) false]⟩ := by
  unfold small at hn
  intro d
  induction d with
  | zero =>
    intro k hk
    rw [drop_end (by omega)]
    refine Wp.ev ?_
    refine gs (l := [.n (List.length (List.map Entity.enc l)) (List.length l), .b (decide ((↑k : Int) < (↑(List.length l) : Int))) false, .ff, .ff, .ff, .ff, .ff, .ff, .ff, .ff, .ff]) (by kernel_rfl) ⟨o_n (by simp), f_brp (by omega), trivial⟩ ?_
    refine rt (a := Res.mk (Ex.exit 0) [V.t (T.sl 9 (List.map Entity.enc l)), V.ptr 0 0 0, vi (↑k : Int)] [Ob.one 9 (V.t (Entity.enc e)) false]) (by kernel_rfl) ?_
    ((have hq : k = l.length := by omega); subst hq; rfl)
  | succ d ih =>
    intro k hk
    have hlt : k < l.length := by omega
    have ih1 := ih (k + 1) (by omega)
    clear ih
    rw [drop_gt hlt, List.findIdx?_cons]
    by_cases hp : (gt l k).id ≥ e.id
    · rw [show decide ((gt l k).id ≥ e.id) = true by simpa using hp, if_pos rfl]
      clear ih1
      refine Wp.ev ?_
      refine gs (l := [.n (List.length (List.map Entity.enc l)) (List.length l), .b (decide ((↑k : Int) < (↑(List.length l) : Int))) true, .tt, .tt, .w ((0 : Int) ≤ (↑k : Int)), .n (Int.toNat (↑k : Int)) k, .g (List.map Entity.enc l) k (Entity.enc (gt l k)), .tt, .tt, .tt, .tt, .tt, .tt, .b (decide ((gt l k).id < e.id)) false]) (by kernel_rfl) ⟨o_n (by simp), t_brp (by omega), o_w (by omega), o_n (by kernel_rfl), o_gt rfl (by assumption) (by intro h; cases h), f_brp (by omega), trivial⟩ ?_
      refine rt (a := Res.mk (Ex.exit 0) [V.t (T.sl 9 (List.map Entity.enc l)), V.ptr 0 0 0, vi (↑k : Int)] [Ob.one 9 (V.t (Entity.enc e)) false]) (by kernel_rfl) ?_
      rfl
    · rw [show decide ((gt l k).id ≥ e.id) = false by simpa using hp, if_neg (by simp)]
      cases hq : (l.drop (k + 1)).findIdx? fun x => decide (x.id ≥ e.id) with
      | none =>
        rw [hq] at ih1
        refine Wp.ev ?_
        refine gs (l := [.n (List.length (List.map Entity.enc l)) (List.length l), .b (decide ((↑k : Int) < (↑(List.length l) : Int))) true, .tt, .tt, .w ((0 : Int) ≤ (↑k : Int)), .n (Int.toNat (↑k : Int)) k, .g (List.map Entity.enc l) k (Entity.enc (gt l k)), .tt, .tt, .tt, .tt, .tt, .tt, .b (decide ((gt l k).id < e.id)) true, .i IntKind.i64 ((↑k : Int) + 1) ((↑(k + 1) : Int)), .a (Task.loop 24 [0, 0, 1, 1, 1] 0 [V.t (T.sl 9 (List.map Entity.enc l)), V.ptr 0 0 0, vi (↑(k + 1) : Int)] [Ob.one 9 (V.t (Entity.enc e)) false]) (Res.mk (Ex.exit 0)
          [V.t (T.sl 9 (List.map Entity.enc l)), V.ptr 0 0 0,
            vi
              (↑(match none with
                  | some j => k + 1 + j
                  | none => List.length l) :
                Int)]
          [Ob.one 9 (V.t (Entity.enc e)) false])]) (by kernel_rfl) ⟨o_n (by simp), t_brp (by omega), o_w (by omega), o_n (by kernel_rfl), o_gt rfl (by assumption) (by intro h; cases h), t_brp (by omega), o_i (w64 (by omega)), o_a ih1, trivial⟩ ?_
        refine rt (a := Res.mk (Ex.exit 0)
          [V.t (T.sl 9 (List.map Entity.enc l)), V.ptr 0 0 0,
            vi
              (↑(match none with
                  | some j => k + 1 + j
                  | none => List.length l) :
                Int)]
          [Ob.one 9 (V.t (Entity.enc e)) false]) (by kernel_rfl) ?_
        rfl
      | some j =>
        rw [hq] at ih1
        refine Wp.ev ?_
        refine gs (l := [.n (List.length (List.map Entity.enc l)) (List.length l), .b (decide ((↑k : Int) < (↑(List.length l) : Int))) true, .tt, .tt, .w ((0 : Int) ≤ (↑k : Int)), .n (Int.toNat (↑k : Int)) k, .g (List.map Entity.enc l) k (Entity.enc (gt l k)), .tt, .tt, .tt, .tt, .tt, .tt, .b (decide ((gt l k).id < e.id)) true, .i IntKind.i64 ((↑k : Int) + 1) ((↑(k + 1) : Int)), .a (Task.loop 24 [0, 0, 1, 1, 1] 0 [V.t (T.sl 9 (List.map Entity.enc l)), V.ptr 0 0 0, vi (↑(k + 1) : Int)] [Ob.one 9 (V.t (Entity.enc e)) false]) (Res.mk (Ex.exit 0)
          [V.t (T.sl 9 (List.map Entity.enc l)), V.ptr 0 0 0,
            vi
              (↑(match some j with
                  | some j => k + 1 + j
                  | none => List.length l) :
                Int)]
          [Ob.one 9 (V.t (Entity.enc e)) false])]) (by kernel_rfl) ⟨o_n (by simp), t_brp (by omega), o_w (by omega), o_n (by kernel_rfl), o_gt rfl (by assumption) (by intro h; cases h), t_brp (by omega), o_i (w64 (by omega)), o_a ih1, trivial⟩ ?_
        refine rt (a := Res.mk (Ex.exit 0)
          [V.t (T.sl 9 (List.map Entity.enc l)), V.ptr 0 0 0,
            vi
              (↑(match some j with
                  | some j => k + 1 + j
                  | none => List.length l) :
                Int)]
          [Ob.one 9 (V.t (Entity.enc e)) false]) (by kernel_rfl) ?_
        (simp; omega)
theorem f_joustref05_Put (l : List Entity) (e : Entity) (hn : small l) : Fn cx 24 [.sl 9 (l.map Entity.enc), e.enc] (.sl 9 ((put1 l e).map Entity.enc)) := by
  have hF := f_joustref05_Find l e.id hn
  have hn' : l.length ≤ 1000000 := hn
  unfold find at hF
  unfold put1
  cases hq : l.findIdx? fun x => x.id == e.id with
  | some k =>
    rw [pos_some hq] at hF
    refine Wp.ev ?_
    refine gs (l := [.a (Task.call 26 [V.t (T.sl 9 (List.map Entity.enc l)), vi e.id] []) (Res.mk Ex.ret [vi (↑k : Int)] []), .b (decide ((↑k : Int) ≥ 0)) true]) (by kernel_rfl) ⟨o_a hF, o_b (by kernel_rfl), trivial⟩ ?_
    refine rt (a := Res.mk Ex.ret [V.t (T.sl 9 (List.map Entity.enc l))] []) (by kernel_rfl) ?_
    rfl
  | none =>
    rw [pos_none hq] at hF
    have h := f_joustref05_Put_loop l e hn l.length 0 (by omega)
    rw [List.drop_zero] at h
    unfold ins
    cases hp : l.findIdx? fun x => decide (x.id ≥ e.id) with
    | some k =>
      rw [hp] at h
      simp only [Nat.zero_add] at h
      have hk := (List.findIdx?_eq_some_iff_getElem.1 hp).1
      refine Wp.ev ?_
      refine gs (l := [.a (Task.call 26 [V.t (T.sl 9 (List.map Entity.enc l)), vi e.id] []) (Res.mk Ex.ret [vi (-1)] []), .b (decide (-1 ≥ 0)) false, .a (Task.loop 24 [0, 0, 1, 1, 1] 0 [V.t (T.sl 9 (List.map Entity.enc l)), V.ptr 0 0 0, vi 0] [Ob.one 9 (V.t (Entity.enc e)) false]) (Res.mk (Ex.exit 0) [V.t (T.sl 9 (List.map Entity.enc l)), V.ptr 0 0 0, vi (↑k : Int)] [Ob.one 9 (V.t (Entity.enc e)) false]), .w ((0 : Int) ≤ (↑k : Int)), .n (Int.toNat (↑k : Int)) k, .w ((0 : Nat) ≤ k ∧ k ≤ List.length (List.map Entity.enc l)), .t (T.sl 9 (List.take (k - 0) (List.drop 0 (List.map Entity.enc l)))) (T.sl 9 (List.map Entity.enc (List.take k l))), .w ((0 : Int) ≤ (↑k : Int)), .n (Int.toNat (↑k : Int)) k, .w (k ≤ List.length (List.map Entity.enc l) ∧ List.length (List.map Entity.enc l) ≤ List.length (List.map Entity.enc l)), .t (T.sl 9 (List.take (List.length (List.map Entity.enc l) - k) (List.drop k (List.map Entity.enc l)))) (T.sl 9 (List.map Entity.enc (List.take (List.length (List.map Entity.enc l) - k) (List.drop k l))))]) (by kernel_rfl) ⟨o_a hF, o_b (by kernel_rfl), o_a h, o_w (by omega), o_n (by kernel_rfl), o_w ⟨(by omega), (by (simp [room, appendMax]; omega))⟩, o_l (nm_eq (nm_take (nm_drop rfl)) (by kernel_rfl)), o_w (by omega), o_n (by kernel_rfl), o_w ⟨(by (simp [room, appendMax]; omega)), (by omega)⟩, o_l (nm_take (nm_drop rfl)), trivial⟩ ?_
      refine bo (by kernel_rfl) ?_ ?_
      · refine gs (l := [.w ((0 : Nat) < (72 : Nat)), .s (T.sl 0 (List.map Entity.enc (List.take k l))), .s (T.sl 0 (List.map Entity.enc (List.take k l))), .w (room (List.length (List.map Entity.enc (List.take k l))) (72 : Nat)), .w ((0 : Nat) < (72 : Nat)), .t (T.sl 0 [Entity.enc e]) (T.sl 0 (List.map Entity.enc [e])), .t (T.sl 0 (List.map Entity.enc (List.take k l) ++ List.map Entity.enc [e])) (T.sl 0 (List.map Entity.enc (List.take k l ++ [e]))), .w (room (List.length (List.map Entity.enc (List.take k l ++ [e]))) (72 : Nat)), .w ((0 : Nat) < (72 : Nat)), .s (T.sl 0 (List.map Entity.enc (List.take (List.length (List.map Entity.enc l) - k) (List.drop k l)))), .t (T.sl 0 (List.map Entity.enc (List.take k l ++ [e]) ++ List.map Entity.enc (List.take (List.length (List.map Entity.enc l) - k) (List.drop k l)))) (T.sl 0 (List.map Entity.enc (List.take k l ++ [e] ++ List.take (List.length (List.map Entity.enc l) - k) (List.drop k l)))), .w (room (List.length (List.map Entity.enc (List.take k l ++ [e] ++ List.take (List.length (List.map Entity.enc l) - k) (List.drop k l)))) (72 : Nat))]) (by kernel_rfl) ⟨o_w (by omega), o_w (by (simp [room, appendMax]; omega)), o_w (by omega), o_l (nm_cons rfl nm_nil), o_l (nm_app rfl rfl), o_w (by (simp [room, appendMax]; omega)), o_w (by omega), o_l (nm_app rfl rfl), o_w (by (simp [room, appendMax]; omega)), trivial⟩ ?_
        refine rt (a := Res.mk Ex.ret [V.t (T.sl 9 (List.map Entity.enc (List.take k l ++ [e] ++ List.take (List.length (List.map Entity.enc l) - k) (List.drop k l))))] []) (by kernel_rfl) ?_
        (first | (simp; done) | (simp; rw [List.take_of_length_le (by simp)]))
      · refine gs (l := [.w ((0 : Nat) < (72 : Nat)), .s (T.sl 0 (List.map Entity.enc (List.take k l))), .s (T.sl 0 (List.map Entity.enc (List.take k l))), .w (room (List.length (List.map Entity.enc (List.take k l))) (72 : Nat)), .w ((0 : Nat) < (72 : Nat)), .t (T.sl 0 [Entity.enc e]) (T.sl 0 (List.map Entity.enc [e])), .t (T.sl 0 (List.map Entity.enc (List.take k l) ++ List.map Entity.enc [e])) (T.sl 0 (List.map Entity.enc (List.take k l ++ [e]))), .w (room (List.length (List.map Entity.enc (List.take k l ++ [e]))) (72 : Nat)), .w ((0 : Nat) < (72 : Nat)), .s (T.sl 0 (List.map Entity.enc (List.take (List.length (List.map Entity.enc l) - k) (List.drop k l)))), .t (T.sl 0 (List.map Entity.enc (List.take k l ++ [e]) ++ List.map Entity.enc (List.take (List.length (List.map Entity.enc l) - k) (List.drop k l)))) (T.sl 0 (List.map Entity.enc (List.take k l ++ [e] ++ List.take (List.length (List.map Entity.enc l) - k) (List.drop k l)))), .w (room (List.length (List.map Entity.enc (List.take k l ++ [e] ++ List.take (List.length (List.map Entity.enc l) - k) (List.drop k l)))) (72 : Nat))]) (by kernel_rfl) ⟨o_w (by omega), o_w (by (simp [room, appendMax]; omega)), o_w (by omega), o_l (nm_cons rfl nm_nil), o_l (nm_app rfl rfl), o_w (by (simp [room, appendMax]; omega)), o_w (by omega), o_l (nm_app rfl rfl), o_w (by (simp [room, appendMax]; omega)), trivial⟩ ?_
        refine rt (a := Res.mk Ex.ret [V.t (T.sl 9 (List.map Entity.enc (List.take k l ++ [e] ++ List.take (List.length (List.map Entity.enc l) - k) (List.drop k l))))] []) (by kernel_rfl) ?_
        (first | (simp; done) | (simp; rw [List.take_of_length_le (by simp)]))
    | none =>
      rw [hp] at h
      simp only at h
      refine Wp.ev ?_
      refine gs (l := [.a (Task.call 26 [V.t (T.sl 9 (List.map Entity.enc l)), vi e.id] []) (Res.mk Ex.ret [vi (-1)] []), .b (decide (-1 ≥ 0)) false, .a (Task.loop 24 [0, 0, 1, 1, 1] 0 [V.t (T.sl 9 (List.map Entity.enc l)), V.ptr 0 0 0, vi 0] [Ob.one 9 (V.t (Entity.enc e)) false]) (Res.mk (Ex.exit 0) [V.t (T.sl 9 (List.map Entity.enc l)), V.ptr 0 0 0, vi (↑(List.length l) : Int)] [Ob.one 9 (V.t (Entity.enc e)) false]), .w ((0 : Int) ≤ (↑(List.length l) : Int)), .n (Int.toNat (↑(List.length l) : Int)) (List.length l), .w ((0 : Nat) ≤ List.length l ∧ List.length l ≤ List.length (List.map Entity.enc l)), .t (T.sl 9 (List.take (List.length l - 0) (List.drop 0 (List.map Entity.enc l)))) (T.sl 9 (List.map Entity.enc l)), .w ((0 : Int) ≤ (↑(List.length l) : Int)), .n (Int.toNat (↑(List.length l) : Int)) (List.length l), .w (List.length l ≤ List.length (List.map Entity.enc l) ∧ List.length (List.map Entity.enc l) ≤ List.length (List.map Entity.enc l)), .t (T.sl 9 (List.take (List.length (List.map Entity.enc l) - List.length l) (List.drop (List.length l) (List.map Entity.enc l)))) (T.sl 9 (List.map Entity.enc []))]) (by kernel_rfl) ⟨o_a hF, o_b (by kernel_rfl), o_a h, o_w (by omega), o_n (by kernel_rfl), o_w ⟨(by omega), (by simp)⟩, o_l (nm_eq (nm_take (nm_drop rfl)) (by simp)), o_w (by omega), o_n (by kernel_rfl), o_w ⟨(by simp), (by omega)⟩, o_l (nm_eq (nm_take (nm_drop rfl)) (by simp)), trivial⟩ ?_
      refine bo (by kernel_rfl) ?_ ?_
      · refine gs (l := [.w ((0 : Nat) < (72 : Nat)), .s (T.sl 0 (List.map Entity.enc l)), .s (T.sl 0 (List.map Entity.enc l)), .w (room (List.length (List.map Entity.enc l)) (72 : Nat)), .w ((0 : Nat) < (72 : Nat)), .t (T.sl 0 [Entity.enc e]) (T.sl 0 (List.map Entity.enc [e])), .t (T.sl 0 (List.map Entity.enc l ++ List.map Entity.enc [e])) (T.sl 0 (List.map Entity.enc (l ++ [e]))), .w (room (List.length (List.map Entity.enc (l ++ [e]))) (72 : Nat)), .w ((0 : Nat) < (72 : Nat)), .s (T.sl 0 []), .t (T.sl 0 (List.map Entity.enc (l ++ [e]) ++ [])) (T.sl 0 (List.map Entity.enc (l ++ [e]))), .w (room (List.length (List.map Entity.enc (l ++ [e]))) (72 : Nat))]) (by kernel_rfl) ⟨o_w (by omega), o_w (by (simp [room, appendMax]; omega)), o_w (by omega), o_l (nm_cons rfl nm_nil), o_l (nm_app rfl rfl), o_w (by (simp [room, appendMax]; omega)), o_w (by omega), o_l (nm_eq (nm_app rfl nm_nil) (by simp)), o_w (by (simp [room, appendMax]; omega)), trivial⟩ ?_
        refine rt (a := Res.mk Ex.ret [V.t (T.sl 9 (List.map Entity.enc (l ++ [e])))] []) (by kernel_rfl) ?_
        (first | (simp; done) | (simp; rw [List.take_of_length_le (by simp)]))
      · refine gs (l := [.w ((0 : Nat) < (72 : Nat)), .s (T.sl 0 (List.map Entity.enc l)), .s (T.sl 0 (List.map Entity.enc l)), .w (room (List.length (List.map Entity.enc l)) (72 : Nat)), .w ((0 : Nat) < (72 : Nat)), .t (T.sl 0 [Entity.enc e]) (T.sl 0 (List.map Entity.enc [e])), .t (T.sl 0 (List.map Entity.enc l ++ List.map Entity.enc [e])) (T.sl 0 (List.map Entity.enc (l ++ [e]))), .w (room (List.length (List.map Entity.enc (l ++ [e]))) (72 : Nat)), .w ((0 : Nat) < (72 : Nat)), .s (T.sl 0 []), .t (T.sl 0 (List.map Entity.enc (l ++ [e]) ++ [])) (T.sl 0 (List.map Entity.enc (l ++ [e]))), .w (room (List.length (List.map Entity.enc (l ++ [e]))) (72 : Nat))]) (by kernel_rfl) ⟨o_w (by omega), o_w (by (simp [room, appendMax]; omega)), o_w (by omega), o_l (nm_cons rfl nm_nil), o_l (nm_app rfl rfl), o_w (by (simp [room, appendMax]; omega)), o_w (by omega), o_l (nm_eq (nm_app rfl nm_nil) (by simp)), o_w (by (simp [room, appendMax]; omega)), trivial⟩ ?_
        refine rt (a := Res.mk Ex.ret [V.t (T.sl 9 (List.map Entity.enc (l ++ [e])))] []) (by kernel_rfl) ?_
        (first | (simp; done) | (simp; rw [List.take_of_length_le (by simp)]))
theorem f_jousthelp_Kept_loop_Entity (l : List Entity) (f : Entity) (hn : l.length ≤ 1000) (r : Bool) : ∀ (d i : Nat), l.length ≤ i → i + d = l.length + 3 →
    Is cx (.loop 30 [0, 1, 0, 1, 1, 1] 1 [.ptr 1 0 0, vb false, .sl 0 0 (l.length + 3) none, vi i] [.arr 9 ((l ++ [f, f, f]).map Entity.enc) (some 0) r, .one 9 (.t f.enc) false])
      ⟨.exit 0, [.ptr 1 0 0, vb false, .sl 0 0 (l.length + 3) none, vi (l.length + 3 : Nat)], [.arr 9 ((l ++ [f, f, f]).map Entity.enc) (some 0) r, .one 9 (.t f.enc) false]⟩ := by
  intro d
  induction d with
  | zero =>
    intro i hi hd
    refine Wp.ev ?_
    refine gs (l := [.l (List.length l + 3), .b (decide ((↑i : Int) < (↑(List.length l + 3) : Int))) false]) (by kernel_rfl) ⟨f_brp (by omega), trivial⟩ ?_
    refine rt (a := Res.mk (Ex.exit 0) [V.ptr 1 0 0, vb false, V.sl 0 0 (List.length l + 3) none, vi (↑i : Int)] [Ob.arr 9 (List.map Entity.enc (l ++ [f, f, f])) (some 0) r, Ob.one 9 (V.t (Entity.enc f)) false]) (by kernel_rfl) ?_
    ((have hq : i = l.length + 3 := by omega); subst hq; rfl)
  | succ d ih =>
    intro i hi hd
    have ih1 := ih (i + 1) (by omega) (by omega)
    clear ih
    have hx : (l ++ [f, f, f])[i]? = some f := by
      rw [List.getElem?_append_right hi]
      have : i - l.length = 0 ∨ i - l.length = 1 ∨ i - l.length = 2 := by omega
      rcases this with h | h | h <;> rw [h] <;> rfl
    have ht : teq f.enc f.enc = true := by rw [teq_iff]
    refine Wp.ev ?_
    refine gs (l := [.l (List.length l + 3), .b (decide ((↑i : Int) < (↑(List.length l + 3) : Int))) true, .w ((0 : Int) ≤ (↑i : Int)), .n (Int.toNat (↑i : Int)) i, .w (i < List.length l + (3 : Nat)), .n (0 + i) i, .g (List.map Entity.enc (l ++ [f, f, f])) i (Entity.enc f), .w (conform cx (40 : Nat) (28 : Nat) (T.agg [ti f.id, ti f.kind, ti f.x, ti f.y, ti f.vx, ti f.vy, ti f.health, ti f.age, ti f.owner]) = true ∧ conform cx (40 : Nat) (28 : Nat) (T.agg [ti f.id, ti f.kind, ti f.x, ti f.y, ti f.vx, ti f.vy, ti f.health, ti f.age, ti f.owner]) = true), .b (!teq (Entity.enc f) (Entity.enc f)) false, .i IntKind.i64 ((↑i : Int) + 1) ((↑(i + 1) : Int)), .a (Task.loop 30 [0, 1, 0, 1, 1, 1] 1 [V.ptr 1 0 0, vb false, V.sl 0 0 (List.length l + 3) none, vi (↑(i + 1) : Int)] [Ob.arr 9 (List.map Entity.enc (l ++ [f, f, f])) (some 0) r, Ob.one 9 (V.t (Entity.enc f)) false]) (Res.mk (Ex.exit 0) [V.ptr 1 0 0, vb false, V.sl 0 0 (List.length l + 3) none, vi (↑(List.length l + 3) : Int)] [Ob.arr 9 (List.map Entity.enc (l ++ [f, f, f])) (some 0) r, Ob.one 9 (V.t (Entity.enc f)) false])]) (by kernel_rfl) ⟨t_brp (by omega), o_w (by omega), o_n (by kernel_rfl), o_w (by omega), o_n (by omega), o_gm rfl hx (by intro h; cases h), o_w ⟨(by kernel_rfl), (by kernel_rfl)⟩, f_brnot (by assumption), o_i (w64 (by omega)), o_a ih1, trivial⟩ ?_
    refine rt (a := Res.mk (Ex.exit 0) [V.ptr 1 0 0, vb false, V.sl 0 0 (List.length l + 3) none, vi (↑(List.length l + 3) : Int)] [Ob.arr 9 (List.map Entity.enc (l ++ [f, f, f])) (some 0) r, Ob.one 9 (V.t (Entity.enc f)) false]) (by kernel_rfl) ?_
    rfl
theorem f_jousthelp_Kept_Entity (l : List Entity) (f : Entity) (hn : l.length ≤ 1000) (r : Bool) : Is cx (.call 30 [.sl 0 0 l.length none, .t (.sl 9 (l.map Entity.enc)), .t f.enc] [.arr 9 ((l ++ [f, f, f]).map Entity.enc) (some 0) r])
      ⟨.ret, [vb true], [.arr 9 ((l ++ [f, f, f]).map Entity.enc) (some 0) r]⟩ := by
  have h := f_jousthelp_Kept_loop_Entity l f hn r 3 l.length (Nat.le_refl _) rfl
  have hs : small l := by unfold small; omega
  have he : (l ++ [f, f, f]).take l.length = l := by simp
  have hp := f_jousthelp_Plain_Entity ((l ++ [f, f, f]).take l.length) l (by rw [he]; exact hs)
  have e : plain ((l ++ [f, f, f]).take l.length) l = true := by rw [he]; simp [plain]
  rw [e] at hp
  refine Wp.ev ?_
  refine gs (l := [.t (T.sl 9 (List.take (List.length l) (List.drop 0 (List.map Entity.enc (l ++ [f, f, f]))))) (T.sl 9 (List.map Entity.enc (List.take (List.length l) (l ++ [f, f, f])))), .a (Task.call 18 [V.t (T.sl 9 (List.map Entity.enc (List.take (List.length l) (l ++ [f, f, f])))), V.t (T.sl 9 (List.map Entity.enc l))] []) (Res.mk Ex.ret [vb true] []), .b (flats [T.bool true]) true, .b (!true) false, .ff, .n (List.length (List.map Entity.enc (l ++ [f, f, f])) + 0 - 0) (List.length l + 3), .ff, .ff, .n (List.length (List.map Entity.enc l)) (List.length l), .ff, .i IntKind.i64 ((↑(List.length l) : Int) + 3) ((↑(List.length l + 3) : Int)), .ff, .ff, .b (decide ((↑(List.length l + 3) : Int) < (↑(List.length l + 3) : Int))) false, .n (List.length (List.map Entity.enc l)) (List.length l), .i IntKind.i64 ((↑(List.length l) : Int) + 3) ((↑(List.length l + 3) : Int))]) (by kernel_rfl) ⟨o_l (nm_eq (nm_take (nm_drop rfl)) (by kernel_rfl)), o_a hp, o_b (by kernel_rfl), o_b (by kernel_rfl), o_n (by simp), o_n (by simp), o_i (w64 (by omega)), f_brp (by omega), o_n (by simp), o_i (w64 (by omega)), trivial⟩ ?_
  refine gs (l := [.w ((0 : Int) ≤ (↑(List.length l + (3 : Nat)) : Int)), .n (Int.toNat (↑(List.length l + 3) : Int)) (List.length l + 3), .b (decide (0 = 0)) true, .w ((0 : Nat) ≤ List.length l + (3 : Nat) ∧ (0 : Nat) + (List.length l + (3 : Nat)) ≤ List.length (List.map Entity.enc (l ++ [f, f, f]))), .l 0, .n (List.length l + 3 - 0) (List.length l + 3), .n (List.length (List.map Entity.enc l)) (List.length l), .a (Task.loop 30 [0, 1, 0, 1, 1, 1] 1 [V.ptr 1 0 0, vb false, V.sl 0 0 (List.length l + 3) none, vi (↑(List.length l) : Int)] [Ob.arr 9 (List.map Entity.enc (l ++ [f, f, f])) (some 0) r, Ob.one 9 (V.t (Entity.enc f)) false]) (Res.mk (Ex.exit 0) [V.ptr 1 0 0, vb false, V.sl 0 0 (List.length l + 3) none, vi (↑(List.length l + 3) : Int)] [Ob.arr 9 (List.map Entity.enc (l ++ [f, f, f])) (some 0) r, Ob.one 9 (V.t (Entity.enc f)) false])]) (by kernel_rfl) ⟨o_w (by omega), o_n (by kernel_rfl), o_b (by kernel_rfl), o_w ⟨(by omega), (by simp)⟩, o_n (by kernel_rfl), o_n (by simp), o_a h, trivial⟩ ?_
  refine rt (a := Res.mk Ex.ret [vb true] [Ob.arr 9 (List.map Entity.enc (l ++ [f, f, f])) (some 0) r]) (by kernel_rfl) ?_
  rfl
theorem f_jousthelp_Kept_loop_Cross (l : List Cross) (f : Cross) (hn : l.length ≤ 1000) (r : Bool) : ∀ (d i : Nat), l.length ≤ i → i + d = l.length + 3 →
    Is cx (.loop 43 [0, 1, 0, 1, 1, 1] 1 [.ptr 1 0 0, vb false, .sl 0 0 (l.length + 3) none, vi i] [.arr 15 ((l ++ [f, f, f]).map Cross.enc) (some 0) r, .one 15 (.t f.enc) false])
      ⟨.exit 0, [.ptr 1 0 0, vb false, .sl 0 0 (l.length + 3) none, vi (l.length + 3 : Nat)], [.arr 15 ((l ++ [f, f, f]).map Cross.enc) (some 0) r, .one 15 (.t f.enc) false]⟩ := by
  intro d
  induction d with
  | zero =>
    intro i hi hd
    refine Wp.ev ?_
    refine gs (l := [.l (List.length l + 3), .b (decide ((↑i : Int) < (↑(List.length l + 3) : Int))) false]) (by kernel_rfl) ⟨f_brp (by omega), trivial⟩ ?_
    refine rt (a := Res.mk (Ex.exit 0) [V.ptr 1 0 0, vb false, V.sl 0 0 (List.length l + 3) none, vi (↑i : Int)] [Ob.arr 15 (List.map Cross.enc (l ++ [f, f, f])) (some 0) r, Ob.one 15 (V.t (Cross.enc f)) false]) (by kernel_rfl) ?_
    ((have hq : i = l.length + 3 := by omega); subst hq; rfl)
  | succ d ih =>
    intro i hi hd
    have ih1 := ih (i + 1) (by omega) (by omega)
    clear ih
    have hx : (l ++ [f, f, f])[i]? = some f := by
      rw [List.getElem?_append_right hi]
      have : i - l.length = 0 ∨ i - l.length = 1 ∨ i - l.length = 2 := by omega
      rcases this with h | h | h <;> rw [h] <;> rfl
    have ht : teq f.enc f.enc = true := by rw [teq_iff]
    refine Wp.ev ?_
    refine gs (l := [.l (List.length l + 3), .b (decide ((↑i : Int) < (↑(List.length l + 3) : Int))) true, .w ((0 : Int) ≤ (↑i : Int)), .n (Int.toNat (↑i : Int)) i, .w (i < List.length l + (3 : Nat)), .n (0 + i) i, .g (List.map Cross.enc (l ++ [f, f, f])) i (Cross.enc f), .w (conform cx (40 : Nat) (55 : Nat) (T.agg [ti f.kind, ti f.frm, ti f.to, ti f.frame, ti f.ent.id, ti f.ent.kind, ti f.ent.x, ti f.ent.y, ti f.ent.vx, ti f.ent.vy, ti f.ent.health, ti f.ent.age, ti f.ent.owner, ti f.x, ti f.y]) = true ∧ conform cx (40 : Nat) (55 : Nat) (T.agg [ti f.kind, ti f.frm, ti f.to, ti f.frame, ti f.ent.id, ti f.ent.kind, ti f.ent.x, ti f.ent.y, ti f.ent.vx, ti f.ent.vy, ti f.ent.health, ti f.ent.age, ti f.ent.owner, ti f.x, ti f.y]) = true), .b (!teq (Cross.enc f) (Cross.enc f)) false, .i IntKind.i64 ((↑i : Int) + 1) ((↑(i + 1) : Int)), .a (Task.loop 43 [0, 1, 0, 1, 1, 1] 1 [V.ptr 1 0 0, vb false, V.sl 0 0 (List.length l + 3) none, vi (↑(i + 1) : Int)] [Ob.arr 15 (List.map Cross.enc (l ++ [f, f, f])) (some 0) r, Ob.one 15 (V.t (Cross.enc f)) false]) (Res.mk (Ex.exit 0) [V.ptr 1 0 0, vb false, V.sl 0 0 (List.length l + 3) none, vi (↑(List.length l + 3) : Int)] [Ob.arr 15 (List.map Cross.enc (l ++ [f, f, f])) (some 0) r, Ob.one 15 (V.t (Cross.enc f)) false])]) (by kernel_rfl) ⟨t_brp (by omega), o_w (by omega), o_n (by kernel_rfl), o_w (by omega), o_n (by omega), o_gm rfl hx (by intro h; cases h), o_w ⟨(by kernel_rfl), (by kernel_rfl)⟩, f_brnot (by assumption), o_i (w64 (by omega)), o_a ih1, trivial⟩ ?_
    refine rt (a := Res.mk (Ex.exit 0) [V.ptr 1 0 0, vb false, V.sl 0 0 (List.length l + 3) none, vi (↑(List.length l + 3) : Int)] [Ob.arr 15 (List.map Cross.enc (l ++ [f, f, f])) (some 0) r, Ob.one 15 (V.t (Cross.enc f)) false]) (by kernel_rfl) ?_
    rfl
theorem f_jousthelp_Kept_Cross (l : List Cross) (f : Cross) (hn : l.length ≤ 1000) (r : Bool) : Is cx (.call 43 [.sl 0 0 l.length none, .t (.sl 15 (l.map Cross.enc)), .t f.enc] [.arr 15 ((l ++ [f, f, f]).map Cross.enc) (some 0) r])
      ⟨.ret, [vb true], [.arr 15 ((l ++ [f, f, f]).map Cross.enc) (some 0) r]⟩ := by
  have h := f_jousthelp_Kept_loop_Cross l f hn r 3 l.length (Nat.le_refl _) rfl
  have hs : small l := by unfold small; omega
  have he : (l ++ [f, f, f]).take l.length = l := by simp
  have hp := f_jousthelp_Plain_Cross ((l ++ [f, f, f]).take l.length) l (by rw [he]; exact hs)
  have e : plain ((l ++ [f, f, f]).take l.length) l = true := by rw [he]; simp [plain]
  rw [e] at hp
  refine Wp.ev ?_
  refine gs (l := [.t (T.sl 15 (List.take (List.length l) (List.drop 0 (List.map Cross.enc (l ++ [f, f, f]))))) (T.sl 15 (List.map Cross.enc (List.take (List.length l) (l ++ [f, f, f])))), .a (Task.call 33 [V.t (T.sl 15 (List.map Cross.enc (List.take (List.length l) (l ++ [f, f, f])))), V.t (T.sl 15 (List.map Cross.enc l))] []) (Res.mk Ex.ret [vb true] []), .b (flats [T.bool true]) true, .b (!true) false, .ff, .n (List.length (List.map Cross.enc (l ++ [f, f, f])) + 0 - 0) (List.length l + 3), .ff, .ff, .n (List.length (List.map Cross.enc l)) (List.length l), .ff, .i IntKind.i64 ((↑(List.length l) : Int) + 3) ((↑(List.length l + 3) : Int)), .ff, .ff, .b (decide ((↑(List.length l + 3) : Int) < (↑(List.length l + 3) : Int))) false, .n (List.length (List.map Cross.enc l)) (List.length l), .i IntKind.i64 ((↑(List.length l) : Int) + 3) ((↑(List.length l + 3) : Int))]) (by kernel_rfl) ⟨o_l (nm_eq (nm_take (nm_drop rfl)) (by kernel_rfl)), o_a hp, o_b (by kernel_rfl), o_b (by kernel_rfl), o_n (by simp), o_n (by simp), o_i (w64 (by omega)), f_brp (by omega), o_n (by simp), o_i (w64 (by omega)), trivial⟩ ?_
  refine gs (l := [.w ((0 : Int) ≤ (↑(List.length l + (3 : Nat)) : Int)), .n (Int.toNat (↑(List.length l + 3) : Int)) (List.length l + 3), .b (decide (0 = 0)) true, .w ((0 : Nat) ≤ List.length l + (3 : Nat) ∧ (0 : Nat) + (List.length l + (3 : Nat)) ≤ List.length (List.map Cross.enc (l ++ [f, f, f]))), .l 0, .n (List.length l + 3 - 0) (List.length l + 3), .n (List.length (List.map Cross.enc l)) (List.length l), .a (Task.loop 43 [0, 1, 0, 1, 1, 1] 1 [V.ptr 1 0 0, vb false, V.sl 0 0 (List.length l + 3) none, vi (↑(List.length l) : Int)] [Ob.arr 15 (List.map Cross.enc (l ++ [f, f, f])) (some 0) r, Ob.one 15 (V.t (Cross.enc f)) false]) (Res.mk (Ex.exit 0) [V.ptr 1 0 0, vb false, V.sl 0 0 (List.length l + 3) none, vi (↑(List.length l + 3) : Int)] [Ob.arr 15 (List.map Cross.enc (l ++ [f, f, f])) (some 0) r, Ob.one 15 (V.t (Cross.enc f)) false])]) (by kernel_rfl) ⟨o_w (by omega), o_n (by kernel_rfl), o_b (by kernel_rfl), o_w ⟨(by omega), (by simp)⟩, o_n (by kernel_rfl), o_n (by simp), o_a h, trivial⟩ ?_
  refine rt (a := Res.mk Ex.ret [vb true] [Ob.arr 15 (List.map Cross.enc (l ++ [f, f, f])) (some 0) r]) (by kernel_rfl) ?_
  rfl
end Go.Eva.S1

/- Eva, part 46: what is put into what is sorted is sorted; what is dropped, and put again. -/
namespace Go.Eva

abbrev Srt (l : List Entity) : Prop := l.Pairwise fun a b => a.id < b.id

theorem sorted_iff : ∀ {l : List Entity}, sortedL l = true ↔ Srt l
  | [] => by simp [sortedL]
  | [a] => by simp [sortedL]
  | a :: b :: r => by
    rw [sortedL, Bool.and_eq_true, decide_eq_true_eq, @sorted_iff (b :: r), Srt, Srt, List.pairwise_cons (a := a)]
    constructor
    · rintro ⟨h1, h2⟩
      refine ⟨fun x hx => ?_, h2⟩
      rcases List.mem_cons.1 hx with rfl | hx
      · exact h1
      · have := (List.pairwise_cons.1 h2).1 x hx; omega
    · rintro ⟨h1, h2⟩
      exact ⟨h1 b (List.mem_cons_self ..), h2⟩

theorem ins_nil {e : Entity} : ins [] e = [e] := rfl
theorem ins_ge {y e : Entity} {l : List Entity} (h : e.id ≤ y.id) : ins (y :: l) e = e :: y :: l := by
  unfold ins
  rw [List.findIdx?_cons, show decide (y.id ≥ e.id) = true by simpa using h]
  rfl
theorem ins_lt {y e : Entity} {l : List Entity} (h : y.id < e.id) : ins (y :: l) e = y :: ins l e := by
  unfold ins
  rw [List.findIdx?_cons, show decide (y.id ≥ e.id) = false by simpa using h]
  cases l.findIdx? fun x => decide (x.id ≥ e.id) <;> simp
theorem ins_split {e : Entity} : ∀ {a b : List Entity}, (∀ y ∈ a, y.id < e.id) → (∀ y ∈ b, e.id ≤ y.id) → ins (a ++ b) e = a ++ e :: b
  | [], [], _, _ => rfl
  | [], y :: b, _, h => ins_ge (h y (List.mem_cons_self ..))
  | y :: a, b, h, h' => by
    rw [List.cons_append, ins_lt (h y (List.mem_cons_self ..)), ins_split (fun z hz => h z (List.mem_cons_of_mem _ hz)) h', List.cons_append]
theorem ins_mem {e x : Entity} : ∀ {l : List Entity}, x ∈ ins l e ↔ x = e ∨ x ∈ l
  | [] => by simp [ins_nil]
  | y :: l => by
    rcases Int.lt_or_le y.id e.id with h | h
    · rw [ins_lt h, List.mem_cons, ins_mem, List.mem_cons]
      constructor <;> (intro h; rcases h with h | h | h <;> simp [h])
    · rw [ins_ge h]; simp
theorem ins_sorted {e : Entity} : ∀ {l : List Entity}, Srt l → (∀ x ∈ l, x.id ≠ e.id) → Srt (ins l e)
  | [], _, _ => by simp [ins_nil, Srt]
  | y :: l, h, hne => by
    obtain ⟨h1, h2⟩ := List.pairwise_cons.1 h
    rcases Int.lt_or_le y.id e.id with hy | hy
    · rw [ins_lt hy]
      refine List.pairwise_cons.2 ⟨fun x hx => ?_, ins_sorted h2 fun x hx => hne x (List.mem_cons_of_mem _ hx)⟩
      rcases ins_mem.1 hx with rfl | hx
      · exact hy
      · exact h1 x hx
    · rw [ins_ge hy]
      have hyy := hne y (List.mem_cons_self ..)
      refine List.pairwise_cons.2 ⟨fun x hx => ?_, h⟩
      rcases List.mem_cons.1 hx with rfl | hx
      · omega
      · have := h1 x hx; omega

theorem no_id {l : List Entity} {id : Int} (h : l.findIdx? (fun x => x.id == id) = none) : ∀ x ∈ l, x.id ≠ id := by
  intro x hx
  have := List.findIdx?_eq_none_iff.1 h x hx
  simpa using this
theorem an_id [Inhabited Entity] {l : List Entity} {id : Int} {k : Nat} (h : l.findIdx? (fun x => x.id == id) = some k) : k < l.length ∧ (gt l k).id = id ∧ gt l k ∈ l := by
  obtain ⟨hk, h1, _⟩ := List.findIdx?_eq_some_iff_getElem.1 h
  exact ⟨hk, by rw [gt_eq hk]; simpa using h1, gt_mem hk⟩
theorem put1_sorted {l : List Entity} {e : Entity} (h : Srt l) : Srt (put1 l e) := by
  unfold put1
  split
  · exact h
  · rename_i hq; exact ins_sorted h (no_id hq)
theorem puts_sorted {m : List Entity} : ∀ {l : List Entity}, Srt l → Srt (puts l m) := by
  induction m with
  | nil => intro l h; exact h
  | cons e m ih => intro l h; exact ih (put1_sorted h)
theorem put1_sub {l : List Entity} {e : Entity} : ∀ x ∈ l, x ∈ put1 l e := by
  intro x hx
  unfold put1
  split
  · exact hx
  · exact ins_mem.2 (.inr hx)
theorem put1_mem {l : List Entity} {e : Entity} : ∃ x ∈ put1 l e, x.id = e.id := by
  unfold put1
  split
  · rename_i k h
    obtain ⟨_, h1, h2⟩ := an_id h
    exact ⟨_, h2, h1⟩
  · exact ⟨e, ins_mem.2 (.inl rfl), rfl⟩
theorem puts_sub {m : List Entity} : ∀ {l : List Entity}, ∀ x ∈ l, x ∈ puts l m := by
  induction m with
  | nil => intro l x h; exact h
  | cons e m ih => intro l x h; exact ih x (put1_sub x h)
theorem puts_mem {m : List Entity} : ∀ {l : List Entity}, ∀ e ∈ m, ∃ x ∈ puts l m, x.id = e.id := by
  induction m with
  | nil => intro l e h; simp at h
  | cons a m ih =>
    intro l e h
    rcases List.mem_cons.1 h with rfl | h
    · obtain ⟨x, h1, h2⟩ := @put1_mem l e
      exact ⟨x, puts_sub (l := put1 l e) x h1, h2⟩
    · exact ih e h
theorem has_find {l : List Entity} {id : Int} (h : ∃ x ∈ l, x.id = id) : ∃ k : Nat, l.findIdx? (fun x => x.id == id) = some k := by
  cases hq : l.findIdx? fun x => x.id == id with
  | some k => exact ⟨k, rfl⟩
  | none =>
    obtain ⟨x, hx, he⟩ := h
    exact absurd he (no_id hq x hx)
theorem put1_same {l : List Entity} {e : Entity} (h : ∃ x ∈ l, x.id = e.id) : put1 l e = l := by
  obtain ⟨k, hk⟩ := has_find h
  unfold put1
  rw [hk]
theorem puts_same {m : List Entity} : ∀ {l : List Entity}, (∀ e ∈ m, ∃ x ∈ l, x.id = e.id) → puts l m = l := by
  induction m with
  | nil => intro l _; rfl
  | cons e m ih =>
    intro l h
    show puts (put1 l e) m = l
    rw [put1_same (h e (List.mem_cons_self ..))]
    exact ih fun x hx => h x (List.mem_cons_of_mem _ hx)
theorem find_drop {l : List Entity} {id : Int} : find (drops l [id]) id = -1 := by
  unfold find
  refine pos_none (List.findIdx?_eq_none_iff.2 ?_)
  intro x hx
  have := (List.mem_filter.1 hx).2
  simp [has] at this
  simpa using fun e => this e.symm

theorem things_players {l : List Entity} : (l.countP fun e => e.kind != 1) + (l.countP fun e => e.kind == 1) = l.length := by
  induction l with
  | nil => rfl
  | cons e l ih =>
    simp only [List.countP_cons, List.length_cons]
    by_cases h : e.kind = 1
    · simp [h]; omega
    · simp [h]; omega

theorem drop_split {l : List Entity} {k : Nat} (h : Srt l) (hk : k < l.length) : drops l [(gt l k).id] = l.take k ++ l.drop (k + 1) ∧ (∀ y ∈ l.take k, y.id < (gt l k).id) ∧ ∀ y ∈ l.drop (k + 1), (gt l k).id < y.id := by
  have e : l = l.take k ++ gt l k :: l.drop (k + 1) := by rw [← drop_gt hk, List.take_append_drop]
  have h' := h
  rw [e] at h'
  obtain ⟨_, h2, h3⟩ := List.pairwise_append.1 h'
  have h4 : ∀ y ∈ l.take k, y.id < (gt l k).id := fun y hy => h3 y hy _ (List.mem_cons_self ..)
  have h5 := (List.pairwise_cons.1 h2).1
  refine ⟨?_, h4, h5⟩
  unfold drops
  have e2 : l.filter (fun x => !has [(gt l k).id] x.id) = (l.take k ++ gt l k :: l.drop (k + 1)).filter (fun x => !has [(gt l k).id] x.id) := congrArg _ e
  rw [e2, List.filter_append, List.filter_cons]
  have f1 : (l.take k).filter (fun x => !has [(gt l k).id] x.id) = l.take k := by
    rw [List.filter_eq_self]
    intro a ha
    have := h4 a ha
    simp [has]; omega
  have f2 : (l.drop (k + 1)).filter (fun x => !has [(gt l k).id] x.id) = l.drop (k + 1) := by
    rw [List.filter_eq_self]
    intro a ha
    have := h5 a ha
    simp [has]; omega
  have f3 : (!has [(gt l k).id] (gt l k).id) = false := by simp [has]
  rw [f1, f2, f3]
  simp

theorem drop_put {l : List Entity} {k : Nat} (h : Srt l) (hk : k < l.length) : put1 (drops l [(gt l k).id]) (gt l k) = l := by
  obtain ⟨h1, h2, h3⟩ := drop_split h hk
  have hn : (drops l [(gt l k).id]).findIdx? (fun x => x.id == (gt l k).id) = none := by
    rw [List.findIdx?_eq_none_iff]
    intro x hx
    have := (List.mem_filter.1 hx).2
    simp [has] at this
    simpa using fun e => this e.symm
  unfold put1
  rw [hn]
  simp only
  rw [h1, ins_split h2 fun y hy => Int.le_of_lt (h3 y hy), ← drop_gt hk, List.take_append_drop]
theorem drop_len {l : List Entity} {k : Nat} (h : Srt l) (hk : k < l.length) : (drops l [(gt l k).id]).length + 1 = l.length := by
  rw [(drop_split h hk).1]; simp; omega
theorem drop_drop {l : List Entity} {id : Int} : drops (drops l [id]) [id, id] = drops l [id] := by
  unfold drops
  rw [List.filter_filter]
  congr 1
  funext x
  simp [has]
theorem drop_sorted {l : List Entity} {ids : List Int} (h : Srt l) : Srt (drops l ids) := List.Pairwise.filter _ h
end Go.Eva

/- The statements of the entities. -/
namespace Go.Eva.S1
theorem f_joustlaw05_awake : Fn cx 13 [] (.bool true) := by
  have hs : small [(⟨5, 0, 0, 0, 0, 0, 0, 0, 0⟩ : Entity)] := by simp [small]
  have h3 := f_entity_Put [] [⟨5, 0, 0, 0, 0, 0, 0, 0, 0⟩] (by decide) (by decide)
  rw [show puts [] [⟨5, 0, 0, 0, 0, 0, 0, 0, 0⟩] = [⟨5, 0, 0, 0, 0, 0, 0, 0, 0⟩] by decide] at h3
  have h4 := f_entity_Find [⟨5, 0, 0, 0, 0, 0, 0, 0, 0⟩] 5 hs
  rw [show find [⟨5, 0, 0, 0, 0, 0, 0, 0, 0⟩] 5 = 0 by decide] at h4
  have h5 := f_entity_Sorted [] (by simp [small])
  rw [show sortedL [] = true from rfl] at h5
  refine Wp.ev ?_
  refine gs (l := [.a (Task.call 14 [V.t (T.sl 9 []), V.t (T.sl 9 [T.agg [ti 5, ti 0, ti 0, ti 0, ti 0, ti 0, ti 0, ti 0, ti 0]])] []) (Res.mk Ex.ret [V.all 0 none] [Ob.arr 9 [Entity.enc (Entity.mk 5 0 0 0 0 0 0 0 0)] none false]), .l 1, .b (1 == 1) true, .tt, .tt, .a (Task.call 16 [V.t (T.sl 9 [T.agg [ti 5, ti 0, ti 0, ti 0, ti 0, ti 0, ti 0, ti 0, ti 0]]), vi 5] []) (Res.mk Ex.ret [vi 0] []), .tt, .tt, .b (0 == 0) true, .a (Task.call 15 [V.t (T.sl 9 [])] []) (Res.mk Ex.ret [vb true] []), .tt]) (by kernel_rfl) ⟨o_a h3, o_b (by kernel_rfl), o_a h4, o_b (by kernel_rfl), o_a h5, trivial⟩ ?_
  refine rt (a := Res.mk Ex.ret [vb true] []) (by kernel_rfl) ?_
  rfl
theorem f_joustlaw05_EntitySorted_loop (l x : List Entity) (hl : l.length ≤ 40) (hx : x.length ≤ 40) (hm : ∀ e ∈ l, ∃ y ∈ x, y.id = e.id) : ∀ (d i : Nat) (r : Bool), i + d = l.length →
    ∃ r' : Bool, Is cx (.loop 3 [0, 1, 0, 1, 1, 1, 1] 0 [.t (.sl 9 (l.map Entity.enc)), vb false, .all 0 none, vi i] [.arr 9 (x.map Entity.enc) none r])
      ⟨.exit 0, [.t (.sl 9 (l.map Entity.enc)), vb false, .all 0 none, vi l.length], [.arr 9 (x.map Entity.enc) none r']⟩ := by
  intro d
  induction d with
  | zero =>
    intro i r hi
    refine ⟨r, ?_⟩
    refine Wp.ev ?_
    refine gs (l := [.n (List.length (List.map Entity.enc l)) (List.length l), .b (decide ((↑i : Int) < (↑(List.length l) : Int))) false]) (by kernel_rfl) ⟨o_n (by simp), f_brp (by omega), trivial⟩ ?_
    refine rt (a := Res.mk (Ex.exit 0) [V.t (T.sl 9 (List.map Entity.enc l)), vb false, V.all 0 none, vi (↑i : Int)] [Ob.arr 9 (List.map Entity.enc x) none r]) (by kernel_rfl) ?_
    ((have hq : i = l.length := by omega); subst hq; rfl)
  | succ d ih =>
    intro i r hi
    have hlt : i < l.length := by omega
    obtain ⟨r', ih1⟩ := ih (i + 1) true (by omega)
    refine ⟨r', ?_⟩
    clear ih
    obtain ⟨k, hk⟩ := has_find (hm _ (gt_mem hlt))
    obtain ⟨h1, h2, _⟩ := an_id hk
    have hs : small x := by unfold small; omega
    have hF := f_entity_Find x (gt l i).id hs
    rw [show find x (gt l i).id = (k : Int) from pos_some hk] at hF
    have hd : (drops x [(gt l i).id]).length ≤ x.length := List.length_filter_le ..
    have hG := f_entity_Find (drops x [(gt l i).id]) (gt l i).id (by unfold small; omega)
    rw [find_drop] at hG
    have hi1 : small [(gt l i).id] := by simp [small]
    refine Wp.ev ?_
    refine gs (l := [.n (List.length (List.map Entity.enc l)) (List.length l), .b (decide ((↑i : Int) < (↑(List.length l) : Int))) true, .w ((0 : Int) ≤ (↑i : Int)), .n (Int.toNat (↑i : Int)) i, .g (List.map Entity.enc l) i (Entity.enc (gt l i)), .a (Task.call 16 [V.t (T.sl 9 (List.map Entity.enc x)), vi (gt l i).id] []) (Res.mk Ex.ret [vi (↑k : Int)] []), .b (flats [ti (↑k : Int)]) true, .b (decide ((↑k : Int) < 0)) false, .ff, .ff, .n (List.length (List.map Entity.enc x)) (List.length x), .ff, .ff, .b (decide ((↑k : Int) ≥ (↑(List.length x) : Int))) false, .ff, .ff]) (by kernel_rfl) ⟨o_n (by simp), t_brp (by omega), o_w (by omega), o_n (by kernel_rfl), o_gt rfl (by assumption) (by intro h; cases h), o_a hF, o_b (by kernel_rfl), o_b (by kernel_rfl), o_n (by simp), f_brp (by omega), trivial⟩ ?_
    refine gs (l := [.w ((0 : Int) ≤ (↑k : Int)), .n (Int.toNat (↑k : Int)) k, .w (k < List.length (List.map Entity.enc x)), .ff, .ff, .ff, .ff, .w ((0 : Int) ≤ (↑i : Int)), .n (Int.toNat (↑i : Int)) i, .g (List.map Entity.enc l) i (Entity.enc (gt l i)), .ff, .ff, .g (List.map Entity.enc x) k (Entity.enc (gt x k)), .ff, .ff, .ff]) (by kernel_rfl) ⟨o_w (by omega), o_n (by kernel_rfl), o_w (by (simp; omega)), o_w (by omega), o_n (by kernel_rfl), o_gt rfl (by assumption) (by intro h; cases h), o_gt rfl (by assumption) (by intro h; cases h), trivial⟩ ?_
    refine gs (l := [.b ((gt x k).id != (gt l i).id) false, .ff, .ff, .ff, .w ((0 : Int) ≤ (↑i : Int)), .n (Int.toNat (↑i : Int)) i, .g (List.map Entity.enc l) i (Entity.enc (gt l i)), .ff, .ff, .ff, .ff, .w ((0 : Int) ≤ (↑i : Int)), .n (Int.toNat (↑i : Int)) i, .g (List.map Entity.enc l) i (Entity.enc (gt l i)), .ff, .ff]) (by kernel_rfl) ⟨f_brn (by assumption), o_w (by omega), o_n (by kernel_rfl), o_gt rfl (by assumption) (by intro h; cases h), o_w (by omega), o_n (by kernel_rfl), o_gt rfl (by assumption) (by intro h; cases h), trivial⟩ ?_
    refine gs (l := [.ff, .ff, .ff, .a (Task.call 17 [V.t (T.sl 9 (List.map Entity.enc x)), V.t (T.sl 1 [ti (gt l i).id])] []) (Res.mk Ex.ret [V.all 0 none] [Ob.arr 9 (List.map Entity.enc (drops x [(gt l i).id])) none false]), .ff, .a (Task.call 16 [V.t (T.sl 9 (List.map Entity.enc (drops x [(gt l i).id]))), vi (gt l i).id] []) (Res.mk Ex.ret [vi (-1)] []), .b (flats [ti (-1)]) true, .ff, .ff, .b (-1 != -1) false, .i IntKind.i64 ((↑i : Int) + 1) ((↑(i + 1) : Int)), .a (Task.loop 3 [0, 1, 0, 1, 1, 1, 1] 0 [V.t (T.sl 9 (List.map Entity.enc l)), vb false, V.all 0 none, vi (↑(i + 1) : Int)] [Ob.arr 9 (List.map Entity.enc x) none true]) (Res.mk (Ex.exit 0) [V.t (T.sl 9 (List.map Entity.enc l)), vb false, V.all 0 none, vi (↑(List.length l) : Int)] [Ob.arr 9 (List.map Entity.enc x) none r'])]) (by kernel_rfl) ⟨o_a (f_entity_Drop _ (ids := [(gt l i).id]) (by assumption) (by assumption)), o_a hG, o_b (by kernel_rfl), o_b (by kernel_rfl), o_i (w64 (by omega)), o_a ih1, trivial⟩ ?_
    refine rt (a := Res.mk (Ex.exit 0) [V.t (T.sl 9 (List.map Entity.enc l)), vb false, V.all 0 none, vi (↑(List.length l) : Int)] [Ob.arr 9 (List.map Entity.enc x) none r']) (by kernel_rfl) ?_
    rfl
theorem f_joustlaw05_EntitySorted (l : List Entity) : Fn cx 3 [.sl 9 (l.map Entity.enc)] (.bool true) := by
  have ha := f_joustlaw05_awake
  by_cases hl : l.length ≤ 40
  · have h2 := @puts_len l []
    simp only [List.length_nil, Nat.zero_add] at h2
    have hs : small (puts [] l) := by unfold small; omega
    have hS := f_entity_Sorted (puts [] l) hs
    rw [sorted_iff.2 (puts_sorted (by simp [Srt]))] at hS
    obtain ⟨r', hL⟩ := f_joustlaw05_EntitySorted_loop l (puts [] l) hl (by omega) puts_mem l.length 0 false (by omega)
    have hP := f_entity_Put (puts [] l) l (by omega) (by omega)
    rw [puts_same (l := puts [] l) puts_mem] at hP
    have hQ := f_jousthelp_Plain_Entity (puts [] l) (puts [] l) hs
    rw [show plain (puts [] l) (puts [] l) = true by simp [plain]] at hQ
    have h0 := f_entity_Put [] l (by decide) (by omega)
    refine Wp.ev ?_
    refine gs (l := [.n (List.length (List.map Entity.enc l)) (List.length l), .b (decide ((↑(List.length l) : Int) > 40)) false, .a (Task.call 14 [V.t (T.sl 9 []), V.t (T.sl 9 (List.map Entity.enc l))] []) (Res.mk Ex.ret [V.all 0 none] [Ob.arr 9 (List.map Entity.enc (puts [] l)) none false]), .a (Task.call 13 [] []) (Res.mk Ex.ret [vb true] []), .b (!true) false, .ff, .a (Task.call 15 [V.t (T.sl 9 (List.map Entity.enc (puts [] l)))] []) (Res.mk Ex.ret [vb true] []), .b (flats [T.bool true]) true, .ff, .ff, .b (!true) false, .ff, .n (List.length (List.map Entity.enc (puts [] l))) (List.length (puts [] l)), .ff, .ff, .n (List.length (List.map Entity.enc l)) (List.length l)]) (by kernel_rfl) ⟨o_n (by simp), f_brp (by omega), o_a h0, o_a ha, o_b (by kernel_rfl), o_a hS, o_b (by kernel_rfl), o_b (by kernel_rfl), o_n (by simp), o_n (by simp), trivial⟩ ?_
    refine gs (l := [.ff, .ff, .b (decide ((↑(List.length (puts [] l)) : Int) > (↑(List.length l) : Int))) false, .a (Task.loop 3 [0, 1, 0, 1, 1, 1, 1] 0 [V.t (T.sl 9 (List.map Entity.enc l)), vb false, V.all 0 none, vi 0] [Ob.arr 9 (List.map Entity.enc (puts [] l)) none false]) (Res.mk (Ex.exit 0) [V.t (T.sl 9 (List.map Entity.enc l)), vb false, V.all 0 none, vi (↑(List.length l) : Int)] [Ob.arr 9 (List.map Entity.enc (puts [] l)) none r']), .a (Task.call 14 [V.t (T.sl 9 (List.map Entity.enc (puts [] l))), V.t (T.sl 9 (List.map Entity.enc l))] []) (Res.mk Ex.ret [V.all 0 none] [Ob.arr 9 (List.map Entity.enc (puts [] l)) none false]), .a (Task.call 18 [V.t (T.sl 9 (List.map Entity.enc (puts [] l))), V.t (T.sl 9 (List.map Entity.enc (puts [] l)))] []) (Res.mk Ex.ret [vb true] []), .b (flats [T.bool true]) true]) (by kernel_rfl) ⟨f_brp (by omega), o_a hL, o_a hP, o_a hQ, o_b (by kernel_rfl), trivial⟩ ?_
    refine rt (a := Res.mk Ex.ret [vb true] []) (by kernel_rfl) ?_
    rfl
  · refine Wp.ev ?_
    refine gs (l := [.n (List.length (List.map Entity.enc l)) (List.length l), .b (decide ((↑(List.length l) : Int) > 40)) true, .a (Task.call 13 [] []) (Res.mk Ex.ret [vb true] [])]) (by kernel_rfl) ⟨o_n (by simp), t_brp (by omega), o_a ha, trivial⟩ ?_
    refine rt (a := Res.mk Ex.ret [vb true] []) (by kernel_rfl) ?_
    rfl
end Go.Eva.S1

/- Eva, part 3: how trees and objects stand in the machine's memory; what stays when memory grows or is written. -/
namespace Go.Eva
open Go.RowKit

theorem nth_eq {α : Type} (l : List α) (i : Nat) : nth l i = l[i]? := by
  induction l generalizing i with
  | nil => rfl
  | cons x r ih => cases i with
    | zero => rfl
    | succ n => simpa [nth] using ih n

/-- A tree stands for a value; the memory that it lies in is of 'F'. -/
inductive TR (F : Nat → Prop) (w : World) : T → Value → Prop
  | any (v : Value) : TR F w .any v
  | int (k : IntKind) (n : Int) : TR F w (.int k n) (.int k n)
  | bool (b : Bool) : TR F w (.bool b) (.bool b)
  | str (s : ByteArray) : TR F w (.str s) (.string s)
  | agg (vs : List T) (cs : Array Value) (hl : vs.length = cs.size) (h1 : ∀ (i : Nat) (c : Value), cs[i]? = some c → c.oneCell' = true)
      (hc : ∀ (i : Nat) x (c : Value), vs[i]? = some x → cs[i]? = some c → TR F w x c) : TR F w (.agg vs) (.agg cs)
  | slN (sz : Nat) (a : Option Addr) (cap : Nat) : TR F w (.sl sz []) (.slice a 0 cap)
  | slC (sz : Nat) (xs : List T) (b o cap : Nat) (c : Nat → Nat → Value) (hn : xs ≠ []) (hcap : xs.length ≤ cap) (hF : F b)
      (hc : ∀ i j, i < xs.length → j < sz → w.cell? ⟨b, o + i * sz + j, none⟩ = some (c i j) ∧ (c i j).oneCell' = true)
      (hl : ∀ (i : Nat) (x : T), xs[i]? = some x → x ≠ .any → x.cells.length = sz)
      (hr : ∀ (i j : Nat) (x t : T), xs[i]? = some x → x ≠ .any → x.cells[j]? = some t → TR F w t (c i j)) : TR F w (.sl sz xs) (.slice (some ⟨b, o, none⟩) xs.length cap)
  | ip (sz : Nat) (x : T) (off b o : Nat) (c : Nat → Value) (hF : F b) (hx : x ≠ .any)
      (hc : ∀ j, j < sz → w.cell? ⟨b, o + j, none⟩ = some (c j) ∧ (c j).oneCell' = true)
      (hl : x.cells.length = sz)
      (hr : ∀ (j : Nat) (t : T), x.cells[j]? = some t → TR F w t (c j)) : TR F w (.ip sz x off) (.pointer (some ⟨b, o + off, none⟩))
  | clo (f : Nat) (cs : List T) (vs : Array Value) (hl : cs.length = vs.size) (hc : ∀ (i : Nat) x (v : Value), cs[i]? = some x → vs[i]? = some v → TR F w x v) :
      TR F w (.clo f cs) (.func (.func f) #[] vs)
  | nilp : TR F w .nilp (.pointer none)
  | nilf : TR F w .nilf .nilFunc
  | nilm : TR F w .nilm (.map none)

theorem cell_of {w w' : World} {b o : Nat} (h : w'.heap[b]? = w.heap[b]?) : w'.cell? ⟨b, o, none⟩ = w.cell? ⟨b, o, none⟩ :=
  World.cell?_of_block (w := w) (a := ⟨b, o, none⟩) h

theorem TR.mono {F F' : Nat → Prop} {w w' : World} (hF : ∀ b, F b → F' b) (hw : ∀ b, F b → w'.heap[b]? = w.heap[b]?) {x : T} {v : Value} (h : TR F w x v) : TR F' w' x v := by
  induction h with
  | any v => exact .any v
  | int k n => exact .int k n
  | bool b => exact .bool b
  | str s => exact .str s
  | agg vs cs hl h1 hc ih => exact .agg vs cs hl h1 ih
  | slN sz a cap => exact .slN sz a cap
  | slC sz xs b o cap c hn hcap hFb hc hl hr ih =>
    exact .slC sz xs b o cap c hn hcap (hF _ hFb) (fun i j hi hj => by rw [cell_of (hw b hFb)]; exact hc i j hi hj) hl ih
  | ip sz x off b o c hFb hx hc hl hr ih =>
    exact .ip sz x off b o c (hF _ hFb) hx (fun j hj => by rw [cell_of (hw b hFb)]; exact hc j hj) hl ih
  | clo f cs vs hl hc ih => exact .clo f cs vs hl ih
  | nilp => exact .nilp
  | nilf => exact .nilf
  | nilm => exact .nilm

theorem TR.flat {F F' : Nat → Prop} {w w' : World} {x : T} {v : Value} (h : TR F w x v) (hf : x.flat = true) : TR F' w' x v := by
  cases h <;> simp [T.flat] at hf
  · exact .int _ _
  · exact .bool _
  · exact .str _

abbrev Io := Nat → Option Nat

/-- How many cells a block has. -/
def blk (w : World) (b : Nat) : Nat := match w.heap[b]? with
  | some (.cells c _ _) => c.size
  | _ => 0

theorem blk_of {w w' : World} {b : Nat} (h : w'.heap[b]? = w.heap[b]?) : blk w' b = blk w b := by unfold blk; rw [h]

/-- A slice of an object: where it begins, how many it has, and how far it may grow. -/
def OwnSl (ι : Io) (w : World) (H : Heap) (id off : Nat) (n : Option Nat) (lim : Option Nat) (v : Value) : Prop := match H[id]? with
  | some .dead => True
  | some (.arr sz xs _ _) => ∃ a cap, v = .slice a (n.getD xs.length) cap ∧ n.getD xs.length ≤ cap ∧ off + n.getD xs.length ≤ xs.length ∧ (match ι id with
    | none => cap = 0
    | some b => (cap = 0 ∨ a = some ⟨b, off * sz, none⟩) ∧ (match lim with
      | some l => off + cap = l ∧ l * sz ≤ blk w b
      | none => (off + cap) * sz = blk w b))
  | _ => False

def OwnPtr (ι : Io) (H : Heap) (id i j : Nat) (v : Value) : Prop := match H[id]? with
  | some .dead => True
  | some (.one _ _ _) => ∃ b, ι id = some b ∧ v = .pointer (some ⟨b, j, none⟩)
  | some (.arr sz xs _ _) => i < xs.length ∧ ∃ b, ι id = some b ∧ v = .pointer (some ⟨b, i * sz + j, none⟩)
  | none => False

inductive VR (ι : Io) (F : Nat → Prop) (w : World) (H : Heap) : V → Value → Prop
  | t (x : T) (v : Value) (h : TR F w x v) : VR ι F w H (.t x) v
  | nil : VR ι F w H .nil (.slice none 0 0)
  | fit (sz : Nat) (xs : List T) (a : Option Addr) (h : TR F w (.sl sz xs) (.slice a xs.length xs.length)) : VR ι F w H (.fit sz xs) (.slice a xs.length xs.length)
  | all (id : Nat) (lim : Option Nat) (v : Value) (h : OwnSl ι w H id 0 none lim v) : VR ι F w H (.all id lim) v
  | sl (id off len : Nat) (lim : Option Nat) (v : Value) (h : OwnSl ι w H id off (some len) lim v) : VR ι F w H (.sl id off len lim) v
  | ptr (id i j : Nat) (v : Value) (h : OwnPtr ι H id i j v) : VR ι F w H (.ptr id i j) v
  | clo (f : Nat) (cs : List V) (vs : Array Value) (hl : cs.length = vs.size) (hc : ∀ (i : Nat) x (v : Value), cs[i]? = some x → vs[i]? = some v → VR ι F w H x v) :
      VR ι F w H (.clo f cs) (.func (.func f) #[] vs)
  | agg (vs : List V) (cs : Array Value) (hl : vs.length = cs.size) (h1 : ∀ (i : Nat) (c : Value), cs[i]? = some c → c.oneCell' = true)
      (hc : ∀ (i : Nat) x (c : Value), vs[i]? = some x → cs[i]? = some c → VR ι F w H x c) : VR ι F w H (.agg vs) (.agg cs)
  | tup (vs : List V) (cs : Array Value) (hl : vs.length = cs.size) (hc : ∀ (i : Nat) x (c : Value), vs[i]? = some x → cs[i]? = some c → VR ι F w H x c) : VR ι F w H (.tup vs) (.tuple cs)

/-- The members of an object in its block. -/
def CellsR (F : Nat → Prop) (w : World) (b sz : Nat) (xs : List T) : Prop := ∃ c : Nat → Nat → Value,
  (∀ i j, i < xs.length → j < sz → w.cell? ⟨b, i * sz + j, none⟩ = some (c i j) ∧ (c i j).oneCell' = true) ∧
  (∀ (i : Nat) (x : T), xs[i]? = some x → x ≠ .any → x.cells.length = sz) ∧
  (∀ (i j : Nat) (x t : T), xs[i]? = some x → x ≠ .any → x.cells[j]? = some t → TR F w t (c i j))

def ObR (ι : Io) (F : Nat → Prop) (w : World) (H : Heap) (id : Nat) : Ob → Prop
  | .dead => True
  | .one sz v _ => v ≠ .t .any ∧ v.size = sz ∧ ∃ b val e, ι id = some b ∧ w.heap[b]? = some (.cells val.cells e (0, 0)) ∧ VR ι F w H v val ∧ val.cells.size = sz ∧ (∀ (i : Nat) (c : Value), val.cells[i]? = some c → c.oneCell' = true)
  | .arr sz xs sp _ => 0 < sz ∧ ((ι id = none ∧ xs = [] ∧ ∀ k, sp = some k → k = 0) ∨ ∃ b cs e, ι id = some b ∧ w.heap[b]? = some (.cells cs e (0, 0)) ∧
      xs.length * sz ≤ cs.size ∧ (∀ k, sp = some k → (xs.length + k) * sz = cs.size) ∧ (∃ m, cs.size = m * sz) ∧ (∀ (i : Nat) (c : Value), cs[i]? = some c → c.oneCell' = true) ∧ CellsR F w b sz xs)

def Ob.ro : Ob → Bool
  | .arr _ _ _ r => r
  | .one _ _ r => r
  | .dead => true

def Ob.isDead : Ob → Bool
  | .dead => true
  | _ => false

/-- A block that may be written. -/
def Own (ι : Io) (H : Heap) (b : Nat) : Prop := ∃ id ob, H[id]? = some ob ∧ ob.ro = false ∧ ι id = some b

structure Good (ι : Io) (F : Nat → Prop) (w : World) (H : Heap) : Prop where
  fin : ∀ b, F b → b < w.heap.size
  obj : ∀ id ob, H[id]? = some ob → ObR ι F w H id ob
  inj : ∀ i j oi oj b, H[i]? = some oi → H[j]? = some oj → oi.isDead = false → oj.isDead = false → ι i = some b → ι j = some b → i = j
  sep : ∀ b, Own ι H b → ¬ F b
  rof : ∀ id ob b, H[id]? = some ob → ob.isDead = false → ob.ro = true → ι id = some b → F b

/-- A block of an object that is. -/
def Live (ι : Io) (H : Heap) (b : Nat) : Prop := ∃ id ob, H[id]? = some ob ∧ ob.isDead = false ∧ ι id = some b

/-- Objects that stand as they stood, as far as what leads to them can tell. -/
def Like (ι ι' : Io) (w w' : World) (id : Nat) (o o' : Ob) : Prop := o' = .dead ∨ (match o with
  | .dead => o' = .dead
  | .one s _ _ => ι' id = ι id ∧ ∃ v' ro', o' = .one s v' ro'
  | .arr s xs _ _ => ι' id = ι id ∧ (∀ b, ι id = some b → blk w' b = blk w b) ∧ ∃ xs' sp' ro', o' = .arr s xs' sp' ro' ∧ xs'.length = xs.length)

theorem OwnSl.mono {ι ι' : Io} {w w' : World} {H H' : Heap} (hl : ∀ id o, H[id]? = some o → ∃ o', H'[id]? = some o' ∧ Like ι ι' w w' id o o')
    {id off : Nat} {n lim : Option Nat} {v : Value} (h : OwnSl ι w H id off n lim v) : OwnSl ι' w' H' id off n lim v := by
  unfold OwnSl at h ⊢
  cases ho : H[id]? with
  | none => simp [ho] at h
  | some o =>
    obtain ⟨o', ho', hk⟩ := hl id o ho
    rw [ho']
    rcases hk with rfl | hk
    · trivial
    · cases o with
      | dead => simp only at hk; subst hk; trivial
      | one s v r => simp [ho] at h
      | arr s xs sp ro =>
        simp only at hk
        obtain ⟨h1, h2, xs', sp', ro', rfl, hxs⟩ := hk
        rw [ho] at h
        simp only at h ⊢
        obtain ⟨a, cap, e, h3, h4, h5⟩ := h
        refine ⟨a, cap, by rw [hxs]; exact e, by rw [hxs]; exact h3, by rw [hxs]; exact h4, ?_⟩
        rw [h1]
        cases hb : ι id with
        | none => rw [hb] at h5; exact h5
        | some b =>
          rw [hb] at h5
          simp only at h5 ⊢
          rw [h2 b hb]
          exact h5

theorem OwnPtr.mono {ι ι' : Io} {w w' : World} {H H' : Heap} (hl : ∀ id o, H[id]? = some o → ∃ o', H'[id]? = some o' ∧ Like ι ι' w w' id o o')
    {id i j : Nat} {v : Value} (h : OwnPtr ι H id i j v) : OwnPtr ι' H' id i j v := by
  unfold OwnPtr at h ⊢
  cases ho : H[id]? with
  | none => simp [ho] at h
  | some o =>
    obtain ⟨o', ho', hk⟩ := hl id o ho
    rw [ho']
    rcases hk with rfl | hk
    · trivial
    · cases o with
      | dead => simp only at hk; subst hk; trivial
      | one s v r =>
        simp only at hk
        obtain ⟨h1, v', ro', rfl⟩ := hk
        rw [ho] at h
        simp only at h ⊢
        rw [h1]; exact h
      | arr s xs sp ro =>
        simp only at hk
        obtain ⟨h1, h2, xs', sp', ro', rfl, hxs⟩ := hk
        rw [ho] at h
        simp only at h ⊢
        rw [h1, hxs]; exact h

theorem VR.mono {ι ι' : Io} {F F' : Nat → Prop} {w w' : World} {H H' : Heap} (hF : ∀ b, F b → F' b) (hw : ∀ b, F b → w'.heap[b]? = w.heap[b]?)
    (hl : ∀ id o, H[id]? = some o → ∃ o', H'[id]? = some o' ∧ Like ι ι' w w' id o o') {x : V} {v : Value} (h : VR ι F w H x v) : VR ι' F' w' H' x v := by
  induction h with
  | t x v h => exact .t x v (h.mono hF hw)
  | nil => exact .nil
  | fit sz xs a h => exact .fit sz xs a (h.mono hF hw)
  | all id lim v h => exact .all id lim v (h.mono hl)
  | sl id off len lim v h => exact .sl id off len lim v (h.mono hl)
  | ptr id i j v h => exact .ptr id i j v (h.mono hl)
  | clo f cs vs hn hc ih => exact .clo f cs vs hn ih
  | agg vs cs hn h1 hc ih => exact .agg vs cs hn h1 ih
  | tup vs cs hn hc ih => exact .tup vs cs hn ih

end Go.Eva

/- Eva, part 4: what the small steps of a reading come to. -/
namespace Go.Eva
variable {S : Task → (Res → Prop) → Prop}

theorem wpQ_bind {α β : Type} (q : Q α) (f : α → Q β) : ∀ (R : β → Prop), wpQ S (q.bind f) R → wpQ S q (fun a => wpQ S (f a) R) := by
  induction q with
  | fail => exact fun _ h => h
  | ret a => exact fun _ h => h
  | ask t k ih => exact fun R ⟨R', h1, h0, h2⟩ => ⟨R', h1, h0, fun x hx => ih x R (h2 x hx)⟩
  | test b k ih => exact fun R hq => ih _ R hq
  | num kd n k ih => exact fun R hq => ih _ R hq
  | get xs i k ih => exact fun R ⟨x, h1, h0, h2⟩ => ⟨x, h1, h0, ih x R h2⟩
  | norm x k ih => exact fun R hq => ih _ R hq
  | nat n k ih => exact fun R hq => ih _ R hq
  | cap lo k ih => exact fun R hq c hc => ih c R (hq c hc)
  | want p q ih => exact fun R ⟨h1, h2⟩ => ⟨h1, ih R h2⟩
  | both p q ih1 ih2 => exact fun R ⟨h1, h2⟩ => ⟨ih1 R h1, ih2 R h2⟩

theorem bind_wpQ {α β : Type} (q : Q α) (f : α → Q β) : ∀ (R : β → Prop), wpQ S q (fun a => wpQ S (f a) R) → wpQ S (q.bind f) R := by
  induction q with
  | fail => exact fun _ h => h
  | ret a => exact fun _ h => h
  | ask t k ih => exact fun R ⟨R', h1, h0, h2⟩ => ⟨R', h1, h0, fun x hx => ih x R (h2 x hx)⟩
  | test b k ih => exact fun R hq => ih _ R hq
  | num kd n k ih => exact fun R hq => ih _ R hq
  | get xs i k ih => exact fun R ⟨x, h1, h0, h2⟩ => ⟨x, h1, h0, ih x R h2⟩
  | norm x k ih => exact fun R hq => ih _ R hq
  | nat n k ih => exact fun R hq => ih _ R hq
  | cap lo k ih => exact fun R hq c hc => ih c R (hq c hc)
  | want p q ih => exact fun R ⟨h1, h2⟩ => ⟨h1, ih R h2⟩
  | both p q ih1 ih2 => exact fun R ⟨h1, h2⟩ => ⟨ih1 R h1, ih2 R h2⟩

theorem wpQ_post {α : Type} (q : Q α) : ∀ (R R' : α → Prop), (∀ a, R a → R' a) → wpQ S q R → wpQ S q R' := by
  induction q with
  | fail => exact fun _ _ _ h => h
  | ret a => exact fun _ _ h k => h _ k
  | ask t k ih => exact fun R R' h ⟨R0, h1, h0, h2⟩ => ⟨R0, h1, h0, fun x hx => ih x R R' h (h2 x hx)⟩
  | test b k ih => exact fun R R' h hq => ih _ R R' h hq
  | num kd n k ih => exact fun R R' h hq => ih _ R R' h hq
  | get xs i k ih => exact fun R R' h ⟨x, h1, h0, h2⟩ => ⟨x, h1, h0, ih x R R' h h2⟩
  | norm x k ih => exact fun R R' h hq => ih _ R R' h hq
  | nat n k ih => exact fun R R' h hq => ih _ R R' h hq
  | cap lo k ih => exact fun R R' h hq c hc => ih c R R' h (hq c hc)
  | want p q ih => exact fun R R' h ⟨h1, h2⟩ => ⟨h1, ih R R' h h2⟩
  | both p q ih1 ih2 => exact fun R R' h ⟨h1, h2⟩ => ⟨ih1 R R' h h1, ih2 R R' h h2⟩

theorem wpQ_some {α : Type} (q : Q α) : ∀ (R : α → Prop), wpQ S q R → ∃ a, R a := by
  induction q with
  | fail => exact fun _ h => h.elim
  | ret a => exact fun _ h => ⟨a, h⟩
  | ask t k ih => exact fun R ⟨R', h1, ⟨x, hx⟩, h2⟩ => ih x R (h2 x hx)
  | test b k ih => exact fun R hq => ih _ R hq
  | num kd n k ih => exact fun R hq => ih _ R hq
  | get xs i k ih => exact fun R ⟨x, h1, h0, h2⟩ => ih x R h2
  | norm x k ih => exact fun R hq => ih _ R hq
  | nat n k ih => exact fun R hq => ih _ R hq
  | cap lo k ih => exact fun R hq => ih lo R (hq lo (Nat.le_refl _))
  | want p q ih => exact fun R ⟨h1, h2⟩ => ih R h2
  | both p q ih1 ih2 => exact fun R ⟨h1, _⟩ => ih1 R h1

theorem wp_force {v : V} {R : V → Prop} (h : wpQ S (force v) R) : R v := by cases v <;> exact h
theorem wp_forceT {x : T} {R : T → Prop} (h : wpQ S (forceT x) R) : R x := by cases x <;> exact h

theorem wp_litN {n : Nat} {R : Nat → Prop} (h : wpQ S (litN n) R) : R n := by
  unfold litN at h
  split at h <;> exact h

theorem wp_forceN {l : List Nat} {R : List Nat → Prop} (h : wpQ S (forceN l) R) : R l := by
  induction l generalizing R with
  | nil => exact h
  | cons x r ih =>
    have h1 := wp_litN (wpQ_bind _ _ _ h)
    exact ih (wpQ_bind _ _ _ h1)

theorem wp_cutT {l : List T} {off n : Nat} {R : List T → Prop} (h : wpQ S (cutT l off n) R) : R ((l.drop off).take n) ∧ off + n ≤ l.length ∨ (n = 0 ∧ R []) := by
  induction l generalizing off n R with
  | nil => cases n with
    | zero => exact .inr ⟨rfl, h⟩
    | succ n => exact (show False from h).elim
  | cons x r ih => cases n with
    | zero => exact .inr ⟨rfl, by cases off <;> exact h⟩
    | succ n => cases off with
      | zero =>
        have h1 := wp_forceT (wpQ_bind _ _ _ h)
        have h2 := wpQ_bind _ _ _ h1
        rcases ih h2 with ⟨h3, h4⟩ | ⟨rfl, h3⟩
        · exact .inl ⟨by simpa using (show R _ from h3), by simp; omega⟩
        · exact .inl ⟨by simpa using (show R _ from h3), by simp⟩
      | succ off =>
        rcases ih (off := off) (n := n + 1) h with ⟨h3, h4⟩ | ⟨h3, _⟩
        · exact .inl ⟨by simpa using h3, by simp at h4 ⊢; omega⟩
        · omega

theorem wp_cutV {l : List V} {off n : Nat} {R : List V → Prop} (h : wpQ S (cutV l off n) R) : R ((l.drop off).take n) ∧ off + n ≤ l.length ∨ (n = 0 ∧ R []) := by
  induction l generalizing off n R with
  | nil => cases n with
    | zero => exact .inr ⟨rfl, h⟩
    | succ n => exact (show False from h).elim
  | cons x r ih => cases n with
    | zero => exact .inr ⟨rfl, by cases off <;> exact h⟩
    | succ n => cases off with
      | zero =>
        have h1 := wp_force (wpQ_bind _ _ _ h)
        have h2 := wpQ_bind _ _ _ h1
        rcases ih h2 with ⟨h3, h4⟩ | ⟨rfl, h3⟩
        · exact .inl ⟨by simpa using (show R _ from h3), by simp; omega⟩
        · exact .inl ⟨by simpa using (show R _ from h3), by simp⟩
      | succ off =>
        rcases ih (off := off) (n := n + 1) h with ⟨h3, h4⟩ | ⟨h3, _⟩
        · exact .inl ⟨by simpa using h3, by simp at h4 ⊢; omega⟩
        · omega

theorem wp_addH {o : Ob} : ∀ {H : Heap} {n : Nat} {R : Nat × Heap → Prop}, wpQ S (addH H o n) R → R (n + H.length, H ++ [o])
  | [], n, R, h => by
    have h1 := wp_litN (wpQ_bind _ _ _ h)
    have h2 : R (n, [o]) := h1
    simpa using h2
  | x :: r, n, R, h => by
    have h1 := wp_addH (wpQ_bind _ _ _ h)
    have h2 : R _ := h1
    have e : n + 1 + r.length = n + (x :: r).length := by simp; omega
    rw [e] at h2
    exact h2

/-- What is known of the room. -/
def RmR (lim sp : Option Nat) : Rm → Prop
  | .no => lim = none → sp = none
  | .full => sp = some 0
  | .more k => sp = some k ∧ k ≠ 0

theorem wp_spL {α : Type} {lim sp : Option Nat} {g : Rm → Q α} {R : α → Prop} (h : wpQ S (spL lim sp g) R) : ∃ r, wpQ S (g r) R ∧ RmR lim sp r := by
  unfold spL at h
  split at h
  · exact ⟨_, h, fun h => nomatch h⟩
  · split at h
    · exact ⟨_, h, fun _ => rfl⟩
    · rename_i k
      by_cases hk : k = 0
      · subst hk; exact ⟨.full, h, rfl⟩
      · simp only [wpQ, hk, decide_false] at h
        exact ⟨_, h, rfl, hk⟩

theorem wp_alloc {o : Ob} {H : Heap} {R : Nat × Heap → Prop} (h : wpQ S (alloc o H) R) : R (H.length, H ++ [o]) := by
  have := wp_addH h
  simpa using this

theorem wp_setH {o : Ob} : ∀ {H : Heap} {n : Nat} {R : Heap → Prop}, wpQ S (setH H n o) R → n < H.length ∧ R (H.set n o)
  | [], n, R, h => by cases n <;> exact (show False from h).elim
  | x :: r, 0, R, h => ⟨by simp, h⟩
  | x :: r, n + 1, R, h => by
    obtain ⟨h1, h2⟩ := wp_setH (wpQ_bind _ _ _ h)
    exact ⟨by simp; omega, h2⟩

/-- Writing over, cell by cell. -/
theorem over_get {α : Type} : ∀ (l : List α) (j : Nat) (ys : List α), j + ys.length ≤ l.length → ∀ i, (over l j ys)[i]? = if j ≤ i ∧ i < j + ys.length then ys[i - j]? else l[i]?
  | l, j, [], _, i => by
    simp only [over, List.length_nil, Nat.add_zero]
    rw [if_neg (by omega)]
  | [], j, y :: ys, h, i => by simp at h
  | x :: r, j + 1, y :: ys, h, i => by
    simp only [over]
    cases i with
    | zero => simp
    | succ i =>
      have := over_get r j (y :: ys) (by simp at h ⊢; omega) i
      simp only [List.getElem?_cons_succ, this]
      by_cases hc : j ≤ i ∧ i < j + (y :: ys).length
      · rw [if_pos hc, if_pos (by simp at hc ⊢; omega)]; congr 1; omega
      · rw [if_neg hc, if_neg (by simp at hc ⊢; omega)]
  | x :: r, 0, y :: ys, h, i => by
    simp only [over]
    cases i with
    | zero => simp
    | succ i =>
      have := over_get r 0 ys (by simp at h ⊢; omega) i
      simp only [List.getElem?_cons_succ, this]
      by_cases hc : 0 ≤ i ∧ i < 0 + ys.length
      · rw [if_pos hc, if_pos (by simp at hc ⊢; omega)]; simp
      · rw [if_neg hc, if_neg (by simp at hc ⊢; omega)]

theorem over_len {α : Type} : ∀ (l : List α) (j : Nat) (ys : List α), j + ys.length ≤ l.length → (over l j ys).length = l.length
  | l, j, [], _ => by simp [over]
  | [], j, y :: ys, h => by simp at h
  | x :: r, j + 1, y :: ys, h => by simp only [over, List.length_cons]; rw [over_len r j (y :: ys) (by simp at h ⊢; omega)]
  | x :: r, 0, y :: ys, h => by simp only [over, List.length_cons]; rw [over_len r 0 ys (by simp at h ⊢; omega)]

theorem mem_iff {l : List Nat} {i : Nat} : mem l i = true ↔ i ∈ l := by
  induction l with
  | nil => simp [mem]
  | cons x r ih =>
    unfold mem
    cases h : Nat.beq x i with
    | true => have := Nat.eq_of_beq_eq_true h; simp [this]
    | false => have := Nat.ne_of_beq_eq_false h; simp [ih]; intro e; exact absurd e.symm this

theorem allT_some : ∀ {vs : List V} {l : List T}, allT vs = some l → vs = l.map .t
  | [], l, h => by simp [allT] at h; subst h; rfl
  | v :: r, l, h => by
    cases v <;> simp only [allT] at h <;> try contradiction
    split at h
    · rename_i l' hl'
      simp at h; subst h
      rw [allT_some hl']; rfl
    · contradiction

end Go.Eva

/- Eva, part 5: steps of a running call: what they keep. -/
namespace Go.Eva
open Go.RowKit

structure Step (ι : Io) (F : Nat → Prop) (H : Heap) (w : World) (ι' : Io) (F' : Nat → Prop) (H' : Heap) (w' : World) : Prop where
  os : w'.os = w.os
  tape : w'.tape = w.tape
  output : w'.output = w.output
  size : w.heap.size ≤ w'.heap.size
  same : ∀ b, b < w.heap.size → ¬ Own ι H b → w'.heap[b]? = w.heap[b]?
  own : ∀ b, b < w.heap.size → Own ι' H' b → Own ι H b
  fsub : ∀ b, F b → F' b
  ffr : ∀ b, b < w.heap.size → F' b → F b ∨ Own ι H b
  like : ∀ id o, H[id]? = some o → ∃ o', H'[id]? = some o' ∧ Like ι ι' w w' id o o'
  live : ∀ b, b < w.heap.size → Live ι' H' b → Live ι H b

theorem Like.refl (ι : Io) (w : World) (id : Nat) (o : Ob) : Like ι ι w w id o o := by
  unfold Like
  cases o with
  | dead => exact .inl rfl
  | one s v r => exact .inr ⟨rfl, v, r, rfl⟩
  | arr s xs sp r => exact .inr ⟨rfl, fun _ _ => rfl, xs, sp, r, rfl, rfl⟩

theorem Like.trans {ι ι1 ι2 : Io} {w w1 w2 : World} {id : Nat} {o o1 o2 : Ob} (h : Like ι ι1 w w1 id o o1) (k : Like ι1 ι2 w1 w2 id o1 o2) : Like ι ι2 w w2 id o o2 := by
  unfold Like at *
  rcases k with rfl | k
  · exact .inl rfl
  rcases h with rfl | h
  · simp only at k; exact .inl k
  cases o with
  | dead => simp only at h; subst h; simp only at k; exact .inl k
  | one s v r =>
    obtain ⟨h1, v1, r1, rfl⟩ := h
    obtain ⟨k1, v2, r2, rfl⟩ := k
    exact .inr ⟨k1.trans h1, v2, r2, rfl⟩
  | arr s xs sp r =>
    obtain ⟨h1, h2, xs1, sp1, r1, rfl, h3⟩ := h
    obtain ⟨k1, k2, xs2, sp2, r2, rfl, k3⟩ := k
    exact .inr ⟨k1.trans h1, fun b hb => (k2 b (h1.trans hb)).trans (h2 b hb), xs2, sp2, r2, rfl, k3.trans h3⟩

theorem Step.refl (ι : Io) (F : Nat → Prop) (H : Heap) (w : World) : Step ι F H w ι F H w :=
  ⟨rfl, rfl, rfl, Nat.le_refl _, fun _ _ _ => rfl, fun _ _ h => h, fun _ h => h, fun _ _ h => .inl h, fun _ o h => ⟨o, h, .refl ι w _ o⟩, fun _ _ h => h⟩

theorem Step.trans {ι ι1 ι2 : Io} {F F1 F2 : Nat → Prop} {H H1 H2 : Heap} {w w1 w2 : World}
    (h : Step ι F H w ι1 F1 H1 w1) (k : Step ι1 F1 H1 w1 ι2 F2 H2 w2) : Step ι F H w ι2 F2 H2 w2 where
  os := k.os.trans h.os
  tape := k.tape.trans h.tape
  output := k.output.trans h.output
  size := Nat.le_trans h.size k.size
  same b hb hn := (k.same b (Nat.lt_of_lt_of_le hb h.size) (fun ho => hn (h.own b hb ho))).trans (h.same b hb hn)
  own b hb ho := h.own b hb (k.own b (Nat.lt_of_lt_of_le hb h.size) ho)
  fsub b hb := k.fsub b (h.fsub b hb)
  ffr b hb hf := by
    rcases k.ffr b (Nat.lt_of_lt_of_le hb h.size) hf with h1 | h1
    · exact h.ffr b hb h1
    · exact .inr (h.own b hb h1)
  like id o ho := by
    obtain ⟨o1, h1, h2⟩ := h.like id o ho
    obtain ⟨o2, k1, k2⟩ := k.like id o1 h1
    exact ⟨o2, k1, h2.trans k2⟩
  live b hb ho := h.live b hb (k.live b (Nat.lt_of_lt_of_le hb h.size) ho)

theorem Step.fsame {ι ι' : Io} {F F' : Nat → Prop} {H H' : Heap} {w w' : World} (hg : Good ι F w H) (h : Step ι F H w ι' F' H' w') : ∀ b, F b → w'.heap[b]? = w.heap[b]? :=
  fun b hb => h.same b (hg.fin b hb) (fun ho => hg.sep b ho hb)

/-- What stood for a value stands for it still. -/
theorem Step.vr {ι ι' : Io} {F F' : Nat → Prop} {H H' : Heap} {w w' : World} (hg : Good ι F w H) (h : Step ι F H w ι' F' H' w') {x : V} {v : Value} (hv : VR ι F w H x v) : VR ι' F' w' H' x v :=
  hv.mono h.fsub (h.fsame hg) h.like

theorem Like.dead {ι ι' : Io} {w w' : World} {id : Nat} {o o' : Ob} (h : Like ι ι' w w' id o o') (hd : o'.isDead = false) : o.isDead = false ∧ ι' id = ι id := by
  unfold Like at h
  rcases h with rfl | h
  · simp [Ob.isDead] at hd
  · cases o with
    | dead => simp only at h; subst h; simp [Ob.isDead] at hd
    | one s v r => exact ⟨rfl, h.1⟩
    | arr s xs sp r => exact ⟨rfl, h.1⟩

/-- From one state to a later one: the first objects stand. -/
structure Ext (keep : Nat) (ι : Io) (F : Nat → Prop) (H : Heap) (w : World) (ι' : Io) (F' : Nat → Prop) (H' : Heap) (w' : World) : Prop where
  os : w'.os = w.os
  tape : w'.tape = w.tape
  output : w'.output = w.output
  size : w.heap.size ≤ w'.heap.size
  same : ∀ b, b < w.heap.size → ¬ Own ι H b → w'.heap[b]? = w.heap[b]?
  own : ∀ b, b < w.heap.size → Own ι' H' b → Own ι H b
  fsub : ∀ b, F b → F' b
  ffr : ∀ b, b < w.heap.size → F' b → F b ∨ Own ι H b
  like : ∀ id o, id < keep → H[id]? = some o → ∃ o', H'[id]? = some o' ∧ Like ι ι' w w' id o o'
  live : ∀ b, b < w.heap.size → Live ι' H' b → Live ι H b

theorem Step.ext {ι ι' : Io} {F F' : Nat → Prop} {H H' : Heap} {w w' : World} (h : Step ι F H w ι' F' H' w') (keep : Nat) : Ext keep ι F H w ι' F' H' w' :=
  ⟨h.os, h.tape, h.output, h.size, h.same, h.own, h.fsub, h.ffr, fun id o _ ho => h.like id o ho, h.live⟩

theorem Ext.step {ι ι' : Io} {F F' : Nat → Prop} {H H' : Heap} {w w' : World} {keep : Nat} (h : Ext keep ι F H w ι' F' H' w') (hk : H.length ≤ keep) : Step ι F H w ι' F' H' w' :=
  ⟨h.os, h.tape, h.output, h.size, h.same, h.own, h.fsub, h.ffr, fun id o ho => h.like id o (Nat.lt_of_lt_of_le (List.getElem?_eq_some_iff.1 ho).1 hk) ho, h.live⟩

theorem Ext.trans {keep : Nat} {ι ι1 ι2 : Io} {F F1 F2 : Nat → Prop} {H H1 H2 : Heap} {w w1 w2 : World}
    (h : Ext keep ι F H w ι1 F1 H1 w1) (k : Ext keep ι1 F1 H1 w1 ι2 F2 H2 w2) : Ext keep ι F H w ι2 F2 H2 w2 where
  os := k.os.trans h.os
  tape := k.tape.trans h.tape
  output := k.output.trans h.output
  size := Nat.le_trans h.size k.size
  same b hb hn := (k.same b (Nat.lt_of_lt_of_le hb h.size) (fun ho => hn (h.own b hb ho))).trans (h.same b hb hn)
  own b hb ho := h.own b hb (k.own b (Nat.lt_of_lt_of_le hb h.size) ho)
  fsub b hb := k.fsub b (h.fsub b hb)
  ffr b hb hf := by
    rcases k.ffr b (Nat.lt_of_lt_of_le hb h.size) hf with h1 | h1
    · exact h.ffr b hb h1
    · exact .inr (h.own b hb h1)
  like id o hid ho := by
    obtain ⟨o1, h1, h2⟩ := h.like id o hid ho
    obtain ⟨o2, k1, k2⟩ := k.like id o1 hid h1
    exact ⟨o2, k1, h2.trans k2⟩
  live b hb ho := h.live b hb (k.live b (Nat.lt_of_lt_of_le hb h.size) ho)

theorem CellsR.mono {F F' : Nat → Prop} {w w' : World} (hF : ∀ b, F b → F' b) (hw : ∀ b, F b → w'.heap[b]? = w.heap[b]?) {b sz : Nat} {xs : List T} (hb : w'.heap[b]? = w.heap[b]?)
    (h : CellsR F w b sz xs) : CellsR F' w' b sz xs := by
  obtain ⟨c, h1, h2, h3⟩ := h
  exact ⟨c, fun i j hi hj => by rw [cell_of hb]; exact h1 i j hi hj, h2, fun i j x t hx hn ht => (h3 i j x t hx hn ht).mono hF hw⟩

theorem ObR.mono {ι ι' : Io} {F F' : Nat → Prop} {w w' : World} {H H' : Heap} (hF : ∀ b, F b → F' b) (hw : ∀ b, F b → w'.heap[b]? = w.heap[b]?)
    (hl : ∀ id o, H[id]? = some o → ∃ o', H'[id]? = some o' ∧ Like ι ι' w w' id o o') {id : Nat} {o : Ob} (hi : o.isDead = false → ι' id = ι id) (hb : o.isDead = false → ∀ b, ι id = some b → w'.heap[b]? = w.heap[b]?)
    (h : ObR ι F w H id o) : ObR ι' F' w' H' id o := by
  cases o with
  | dead => trivial
  | one s v r =>
    obtain ⟨h1, h2, b, val, e, h3, h4, h5, h6, h7⟩ := h
    exact ⟨h1, h2, b, val, e, (hi rfl).trans h3, by rw [hb rfl b h3]; exact h4, h5.mono hF hw hl, h6, h7⟩
  | arr s xs sp r =>
    obtain ⟨h0, h⟩ := h
    refine ⟨h0, ?_⟩
    rcases h with ⟨h1, h2, h3⟩ | ⟨b, cs, e, h1, h2, h3, h4, h5, h6, h7⟩
    · exact .inl ⟨(hi rfl).trans h1, h2, h3⟩
    · exact .inr ⟨b, cs, e, (hi rfl).trans h1, by rw [hb rfl b h1]; exact h2, h3, h4, h5, h6, h7.mono hF hw (hb rfl b h1)⟩

def upd (ι : Io) (n : Nat) (b : Option Nat) : Io := fun i => if i = n then b else ι i

theorem heap_old {w : World} {o : Obj} {b : Nat} (hb : b < w.heap.size) : (w.alloc o).heap[b]? = w.heap[b]? := Below.heap_alloc w o b hb
theorem heap_new {w : World} {o : Obj} : (w.alloc o).heap[w.heap.size]? = some o := by
  show (w.heap.push o)[w.heap.size]? = _
  simp

theorem like_push {ι : Io} {w : World} {H : Heap} {ob : Ob} {o : Obj} {b : Option Nat} (hg : ∀ id o b, H[id]? = some o → o.isDead = false → ι id = some b → b < w.heap.size) :
    ∀ id o', H[id]? = some o' → ∃ o'', (H ++ [ob])[id]? = some o'' ∧ Like ι (upd ι H.length b) w (w.alloc o) id o' o'' := by
  intro id o' h
  have hid := (List.getElem?_eq_some_iff.1 h).1
  refine ⟨o', by rw [List.getElem?_append_left hid]; exact h, ?_⟩
  have hι : upd ι H.length b id = ι id := by unfold upd; rw [if_neg (by omega)]
  unfold Like
  cases o' with
  | dead => exact .inl rfl
  | one s v r => exact .inr ⟨hι, v, r, rfl⟩
  | arr s xs sp r => exact .inr ⟨hι, fun b hb => blk_of (heap_old (hg id _ b h rfl hb)), xs, sp, r, rfl, rfl⟩

theorem Good.lt {ι : Io} {F : Nat → Prop} {w : World} {H : Heap} (hg : Good ι F w H) : ∀ id o b, H[id]? = some o → o.isDead = false → ι id = some b → b < w.heap.size := by
  intro id o b h hd hb
  have ho := hg.obj id o h
  have key : ∀ cs e, w.heap[b]? = some (.cells cs e (0, 0)) → b < w.heap.size := fun cs e hc => (Array.getElem?_eq_some_iff.1 hc).1
  cases o with
  | dead => simp [Ob.isDead] at hd
  | one s v r =>
    obtain ⟨h1, h2, b', val, e, h3, h4, _⟩ := ho
    rw [hb] at h3
    obtain rfl := Option.some.inj h3
    exact key _ _ h4
  | arr s xs sp r =>
    rcases ho.2 with ⟨h1, _⟩ | ⟨b', cs, e, h1, h2, _⟩
    · rw [hb] at h1; contradiction
    · rw [hb] at h1
      obtain rfl := Option.some.inj h1
      exact key _ _ h2

theorem get_push {H : Heap} {ob o : Ob} {id : Nat} (h : (H ++ [ob])[id]? = some o) : H[id]? = some o ∨ (id = H.length ∧ o = ob) := by
  by_cases hid : id < H.length
  · rw [List.getElem?_append_left hid] at h; exact .inl h
  · rw [List.getElem?_append_right (by omega)] at h
    have : id - H.length = 0 := by
      rcases Nat.eq_zero_or_pos (id - H.length) with h0 | h0
      · exact h0
      · rw [List.getElem?_eq_none (by simp; omega)] at h; contradiction
    rw [this] at h
    simp at h
    exact .inr ⟨by omega, h.symm⟩

/-- A new object in a new block. -/
theorem alloc_own {ι : Io} {F : Nat → Prop} {w : World} {H : Heap} (hg : Good ι F w H) (ob : Ob) (cs : Array Value) (e : TypeId) (hro : ob.ro = false)
    (hob : ObR (upd ι H.length (some w.heap.size)) F (w.alloc (.cells cs e (0, 0))) (H ++ [ob]) H.length ob) :
    Good (upd ι H.length (some w.heap.size)) F (w.alloc (.cells cs e (0, 0))) (H ++ [ob]) ∧
    Step ι F H w (upd ι H.length (some w.heap.size)) F (H ++ [ob]) (w.alloc (.cells cs e (0, 0))) := by
  have hl := like_push (ob := ob) (o := .cells cs e (0, 0)) (b := some w.heap.size) hg.lt
  have hfs : ∀ b, F b → (w.alloc (.cells cs e (0, 0))).heap[b]? = w.heap[b]? := fun b hb => heap_old (hg.fin b hb)
  have old : ∀ id, id < H.length → upd ι H.length (some w.heap.size) id = ι id := fun id h => by unfold upd; rw [if_neg (by omega)]
  have new : upd ι H.length (some w.heap.size) H.length = some w.heap.size := by unfold upd; rw [if_pos rfl]
  have hown : ∀ b, b < w.heap.size → Own (upd ι H.length (some w.heap.size)) (H ++ [ob]) b → Own ι H b := by
    rintro b hb ⟨id, o, h1, h2, h3⟩
    rcases get_push h1 with h | ⟨rfl, rfl⟩
    · have hid := (List.getElem?_eq_some_iff.1 h).1
      rw [old id hid] at h3
      exact ⟨id, o, h, h2, h3⟩
    · rw [new] at h3
      have := Option.some.inj h3
      omega
  have hlive : ∀ b, b < w.heap.size → Live (upd ι H.length (some w.heap.size)) (H ++ [ob]) b → Live ι H b := by
    rintro b hb ⟨id, o, h1, h2, h3⟩
    rcases get_push h1 with h | ⟨rfl, rfl⟩
    · have hid := (List.getElem?_eq_some_iff.1 h).1
      rw [old id hid] at h3
      exact ⟨id, o, h, h2, h3⟩
    · rw [new] at h3
      have := Option.some.inj h3
      omega
  refine ⟨⟨fun b hb => by have := hg.fin b hb; simp; omega, ?_, ?_, ?_, ?_⟩, ⟨rfl, rfl, rfl, by simp, fun b hb _ => heap_old hb, hown, fun _ h => h, fun _ _ h => .inl h, hl, hlive⟩⟩
  · intro id o h
    rcases get_push h with h | ⟨rfl, rfl⟩
    · have hid := (List.getElem?_eq_some_iff.1 h).1
      exact (hg.obj id o h).mono (fun _ h => h) hfs hl (fun _ => old id hid) (fun hd b hb => heap_old (hg.lt id o b h hd hb))
    · exact hob
  · intro i j oi oj b hi hj hdi hdj bi bj
    rcases get_push hi with h | ⟨rfl, rfl⟩ <;> rcases get_push hj with h' | ⟨rfl, rfl⟩
    · have h1 := (List.getElem?_eq_some_iff.1 h).1
      have h2 := (List.getElem?_eq_some_iff.1 h').1
      rw [old _ h1] at bi; rw [old _ h2] at bj
      exact hg.inj i j oi oj b h h' hdi hdj bi bj
    · have h1 := (List.getElem?_eq_some_iff.1 h).1
      rw [old _ h1] at bi; rw [new] at bj
      have := hg.lt i oi b h hdi bi
      have := Option.some.inj bj
      omega
    · have h2 := (List.getElem?_eq_some_iff.1 h').1
      rw [old _ h2] at bj; rw [new] at bi
      have := hg.lt j oj b h' hdj bj
      have := Option.some.inj bi
      omega
    · rfl
  · intro b ho hf
    by_cases hb : b < w.heap.size
    · exact hg.sep b (hown b hb ho) hf
    · exact absurd (hg.fin b hf) hb
  · intro id o b h hd hr hb
    rcases get_push h with h | ⟨rfl, rfl⟩
    · have hid := (List.getElem?_eq_some_iff.1 h).1
      rw [old id hid] at hb
      exact hg.rof id o b h hd hr hb
    · rw [hro] at hr; contradiction

/-- An object without a block. -/
theorem alloc_none {ι : Io} {F : Nat → Prop} {w : World} {H : Heap} (hg : Good ι F w H) (s : Nat) (hs : 0 < s) :
    Good (upd ι H.length none) F w (H ++ [.arr s [] none false]) ∧ Step ι F H w (upd ι H.length none) F (H ++ [.arr s [] none false]) w := by
  have old : ∀ id, id < H.length → upd ι H.length none id = ι id := fun id h => by unfold upd; rw [if_neg (by omega)]
  have new : upd ι H.length none H.length = none := by unfold upd; rw [if_pos rfl]
  have hl : ∀ id o', H[id]? = some o' → ∃ o'', (H ++ [Ob.arr s [] none false])[id]? = some o'' ∧ Like ι (upd ι H.length none) w w id o' o'' := by
    intro id o' h
    have hid := (List.getElem?_eq_some_iff.1 h).1
    refine ⟨o', by rw [List.getElem?_append_left hid]; exact h, ?_⟩
    unfold Like
    cases o' with
    | dead => exact .inl rfl
    | one s v r => exact .inr ⟨old id hid, v, r, rfl⟩
    | arr s xs sp r => exact .inr ⟨old id hid, fun b _ => rfl, xs, sp, r, rfl, rfl⟩
  have hown : ∀ b, Own (upd ι H.length none) (H ++ [Ob.arr s [] none false]) b → Own ι H b := by
    rintro b ⟨id, o, h1, h2, h3⟩
    rcases get_push h1 with h | ⟨rfl, rfl⟩
    · have hid := (List.getElem?_eq_some_iff.1 h).1
      rw [old id hid] at h3
      exact ⟨id, o, h, h2, h3⟩
    · rw [new] at h3; contradiction
  have hlive : ∀ b, Live (upd ι H.length none) (H ++ [Ob.arr s [] none false]) b → Live ι H b := by
    rintro b ⟨id, o, h1, h2, h3⟩
    rcases get_push h1 with h | ⟨rfl, rfl⟩
    · have hid := (List.getElem?_eq_some_iff.1 h).1
      rw [old id hid] at h3
      exact ⟨id, o, h, h2, h3⟩
    · rw [new] at h3; contradiction
  refine ⟨⟨hg.fin, ?_, ?_, fun b ho hf => hg.sep b (hown b ho) hf, ?_⟩, ⟨rfl, rfl, rfl, Nat.le_refl _, fun _ _ _ => rfl, fun b _ h => hown b h, fun _ h => h, fun _ _ h => .inl h, hl, fun b _ h => hlive b h⟩⟩
  · intro id o h
    rcases get_push h with h | ⟨rfl, rfl⟩
    · have hid := (List.getElem?_eq_some_iff.1 h).1
      exact (hg.obj id o h).mono (fun _ h => h) (fun _ _ => rfl) hl (fun _ => old id hid) (fun _ _ _ => rfl)
    · exact ⟨hs, .inl ⟨new, rfl, by simp⟩⟩
  · intro i j oi oj b hi hj hdi hdj bi bj
    rcases get_push hi with h | ⟨rfl, rfl⟩ <;> rcases get_push hj with h' | ⟨rfl, rfl⟩
    · have h1 := (List.getElem?_eq_some_iff.1 h).1
      have h2 := (List.getElem?_eq_some_iff.1 h').1
      rw [old _ h1] at bi; rw [old _ h2] at bj
      exact hg.inj i j oi oj b h h' hdi hdj bi bj
    · rw [new] at bj; contradiction
    · rw [new] at bi; contradiction
    · rfl
  · intro id o b h hd hr hb
    rcases get_push h with h | ⟨rfl, rfl⟩
    · have hid := (List.getElem?_eq_some_iff.1 h).1
      rw [old id hid] at hb
      exact hg.rof id o b h hd hr hb
    · simp [Ob.ro] at hr

/-- One object turned, and at most its own block. -/
theorem set_own {ι : Io} {F : Nat → Prop} {w w' : World} {H : Heap} (hg : Good ι F w H) {id : Nat} {o o' : Ob} (ho : H[id]? = some o)
    (hos : w'.os = w.os) (htape : w'.tape = w.tape) (hout : w'.output = w.output) (hsize : w'.heap.size = w.heap.size)
    (hother : ∀ b, (o.ro = true ∨ ι id ≠ some b) → w'.heap[b]? = w.heap[b]?) (hlike : Like ι ι w w' id o o') (hro : o'.isDead = false → o'.ro = o.ro)
    (hob : (∀ i oi, H[i]? = some oi → ∃ o'', (H.set id o')[i]? = some o'' ∧ Like ι ι w w' i oi o'') → ObR ι F w' (H.set id o') id o') :
    Good ι F w' (H.set id o') ∧ Step ι F H w ι F (H.set id o') w' := by
  have hid := (List.getElem?_eq_some_iff.1 ho).1
  have hblk : ∀ i oi b, i ≠ id → H[i]? = some oi → oi.isDead = false → ι i = some b → w'.heap[b]? = w.heap[b]? := by
    intro i oi b hne hi hd hb
    refine hother b ?_
    cases hod : o.isDead with
    | true => left; cases o <;> simp_all [Ob.isDead, Ob.ro]
    | false => exact .inr (fun e => hne (hg.inj i id oi o b hi ho hd hod hb e))
  have hl : ∀ i oi, H[i]? = some oi → ∃ o'', (H.set id o')[i]? = some o'' ∧ Like ι ι w w' i oi o'' := by
    intro i oi hi
    by_cases e : i = id
    · subst e
      rw [ho] at hi
      obtain rfl := Option.some.inj hi
      exact ⟨o', by simp [hid], hlike⟩
    · refine ⟨oi, by rw [List.getElem?_set_ne (Ne.symm e)]; exact hi, ?_⟩
      unfold Like
      cases oi with
      | dead => exact .inl rfl
      | one s v r => exact .inr ⟨rfl, v, r, rfl⟩
      | arr s xs sp r => exact .inr ⟨rfl, fun b hb => blk_of (hblk i _ b e hi rfl hb), xs, sp, r, rfl, rfl⟩
  have hown : ∀ b, Own ι (H.set id o') b → Own ι H b := by
    rintro b ⟨i, oi, h1, h2, h3⟩
    by_cases e : i = id
    · subst e
      simp [hid] at h1
      subst h1
      exact ⟨i, o, ho, (hro (by cases o' <;> simp_all [Ob.ro, Ob.isDead])).symm.trans h2, h3⟩
    · rw [List.getElem?_set_ne (Ne.symm e)] at h1
      exact ⟨i, oi, h1, h2, h3⟩
  have hlive : ∀ b, Live ι (H.set id o') b → Live ι H b := by
    rintro b ⟨i, oi, h1, h2, h3⟩
    by_cases e : i = id
    · subst e
      simp [hid] at h1
      subst h1
      exact ⟨i, o, ho, (hlike.dead h2).1, h3⟩
    · rw [List.getElem?_set_ne (Ne.symm e)] at h1
      exact ⟨i, oi, h1, h2, h3⟩
  have hsame : ∀ b, b < w.heap.size → ¬ Own ι H b → w'.heap[b]? = w.heap[b]? := by
    intro b _ hn
    refine hother b ?_
    cases hr : o.ro with
    | true => exact .inl rfl
    | false => exact .inr (fun e => hn ⟨id, o, ho, hr, e⟩)
  have hfs : ∀ b, F b → w'.heap[b]? = w.heap[b]? := fun b hb => hsame b (hg.fin b hb) (fun h => hg.sep b h hb)
  refine ⟨⟨fun b hb => by rw [hsize]; exact hg.fin b hb, ?_, ?_, fun b h hf => hg.sep b (hown b h) hf, ?_⟩,
    ⟨hos, htape, hout, by omega, hsame, fun b _ h => hown b h, fun _ h => h, fun _ _ h => .inl h, hl, fun b _ h => hlive b h⟩⟩
  · intro i oi hi
    by_cases e : i = id
    · subst e
      simp [hid] at hi
      subst hi
      exact hob hl
    · rw [List.getElem?_set_ne (Ne.symm e)] at hi
      exact (hg.obj i oi hi).mono (fun _ h => h) hfs hl (fun _ => rfl) (fun hd b hb => hblk i oi b e hi hd hb)
  · have hdd : o'.isDead = false → o.isDead = false := fun h => (hlike.dead h).1
    have back : ∀ (i : Nat) (oi : Ob), (H.set id o')[i]? = some oi → oi.isDead = false → ∃ oi' : Ob, H[i]? = some oi' ∧ oi'.isDead = false := by
      intro i oi hi hd
      by_cases e : i = id
      · subst e
        simp [hid] at hi
        subst hi
        exact ⟨o, ho, hdd hd⟩
      · rw [List.getElem?_set_ne (Ne.symm e)] at hi
        exact ⟨oi, hi, hd⟩
    intro i j oi oj b hi hj hdi hdj bi bj
    obtain ⟨oi', h1, h2⟩ := back i oi hi hdi
    obtain ⟨oj', h3, h4⟩ := back j oj hj hdj
    exact hg.inj i j oi' oj' b h1 h3 h2 h4 bi bj
  · intro i oi b hi hd hr hb
    by_cases e : i = id
    · subst e
      simp [hid] at hi
      subst hi
      exact hg.rof i o b ho (hlike.dead hd).1 ((hro hd).symm.trans hr) hb
    · rw [List.getElem?_set_ne (Ne.symm e)] at hi
      exact hg.rof i oi b hi hd hr hb

/-- The world turned nowhere that matters. -/
theorem drew_own {ι : Io} {F : Nat → Prop} {w : World} {H : Heap} (hg : Good ι F w H) : Good ι F w.drew H ∧ Step ι F H w ι F H w.drew := by
  have hl : ∀ i oi, H[i]? = some oi → ∃ o'', H[i]? = some o'' ∧ Like ι ι w w.drew i oi o'' := fun i oi hi => ⟨oi, hi, Like.refl ι w i oi⟩
  exact ⟨⟨hg.fin, fun id o h => ObR.mono (w := w) (w' := w.drew) (fun _ h => h) (fun _ _ => rfl) hl (fun _ => rfl) (fun _ _ _ => rfl) (hg.obj id o h), hg.inj, hg.sep, hg.rof⟩,
    ⟨rfl, rfl, rfl, Nat.le_refl _, fun _ _ _ => rfl, fun _ _ h => h, fun _ h => h, fun _ _ h => .inl h, hl, fun _ _ h => h⟩⟩

/-- A new block that is a tree's. -/
theorem alloc_tree {ι : Io} {F : Nat → Prop} {w : World} {H : Heap} (hg : Good ι F w H) (o : Obj) :
    Good ι (fun b => F b ∨ b = w.heap.size) (w.alloc o) H ∧ Step ι F H w ι (fun b => F b ∨ b = w.heap.size) H (w.alloc o) := by
  have hl : ∀ i oi, H[i]? = some oi → ∃ o'', H[i]? = some o'' ∧ Like ι ι w (w.alloc o) i oi o'' := by
    intro i oi hi
    refine ⟨oi, hi, ?_⟩
    unfold Like
    cases oi with
    | dead => exact .inl rfl
    | one s v r => exact .inr ⟨rfl, v, r, rfl⟩
    | arr s xs sp r => exact .inr ⟨rfl, fun b hb => blk_of (heap_old (hg.lt i _ b hi rfl hb)), xs, sp, r, rfl, rfl⟩
  have hlt : ∀ b, Own ι H b → b < w.heap.size := by
    rintro b ⟨id, ob, h1, h2, h3⟩
    exact hg.lt id ob b h1 (by cases ob <;> simp_all [Ob.ro, Ob.isDead]) h3
  refine ⟨⟨?_, fun id ob h => (hg.obj id ob h).mono (fun _ h => .inl h) (fun b hb => heap_old (hg.fin b hb)) hl (fun _ => rfl) (fun hd b hb => heap_old (hg.lt id ob b h hd hb)), hg.inj, ?_, fun id ob b h hd hr hb => .inl (hg.rof id ob b h hd hr hb)⟩,
    ⟨rfl, rfl, rfl, by simp, fun b hb _ => heap_old hb, fun _ _ h => h, fun _ h => .inl h, ?_, hl, fun _ _ h => h⟩⟩
  · rintro b (h | rfl)
    · have := hg.fin b h; simp; omega
    · simp
  · rintro b ho (h | rfl)
    · exact hg.sep b ho h
    · exact absurd (hlt _ ho) (by omega)
  · rintro b hb (h | rfl)
    · exact .inl h
    · omega


/-- Blocks of some objects. -/
def Fl (ι : Io) (H : Heap) (l : List Nat) (b : Nat) : Prop := ∃ i o, i ∈ l ∧ H[i]? = some o ∧ o.isDead = false ∧ ι i = some b

theorem roAll_get : ∀ (H : Heap) (n : Nat) (l : List Nat) (i : Nat), (roAll n l H)[i]? = (H[i]?).map fun o => if n + i ∈ l then roOb o else o
  | [], n, l, i => by simp [roAll]
  | o :: r, n, l, i => by
    have key : roAll n l (o :: r) = (if n ∈ l then roOb o else o) :: roAll (n + 1) l r := by
      have e : roAll n l (o :: r) = match mem l n with | true => roOb o :: roAll (n + 1) l r | false => o :: roAll (n + 1) l r := rfl
      rw [e]
      by_cases h : n ∈ l
      · rw [if_pos h, mem_iff.2 h]
      · have : mem l n = false := by
          cases hm : mem l n with
          | true => exact absurd (mem_iff.1 hm) h
          | false => rfl
        rw [if_neg h, this]
    rw [key]
    cases i with
    | zero => simp
    | succ i =>
      simp only [List.getElem?_cons_succ, roAll_get r (n + 1) l i]
      congr 1
      funext o
      rw [show n + 1 + i = n + (i + 1) by omega]

/-- Objects that may be read alone from here on. -/
theorem ro_own {ι : Io} {F : Nat → Prop} {w : World} {H : Heap} (hg : Good ι F w H) (l : List Nat) :
    Good ι (fun b => F b ∨ Fl ι H l b) w (roAll 0 l H) ∧ Step ι F H w ι (fun b => F b ∨ Fl ι H l b) (roAll 0 l H) w := by
  have get : ∀ i o', (roAll 0 l H)[i]? = some o' → ∃ o, H[i]? = some o ∧ o' = if i ∈ l then roOb o else o := by
    intro i o' h
    rw [roAll_get] at h
    simp at h
    obtain ⟨o, h1, h2⟩ := h
    exact ⟨o, h1, h2.symm⟩
  have dead : ∀ o : Ob, (roOb o).isDead = o.isDead := fun o => by cases o <;> rfl
  have hl : ∀ i oi, H[i]? = some oi → ∃ o'', (roAll 0 l H)[i]? = some o'' ∧ Like ι ι w w i oi o'' := by
    intro i oi hi
    refine ⟨if i ∈ l then roOb oi else oi, by rw [roAll_get, hi]; simp, ?_⟩
    unfold Like
    cases oi with
    | dead => left; split <;> rfl
    | one s v r => right; refine ⟨rfl, v, ?_⟩; split <;> exact ⟨_, rfl⟩
    | arr s xs sp r => right; refine ⟨rfl, fun _ _ => rfl, xs, sp, ?_⟩; split <;> exact ⟨_, rfl, rfl⟩
  have hown : ∀ b, Own ι (roAll 0 l H) b → ∃ id o, H[id]? = some o ∧ o.ro = false ∧ ι id = some b ∧ id ∉ l := by
    rintro b ⟨i, o', h1, h2, h3⟩
    obtain ⟨o, h4, h5⟩ := get i o' h1
    split at h5
    · subst h5; cases o <;> simp [roOb, Ob.ro] at h2
    · subst h5; exact ⟨i, _, h4, h2, h3, by assumption⟩
  have hown' : ∀ b, Own ι (roAll 0 l H) b → Own ι H b := fun b h => by obtain ⟨i, o, h1, h2, h3, _⟩ := hown b h; exact ⟨i, o, h1, h2, h3⟩
  have hlive : ∀ b, Live ι (roAll 0 l H) b → Live ι H b := by
    rintro b ⟨i, o', h1, h2, h3⟩
    obtain ⟨o, h4, h5⟩ := get i o' h1
    exact ⟨i, o, h4, by subst h5; split at h2 <;> simpa [dead] using h2, h3⟩
  refine ⟨⟨?_, ?_, ?_, ?_, ?_⟩, ⟨rfl, rfl, rfl, Nat.le_refl _, fun _ _ _ => rfl, fun b _ h => hown' b h, fun _ h => .inl h, ?_, hl, fun b _ h => hlive b h⟩⟩
  · rintro b (h | ⟨i, o, _, h1, h2, h3⟩)
    · exact hg.fin b h
    · exact hg.lt i o b h1 h2 h3
  · intro id o' h
    obtain ⟨o, h1, h2⟩ := get id o' h
    have := (hg.obj id o h1).mono (F' := fun b => F b ∨ Fl ι H l b) (w' := w) (fun _ h => .inl h) (fun _ _ => rfl) hl (fun _ => rfl) (fun _ _ _ => rfl)
    subst h2
    split
    · cases o <;> exact this
    · exact this
  · intro i j oi oj b hi hj hdi hdj bi bj
    obtain ⟨oi', h1, h2⟩ := get i oi hi
    obtain ⟨oj', h3, h4⟩ := get j oj hj
    refine hg.inj i j oi' oj' b h1 h3 ?_ ?_ bi bj
    · subst h2; split at hdi <;> simpa [dead] using hdi
    · subst h4; split at hdj <;> simpa [dead] using hdj
  · rintro b ho (hf | ⟨i, o, hi, h1, h2, h3⟩)
    · exact hg.sep b (hown' b ho) hf
    · obtain ⟨j, oj, k1, k2, k3, k4⟩ := hown b ho
      have : i = j := hg.inj i j o oj b h1 k1 h2 (by cases oj <;> simp_all [Ob.ro, Ob.isDead]) h3 k3
      subst this
      exact k4 hi
  · intro id o' b h hd hr hb
    obtain ⟨o, h1, h2⟩ := get id o' h
    split at h2
    · rename_i hm
      subst h2
      exact .inr ⟨id, o, hm, h1, by simpa [dead] using hd, hb⟩
    · subst h2
      exact .inl (hg.rof id _ b h1 hd hr hb)
  · rintro b _ (hf | ⟨i, o, hi, h1, h2, h3⟩)
    · exact .inl hf
    · cases hr : o.ro with
      | true => exact .inl (hg.rof i o b h1 h2 hr h3)
      | false => exact .inr ⟨i, o, h1, hr, h3⟩

end Go.Eva

/- Eva, part 6: operations that touch no memory. -/
namespace Go.Eva
open Go.RowKit

theorem TR.int_inv {F : Nat → Prop} {w : World} {k : IntKind} {n : Int} {v : Value} (h : TR F w (.int k n) v) : v = .int k n := by cases h; rfl
theorem TR.bool_inv {F : Nat → Prop} {w : World} {b : Bool} {v : Value} (h : TR F w (.bool b) v) : v = .bool b := by cases h; rfl
theorem TR.str_inv {F : Nat → Prop} {w : World} {s : ByteArray} {v : Value} (h : TR F w (.str s) v) : v = .string s := by cases h; rfl

section
variable {ι : Io} {F : Nat → Prop} {w : World} {H : Heap}

theorem VR.t_inv {x : T} {v : Value} (h : VR ι F w H (.t x) v) : TR F w x v := by cases h; assumption

theorem constT_ok : ∀ {v : Value} {x : T}, constT v = some x → TR F w x v := by
  intro v x h
  unfold constT at h
  split at h <;> simp at h <;> subst h
  · exact .int _ _
  · exact .bool _
  · exact .str _
  · exact .nilp
  · exact .nilf
  · exact .nilm

theorem constTs_ok : ∀ {vs : List Value} {l : List T}, constTs vs = some l → vs.length = l.length ∧ ∀ (i : Nat) x c, l[i]? = some x → vs[i]? = some c → TR F w x c ∧ c.oneCell' = true
  | [], l, h => by simp [constTs] at h; subst h; simp
  | v :: r, l, h => by
    simp only [constTs] at h
    split at h
    · rename_i x l' hx hl
      simp at h; subst h
      obtain ⟨h1, h2⟩ := constTs_ok hl
      refine ⟨by simp [h1], ?_⟩
      intro i y c hy hc
      cases i with
      | zero =>
        simp at hy hc; subst hy; subst hc
        refine ⟨constT_ok hx, ?_⟩
        unfold constT at hx
        split at hx <;> simp_all [Value.oneCell']
      | succ i => simp at hy hc; exact h2 i y c hy hc
    · contradiction

theorem constV_ok (v : Value) : VR ι F w H (constV v) v := by
  unfold constV
  split
  · exact .nil
  · rename_i cs
    split
    · rename_i l hl
      obtain ⟨h1, h2⟩ := constTs_ok (F := F) (w := w) hl
      refine .t _ _ (.agg _ _ (by simpa using h1.symm) ?_ ?_)
      · intro i c hc
        have hlt : i < cs.size := (Array.getElem?_eq_some_iff.1 hc).1
        have : ∃ x, l[i]? = some x := ⟨_, List.getElem?_eq_getElem (by rw [← h1]; simpa using hlt)⟩
        obtain ⟨x, hx⟩ := this
        exact (h2 i x c hx (by simpa using hc)).2
      · intro i x c hx hc
        exact (h2 i x c hx (by simpa using hc)).1
    · exact .t _ _ (.any _)
  · split
    · rename_i x hx
      exact .t _ _ (constT_ok hx)
    · exact .t _ _ (.any _)

/-- A frame's slots and what is known of them. -/
def Sim (ι : Io) (F : Nat → Prop) (w : World) (H : Heap) (e : Env) (a : Act) : Prop := ∀ t, VR ι F w H (look e t) (a.tmps.getD t undef)

theorem eval_ok {e : Env} {a : Act} (h : Sim ι F w H e a) (x : Operand) : VR ι F w H (evalO e x) (a.eval x) := by
  cases x with
  | tmp t => exact h t
  | const v => exact constV_ok v
  | global g => exact .t _ _ (.any _)
  | func f => exact .t _ _ (.clo f [] #[] rfl (by simp))

variable {S : Task → (Res → Prop) → Prop}

theorem typed_ok {cx : Cx} {ty : Nat} {v : V} {val : Value} {R : V → Prop} (h : wpQ S (typed cx ty v) R) (hv : VR ι F w H v val) : ∃ v', R v' ∧ VR ι F w H v' val := by
  unfold typed at h
  split at h
  · split at h
    · split at h
      · have h1 := wp_litN (wpQ_bind _ _ _ h)
        cases hv
        exact ⟨_, h1, .fit _ _ _ (.slN _ _ _)⟩
      · exact h.elim
    · exact h.elim
  · exact ⟨v, wp_force h, hv⟩

theorem args_ok {cx : Cx} {e : Env} {a : Act} (hs : Sim ι F w H e a) : ∀ {xs : List Operand} {ts : List Nat} {R : List V → Prop}, wpQ S (args cx e xs ts) R →
    ∃ vs, R vs ∧ vs.length = xs.length ∧ ∀ (i : Nat) v x, vs[i]? = some v → xs[i]? = some x → VR ι F w H v (a.eval x)
  | [], ts, R, h => ⟨[], by cases ts <;> exact h, rfl, by simp⟩
  | x :: xs, [], R, h => by
    have h1 := wp_force (wpQ_bind _ _ _ h)
    obtain ⟨vs, h2, h3, h4⟩ := args_ok hs (wpQ_bind _ _ _ h1)
    refine ⟨_ :: vs, h2, by simp [h3], ?_⟩
    intro i v y hv hy
    cases i with
    | zero => simp at hv hy; subst hv; subst hy; exact eval_ok hs x
    | succ i => simp at hv hy; exact h4 i v y hv hy
  | x :: xs, t :: ts, R, h => by
    obtain ⟨v', h1, hv'⟩ := typed_ok (wpQ_bind _ _ _ h) (eval_ok hs x)
    obtain ⟨vs, h2, h3, h4⟩ := args_ok hs (wpQ_bind _ _ _ h1)
    refine ⟨_ :: vs, h2, by simp [h3], ?_⟩
    intro i v y hv hy
    cases i with
    | zero => simp at hv hy; subst hv; subst hy; exact hv'
    | succ i => simp at hv hy; exact h4 i v y hv hy
end

theorem wp_value {P : Program} {o : Oper} {a : Act} {w w' : World} {next : Act → World → Prop} {Q : Exit → Act → World → Prop} {val : Value}
    (h : (execOp a.eval o).run P w = .ok (.value val) w') (hn : next (a.put o.dst val) w') : o.wp P a w next Q := by
  unfold Oper.wp; rw [h]; exact hn

/-- Behind an operation: its value, and the state. -/
def OpPost (R : V × Heap → Prop) (o : Oper) (ι : Io) (F : Nat → Prop) (H : Heap) (w : World) (a : Act) (a' : Act) (w' : World) : Prop :=
  ∃ v H' ι' F' val, R (v, H') ∧ a' = a.put o.dst val ∧ Good ι' F' w' H' ∧ Step ι F H w ι' F' H' w' ∧ VR ι' F' w' H' v val

section
variable {P : Program} {cx : Cx} {S : Task → (Res → Prop) → Prop} {o : Oper} {e : Env} {H : Heap} {a : Act} {w : World} {ι : Io} {F : Nat → Prop} {R : V × Heap → Prop} {Q : Exit → Act → World → Prop}

/-- The operation computes a value and turns nothing; it would compute the same in all worlds of 'C'. -/
def Still (C : World → Prop) (P : Program) (R : V × Heap → Prop) (o : Oper) (ι : Io) (F : Nat → Prop) (H : Heap) (w : World) (a : Act) : Prop :=
  ∃ v H' ι' F' val, R (v, H') ∧ Good ι' F' w H' ∧ Step ι F H w ι' F' H' w ∧ VR ι' F' w H' v val ∧ ∀ w', C w' → (execOp a.eval o).run P w' = .ok (.value val) w'

theorem Still.wp {C : World → Prop} (h : Still C P R o ι F H w a) (hC : C w) : o.wp P a w (OpPost R o ι F H w a) Q := by
  obtain ⟨v, H', ι', F', val, h1, h2, h3, h4, h5⟩ := h
  exact wp_value (h5 w hC) ⟨v, H', ι', F', val, h1, rfl, h2, h3, h4⟩

def Any (_ : World) : Prop := True

theorem op_still (hg : Good ι F w H) {v : V} {val : Value} (hr : R (v, H)) (hv : VR ι F w H v val) (h : ∀ w, (execOp a.eval o).run P w = .ok (.value val) w) : Still Any P R o ι F H w a :=
  ⟨v, H, ι, F, val, hr, hg, .refl ι F H w, hv, fun w _ => h w⟩

theorem op_move (hg : Good ι F w H) (hs : Sim ι F w H e a) (x : Operand) (ho : o.op = .move x ∨ o.op = .assign x) (h : wpQ S ((typed cx o.type (evalO e x)).bind fun v => .ret (v, H)) R) :
    Still Any P R o ι F H w a := by
  obtain ⟨v, h1, h2⟩ := typed_ok (wpQ_bind _ _ _ h) (eval_ok hs x)
  refine op_still hg h1 h2 fun w => ?_
  rcases ho with ho | ho <;> (unfold execOp; rw [ho]; rfl)

theorem op_pick (hg : Good ι F w H) (hs : Sim ι F w H e a) (c x y : Operand) (ho : o.op = .pick c x y) (h : wpQ S (opQ cx o e H) R) : Still Any P R o ι F H w a := by
  unfold opQ at h
  rw [ho] at h
  simp only at h
  split at h
  · rename_i b hb
    have hc := eval_ok hs c
    rw [hb] at hc
    have hc := hc.t_inv.bool_inv
    cases b with
    | true =>
      have h1 := wp_force (wpQ_bind _ _ _ h)
      refine op_still hg h1 (eval_ok hs x) fun w => ?_
      simp [execOp, ho, hc, asBool]
    | false =>
      have h1 := wp_force (wpQ_bind _ _ _ h)
      refine op_still hg h1 (eval_ok hs y) fun w => ?_
      simp [execOp, ho, hc, asBool]
  · exact h.elim

theorem run_eqGuard_plain (op : BinOp) (t : TypeId) (x y : Operand) {u v : Value} (h : ∀ c d, ¬ (u = .agg c ∧ v = .agg d)) (h' : ¬ (u = .nilIface ∧ v = .nilIface)) : (eqGuard op t x y u v).run P w = .ok () w := by
  unfold eqGuard
  cases u <;> cases v <;> simp_all

theorem run_binOp {op : BinOp} {t : Nat} {x y : Operand} {yt : Nat} {val : Value} (ho : o.op = .binOp op t x y yt) (h : ∀ c d, ¬ (a.eval x = .agg c ∧ a.eval y = .agg d)) (h' : ¬ (a.eval x = .nilIface ∧ a.eval y = .nilIface))
    (hr : (binOp op t (a.eval x) (a.eval y)).run P w = .ok val w) : (execOp a.eval o).run P w = .ok (.value val) w := by
  unfold execOp
  rw [ho]
  simp [run_eqGuard_plain (P := P) (w := w) op t x y h h', hr]

theorem op_un (hg : Good ι F w H) (hs : Sim ι F w H e a) (op : UnOp) (t : Nat) (x : Operand) (ho : o.op = .unOp op t x) (h : wpQ S (opQ cx o e H) R) : Still Any P R o ι F H w a := by
  unfold opQ at h
  rw [ho] at h
  simp only at h
  have h1 := wpQ_bind _ _ _ h
  have hx := eval_ok hs x
  unfold unV at h1
  split at h1
  · rename_i k n hv
    rw [hv] at hx
    have hx := hx.t_inv.int_inv
    refine op_still hg h1 (.t _ _ (.int _ _)) fun w => ?_
    simp [execOp, ho, hx, Op.unary, Op.intArith]
  · rename_i k n hv
    rw [hv] at hx
    have hx := hx.t_inv.int_inv
    refine op_still hg h1 (.t _ _ (.int _ _)) fun w => ?_
    simp [execOp, ho, hx, Op.unary, Op.intBits]
  · rename_i b hv
    rw [hv] at hx
    have hx := hx.t_inv.bool_inv
    refine op_still hg h1 (.t _ _ (.bool _)) fun w => ?_
    simp [execOp, ho, hx, Op.unary]
  · exact h1.elim

theorem op_nilCheck (hg : Good ι F w H) (hs : Sim ι F w H e a) (x : Operand) (ho : o.op = .nilCheck x) (h : wpQ S (opQ cx o e H) R) : Still Any P R o ι F H w a := by
  unfold opQ at h
  rw [ho] at h
  simp only at h
  have hx := eval_ok hs x
  split at h
  · rename_i i j k hv
    rw [hv] at hx
    have : R (.ptr i j k, H) ∧ ∃ ad, a.eval x = .pointer (some ad) := by
      rw [nth_eq] at h
      cases hx with
      | ptr _ _ _ _ hp =>
        unfold OwnPtr at hp
        split at h
        · rename_i he
          rw [he] at hp
          obtain ⟨b, _, hb⟩ := hp; exact ⟨h, _, hb⟩
        · rename_i he
          rw [he] at hp
          obtain ⟨_, b, _, hb⟩ := hp; exact ⟨h, _, hb⟩
        · exact h.elim
    obtain ⟨h, ad, had⟩ := this
    refine op_still hg h hx fun w => ?_
    simp [execOp, ho, had]
  · rename_i s x' j hv
    rw [hv] at hx
    have : ∃ ad, a.eval x = .pointer (some ad) := by
      have := hx.t_inv
      generalize hq : a.eval x = q at this
      cases this with
      | ip => exact ⟨_, rfl⟩
    obtain ⟨ad, had⟩ := this
    refine op_still hg h hx fun w => ?_
    simp [execOp, ho, had]
  · rename_i f cs hv
    rw [hv] at hx
    have := hx.t_inv
    generalize hq : a.eval x = q at this hx
    cases this with
    | clo _ _ vs hl hc =>
      refine op_still hg h hx fun w => ?_
      simp [execOp, ho, hq]
  · rename_i f cs hv
    rw [hv] at hx
    generalize hq : a.eval x = q at hx
    cases hx with
    | clo _ _ vs hl hc =>
      refine op_still hg h (.clo _ _ _ hl hc) fun w => ?_
      simp [execOp, ho, hq]
  · exact h.elim

theorem op_makeFunc (hg : Good ι F w H) (hs : Sim ι F w H e a) (f : Nat) (fi cs : Array Operand) (ho : o.op = .makeFunc (.func f) fi cs) (h : wpQ S (opQ cx o e H) R) : Still Any P R o ι F H w a := by
  unfold opQ at h
  rw [ho] at h
  simp only at h
  split at h
  · rename_i hf
    obtain ⟨vs, h1, h2, h3⟩ := args_ok hs (wpQ_bind _ _ _ h)
    have hfi : fi = #[] := by simpa using hf
    subst hfi
    have hrun : ∀ w, (execOp a.eval o).run P w = .ok (.value (.func (.func f) #[] (cs.map a.eval))) w := by
      intro w
      simp [execOp, ho, Instr.makeFunc]
    have hlen : vs.length = (cs.map a.eval).size := by simpa using h2
    have hall : ∀ (i : Nat) v (c : Value), vs[i]? = some v → (cs.map a.eval)[i]? = some c → VR ι F w H v c := by
      intro i v c hv hc
      simp at hc
      obtain ⟨x, hx, rfl⟩ := hc
      exact h3 i v x hv (by simpa using hx)
    split at h1
    · rename_i l hl
      have := allT_some hl
      subst this
      refine op_still hg h1 (.t _ _ (.clo _ _ _ (by simpa using hlen) ?_)) hrun
      intro i x v hx hv
      exact (hall i (.t x) v (by simp [hx]) hv).t_inv
    · exact op_still hg h1 (.clo _ _ _ hlen hall) hrun
  · exact h.elim

theorem op_extract (hg : Good ι F w H) (hs : Sim ι F w H e a) (x : Operand) (i : Nat) (ho : o.op = .extract x i) (h : wpQ S (opQ cx o e H) R) : Still Any P R o ι F H w a := by
  unfold opQ at h
  rw [ho] at h
  simp only at h
  have hx := eval_ok hs x
  split at h
  · rename_i vs hv
    rw [hv] at hx
    generalize hq : a.eval x = q at hx
    cases hx with
    | tup _ cs hl hc =>
      split at h
      · rename_i v hn
        rw [nth_eq] at hn
        have h1 := wp_force (wpQ_bind _ _ _ h)
        have hlt := (List.getElem?_eq_some_iff.1 hn).1
        have hcs : cs[i]? = some cs[i] := by simp
        refine op_still hg h1 (hc i v _ hn hcs) fun w => ?_
        simp [execOp, ho, hq, Instr.extract, hcs]
      · exact h.elim
  · exact h.elim
end
end Go.Eva

/- Eva, part 7: the tables against the program; numbers, comparisons, fields. -/
namespace Go.Eva
open Go.RowKit

def notAgg : TypeDesc → Prop
  | .struct _ => False
  | .array _ _ => False
  | _ => True

def TyR (cx : Cx) : Ty → TypeDesc → Prop
  | .int k, d => d = .int k
  | .bool, d => d = .bool
  | .str, d => d = .string
  | .ptr, d => ∃ e, d = .pointer e
  | .fn, d => notAgg d
  | .slice e, d => d = .slice e ∧ ∃ i, cx.ti.get e = some i ∧ 0 < i.size
  | .struct fs, d => ∃ fields : Array Field, d = .struct fields ∧ fields.toList.map (fun f => (f.offset, f.type)) = fs ∧ ∀ f ∈ fields.toList, f.name ≠ "_" ∧ ∃ i, cx.ti.get f.type = some i
  | .map k e, d => d = .map k e
  | .other, d => notAgg d

def ZV (s : Nat) (z : V) (zv : Value) : Prop := (∀ ι F w H, VR ι F w H z zv) ∧ (∀ (i : Nat) c, zv.cells[i]? = some c → c.oneCell' = true) ∧ z ≠ .t .any ∧ z.size = s ∧ zv.cells.size = s

/-- What the machine does itself, by its number. -/
def ExOK (P : Program) (cx : Cx) (f : Nat) : Xf → Prop
  | .overlaps t => ∃ fn, P.funcs[f]? = some fn ∧ (fn.name == "runtime.NumGoroutine") = false ∧ fn.body.isNone = true ∧ Extern.findNext fn = none ∧ Extern.find fn = some (Extern.SlicesOverlaps.overlaps fn.params fn.resultTypes) ∧
      fn.params[0]? = some t ∧ ∃ el, elemTy cx t = some el

structure CxTy (P : Program) (cx : Cx) : Prop where
  ty : ∀ t i, cx.ti.get t = some i → ∃ inf d, P.info? t = some inf ∧ P.underlying t = some d ∧ inf.size = i.size ∧ inf.bytes = i.bytes ∧ TyR cx i.ty d ∧
    (i.eq = true → P.stoodInHeld t = false ∧ P.eqGuardType P.depth t = false) ∧ (∃ zv, inf.zero = some zv ∧ ∀ z, zeroV cx depth t = some z → ZV i.size z zv)
  zc : ∀ t i inf zv, cx.ti.get t = some i → P.info? t = some inf → inf.zero = some zv → 0 < i.bytes → zv.cells.size = i.size ∧ ∀ (j : Nat) c, zv.cells[j]? = some c → c.oneCell' = true
  orders : P.follows .mixedOrders = true
  ex : ∀ f x, exAt cx.ex f = some x → ExOK P cx f x

section
variable {P : Program} {cx : Cx} (hc : CxTy P cx)
include hc

theorem run_isAgg_ok {t : Nat} {i : TI} (h : cx.ti.get t = some i) (w : World) : (isAgg t).run P w = .ok (isStruct cx t) w := by
  obtain ⟨inf, d, h1, h2, h3, h4, h5, _⟩ := hc.ty t i h
  unfold isAgg
  rw [Sem.run_bind, run_underlying h2 w]
  simp only [Result.andThen_ok]
  have : isStruct cx t = match d with | .struct _ => true | .array _ _ => true | _ => false := by
    unfold isStruct
    rw [h]
    cases i with
    | mk ty s b eq =>
      cases ty <;> simp only [TyR] at h5 <;> first
        | (subst h5; rfl)
        | (obtain ⟨e, rfl⟩ := h5; rfl)
        | (obtain ⟨rfl, _⟩ := h5; rfl)
        | (obtain ⟨fs, rfl, _⟩ := h5; rfl)
        | (cases d <;> first | rfl | exact h5.elim)
  rw [this]
  cases d <;> rfl

theorem run_sizeOf_ok {t : Nat} {i : TI} (h : cx.ti.get t = some i) (w : World) : (Go.sizeOf t).run P w = .ok (sizeOf cx t) w := by
  obtain ⟨inf, d, h1, h2, h3, h4, h5, _⟩ := hc.ty t i h
  simp [Go.sizeOf, typeInfo, h1, h3, sizeOf, h]

theorem field_ok {t f off ft : Nat} (h : fieldAt cx t f = some (off, ft)) : ∃ fields : Array Field, ∃ fd : Field, P.underlying t = some (.struct fields) ∧ fields[f]? = some fd ∧ fd.offset = off ∧ fd.type = ft ∧ ∃ i, cx.ti.get ft = some i := by
  unfold fieldAt at h
  split at h
  · rename_i fs s b eq hget
    obtain ⟨inf, d, h1, h2, h3, h4, h5, _⟩ := hc.ty _ _ hget
    simp only [TyR] at h5
    obtain ⟨fields, rfl, hm, hall⟩ := h5
    rw [nth_eq, ← hm] at h
    simp at h
    obtain ⟨fd, hfd, h6, h7⟩ := h
    refine ⟨fields, fd, h2, by simpa using hfd, h6, h7, ?_⟩
    have hmem : fd ∈ fields.toList := by
      simp
      obtain ⟨hlt, rfl⟩ := Array.getElem?_eq_some_iff.1 hfd
      exact Array.getElem_mem hlt
    have := (hall fd hmem).2
    rwa [h7] at this
  · contradiction

theorem elem_ok {t el : Nat} (h : elemTy cx t = some el) : P.underlying t = some (.slice el) ∧ ∃ i inf, cx.ti.get el = some i ∧ 0 < i.size ∧ P.info? el = some inf ∧ inf.size = i.size ∧ inf.bytes = i.bytes ∧ sizeOf cx el = i.size ∧ bytesOf cx el = i.bytes := by
  unfold elemTy at h
  split at h
  · rename_i e' s b eq hget
    simp at h; subst h
    obtain ⟨inf, d, h1, h2, h3, h4, h5, _⟩ := hc.ty _ _ hget
    simp only [TyR] at h5
    obtain ⟨rfl, i, hi, hpos⟩ := h5
    obtain ⟨inf', d', k1, k2, k3, k4, _⟩ := hc.ty _ _ hi
    exact ⟨h2, i, inf', hi, hpos, k1, k3, k4, by simp [sizeOf, hi], by simp [bytesOf, hi]⟩
  · contradiction
end

section
variable {P : Program} {cx : Cx} {S : Task → (Res → Prop) → Prop} {o : Oper} {e : Env} {H : Heap} {a : Act} {w : World} {ι : Io} {F : Nat → Prop} {R : V × Heap → Prop} {Q : Exit → Act → World → Prop}

theorem op_convert (hc : CxTy P cx) (hg : Good ι F w H) (hs : Sim ι F w H e a) (src dst : Nat) (x : Operand) (ho : o.op = .convert src dst x) (hsrc : ∃ i, cx.ti.get src = some i) (h : wpQ S (opQ cx o e H) R) :
    Still Any P R o ι F H w a := by
  unfold opQ at h
  rw [ho] at h
  simp only at h
  have hx := eval_ok hs x
  split at h
  · rename_i k' n k hv hk
    rw [hv] at hx
    have hx := hx.t_inv.int_inv
    unfold intTy at hk
    split at hk
    · rename_i kk s b eq hget
      simp at hk; subst hk
      obtain ⟨inf, d, h1, h2, h3, h4, h5, _⟩ := hc.ty _ _ hget
      simp only [TyR] at h5
      subst h5
      obtain ⟨i', hi'⟩ := hsrc
      obtain ⟨inf', d', k1, k2, _⟩ := hc.ty _ _ hi'
      refine op_still hg h (.t _ _ (.int _ _)) fun w => ?_
      simp [execOp, ho, hx, convert, run_underlying k2, run_underlying h2, Conv.intToInt]
    · contradiction
  · exact h.elim

theorem addr_add (b o n : Nat) : (⟨b, o, none⟩ : Addr).add n = ⟨b, o + n, none⟩ := by unfold Addr.add; split <;> simp_all

theorem op_fieldAddr (hc : CxTy P cx) (hg : Good ι F w H) (hs : Sim ι F w H e a) (t : Nat) (x : Operand) (f : Nat) (ho : o.op = .fieldAddr t x f) (h : wpQ S (opQ cx o e H) R) :
    Still Any P R o ι F H w a := by
  unfold opQ at h
  rw [ho] at h
  simp only at h
  have hx := eval_ok hs x
  have run : ∀ (b j off ft : Nat), fieldAt cx t f = some (off, ft) → Nat.beq (sizeOf cx ft) 0 = false → a.eval x = .pointer (some ⟨b, j, none⟩) → ∀ w, (execOp a.eval o).run P w = .ok (.value (.pointer (some ⟨b, j + off, none⟩))) w := by
    intro b j off ft hf hz hp w
    obtain ⟨fields, fd, h1, h2, h3, h4, i, h5⟩ := field_ok hc hf
    have hsz := run_sizeOf_ok hc h5 w
    rw [← h4] at hsz
    have hnz : sizeOf cx fd.type ≠ 0 := by rw [h4]; exact Nat.ne_of_beq_eq_false hz
    simp [execOp, ho, hp, Instr.fieldAt, run_underlying h1, h2, Instr.sureAddr, fieldPlace, addr_add, h3, hsz, hnz]
  split at h
  · rename_i off ft id i j hf hv
    rw [hv] at hx
    rw [nth_eq] at h
    cases hx with
    | ptr _ _ _ _ hp =>
      unfold OwnPtr at hp
      split at h
      · rename_i hh hz
        have h1 := wp_litN (wpQ_bind _ _ _ h)
        rw [hh] at hp
        obtain ⟨b, hb, he⟩ := hp
        refine op_still hg h1 (.ptr _ _ _ _ ?_) (run b j off ft hf hz he)
        unfold OwnPtr
        rw [hh]
        exact ⟨b, hb, rfl⟩
      · rename_i hh hz
        have h1 := wp_litN (wpQ_bind _ _ _ h)
        rw [hh] at hp
        obtain ⟨hi, b, hb, he⟩ := hp
        refine op_still hg h1 (.ptr _ _ _ _ ?_) (run b _ off ft hf hz he)
        unfold OwnPtr
        rw [hh]
        exact ⟨hi, b, hb, by simp [Nat.add_assoc]⟩
      · exact h.elim
  · rename_i off ft s x' j hf hv
    rw [hv] at hx
    split at h
    · exact h.elim
    · rename_i hz
      have h1 := wp_litN (wpQ_bind _ _ _ h)
      have := hx.t_inv
      generalize hq : a.eval x = q at this
      cases this with
      | ip _ _ _ b o' c hF hx' hcc hl hr =>
        refine op_still hg h1 (.t _ _ ?_) (run b (o' + j) off ft hf hz hq)
        have := TR.ip (F := F) (w := w) s x' (j + off) b o' c hF hx' hcc hl hr
        simpa [Nat.add_assoc] using this
  · exact h.elim
end
end Go.Eva

/- Eva, part 8: two operands. -/
namespace Go.Eva
open Go.RowKit

section
variable {P : Program} {cx : Cx} {S : Task → (Res → Prop) → Prop} {w : World} {ι : Io} {F : Nat → Prop} {H : Heap}

theorem run_part_agg (hc : CxTy P cx) {t : Nat} {i : TI} (hi : cx.ti.get t = some i) (hst : isStruct cx t = true) (cs : Array Value) (off : Nat) :
    (part t cs off).run P w = .ok (.agg (cs.extract off (off + sizeOf cx t))) w := by
  simp [part, run_isAgg_ok hc hi, hst, run_sizeOf_ok hc hi]

theorem run_part_one (hc : CxTy P cx) {t : Nat} {i : TI} (hi : cx.ti.get t = some i) (hst : isStruct cx t = false) (cs : Array Value) (off : Nat) {v : Value} (hv : cs[off]? = some v) :
    (part t cs off).run P w = .ok v w := by
  simp [part, run_isAgg_ok hc hi, hst, hv]

theorem teq_iff {x y : T} : teq x y = true ↔ x = y := by simp [teq]
theorem teq_false {x y : T} : teq x y = false ↔ x ≠ y := by simp [teq]

/-- '==' at trees that a plain type conforms to: they are one. -/
theorem equal_ok (w0 : World) (hc : CxTy P cx) : ∀ (n d t : Nat) (x y : T) (u v : Value), n ≤ d → conform cx n t x = true → conform cx n t y = true → TR F w x u → TR F w y v →
    (Op.equalIn d t u v).run P w0 = .ok (teq x y) w0 := by
  intro n
  induction n with
  | zero => intro d t x y u v _ h; simp [conform] at h
  | succ n ih =>
    intro d t x y u v hd hx hy hu hv
    obtain ⟨d, rfl⟩ : ∃ m, d = m + 1 := ⟨d - 1, by omega⟩
    unfold conform at hx hy
    cases hget : cx.ti.get t with
    | none => simp [hget] at hx
    | some i =>
      rw [hget] at hx hy
      simp only at hx hy
      obtain ⟨inf, ds, h1, h2, h3, h4, h5, h6, _⟩ := hc.ty t i hget
      cases hty : i.ty with
      | int k =>
        rw [hty] at hx hy h5
        cases x <;> simp at hx
        cases y <;> simp at hy
        subst hx; subst hy
        rw [hu.int_inv, hv.int_inv]
        simp only [TyR] at h5
        subst h5
        rw [run_equalIn_int w0 d t k k _ _ h2]
        congr 1
        rename_i a b
        by_cases e : a = b
        · subst e; simp [teq]
        · have : teq (T.int k a) (T.int k b) = false := by rw [teq_false]; simp [e]
          rw [this]; simpa using e
      | bool =>
        rw [hty] at hx hy h5
        cases x <;> simp at hx
        cases y <;> simp at hy
        rw [hu.bool_inv, hv.bool_inv]
        simp only [TyR] at h5
        subst h5
        rw [run_equalIn_bool' w0 d t _ _ h2]
        congr 1
        rename_i a b
        by_cases e : a = b
        · subst e; simp [teq]
        · have : teq (T.bool a) (T.bool b) = false := by rw [teq_false]; simp [e]
          rw [this]; simpa using e
      | struct fs =>
        rw [hty] at hx hy h5
        cases x <;> simp at hx
        cases y <;> simp at hy
        rename_i vs us
        simp only [TyR] at h5
        obtain ⟨fields, rfl, hm, hall⟩ := h5
        obtain ⟨hp, _⟩ := h6 hx.1
        cases hu with
        | agg _ cs hl1 ho1 hc1 =>
        cases hv with
        | agg _ ds hl2 ho2 hc2 =>
        have hfo : P.fieldsOf t = fields := by simp [Program.fieldsOf, h2]
        rw [run_equalIn_struct w0 d t cs ds (by rw [hfo]; exact h2) hp, hfo]
        have key : ∀ (fl : List Field) (pos : Nat) (as bs : List T), (∀ f ∈ fl, f.name ≠ "_" ∧ ∃ i, cx.ti.get f.type = some i) → conformF cx (conform cx n) pos (fl.map fun f => (f.offset, f.type)) as = true →
            conformF cx (conform cx n) pos (fl.map fun f => (f.offset, f.type)) bs = true → vs.drop pos = as → us.drop pos = bs → pos + as.length = vs.length → pos + bs.length = us.length →
            (Op.eqFields d cs ds fl).run P w0 = .ok (@decide (as = bs) (Classical.propDecidable _)) w0 := by
          intro fl
          induction fl with
          | nil =>
            intro pos as bs _ h7 h8 _ _ _ _
            simp only [List.map_nil] at h7 h8
            cases as with
            | cons _ _ => simp [conformF] at h7
            | nil => cases bs with
              | cons _ _ => simp [conformF] at h8
              | nil => simp [Op.eqFields]
          | cons f fl ihf =>
            intro pos as bs hfl h7 h8 ha hb hla hlb
            obtain ⟨hname, fi, hfi⟩ := hfl f (by simp)
            simp only [List.map_cons, conformF, Bool.and_eq_true] at h7 h8
            obtain ⟨hoff, h7⟩ := h7
            obtain ⟨_, h8⟩ := h8
            have hoff := Nat.eq_of_beq_eq_true hoff
            simp only [Op.eqFields]
            cases hst : isStruct cx f.type with
            | true =>
              rw [hst] at h7 h8
              simp only [Bool.and_eq_true, Nat.ble_eq] at h7 h8
              obtain ⟨⟨h7a, h7b⟩, h7c⟩ := h7
              obtain ⟨⟨h8a, h8b⟩, h8c⟩ := h8
              generalize hsz : sizeOf cx f.type = sz at *
              have part_tr : ∀ (ws as' : List T) (zs : Array Value), ws.length = zs.size → (∀ (i : Nat) c, zs[i]? = some c → c.oneCell' = true) → (∀ (i : Nat) x c, ws[i]? = some x → zs[i]? = some c → TR F w x c) → ws.drop pos = as' → sz ≤ as'.length → pos + as'.length = ws.length →
                  TR F w (.agg (as'.take sz)) (.agg (zs.extract pos (pos + sz))) := by
                intro ws as' zs hlen hone htr hdrop hle hpos
                refine .agg _ _ ?_ ?_ ?_
                · simp; omega
                · intro i c hi
                  rw [Array.getElem?_extract] at hi
                  split at hi
                  · exact hone _ c hi
                  · contradiction
                · intro i x c hx' hc'
                  rw [Array.getElem?_extract] at hc'
                  split at hc'
                  · refine htr (pos + i) x c ?_ hc'
                    rw [List.getElem?_take] at hx'
                    split at hx'
                    · rw [← hdrop, List.getElem?_drop] at hx'; exact hx'
                    · contradiction
                  · contradiction
              have t1 := part_tr vs as cs hl1 ho1 hc1 ha h7a hla
              have t2 := part_tr us bs ds hl2 ho2 hc2 hb h8a hlb
              have e1 := ih d f.type _ _ _ _ (by omega) h7b h8b t1 t2
              have ihr := ihf (pos + sz) (as.drop sz) (bs.drop sz) (fun f hf => hfl f (by simp [hf])) h7c h8c (by rw [← ha, List.drop_drop]) (by rw [← hb, List.drop_drop]) (by simp; omega) (by simp; omega)
              simp only [hname, ne_eq, not_false_eq_true, if_true, Sem.run_bind, hoff, run_part_agg hc hfi hst, hsz, Result.andThen_ok, e1]
              cases hq : teq (T.agg (as.take sz)) (T.agg (bs.take sz)) with
              | true =>
                rw [teq_iff] at hq
                have hq : as.take sz = bs.take sz := by simpa using hq
                simp only [Bool.not_true, Bool.false_eq_true, if_false]
                rw [ihr]
                congr 1
                rw [decide_eq_decide]
                constructor
                · intro h; rw [← List.take_append_drop sz as, ← List.take_append_drop sz bs, hq, h]
                · intro h; rw [h]
              | false =>
                rw [teq_false] at hq
                simp only [Bool.not_false, if_true, Sem.run_pure]
                congr 1
                symm
                rw [decide_eq_false_iff_not]
                intro h; exact hq (by rw [h])
            | false =>
              rw [hst] at h7 h8
              simp only at h7 h8
              cases as with
              | nil => simp at h7
              | cons x as =>
              cases bs with
              | nil => simp at h8
              | cons y bs =>
              simp only [Bool.and_eq_true] at h7 h8
              have hvx : vs[pos]? = some x := by
                have := congrArg (fun l => l[0]?) ha
                simpa [List.getElem?_drop] using this
              have huy : us[pos]? = some y := by
                have := congrArg (fun l => l[0]?) hb
                simpa [List.getElem?_drop] using this
              have h9 : pos < cs.size := by rw [← hl1]; exact (List.getElem?_eq_some_iff.1 hvx).1
              have h10 : pos < ds.size := by rw [← hl2]; exact (List.getElem?_eq_some_iff.1 huy).1
              have g1 : cs[pos]? = some cs[pos] := by simp
              have g2 : ds[pos]? = some ds[pos] := by simp
              have e1 := ih d f.type _ _ _ _ (by omega) h7.1 h8.1 (hc1 pos x _ hvx g1) (hc2 pos y _ huy g2)
              have da : vs.drop (pos + 1) = as := by rw [← List.drop_drop, ha]; rfl
              have db : us.drop (pos + 1) = bs := by rw [← List.drop_drop, hb]; rfl
              have ihr := ihf (pos + 1) as bs (fun f hf => hfl f (by simp [hf])) h7.2 h8.2 da db (by simp at hla; omega) (by simp at hlb; omega)
              simp only [hname, ne_eq, not_false_eq_true, if_true, Sem.run_bind, hoff, run_part_one hc hfi hst _ _ g1, run_part_one hc hfi hst _ _ g2, Result.andThen_ok, e1]
              cases hq : teq x y with
              | true =>
                rw [teq_iff] at hq
                simp only [Bool.not_true, Bool.false_eq_true, if_false]
                rw [ihr]
                congr 1
                rw [decide_eq_decide]
                simp [hq]
              | false =>
                rw [teq_false] at hq
                simp only [Bool.not_false, if_true, Sem.run_pure]
                congr 1
                symm
                rw [decide_eq_false_iff_not]
                simp [hq]
        have := key fields.toList 0 vs us hall (by rw [hm]; exact hx.2) (by rw [hm]; exact hy.2) rfl rfl (by simp) (by simp)
        rw [this]
        congr 1
        unfold teq
        rw [decide_eq_decide]
        simp
      | _ => rw [hty] at hx; simp at hx

theorem eqGuardType_of {t : Nat} {x : T} (hc : CxTy P cx) {vs : List T} (hx : x = .agg vs) (h : conform cx depth t x = true) : P.eqGuardType P.depth t = false := by
  subst hx
  unfold depth conform at h
  cases hget : cx.ti.get t with
  | none => simp [hget] at h
  | some i =>
    rw [hget] at h
    simp only at h
    obtain ⟨inf, ds, h1, h2, h3, h4, h5, h6, _⟩ := hc.ty t i hget
    cases hty : i.ty with
    | struct fs => rw [hty] at h; simp at h; exact (h6 h.1).2
    | _ => rw [hty] at h; simp at h

theorem tyBool (hc : CxTy P cx) {t : Nat} (h : isBool cx t = true) : P.underlying t = some .bool := by
  unfold isBool at h
  split at h
  · rename_i i hget
    split at h
    · rename_i hty
      obtain ⟨inf, ds, h1, h2, h3, h4, h5, h6, _⟩ := hc.ty t i hget
      rw [hty] at h5
      simp only [TyR] at h5
      rw [h2, h5]
    · contradiction
  · contradiction

theorem tyPtr (hc : CxTy P cx) {t : Nat} (h : isPtr cx t = true) : ∃ e, P.underlying t = some (.pointer e) := by
  unfold isPtr at h
  split at h
  · rename_i i hget
    split at h
    · rename_i hty
      obtain ⟨inf, ds, h1, h2, h3, h4, h5, h6, _⟩ := hc.ty t i hget
      rw [hty] at h5
      simp only [TyR] at h5
      obtain ⟨e, rfl⟩ := h5
      exact ⟨e, h2⟩
    · contradiction
  · contradiction

theorem guard_ptr (op : BinOp) (t : Nat) (xo yo : Operand) (p q : Option Addr) : (eqGuard op t xo yo (.pointer p) (.pointer q)).run P w = .ok () w :=
  run_eqGuard_plain op t xo yo (by simp) (by simp)

theorem equal_nn (d t e : Nat) (he : P.underlying t = some (.pointer e)) : (Op.equalIn (d + 1) t (.pointer none) (.pointer none)).run P w = .ok true w := by
  simp [Op.equalIn, run_underlying he]
theorem equal_ns (d t e : Nat) (he : P.underlying t = some (.pointer e)) (p : Addr) : (Op.equalIn (d + 1) t (.pointer none) (.pointer (some p))).run P w = .ok false w := by
  simp [Op.equalIn, run_underlying he]
theorem equal_sn (d t e : Nat) (he : P.underlying t = some (.pointer e)) (p : Addr) : (Op.equalIn (d + 1) t (.pointer (some p)) (.pointer none)).run P w = .ok false w := by
  simp [Op.equalIn, run_underlying he]

theorem live_ptr {id i j : Nat} {v : Value} (h : VR ι F w H (.ptr id i j) v) (ha : alive H (.ptr id i j) = true) : ∃ ad, v = .pointer (some ad) := by
  simp only [alive, there, nth_eq] at ha
  cases h with
  | ptr _ _ _ _ hp =>
    unfold OwnPtr at hp
    split at ha
    · rename_i he
      rw [he] at hp
      obtain ⟨b, _, hb⟩ := hp; exact ⟨_, hb⟩
    · rename_i he
      rw [he] at hp
      obtain ⟨_, b, _, hb⟩ := hp; exact ⟨_, hb⟩
    · contradiction

theorem own_slice {id off : Nat} {n lim : Option Nat} {u : Value} (ht : there H id = true) (h : OwnSl ι w H id off n lim u) : ∃ ad la ca, u = .slice ad la ca := by
  simp only [there, nth_eq] at ht
  unfold OwnSl at h
  split at h
  · rename_i he; rw [he] at ht; simp at ht
  · obtain ⟨a, cap, rfl, _⟩ := h; exact ⟨_, _, _, rfl⟩
  · exact h.elim

theorem isNil_ok {x : V} {u : Value} {R : V → Prop} {k : Bool → Q V} (hx : VR ι F w H x u) (hax : alive H x = true) (h : wpQ S (isNil x k) R) : ∃ ad la ca, u = .slice ad la ca ∧ wpQ S (k ad.isNone) R := by
  have pick : ∀ {ad : Option Addr} {p : Nat → Bool}, (∀ c, 0 ≤ c → wpQ S (k (p c)) R) → (∃ c, p c = ad.isNone) → wpQ S (k ad.isNone) R := by
    rintro ad p h ⟨c, hc⟩
    rw [← hc]; exact h c (Nat.zero_le _)
  have tree : ∀ {sz : Nat} {xs : List T} {u : Value}, TR F w (.sl sz xs) u → (∀ c, 0 ≤ c → wpQ S (k (decide (c = 0 ∧ xs.length = 0))) R) → ∃ ad la ca, u = .slice ad la ca ∧ wpQ S (k ad.isNone) R := by
    intro sz xs u ht h
    cases ht with
    | slN _ a cap =>
      refine ⟨_, _, _, rfl, pick h ?_⟩
      cases a with
      | none => exact ⟨0, rfl⟩
      | some a => exact ⟨1, rfl⟩
    | slC _ _ b o cap c hn => exact ⟨_, _, _, rfl, pick h ⟨1, rfl⟩⟩
  have own : ∀ {ad : Option Addr}, (∀ c, 0 ≤ c → wpQ S (k (decide (c = 0))) R) → wpQ S (k ad.isNone) R := by
    intro ad h
    cases ad with
    | none => exact pick h ⟨0, rfl⟩
    | some a => exact pick h ⟨1, rfl⟩
  unfold isNil at h
  split at h
  · cases hx; exact ⟨_, _, _, rfl, h⟩
  · exact tree hx.t_inv h
  · cases hx with | fit _ _ _ ht => exact tree ht h
  · cases hx with
    | all _ _ _ ho => obtain ⟨ad, la, ca, rfl⟩ := own_slice hax ho; exact ⟨_, _, _, rfl, own h⟩
  · cases hx with
    | sl _ _ _ _ _ ho => obtain ⟨ad, la, ca, rfl⟩ := own_slice hax ho; exact ⟨_, _, _, rfl, own h⟩
  · exact h.elim

theorem equal_sl (d t e : Nat) (he : P.underlying t = some (.slice e)) (ad : Option Addr) (la ca : Nat) : (Op.equalIn (d + 1) t (.slice ad la ca) (.slice none 0 0)).run P w = .ok ad.isNone w := by
  cases ad <;> simp [Op.equalIn, run_underlying he]

theorem nilSl_ok (hc : CxTy P cx) {op : BinOp} {t : Nat} {x y : V} {u v : Value} {R : V → Prop} (hx : VR ι F w H x u) (hy : VR ι F w H y v) (hax : alive H x = true) (h : wpQ S (nilSl cx op t x y) R) :
    ∃ r val, v = .slice none 0 0 ∧ R r ∧ VR ι F w H r val ∧ ∀ w, (binOp op t u v).run P w = .ok val w := by
  unfold nilSl at h
  split at h
  · rename_i el he
    obtain ⟨hu, _⟩ := elem_ok hc he
    cases hy
    split at h
    · obtain ⟨ad, la, ca, rfl, h⟩ := isNil_ok hx hax h
      exact ⟨_, _, rfl, h, .t _ _ (.bool _), fun w => by simp [binOp, Op.equal, Op.maxDepth, equal_sl 9999 t el hu]⟩
    · obtain ⟨ad, la, ca, rfl, h⟩ := isNil_ok hx hax h
      exact ⟨_, _, rfl, h, .t _ _ (.bool _), fun w => by simp [binOp, Op.equal, Op.maxDepth, equal_sl 9999 t el hu]⟩
    · exact h.elim
  · exact h.elim

theorem bin_ok (hc : CxTy P cx) {op : BinOp} {t : Nat} {x y : V} {u v : Value} {R : V → Prop} (xo yo : Operand) (h : wpQ S (binV cx op t x y) R) (hx : VR ι F w H x u) (hy : VR ι F w H y v) (hax : alive H x = true) (hay : alive H y = true) :
    ∃ r val, R r ∧ VR ι F w H r val ∧ ∀ w, (do eqGuard op t xo yo u v; binOp op t u v : Sem Value).run P w = .ok val w := by
  have plain : ∀ (val : Value), (∀ c d, ¬ (u = .agg c ∧ v = .agg d)) → ¬ (u = .nilIface ∧ v = .nilIface) → (∀ w, (binOp op t u v).run P w = .ok val w) → ∀ w, (do eqGuard op t xo yo u v; binOp op t u v : Sem Value).run P w = .ok val w := by
    intro val h1 h2 h3 w
    simp [run_eqGuard_plain (P := P) (w := w) op t xo yo h1 h2, h3 w]
  have nilc : ∀ (b : Bool), wpQ S (nilCmp cx t op b) R → (∃ p, u = .pointer p) → (∃ q, v = .pointer q) → (∀ e, P.underlying t = some (.pointer e) → ∀ w, (Op.equalIn 10000 t u v).run P w = .ok b w) →
      ∃ r val, R r ∧ VR ι F w H r val ∧ ∀ w, (do eqGuard op t xo yo u v; binOp op t u v : Sem Value).run P w = .ok val w := by
    rintro b h ⟨p, rfl⟩ ⟨q, rfl⟩ he
    unfold nilCmp at h
    split at h
    · rename_i hp
      obtain ⟨e, hp⟩ := tyPtr hc hp
      have he := he e hp
      split at h
      · exact ⟨_, _, h, .t _ _ (.bool _), plain _ (by simp) (by simp) (fun w => by simp [binOp, Op.equal, Op.maxDepth, he w])⟩
      · exact ⟨_, _, h, .t _ _ (.bool _), plain _ (by simp) (by simp) (fun w => by simp [binOp, Op.equal, Op.maxDepth, he w])⟩
      · exact h.elim
    · exact h.elim
  unfold binV at h
  split at h
  · rename_i k a k' b
    obtain rfl := hx.t_inv.int_inv
    obtain rfl := hy.t_inv.int_inv
    have pl := fun val h3 => plain val (by simp) (by simp) h3
    split at h
    · obtain ⟨h1, h⟩ := h
      refine ⟨_, _, h, .t _ _ (.int _ _), pl _ fun w => ?_⟩
      have : ¬ b < 0 := by omega
      simp [binOp, Op.shift, this]
    · obtain ⟨h1, h⟩ := h
      refine ⟨_, _, h, .t _ _ (.int _ _), pl _ fun w => ?_⟩
      have : ¬ b < 0 := by omega
      simp [binOp, Op.shift, this]
    · split at h
      · exact h.elim
      · rename_i hk
        have hk : k = k' := of_decide_eq_true hk
        subst hk
        split at h
        · exact ⟨_, _, h, .t _ _ (.int _ _), pl _ (by simp [binOp, Op.intArith])⟩
        · exact ⟨_, _, h, .t _ _ (.int _ _), pl _ (by simp [binOp, Op.intArith])⟩
        · exact ⟨_, _, h, .t _ _ (.int _ _), pl _ (by simp [binOp, Op.intArith])⟩
        · exact ⟨_, _, h.2, .t _ _ (.int _ _), pl _ (by simp [binOp, Op.intDiv, h.1])⟩
        · exact ⟨_, _, h.2, .t _ _ (.int _ _), pl _ (by simp [binOp, Op.intDiv, h.1])⟩
        · exact ⟨_, _, h, .t _ _ (.int _ _), pl _ (by simp [binOp, Op.intBits])⟩
        · exact ⟨_, _, h, .t _ _ (.int _ _), pl _ (by simp [binOp, Op.intBits])⟩
        · exact ⟨_, _, h, .t _ _ (.int _ _), pl _ (by simp [binOp, Op.intBits])⟩
        · exact ⟨_, _, h, .t _ _ (.int _ _), pl _ (by simp [binOp, Op.intBits])⟩
        · exact ⟨_, _, h, .t _ _ (.bool _), pl _ (by simp [binOp, Op.intCmp])⟩
        · exact ⟨_, _, h, .t _ _ (.bool _), pl _ (by simp [binOp, Op.intCmp])⟩
        · exact ⟨_, _, h, .t _ _ (.bool _), pl _ (by simp [binOp, Op.intCmp])⟩
        · exact ⟨_, _, h, .t _ _ (.bool _), pl _ (by simp [binOp, Op.intCmp])⟩
        · exact ⟨_, _, h, .t _ _ (.bool _), pl _ (by simp [binOp, Op.intCmp])⟩
        · exact ⟨_, _, h, .t _ _ (.bool _), pl _ (by simp [binOp, Op.intCmp])⟩
        · exact h.elim
  · rename_i a b
    obtain rfl := hx.t_inv.bool_inv
    obtain rfl := hy.t_inv.bool_inv
    have pl := fun val h3 => plain val (by simp) (by simp) h3
    have hb : P.underlying t = some .bool → ∀ w, (Op.equalIn 10000 t (.bool a) (.bool b)).run P w = .ok (a == b) w := fun hu w => run_equalIn_bool' w 9999 t a b hu
    split at h
    · obtain ⟨h1, h⟩ := h
      refine ⟨_, _, h, .t _ _ (.bool _), pl _ fun w => ?_⟩
      simp [binOp, Op.equal, Op.maxDepth, hb (tyBool hc h1)]
    · obtain ⟨h1, h⟩ := h
      refine ⟨_, _, h, .t _ _ (.bool _), pl _ fun w => ?_⟩
      simp [binOp, Op.equal, Op.maxDepth, hb (tyBool hc h1)]
    · exact h.elim
  · rename_i xs ys
    have tx := hx.t_inv
    have ty := hy.t_inv
    have eqv : conform cx depth t (.agg xs) = true ∧ conform cx depth t (.agg ys) = true → ∃ cs ds, u = .agg cs ∧ v = .agg ds ∧ (∀ w, (eqGuard op t xo yo u v).run P w = .ok () w) ∧ ∀ w, (Op.equal t u v).run P w = .ok (teq (.agg xs) (.agg ys)) w := by
      rintro ⟨h1, h2⟩
      have he := fun w0 => equal_ok w0 hc depth 10000 t _ _ _ _ (by unfold depth; omega) h1 h2 tx ty
      have hgt := eqGuardType_of hc rfl h1
      cases tx with
      | agg _ cs _ _ _ =>
      cases ty with
      | agg _ ds _ _ _ => exact ⟨cs, ds, rfl, rfl, fun w => run_eqGuard_agg (P := P) w op t xo yo cs ds hgt, he⟩
    split at h
    · obtain ⟨h1, h⟩ := h
      obtain ⟨cs, ds, rfl, rfl, h3, h4⟩ := eqv h1
      refine ⟨_, _, h, .t _ _ (.bool _), fun w => ?_⟩
      simp only [Sem.run_bind, h3, Result.andThen_ok, binOp, h4, Sem.run_pure]
    · obtain ⟨h1, h⟩ := h
      obtain ⟨cs, ds, rfl, rfl, h3, h4⟩ := eqv h1
      refine ⟨_, _, h, .t _ _ (.bool _), fun w => ?_⟩
      simp only [Sem.run_bind, h3, Result.andThen_ok, binOp, h4, Sem.run_pure]
    · exact h.elim
  · have e1 := hx.t_inv
    have e2 := hy.t_inv
    cases e1; cases e2
    exact nilc true h ⟨_, rfl⟩ ⟨_, rfl⟩ (fun e he _ => equal_nn 9999 t e he)
  · have e1 := hx.t_inv
    cases e1
    obtain ⟨ad, rfl⟩ := live_ptr hy hay
    exact nilc false h ⟨_, rfl⟩ ⟨_, rfl⟩ (fun e he _ => equal_ns 9999 t e he _)
  · have e1 := hx.t_inv
    have e2 := hy.t_inv
    cases e1; cases e2
    exact nilc false h ⟨_, rfl⟩ ⟨_, rfl⟩ (fun e he _ => equal_ns 9999 t e he _)
  · have e2 := hy.t_inv
    cases e2
    obtain ⟨ad, rfl⟩ := live_ptr hx hax
    exact nilc false h ⟨_, rfl⟩ ⟨_, rfl⟩ (fun e he _ => equal_sn 9999 t e he _)
  · have e1 := hx.t_inv
    have e2 := hy.t_inv
    cases e1; cases e2
    exact nilc false h ⟨_, rfl⟩ ⟨_, rfl⟩ (fun e he _ => equal_sn 9999 t e he _)
  · obtain ⟨r, val, e1, h1, h2, h3⟩ := nilSl_ok hc hx hy hax h
    exact ⟨r, val, h1, h2, plain _ (by rintro c d ⟨_, e2⟩; rw [e1] at e2; simp at e2) (by rintro ⟨_, e2⟩; rw [e1] at e2; simp at e2) h3⟩

variable {o : Oper} {e : Env} {a : Act} {R : V × Heap → Prop} {Q : Exit → Act → World → Prop}

theorem op_bin (hc : CxTy P cx) (hg : Good ι F w H) (hs : Sim ι F w H e a) (op : BinOp) (t : Nat) (x y : Operand) (yt : Nat) (ho : o.op = .binOp op t x y yt) (h : wpQ S (opQ cx o e H) R) :
    Still Any P R o ι F H w a := by
  unfold opQ at h
  rw [ho] at h
  simp only at h
  split at h
  · rename_i hal
    simp only [Bool.and_eq_true] at hal
    obtain ⟨r, val, h1, h2, h3⟩ := bin_ok hc x y (wpQ_bind _ _ _ h) (eval_ok hs x) (eval_ok hs y) hal.1 hal.2
    refine op_still hg h1 h2 fun w => ?_
    unfold execOp
    rw [ho]
    show ((do eqGuard op t x y (a.eval x) (a.eval y); binOp op t (a.eval x) (a.eval y) : Sem Value) >>= fun v => pure (Next.value v)).run P w = _
    rw [Sem.run_bind, h3]
    rfl
  · exact h.elim
end
end Go.Eva

/- Eva, part 9: memory is read. -/
namespace Go.Eva
open Go.RowKit

section
variable {P : Program} {cx : Cx} {S : Task → (Res → Prop) → Prop} {w : World} {ι : Io} {F : Nat → Prop} {H : Heap}

theorem TR.one {x : T} {v : Value} (h : TR F w x v) (hx : x ≠ .any) (hn : ∀ vs, x ≠ .agg vs) : v.cells = #[v] := by
  cases h <;> first | rfl | exact absurd rfl hx | exact absurd rfl (hn _)

theorem T.cells_one {x : T} (hn : ∀ vs, x ≠ .agg vs) : x.cells = [x] := by cases x <;> first | rfl | exact absurd rfl (hn _)

/-- A tree's cells and its value's. -/
theorem TR.cells {x : T} {v : Value} (h : TR F w x v) (hx : x ≠ .any) : x.cells.length = v.cells.size ∧ ∀ (i : Nat) t c, x.cells[i]? = some t → v.cells[i]? = some c → TR F w t c := by
  by_cases hn : ∃ vs, x = .agg vs
  · obtain ⟨vs, rfl⟩ := hn
    cases h with
    | agg _ cs hl h1 hc => exact ⟨hl, hc⟩
  · have hn : ∀ vs, x ≠ .agg vs := fun vs e => hn ⟨vs, e⟩
    rw [h.one hx hn, T.cells_one hn]
    refine ⟨rfl, fun i t c ht hc => ?_⟩
    cases i with
    | zero => simp at ht hc; subst ht; subst hc; exact h
    | succ i => simp at ht

theorem V.cells_t (x : T) : (V.t x).cells = x.cells.map .t := by cases x <;> rfl

theorem OwnSl.any {id off : Nat} {n lim : Option Nat} {v c : Value} (h : OwnSl ι w H id off n lim v) (hc : v.cells[0]? = some c) : OwnSl ι w H id off n lim c := by
  unfold OwnSl at h ⊢
  split at h
  · trivial
  · obtain ⟨a, cap, rfl, h1⟩ := h
    simp [Value.cells] at hc
    subst hc
    exact ⟨a, cap, rfl, h1⟩
  · exact h.elim

theorem OwnPtr.any {id i j : Nat} {v c : Value} (h : OwnPtr ι H id i j v) (hc : v.cells[0]? = some c) : OwnPtr ι H id i j c := by
  unfold OwnPtr at h ⊢
  split at h
  · trivial
  · obtain ⟨b, h1, rfl⟩ := h
    simp [Value.cells] at hc
    subst hc
    exact ⟨b, h1, rfl⟩
  · obtain ⟨h0, b, h1, rfl⟩ := h
    simp [Value.cells] at hc
    subst hc
    exact ⟨h0, b, h1, rfl⟩
  · exact h.elim

theorem VR.cells {x : V} {v : Value} (h : VR ι F w H x v) (hx : x ≠ .t .any) :
    ∀ (i : Nat) t c, x.cells[i]? = some t → v.cells[i]? = some c → VR ι F w H t c := by
  intro i t c ht hc
  cases h with
  | t x v h =>
    obtain ⟨h1, h2⟩ := h.cells (fun e => hx (by rw [e]))
    rw [V.cells_t] at ht
    simp at ht
    obtain ⟨y, hy, rfl⟩ := ht
    exact .t _ _ (h2 i y c hy hc)
  | nil => cases i <;> simp [V.cells, Value.cells] at ht hc; subst ht; subst hc; exact .nil
  | fit sz xs a h => cases i <;> simp [V.cells, Value.cells] at ht hc; subst ht; subst hc; exact .fit _ _ _ h
  | all id lim v h => cases i <;> simp [V.cells] at ht; subst ht; exact .all _ _ _ (h.any hc)
  | sl id off len lim v h => cases i <;> simp [V.cells] at ht; subst ht; exact .sl _ _ _ _ _ (h.any hc)
  | ptr id j k v h => cases i <;> simp [V.cells] at ht; subst ht; exact .ptr _ _ _ _ (h.any hc)
  | clo f cs vs hl hcc => cases i <;> simp [V.cells, Value.cells] at ht hc; subst ht; subst hc; exact .clo _ _ _ hl hcc
  | agg vs cs hl h1 hcc => exact hcc i t c ht hc
  | tup vs cs hl hcc => cases i <;> simp [V.cells, Value.cells] at ht hc; subst ht; subst hc; exact .tup _ _ hl hcc

/-- Old blocks stand as they stood. -/
def OldSame (w w' : World) : Prop := w.heap.size ≤ w'.heap.size ∧ ∀ b, b < w.heap.size → w'.heap[b]? = w.heap[b]?

theorem OldSame.refl (w : World) : OldSame w w := ⟨Nat.le_refl _, fun _ _ => rfl⟩
theorem OldSame.trans {w w1 w2 : World} (h : OldSame w w1) (k : OldSame w1 w2) : OldSame w w2 := ⟨Nat.le_trans h.1 k.1, fun b hb => (k.2 b (Nat.lt_of_lt_of_le hb h.1)).trans (h.2 b hb)⟩

theorem OldSame.alloc (w : World) (o : Obj) : OldSame w (w.alloc o) := ⟨by simp, fun _ hb => heap_old hb⟩

theorem OldSame.cell {w w' : World} (h : OldSame w w') {b o : Nat} {v : Value} (hv : w.cell? ⟨b, o, none⟩ = some v) : w'.cell? ⟨b, o, none⟩ = some v := by
  have hb : b < w.heap.size := by
    rcases Nat.lt_or_ge b w.heap.size with hb | hb
    · exact hb
    · have : w.heap[b]? = none := Array.getElem?_eq_none hb
      simp [World.cell?, this] at hv
  rw [cell_of (h.2 b hb)]
  exact hv

theorem run_loadVar_agg (hc : CxTy P cx) {t : Nat} {i : TI} (hi : cx.ti.get t = some i) (hst : isStruct cx t = true) (b o : Nat) (cs : List Value) (hlen : cs.length = sizeOf cx t)
    (h : ∀ (j : Nat) v, cs[j]? = some v → w.cell? ⟨b, o + j, none⟩ = some v) : (loadVar t ⟨b, o, none⟩).run P w = .ok (.agg cs.toArray) w := by
  have hl := run_loadCells_list (P := P) w ⟨b, o, none⟩ cs (fun j v hj => by rw [addr_add]; exact h j v hj)
  rw [hlen] at hl
  simp [loadVar, run_isAgg_ok hc hi, hst, run_sizeOf_ok hc hi, hl]

theorem run_loadVar_one (hc : CxTy P cx) {t : Nat} {i : TI} (hi : cx.ti.get t = some i) (hst : isStruct cx t = false) (b o : Nat) {v : Value}
    (h : w.cell? ⟨b, o, none⟩ = some v) : (loadVar t ⟨b, o, none⟩).run P w = .ok v w := by
  simp [loadVar, run_isAgg_ok hc hi, hst, h]

/-- A part of a tree that lies in memory is read. -/
theorem loadT_ok (hc : CxTy P cx) {t s : Nat} {i : TI} (hi : cx.ti.get t = some i) {x : T} {j b o : Nat} {c : Nat → Value} {R : V → Prop} (h : wpQ S (loadT cx t s x j) R) (hx : x ≠ .any)
    (hcc : ∀ j, j < s → w.cell? ⟨b, o + j, none⟩ = some (c j) ∧ (c j).oneCell' = true) (hl : x.cells.length = s) (hr : ∀ (j : Nat) t, x.cells[j]? = some t → TR F w t (c j)) :
    ∃ v u, R v ∧ VR ι F w H v u ∧ (∀ w', OldSame w w' → (loadVar t ⟨b, o + j, none⟩).run P w' = .ok u w') := by
  have part : ∀ (l : List T), isStruct cx t = true → l = (x.cells.drop j).take (sizeOf cx t) → (j + sizeOf cx t ≤ x.cells.length ∨ sizeOf cx t = 0) → ∃ u, VR ι F w H (.t (.agg l)) u ∧ (∀ w', OldSame w w' → (loadVar t ⟨b, o + j, none⟩).run P w' = .ok u w') := by
    intro l hst he hle
    have hll : l.length = sizeOf cx t := by subst he; simp; omega
    let cs : List Value := (List.range (sizeOf cx t)).map fun k => c (j + k)
    have hcs : cs.length = sizeOf cx t := by simp [cs]
    refine ⟨.agg cs.toArray, .t _ _ (.agg _ _ (by simp [hll, hcs]) ?_ ?_), fun w' hw' => run_loadVar_agg hc hi hst b (o + j) cs hcs ?_⟩
    · intro k v hv
      simp [cs] at hv
      obtain ⟨m, hm, rfl⟩ := hv
      have hk : k < sizeOf cx t := by have := (List.getElem?_eq_some_iff.1 hm).1; simpa using this
      have : m = k := by rw [List.getElem?_range hk] at hm; simpa using hm.symm
      exact (hcc (j + m) (by omega)).2
    · intro k y v hy hv
      simp [cs] at hv
      obtain ⟨m, hm, rfl⟩ := hv
      have hk : k < sizeOf cx t := by have := (List.getElem?_eq_some_iff.1 hm).1; simpa using this
      have : m = k := by rw [List.getElem?_range hk] at hm; simpa using hm.symm
      subst this
      subst he
      rw [List.getElem?_take_of_lt hk, List.getElem?_drop] at hy
      exact hr (j + m) y hy
    · intro k v hv
      simp [cs] at hv
      obtain ⟨m, hm, rfl⟩ := hv
      have hk : k < sizeOf cx t := by have := (List.getElem?_eq_some_iff.1 hm).1; simpa using this
      have : m = k := by rw [List.getElem?_range hk] at hm; simpa using hm.symm
      subst this
      have := (hcc (j + m) (by omega)).1
      rw [← Nat.add_assoc] at this
      exact hw'.cell this
  unfold loadT at h
  split at h
  · rename_i hst
    split at h
    · rename_i hw
      simp only [Bool.and_eq_true, Bool.not_eq_true'] at hw
      have h1 := Nat.eq_of_beq_eq_true hw.1.1
      have h2 := Nat.eq_of_beq_eq_true hw.1.2
      have h3 := Nat.ne_of_beq_eq_false hw.2
      subst h1
      have hagg : ∃ vs, x = .agg vs := by
        by_cases hn : ∃ vs, x = .agg vs
        · exact hn
        · have := T.cells_one (fun vs e => hn ⟨vs, e⟩)
          rw [this] at hl
          simp at hl
          omega
      obtain ⟨vs, rfl⟩ := hagg
      obtain ⟨u, hu, hrun⟩ := part vs hst (by simp [T.cells] at hl ⊢; rw [List.take_of_length_le (by omega)]) (.inl (by omega))
      exact ⟨_, u, h, hu, hrun⟩
    · rcases wp_cutT (wpQ_bind _ _ _ h) with ⟨h1, h2⟩ | ⟨h1, h2⟩
      · obtain ⟨u, hu, hrun⟩ := part _ hst rfl (.inl h2)
        exact ⟨_, u, h1, hu, hrun⟩
      · obtain ⟨u, hu, hrun⟩ := part [] hst (by simp [h1]) (.inr h1)
        exact ⟨_, u, h2, hu, hrun⟩
  · rename_i hst
    rcases wp_cutT (wpQ_bind _ _ _ h) with ⟨h1, h2⟩ | ⟨h1, _⟩
    · have hj : j < x.cells.length := by omega
      have e : (x.cells.drop j).take 1 = [x.cells[j]] := by rw [List.drop_eq_getElem_cons hj]; rfl
      rw [e] at h1
      exact ⟨_, c j, h1, .t _ _ (hr j _ (List.getElem?_eq_getElem hj)), fun w' hw' => run_loadVar_one hc hi hst b (o + j) (hw'.cell (hcc j (by omega)).1)⟩
    · omega

theorem mkAgg_ok {vs : List V} {cs : Array Value} (hl : vs.length = cs.size) (h1 : ∀ (i : Nat) c, cs[i]? = some c → c.oneCell' = true) (hcc : ∀ (i : Nat) x c, vs[i]? = some x → cs[i]? = some c → VR ι F w H x c) :
    VR ι F w H (mkAgg vs) (.agg cs) := by
  unfold mkAgg
  split
  · rename_i l hl'
    have := allT_some hl'
    subst this
    refine .t _ _ (.agg _ _ (by simpa using hl) h1 ?_)
    intro i x c hx hc'
    exact (hcc i (.t x) c (by simp [hx]) hc').t_inv
  · exact .agg _ _ hl h1 hcc

/-- A part of a variable of the call's own is read. -/
theorem loadV_ok (hc : CxTy P cx) {t s : Nat} {i : TI} (hi : cx.ti.get t = some i) {v : V} {val : Value} {j b : Nat} {R : V → Prop} (h : wpQ S (loadV cx t s v j) R) (hv : v ≠ .t .any) (hsz : v.size = s) (hvs : val.cells.size = s)
    (hvr : VR ι F w H v val) (hone : ∀ (i : Nat) c, val.cells[i]? = some c → c.oneCell' = true) (hcell : ∀ k, w.cell? ⟨b, k, none⟩ = val.cells[k]?) :
    ∃ v' u, R v' ∧ VR ι F w H v' u ∧ (∀ w', OldSame w w' → (loadVar t ⟨b, j, none⟩).run P w' = .ok u w') := by
  have hcells := hvr.cells hv
  have hlen : v.cells.length = val.cells.size := by rw [hvs, ← hsz]; rfl
  have part : isStruct cx t = true → (j + sizeOf cx t ≤ v.cells.length ∨ sizeOf cx t = 0) → ∃ u, VR ι F w H (mkAgg ((v.cells.drop j).take (sizeOf cx t))) u ∧ (∀ w', OldSame w w' → (loadVar t ⟨b, j, none⟩).run P w' = .ok u w') := by
    intro hst hle
    have hcl : ∀ (k : Nat) c, ((val.cells.toList.drop j).take (sizeOf cx t))[k]? = some c → k < sizeOf cx t ∧ val.cells[j + k]? = some c := by
      intro k c hk
      rw [List.getElem?_take] at hk
      split at hk
      · rw [List.getElem?_drop] at hk
        exact ⟨by assumption, by simpa using hk⟩
      · contradiction
    refine ⟨.agg ((val.cells.toList.drop j).take (sizeOf cx t)).toArray, mkAgg_ok ?_ ?_ ?_, ?_⟩
    · simp; omega
    · intro k c hk
      exact hone _ c (hcl k c (by rw [List.getElem?_toArray] at hk; exact hk)).2
    · intro k x c hx hk
      obtain ⟨hk1, hk2⟩ := hcl k c (by rw [List.getElem?_toArray] at hk; exact hk)
      rw [List.getElem?_take_of_lt hk1, List.getElem?_drop] at hx
      exact hcells _ x c hx hk2
    · exact fun w' hw' => run_loadVar_agg (P := P) (w := w') hc hi hst b j ((val.cells.toList.drop j).take (sizeOf cx t)) (by simp; omega) (by
        intro k u hu
        refine hw'.cell ?_
        rw [hcell]
        exact (hcl k u hu).2)
  unfold loadV at h
  split at h
  · rename_i hst
    split at h
    · rename_i hw
      simp only [Bool.and_eq_true, Bool.not_eq_true'] at hw
      have h1 := Nat.eq_of_beq_eq_true hw.1.1
      have h2 := Nat.eq_of_beq_eq_true hw.1.2
      have h3 := Nat.ne_of_beq_eq_false hw.2
      subst h1
      have h4 := wp_force h
      have hagg : ∃ cs, val = .agg cs := by
        cases val <;> first | exact ⟨_, rfl⟩ | (exfalso; simp [Value.cells] at hvs; omega)
      obtain ⟨cs, rfl⟩ := hagg
      refine ⟨v, .agg cs, h4, hvr, fun w' hw' => ?_⟩
      have := run_loadVar_agg (P := P) (w := w') hc hi hst b 0 cs.toList (by simp [Value.cells] at hvs; simp; omega) (by
        intro k u hu
        refine hw'.cell ?_
        rw [hcell]
        simpa [Value.cells] using hu)
      simpa using this
    · rcases wp_cutV (wpQ_bind _ _ _ h) with ⟨h1, h2⟩ | ⟨h1, h2⟩
      · obtain ⟨u, hu, hrun⟩ := part hst (.inl h2)
        exact ⟨_, u, wp_force h1, hu, hrun⟩
      · obtain ⟨u, hu, hrun⟩ := part hst (.inr h1)
        rw [h1] at hu
        exact ⟨_, u, wp_force h2, hu, hrun⟩
  · rename_i hst
    rcases wp_cutV (wpQ_bind _ _ _ h) with ⟨h1, h2⟩ | ⟨h1, _⟩
    · have hj : j < v.cells.length := by omega
      have e : (v.cells.drop j).take 1 = [v.cells[j]] := by rw [List.drop_eq_getElem_cons hj]; rfl
      rw [e] at h1
      have hj' : j < val.cells.size := by omega
      have hcv : val.cells[j]? = some val.cells[j] := by simp
      exact ⟨_, val.cells[j], h1, hcells j _ _ (List.getElem?_eq_getElem hj) hcv, fun w' hw' => run_loadVar_one hc hi hst b j (hw'.cell (by rw [hcell]; exact hcv))⟩
    · omega

/-- Memory is read. -/
theorem loadAt_ok (hc : CxTy P cx) (hg : Good ι F w H) {t : Nat} {i : TI} (hi : cx.ti.get t = some i) {a : V} {val : Value} {R : V → Prop} (h : wpQ S (loadAt cx t a H) R) (ha : VR ι F w H a val) :
    ∃ v u, R v ∧ VR ι F w H v u ∧ (∀ w', OldSame w w' → (Instr.loadAt t val).run P w' = .ok u w') ∧ ∃ ad, val = .pointer (some ad) ∧ ∀ w', OldSame w w' → (loadVar t ad).run P w' = .ok u w' := by
  have fin : ∀ {b o : Nat} {u : Value}, (∀ w', OldSame w w' → (loadVar t ⟨b, o, none⟩).run P w' = .ok u w') → ∀ w', OldSame w w' → (Instr.loadAt t (.pointer (some ⟨b, o, none⟩))).run P w' = .ok u w' := by
    intro b o u hu w' hw'
    simp [Instr.loadAt, Instr.sureAddr, hu w' hw']
  unfold loadAt at h
  split at h
  · rename_i id k j
    rw [nth_eq] at h
    cases ha with
    | ptr _ _ _ _ hp =>
    unfold OwnPtr at hp
    split at h
    · rename_i s v ro ho
      rw [ho] at hp
      obtain ⟨b, hb, rfl⟩ := hp
      split at h
      · obtain ⟨h1, h2, b', vv, e, h3, h4, h5, h6, h7⟩ := hg.obj id _ ho
        rw [hb] at h3
        obtain rfl := Option.some.inj h3
        obtain ⟨v', u, g1, g2, g3⟩ := loadV_ok (P := P) hc hi h h1 h2 h6 h5 h7 (fun k => cell_of_row w b k _ e _ h4)
        exact ⟨v', u, g1, g2, fin g3, _, rfl, g3⟩
      · exact h.elim
    · rename_i s xs sp ro ho
      rw [ho] at hp
      obtain ⟨hlt, b, hb, rfl⟩ := hp
      obtain ⟨x, hx, hne, h⟩ := h
      obtain ⟨h0, hcase⟩ := hg.obj id _ ho
      rcases hcase with ⟨h1, h2, _⟩ | ⟨b', cs, e, h1, h2, h3, h4, h5, h6, c, g1, g2, g3⟩
      · subst h2; simp at hlt
      · rw [hb] at h1
        obtain rfl := Option.some.inj h1
        obtain ⟨v', u, k1, k2, k3⟩ := loadT_ok (P := P) (o := k * s) (c := c k) hc hi h hne (fun j hj => g1 k j hlt hj) (g2 k x hx hne) (fun j t ht => g3 k j x t hx hne ht)
        exact ⟨v', u, k1, k2, fin k3, _, rfl, k3⟩
    · exact h.elim
  · rename_i s x j
    have ht := ha.t_inv
    cases ht with
    | ip _ _ _ b o c hF hx hcc hl hr =>
      obtain ⟨v', u, k1, k2, k3⟩ := loadT_ok (P := P) hc hi h hx hcc hl hr
      exact ⟨v', u, k1, k2, fin k3, _, rfl, k3⟩
  · exact h.elim

variable {o : Oper} {e : Env} {a : Act} {R : V × Heap → Prop} {Q : Exit → Act → World → Prop}

theorem op_load (hc : CxTy P cx) (hg : Good ι F w H) (hs : Sim ι F w H e a) (t : Nat) (x : Operand) (ho : o.op = .load t x) (ht : ∃ i, cx.ti.get t = some i) (h : wpQ S (opQ cx o e H) R) :
    Still (OldSame w) P R o ι F H w a := by
  unfold opQ at h
  rw [ho] at h
  simp only at h
  obtain ⟨i, hi⟩ := ht
  obtain ⟨v, u, h1, h2, h3, _⟩ := loadAt_ok hc hg hi (wpQ_bind _ _ _ h) (eval_ok hs x)
  refine ⟨v, H, ι, F, u, h1, hg, .refl ι F H w, h2, fun w' hw' => ?_⟩
  simp [execOp, ho, h3 w' hw']
end
end Go.Eva

/- Eva, part 10: what lies in the own heap becomes a tree; memory is written. -/
namespace Go.Eva
open Go.RowKit

section
variable {P : Program} {cx : Cx} {S : Task → (Res → Prop) → Prop} {w : World} {ι : Io} {F : Nat → Prop} {H : Heap}

theorem slice_tree {b off sz : Nat} {xs : List T} {c : Nat → Nat → Value} {n : Nat} {cap : Nat} (hF : F b)
    (h1 : ∀ i j, i < xs.length → j < sz → w.cell? ⟨b, i * sz + j, none⟩ = some (c i j) ∧ (c i j).oneCell' = true) (h2 : ∀ (i : Nat) x, xs[i]? = some x → x ≠ .any → x.cells.length = sz)
    (h3 : ∀ (i j : Nat) x t, xs[i]? = some x → x ≠ .any → x.cells[j]? = some t → TR F w t (c i j)) (hn : n = ((xs.drop off).take n).length) (hcap : n ≤ cap) (h0 : n ≠ 0) :
    TR F w (.sl sz ((xs.drop off).take n)) (.slice (some ⟨b, off * sz, none⟩) n cap) := by
  have hle : n + off ≤ xs.length := by simp at hn; omega
  have := TR.slC (F := F) (w := w) sz ((xs.drop off).take n) b (off * sz) cap (fun i j => c (off + i) j) (by intro e; rw [e] at hn; simp at hn; exact h0 hn) (by rw [← hn]; exact hcap) hF ?_ ?_ ?_
  · rw [← hn] at this; exact this
  · intro i j hi hj
    rw [← hn] at hi
    have := h1 (off + i) j (by omega) hj
    rw [Nat.add_mul] at this
    simpa [Nat.add_assoc] using this
  · intro i x hx hne
    rw [List.getElem?_take] at hx
    split at hx
    · rw [List.getElem?_drop] at hx; exact h2 _ x hx hne
    · contradiction
  · intro i j x t hx hne ht
    rw [List.getElem?_take] at hx
    split at hx
    · rw [List.getElem?_drop] at hx; exact h3 _ j x t hx hne ht
    · contradiction

theorem fl_of {l : List Nat} {id : Nat} {o : Ob} {b : Nat} (hm : mem l id = true) (ho : H[id]? = some o) (hd : o.isDead = false) (hb : ι id = some b) : F b ∨ Fl ι H l b :=
  .inr ⟨id, o, mem_iff.1 hm, ho, hd, hb⟩

theorem fz_ok (hg : Good ι F w H) (l : List Nat) : ∀ (n : Nat), (∀ (v : V) (x : T) (u : Value), fz l H n v = some x → VR ι F w H v u → TR (fun b => F b ∨ Fl ι H l b) w x u ∧ (v ≠ .t .any → x ≠ .any)) ∧
    (∀ (vs : List V) (xs : List T), fzs l H n vs = some xs → xs.length = vs.length ∧ ∀ (i : Nat) v x u, vs[i]? = some v → xs[i]? = some x → VR ι F w H v u → TR (fun b => F b ∨ Fl ι H l b) w x u) := by
  have up : ∀ {x : T} {u : Value}, TR F w x u → TR (fun b => F b ∨ Fl ι H l b) w x u := fun h => h.mono (fun _ h => .inl h) (fun _ _ => rfl)
  intro n
  induction n with
  | zero => exact ⟨fun v x u h => by simp [fz] at h, fun vs xs h => by simp [fzs] at h⟩
  | succ n ih =>
    obtain ⟨ih1, ih2⟩ := ih
    refine ⟨?_, ?_⟩
    · intro v x u h hv
      cases v with
      | t y => simp [fz] at h; subst h; exact ⟨up hv.t_inv, fun hn e => hn (by rw [e])⟩
      | nil => simp [fz] at h
      | fit s xs => simp [fz] at h; subst h; cases hv with | fit _ _ a h => exact ⟨up h, fun _ => by simp⟩
      | tup vs => simp [fz] at h
      | all id lim =>
        simp only [fz, nth_eq] at h
        split at h
        · rename_i s xs sp ro hm ho
          simp at h; subst h
          refine ⟨?_, fun _ => by simp⟩
          cases hv with
          | all _ _ _ hs =>
          unfold OwnSl at hs
          rw [ho] at hs
          obtain ⟨a, cap, rfl, hcap, hoff, hcase⟩ := hs
          simp only [Option.getD_none] at *
          obtain ⟨h0, hblk⟩ := hg.obj id _ ho
          rcases hblk with ⟨hi, rfl, _⟩ | ⟨b, cs, e, hi, hh, h3, h4, h5, h6, c, g1, g2, g3⟩
          · exact .slN _ _ _
          · rw [hi] at hcase
            by_cases hx : xs.length = 0
            · have : xs = [] := by cases xs with | nil => rfl | cons _ _ => simp at hx
              subst this
              exact .slN _ _ _
            · have ha : a = some ⟨b, 0 * s, none⟩ := hcase.1.resolve_left (by omega)
              subst ha
              have := slice_tree (F := fun b => F b ∨ Fl ι H l b) (w := w) (off := 0) (n := xs.length) (cap := cap) (fl_of hm ho rfl hi) g1 g2 (fun i j x t hx hne ht => up (g3 i j x t hx hne ht)) (by simp) hcap hx
              simpa using this
        · contradiction
      | sl id off len lim =>
        simp only [fz, nth_eq] at h
        split at h
        · rename_i s xs sp ro hm ho
          simp at h; subst h
          refine ⟨?_, fun _ => by simp⟩
          cases hv with
          | sl _ _ _ _ _ hs =>
          unfold OwnSl at hs
          rw [ho] at hs
          obtain ⟨a, cap, rfl, hcap, hoff, hcase⟩ := hs
          simp only [Option.getD_some] at *
          obtain ⟨h0, hblk⟩ := hg.obj id _ ho
          have hlen : ((xs.drop off).take len).length = len := by simp; omega
          by_cases hx : len = 0
          · subst hx
            simp only [List.take_zero]
            exact .slN _ _ _
          · rcases hblk with ⟨hi, rfl, _⟩ | ⟨b, cs, e, hi, hh, h3, h4, h5, h6, c, g1, g2, g3⟩
            · simp at hoff; omega
            · rw [hi] at hcase
              have ha : a = some ⟨b, off * s, none⟩ := hcase.1.resolve_left (by omega)
              subst ha
              exact slice_tree (F := fun b => F b ∨ Fl ι H l b) (w := w) (off := off) (n := len) (cap := cap) (fl_of hm ho rfl hi) g1 g2 (fun i j x t hx hne ht => up (g3 i j x t hx hne ht)) hlen.symm hcap hx
        · contradiction
      | ptr id i j =>
        simp only [fz, nth_eq] at h
        split at h
        · rename_i s v ro hm ho
          split at h
          · rename_i y hy
            simp at h; subst h
            refine ⟨?_, fun _ => by simp⟩
            cases hv with
            | ptr _ _ _ _ hp =>
            unfold OwnPtr at hp
            rw [ho] at hp
            obtain ⟨b, hb, rfl⟩ := hp
            obtain ⟨h1, h2, b', val, e, h3, h4, h5, h6, h7⟩ := hg.obj id _ ho
            rw [hb] at h3
            obtain rfl := Option.some.inj h3
            obtain ⟨ht, hne⟩ := ih1 v y val hy h5
            have hne := hne h1
            obtain ⟨k1, k2⟩ := ht.cells hne
            have := TR.ip (F := fun b => F b ∨ Fl ι H l b) (w := w) s y j b 0 (fun j => val.cells.getD j undef) (fl_of hm ho rfl hb) hne ?_ (by rw [k1, h6]) ?_
            · simpa using this
            · intro j hj
              have hj' : j < val.cells.size := by omega
              have hget : val.cells[j]? = some val.cells[j] := by simp
              refine ⟨?_, ?_⟩
              · rw [cell_of_row w b _ _ e _ h4]; simp [hj']
              · have := h7 j _ hget; simpa [hj'] using this
            · intro j t ht'
              have hj : j < val.cells.size := by rw [← k1]; exact (List.getElem?_eq_some_iff.1 ht').1
              have hget : val.cells[j]? = some val.cells[j] := by simp
              have := k2 j t _ ht' hget
              simpa [hj] using this
          · contradiction
        · contradiction
      | clo f cs =>
        simp only [fz] at h
        split at h
        · rename_i l' hl
          simp at h; subst h
          refine ⟨?_, fun _ => by simp⟩
          obtain ⟨k1, k2⟩ := ih2 cs l' hl
          cases hv with
          | clo _ _ vs hn hc =>
            refine .clo f l' vs (k1.trans hn) ?_
            intro i x v hx hv
            have hlt : i < cs.length := by rw [← k1]; exact (List.getElem?_eq_some_iff.1 hx).1
            exact k2 i _ x v (List.getElem?_eq_getElem hlt) hx (hc i _ v (List.getElem?_eq_getElem hlt) hv)
        · contradiction
      | agg cs =>
        simp only [fz] at h
        split at h
        · rename_i l' hl
          simp at h; subst h
          refine ⟨?_, fun _ => by simp⟩
          obtain ⟨k1, k2⟩ := ih2 cs l' hl
          cases hv with
          | agg _ vs hn h1 hc =>
            refine .agg l' vs (k1.trans hn) h1 ?_
            intro i x v hx hv
            have hlt : i < cs.length := by rw [← k1]; exact (List.getElem?_eq_some_iff.1 hx).1
            exact k2 i _ x v (List.getElem?_eq_getElem hlt) hx (hc i _ v (List.getElem?_eq_getElem hlt) hv)
        · contradiction
    · intro vs xs h
      cases vs with
      | nil => simp [fzs] at h; subst h; exact ⟨rfl, by simp⟩
      | cons v r =>
        simp only [fzs] at h
        split at h
        · rename_i x l' hx hl
          simp at h; subst h
          obtain ⟨k1, k2⟩ := ih2 r l' hl
          refine ⟨by simp [k1], ?_⟩
          intro i y z u hy hz hu
          cases i with
          | zero => simp at hy hz; subst hy; subst hz; exact (ih1 v _ u hx hu).1
          | succ i => simp at hy hz; exact k2 i y z u hy hz hu
        · contradiction

theorem toT_ok (hg : Good ι F w H) {v : V} {u : Value} {R : T × Heap → Prop} (h : wpQ S (toT v H) R) (hv : VR ι F w H v u) :
    ∃ x H' F', R (x, H') ∧ Good ι F' w H' ∧ Step ι F H w ι F' H' w ∧ TR F' w x u ∧ (v ≠ .t .any → x ≠ .any) := by
  have gen : wpQ S ((forceN (reach H 200 v.ids [])).bind fun l => match fz l H depth v with
    | some x => .norm x fun x => .ret (x, roAll 0 l H)
    | none => .fail) R → ∃ x H' F', R (x, H') ∧ Good ι F' w H' ∧ Step ι F H w ι F' H' w ∧ TR F' w x u ∧ (v ≠ .t .any → x ≠ .any) := by
    intro h
    have h1 := wp_forceN (wpQ_bind _ _ _ h)
    generalize reach H 200 v.ids [] = l at h1
    cases hf : fz l H depth v with
    | none => rw [hf] at h1; exact h1.elim
    | some x =>
      rw [hf] at h1
      obtain ⟨k1, k2⟩ := (fz_ok hg l depth).1 v x u hf hv
      obtain ⟨g1, g2⟩ := ro_own hg l
      exact ⟨x, _, _, h1, g1, g2, k1, k2⟩
  cases v with
  | t x => exact ⟨x, H, F, h, hg, .refl ι F H w, hv.t_inv, fun hn e => hn (by rw [e])⟩
  | fit s xs => cases hv with | fit _ _ a hv => exact ⟨_, H, F, h, hg, .refl ι F H w, hv, fun _ => by simp⟩
  | _ => exact gen h

/-- What may be stored: as many cells as the type has, each one value. -/
theorem VR.shape {v : V} {u : Value} (h : VR ι F w H v u) (hv : v ≠ .t .any) (ha : alive H v = true) : v.cells.length = u.cells.size ∧ ∀ (i : Nat) c, u.cells[i]? = some c → c.oneCell' = true := by
  have one : ∀ {c : Value}, c.oneCell' = true → c.cells = #[c] := by intro c hc; cases c <;> simp_all [Value.oneCell', Value.cells]
  have fin : ∀ {c : Value}, c.oneCell' = true → (1 = c.cells.size ∧ ∀ (i : Nat) d, c.cells[i]? = some d → d.oneCell' = true) := by
    intro c hc
    rw [one hc]
    refine ⟨rfl, fun i d hd => ?_⟩
    cases i <;> simp at hd; subst hd; exact hc
  have thr : ∀ {id}, there H id = true → (∃ s v ro, H[id]? = some (.one s v ro)) ∨ (∃ s xs sp ro, H[id]? = some (.arr s xs sp ro)) := by
    intro id ht
    unfold there at ht
    simp only [nth_eq] at ht
    split at ht
    · rename_i s v ro h; exact .inl ⟨s, v, ro, h⟩
    · rename_i s xs sp ro h; exact .inr ⟨s, xs, sp, ro, h⟩
    · contradiction
  have sl : ∀ {id off : Nat} {n lim : Option Nat}, there H id = true → OwnSl ι w H id off n lim u → u.oneCell' = true := by
    intro id off n lim ht hs
    unfold OwnSl at hs
    rcases thr ht with ⟨s, v, ro, h⟩ | ⟨s, xs, sp, ro, h⟩
    · rw [h] at hs; exact hs.elim
    · rw [h] at hs; obtain ⟨a, cap, rfl, _⟩ := hs; rfl
  cases h with
  | t x v h =>
    have hx : x ≠ .any := fun e => hv (by rw [e])
    rw [V.cells_t]
    refine ⟨by simpa using (h.cells hx).1, ?_⟩
    cases h with
    | any => exact absurd rfl hx
    | agg vs cs hl h1 hc => exact h1
    | _ => exact (fin rfl).2
  | nil => exact fin rfl
  | fit sz xs a h => exact fin rfl
  | all id lim v h => exact fin (sl ha h)
  | sl id off len lim v h => exact fin (sl ha h)
  | ptr id i j v h =>
    refine fin ?_
    unfold OwnPtr at h
    rcases thr ha with ⟨s, v, ro, h'⟩ | ⟨s, xs, sp, ro, h'⟩
    · rw [h'] at h; obtain ⟨b, _, rfl⟩ := h; rfl
    · rw [h'] at h; obtain ⟨_, b, _, rfl⟩ := h; rfl
  | clo f cs vs hl hc => exact fin rfl
  | agg vs cs hl h1 hc => exact ⟨hl, h1⟩
  | tup vs cs hl hc => simp [alive] at ha

/-- The cells of a row behind a store. -/
theorem stored_get (cur : Array Value) (o : Nat) (vs : List Value) (h : o + vs.length ≤ cur.size) (i : Nat) :
    ((cur.toList.take o ++ vs ++ cur.toList.drop (o + vs.length)).toArray)[i]? = if o ≤ i ∧ i < o + vs.length then vs[i - o]? else cur[i]? := by
  rw [List.getElem?_toArray, List.append_assoc, List.getElem?_append]
  have hl : (cur.toList.take o).length = o := by simp; omega
  rw [hl]
  by_cases h1 : i < o
  · rw [if_pos h1, if_neg (by omega), List.getElem?_take_of_lt h1]; simp
  · rw [if_neg h1, List.getElem?_append]
    by_cases h2 : i - o < vs.length
    · rw [if_pos h2, if_pos (by omega)]
    · rw [if_neg h2, if_neg (by omega), List.getElem?_drop]
      have : o + vs.length + (i - o - vs.length) = i := by omega
      rw [this]; simp

theorem stored_size (cur : Array Value) (o : Nat) (vs : List Value) (h : o + vs.length ≤ cur.size) : ((cur.toList.take o ++ vs ++ cur.toList.drop (o + vs.length)).toArray).size = cur.size := by
  simp; omega

theorem run_storeAt (hc : CxTy P cx) {t : Nat} {i : TI} (hi : cx.ti.get t = some i) {b o : Nat} {u : Value} {cur : Array Value} {e : TypeId} (hb : w.heap[b]? = some (.cells cur e (0, 0)))
    (hsz : u.cells.size = sizeOf cx t) (hfit : o + u.cells.size ≤ cur.size) (h1 : ∀ (i : Nat) c, u.cells[i]? = some c → c.oneCell' = true) :
    (Instr.storeAt t (.pointer (some ⟨b, o, none⟩)) u).run P w = .ok () (w.setRow b (cur.toList.take o ++ u.cells.toList ++ cur.toList.drop (o + u.cells.toList.length)).toArray) := by
  have hst := run_storeCells_at P b o e u.cells.toList 0 cur w hb (by simpa using hfit) (by
    intro v hv
    obtain ⟨i, hi, rfl⟩ := List.getElem_of_mem hv
    exact h1 i _ (by simp at hi ⊢))
  simp only [Nat.add_zero] at hst
  simp only [Instr.storeAt, Instr.sureAddr, storeVar, Sem.run_bind, Sem.run_pure, Result.andThen_ok, run_sizeOf_ok hc hi, hsz, ne_eq, not_true_eq_false, if_false]
  exact hst
end
end Go.Eva

/- Eva, part 11: stores. -/
namespace Go.Eva
open Go.RowKit

section
variable {P : Program} {cx : Cx} {S : Task → (Res → Prop) → Prop} {w : World} {ι : Io} {F : Nat → Prop} {H : Heap}

theorem one_cells {c : Value} (hc : c.oneCell' = true) : c.cells = #[c] := by cases c <;> simp_all [Value.oneCell', Value.cells]

/-- A variable's value, a part of it written over. -/
theorem putV_ok {cx : Cx} {t s j : Nat} {old v : V} {val u : Value} {R : V → Prop} (h : wpQ S (putV cx t s old j v) R) (hov : VR ι F w H old val) (hon : old ≠ .t .any) (hos : old.size = s) (hvs : val.cells.size = s)
    (hone : ∀ (i : Nat) c, val.cells[i]? = some c → c.oneCell' = true) (hv : VR ι F w H v u) (hvn : v ≠ .t .any) (hvz : v.size = sizeOf cx t) (huz : u.cells.size = sizeOf cx t) (hu1 : ∀ (i : Nat) c, u.cells[i]? = some c → c.oneCell' = true)
    (hfit : j + v.size ≤ s) :
    ∃ v' val', R v' ∧ VR ι F w H v' val' ∧ v' ≠ .t .any ∧ v'.size = s ∧ val'.cells.size = s ∧ (∀ (i : Nat) c, val'.cells[i]? = some c → c.oneCell' = true) ∧
      val'.cells = (val.cells.toList.take j ++ u.cells.toList ++ val.cells.toList.drop (j + u.cells.toList.length)).toArray := by
  have hcv := hov.cells hon
  have hcu := hv.cells hvn
  have hlv : old.cells.length = val.cells.size := by rw [hvs, ← hos]; rfl
  have hlu : v.cells.length = u.cells.size := by rw [huz, ← hvz]; rfl
  have hfit' : j + u.cells.toList.length ≤ val.cells.size := by
    have : v.cells.length = v.size := rfl
    simp; omega
  have hget := stored_get val.cells j u.cells.toList hfit'
  have hsize := stored_size val.cells j u.cells.toList hfit'
  generalize hnew : (val.cells.toList.take j ++ u.cells.toList ++ val.cells.toList.drop (j + u.cells.toList.length)).toArray = new at *
  have hn1 : ∀ (i : Nat) c, new[i]? = some c → c.oneCell' = true := by
    intro i c hc
    rw [hget] at hc
    split at hc
    · exact hu1 (i - j) c (by simpa using hc)
    · exact hone i c hc
  have hov' := over_get old.cells j v.cells (by have : v.cells.length = v.size := rfl; have : old.cells.length = old.size := rfl; omega)
  have hol := over_len old.cells j v.cells (by have : v.cells.length = v.size := rfl; have : old.cells.length = old.size := rfl; omega)
  have hcell : ∀ (i : Nat) x c, (over old.cells j v.cells)[i]? = some x → new[i]? = some c → VR ι F w H x c := by
    intro i x c hx hc
    rw [hov'] at hx
    rw [hget] at hc
    simp only [Array.length_toList] at hc
    by_cases hin : j ≤ i ∧ i < j + v.cells.length
    · rw [if_pos hin] at hx
      rw [if_pos (by omega)] at hc
      exact hcu (i - j) x c hx (by simpa using hc)
    · rw [if_neg hin] at hx
      rw [if_neg (by omega)] at hc
      exact hcv i x c hx hc
  unfold putV at h
  split at h
  · rename_i hw
    simp only [Bool.and_eq_true, Bool.not_eq_true'] at hw
    have hj := Nat.eq_of_beq_eq_true hw.1.1.2
    have hs := Nat.eq_of_beq_eq_true hw.1.2
    subst hj
    refine ⟨v, u, wp_force h, hv, hvn, by omega, by omega, hu1, ?_⟩
    apply Array.ext_getElem?
    intro i
    rw [hget]
    simp only [Array.length_toList]
    by_cases hi : i < u.cells.size
    · rw [if_pos (by omega)]; simp
    · rw [if_neg (by omega), Array.getElem?_eq_none (by omega), Array.getElem?_eq_none (by omega)]
  · rename_i hnw
    have hlen : (over old.cells j v.cells).length = s := by rw [hol]; exact hos
    have h1 : wpQ S ((fun l => match (generalizing := false) old with
      | .t (.agg _) => force (mkAgg l)
      | .agg _ => force (mkAgg l)
      | _ => match l with
        | [.t .any] => .fail
        | [v] => .ret v
        | _ => .fail) (over old.cells j v.cells)) R := by
      rcases wp_cutV (wpQ_bind _ _ _ h) with ⟨h1, h2⟩ | ⟨h1, h2⟩
      · have hfull : ((over old.cells j v.cells).drop 0).take s = over old.cells j v.cells := by
          rw [List.drop_zero, List.take_of_length_le (by omega)]
        rw [hfull] at h1
        exact h1
      · have : over old.cells j v.cells = [] := by
          cases hq : over old.cells j v.cells with
          | nil => rfl
          | cons _ _ => rw [hq] at hlen; simp at hlen; omega
        rw [this]
        exact h2
    simp only at h1
    have hnl : (over old.cells j v.cells).length = new.size := by omega
    have agg : wpQ S (force (mkAgg (over old.cells j v.cells))) R → ∃ v' val', R v' ∧ VR ι F w H v' val' ∧ v' ≠ .t .any ∧ v'.size = s ∧ val'.cells.size = s ∧ (∀ (i : Nat) c, val'.cells[i]? = some c → c.oneCell' = true) ∧ val'.cells = new := by
      intro h
      refine ⟨_, .agg new, wp_force h, mkAgg_ok hnl hn1 hcell, ?_, ?_, by show new.size = s; omega, hn1, rfl⟩
      · unfold mkAgg; split <;> simp
      · have : (mkAgg (over old.cells j v.cells)).cells = over old.cells j v.cells := by
          unfold mkAgg
          split
          · rename_i l hl; rw [allT_some hl]; rfl
          · rfl
        unfold V.size
        rw [this, hol]
        exact hos
    split at h1
    · exact agg h1
    · exact agg h1
    · rename_i hno1 hno2
      split at h1
      · exact h1.elim
      · rename_i y hya hy
        have hs1 : s = 1 := by rw [← hlen, hy]; rfl
        have hnew1 : new.size = 1 := by omega
        have hc0 : new[0]? = some new[0] := by simp
        have hvr := hcell 0 y _ (by rw [hy]; rfl) hc0
        have h1c := hn1 0 _ hc0
        have hcc : (new[0]).cells = new := by
          rw [one_cells h1c]
          apply Array.ext_getElem?
          intro i
          cases i with
          | zero => simp
          | succ i => rw [Array.getElem?_eq_none (by simp), Array.getElem?_eq_none (by omega)]
        have hyn : y ≠ .t .any := fun e => hya e
        have hys : y.size = 1 := by
          generalize hq : new[0] = q at hvr h1c
          unfold V.size
          cases hvr with
          | t x v h =>
            rw [V.cells_t]
            cases h <;> first | rfl | (simp [Value.oneCell'] at h1c)
          | agg => simp [Value.oneCell'] at h1c
          | _ => rfl
        exact ⟨y, new[0], h1, hvr, hyn, by rw [hys, hs1], by rw [hcc]; omega, by rw [hcc]; exact hn1, hcc⟩
      · exact h1.elim

/-- The same of a tree. -/
theorem putT_ok {cx : Cx} {t s j : Nat} {old x : T} {c : Nat → Value} {u : Value} {R : T → Prop} (h : wpQ S (putT cx t s old j x) R) (hon : old ≠ .any) (hos : old.cells.length = s) (hs0 : 0 < s)
    (hcv : ∀ (i : Nat) t, old.cells[i]? = some t → TR F w t (c i)) (hone : ∀ i, i < s → (c i).oneCell' = true) (hx : TR F w x u) (hxn : x ≠ .any) (hxz : x.cells.length = sizeOf cx t) (huz : u.cells.size = sizeOf cx t)
    (hu1 : ∀ (i : Nat) c, u.cells[i]? = some c → c.oneCell' = true) (hfit : j + x.cells.length ≤ s) :
    ∃ y, R y ∧ y ≠ .any ∧ y.cells.length = s ∧ ∀ (i : Nat) t, y.cells[i]? = some t → TR F w t (if j ≤ i ∧ i < j + u.cells.size then u.cells.getD (i - j) undef else c i) := by
  obtain ⟨hlu, hcu⟩ := hx.cells hxn
  have hov' := over_get old.cells j x.cells (by omega)
  have hol := over_len old.cells j x.cells (by omega)
  have hcell : ∀ (i : Nat) t, (over old.cells j x.cells)[i]? = some t → TR F w t (if j ≤ i ∧ i < j + u.cells.size then u.cells.getD (i - j) undef else c i) := by
    intro i t ht
    rw [hov'] at ht
    by_cases hin : j ≤ i ∧ i < j + x.cells.length
    · rw [if_pos hin] at ht
      rw [if_pos (by omega)]
      have hlt : i - j < u.cells.size := by omega
      have hg : u.cells[i - j]? = some u.cells[i - j] := by simp
      have := hcu (i - j) t _ ht hg
      simpa [hlt] using this
    · rw [if_neg hin] at ht
      rw [if_neg (by omega)]
      exact hcv i t ht
  unfold putT at h
  split at h
  · rename_i hw
    simp only [Bool.and_eq_true, Bool.not_eq_true'] at hw
    have hj := Nat.eq_of_beq_eq_true hw.1.1.2
    have hs := Nat.eq_of_beq_eq_true hw.1.2
    subst hj
    refine ⟨x, h, hxn, by omega, ?_⟩
    intro i t ht
    have hlt : i < x.cells.length := (List.getElem?_eq_some_iff.1 ht).1
    have hlt' : i < u.cells.size := by omega
    rw [if_pos (by omega)]
    have hg : u.cells[i]? = some u.cells[i] := by simp
    have := hcu i t _ ht hg
    simpa [hlt'] using this
  · have hlen : (over old.cells j x.cells).length = s := by rw [hol]; exact hos
    rcases wp_cutT (wpQ_bind _ _ _ h) with ⟨h1, h2⟩ | ⟨h1, h2⟩
    · have hfull : ((over old.cells j x.cells).drop 0).take s = over old.cells j x.cells := by
        rw [List.drop_zero, List.take_of_length_le (by omega)]
      rw [hfull] at h1
      split at h1
      · exact ⟨_, h1, by simp, hlen, hcell⟩
      · rename_i hno
        split at h1
        · exact h1.elim
        · rename_i y hya hy
          have hs1 : s = 1 := by rw [← hlen, hy]; rfl
          have hyn : y ≠ .any := fun e => hya e
          have h0 := hcell 0 y (by rw [hy]; rfl)
          have h1c : (if j ≤ 0 ∧ 0 < j + u.cells.size then u.cells.getD (0 - j) undef else c 0).oneCell' = true := by
            split
            · rename_i hin
              have hlt : 0 - j < u.cells.size := by omega
              have hg : u.cells[0 - j]? = some u.cells[0 - j] := by simp
              have := hu1 _ _ hg
              have e : u.cells.getD (0 - j) undef = u.cells[0 - j] := by unfold Array.getD; rw [dif_pos hlt]; rfl
              rw [e]
              exact this
            · exact hone 0 (by omega)
          have hyc : y.cells = [y] := by
            apply T.cells_one
            intro vs e
            subst e
            generalize (if j ≤ 0 ∧ 0 < j + u.cells.size then u.cells.getD (0 - j) undef else c 0) = q at h0 h1c
            cases h0
            simp [Value.oneCell'] at h1c
          refine ⟨y, h1, hyn, by rw [hyc, hs1]; rfl, ?_⟩
          rw [hyc, ← hy]
          exact hcell
        · exact h1.elim
    · omega
end
end Go.Eva

/- Eva, part 12: a store; new variables. -/
namespace Go.Eva
open Go.RowKit

section
variable {P : Program} {cx : Cx} {S : Task → (Res → Prop) → Prop} {w : World} {ι : Io} {F : Nat → Prop} {H : Heap}

/-- The row of an object is turned. -/
theorem row_turned (hg : Good ι F w H) {id b : Nat} {o o' : Ob} {cur new : Array Value} {e : TypeId} (ho : H[id]? = some o) (hr : o.ro = false) (hb : ι id = some b) (hh : w.heap[b]? = some (.cells cur e (0, 0)))
    (hlike : Like ι ι w (w.setRow b new) id o o') (hro : o'.isDead = false → o'.ro = o.ro)
    (hob : (∀ i oi, H[i]? = some oi → ∃ o'', (H.set id o')[i]? = some o'' ∧ Like ι ι w (w.setRow b new) i oi o'') → (∀ b', F b' → (w.setRow b new).heap[b']? = w.heap[b']?) → ObR ι F (w.setRow b new) (H.set id o') id o') :
    Good ι F (w.setRow b new) (H.set id o') ∧ Step ι F H w ι F (H.set id o') (w.setRow b new) := by
  refine set_own hg ho rfl rfl rfl (by simp) ?_ hlike hro (fun hl => hob hl ?_)
  · intro b' hb'
    refine setRow_other w b b' new ?_
    intro e
    subst e
    rcases hb' with h | h
    · rw [hr] at h; contradiction
    · exact h hb
  · intro b' hf
    refine setRow_other w b b' new ?_
    intro e
    subst e
    exact hg.sep b' ⟨id, o, ho, hr, hb⟩ hf

theorem wp_onlyIf {α : Type} {b : Bool} {q : Q α} {R : α → Prop} (h : wpQ S (onlyIf b q) R) : b = true ∧ wpQ S q R := by
  cases b with
  | true => exact ⟨rfl, h⟩
  | false => exact h.elim

theorem notAny_ok {v : V} (h : notAny v = true) : v ≠ .t .any := by rintro rfl; simp [notAny] at h

theorem fitsV_ok {size s j : Nat} {v : V} (h : fitsV size s j v = true) : v.size = size ∧ j + v.size ≤ s ∧ v ≠ .t .any := by
  simp only [fitsV, Bool.and_eq_true] at h
  exact ⟨Nat.eq_of_beq_eq_true h.1.1, Nat.le_of_ble_eq_true h.1.2, notAny_ok h.2⟩

theorem fitsT_ok {size s j : Nat} {x : T} (h : fitsT size s j x = true) : x.cells.length = size ∧ j + x.cells.length ≤ s ∧ x ≠ .any := by
  simp only [fitsT, Bool.and_eq_true] at h
  refine ⟨Nat.eq_of_beq_eq_true h.1.1, Nat.le_of_ble_eq_true h.1.2, ?_⟩
  rintro rfl
  simp [notAny] at h

theorem storeAt_ok (hc : CxTy P cx) (hg : Good ι F w H) {t : Nat} {i : TI} (hi : cx.ti.get t = some i) {a v : V} {av u : Value} {R : Heap → Prop} (h : wpQ S (storeAt cx t a v H) R) (ha : VR ι F w H a av) (hv : VR ι F w H v u) :
    ∃ H' F' w', R H' ∧ Good ι F' w' H' ∧ Step ι F H w ι F' H' w' ∧ (Instr.storeAt t av u).run P w = .ok () w' := by
  unfold storeAt at h
  split at h
  · rename_i id k j
    rw [nth_eq] at h
    split at h
    · rename_i s old ho
      split at h
      · split at h
        · rename_i hal
          obtain ⟨hsz, hfit, hne⟩ := fitsV_ok (wp_onlyIf h).1
          replace h := (wp_onlyIf h).2
          obtain ⟨h1, h2, b, val, e, h3, h4, h5, h6, h7⟩ := hg.obj id _ ho
          cases ha with
          | ptr _ _ _ _ hp =>
          unfold OwnPtr at hp
          rw [ho] at hp
          obtain ⟨b', hb', rfl⟩ := hp
          rw [h3] at hb'
          obtain rfl := Option.some.inj hb'
          obtain ⟨g1, g2⟩ := hv.shape hne hal
          have huz : u.cells.size = sizeOf cx t := by rw [← g1, ← hsz]; rfl
          obtain ⟨v', val', k1, k2, k3, k4, k5, k6, k7⟩ := putV_ok (wpQ_bind _ _ _ h) h5 h1 h2 h6 h7 hv hne hsz huz g2 hfit
          obtain ⟨hid, k1⟩ := wp_setH k1
          have hrun := run_storeAt (P := P) hc hi h4 huz (by omega) g2 (o := j)
          rw [← k7] at hrun
          obtain ⟨q1, q2⟩ := row_turned hg (o' := .one s v' false) ho rfl h3 h4 (.inr ⟨rfl, v', false, rfl⟩) (fun _ => rfl) (fun hl hf =>
            ⟨k3, k4, b, val', e, h3, setRow_heap w b _ _ _ _ h4, k2.mono (fun _ h => h) hf hl, k5, k6⟩)
          exact ⟨_, F, _, k1, q1, q2, hrun⟩
        · exact h.elim
      · exact h.elim
    · rename_i s xs0 sp0 ho
      obtain ⟨x, H1, F1, t1, t2, t3, t4, t5⟩ := toT_ok hg (wpQ_bind _ _ _ h) hv
      simp only [nth_eq] at t1
      split at t1
      · rename_i s' xs sp ho1
        obtain ⟨hsz, hfit, hne⟩ := fitsT_ok (wp_onlyIf t1).1
        replace t1 := (wp_onlyIf t1).2
        have ha1 := t3.vr hg ha
        cases ha1 with
        | ptr _ _ _ _ hp =>
        unfold OwnPtr at hp
        rw [ho1] at hp
        obtain ⟨hlt, b, hb, rfl⟩ := hp
        obtain ⟨o'', hl1, hl2⟩ := t3.like id _ ho
        rw [ho1] at hl1
        obtain rfl := Option.some.inj hl1
        have hss : s' = s := by
          rcases hl2 with h | ⟨_, _, xs', sp', ro', he, _⟩
          · contradiction
          · injection he
        subst hss
        obtain ⟨h0, hblk⟩ := t2.obj id _ ho1
        rcases hblk with ⟨hi0, rfl, _⟩ | ⟨b', cs, e, hi1, hh, h3, h4, ⟨m, hm⟩, h6, c, g1, g2, g3⟩
        · simp at hlt
        · rw [hb] at hi1
          obtain rfl := Option.some.inj hi1
          obtain ⟨kc1, kc2⟩ := t4.cells hne
          have huz : u.cells.size = sizeOf cx t := by rw [← kc1, hsz]
          have hu1 : ∀ (i : Nat) c, u.cells[i]? = some c → c.oneCell' = true := by
            intro i d hd
            cases t4 with
            | any => exact absurd rfl hne
            | agg vs ds hl ho hc => exact ho i d hd
            | _ => cases i <;> simp [Value.cells] at hd; subst hd; rfl
          have hk : (k + 1) * s' ≤ xs.length * s' := Nat.mul_le_mul_right _ hlt
          rw [Nat.add_mul, Nat.one_mul] at hk
          have hrun := run_storeAt (P := P) hc hi hh huz (by omega) hu1 (o := k * s' + j)
          have hget := stored_get cs (k * s' + j) u.cells.toList (by simp; omega)
          have hsize := stored_size cs (k * s' + j) u.cells.toList (by simp; omega)
          generalize hnew : (cs.toList.take (k * s' + j) ++ u.cells.toList ++ cs.toList.drop (k * s' + j + u.cells.toList.length)).toArray = new at *
          have fin : ∀ y, y ≠ .any → y.cells.length = s' → (∀ (i : Nat) t, y.cells[i]? = some t → TR F1 w t (if j ≤ i ∧ i < j + u.cells.size then u.cells.getD (i - j) undef else c k i)) →
              Good ι F1 (w.setRow b new) (H1.set id (.arr s' (xs.set k y) sp false)) ∧ Step ι F1 H1 w ι F1 (H1.set id (.arr s' (xs.set k y) sp false)) (w.setRow b new) := by
            intro y hyn hyl hyc
            refine row_turned t2 ho1 rfl hb hh (.inr ⟨rfl, fun b' hb' => ?_, xs.set k y, sp, false, rfl, by simp⟩) (fun _ => rfl) (fun hl hf => ?_)
            · rw [hb] at hb'
              obtain rfl := Option.some.inj hb'
              unfold blk
              rw [setRow_heap w b _ _ _ _ hh, hh]
              exact hsize
            · have hnc : ∀ n, (w.setRow b new).cell? ⟨b, n, none⟩ = new[n]? := fun n => cell_of_row _ b n _ e _ (setRow_heap w b _ _ _ _ hh)
              have hoc : ∀ n, w.cell? ⟨b, n, none⟩ = cs[n]? := fun n => cell_of_row _ b n _ e _ hh
              have div : ∀ i j', i < xs.length → j' < s' → (k * s' + j ≤ i * s' + j' ∧ i * s' + j' < k * s' + j + u.cells.size ↔ i = k ∧ j ≤ j' ∧ j' < j + u.cells.size) := by
                intro i j' hi hj'
                constructor
                · rintro ⟨h1, h2⟩
                  have hik : i = k := by
                    rcases Nat.lt_trichotomy i k with hlt | rfl | hgt
                    · have := Nat.mul_le_mul_right s' (show i + 1 ≤ k from hlt)
                      rw [Nat.add_mul, Nat.one_mul] at this
                      omega
                    · rfl
                    · have := Nat.mul_le_mul_right s' (show k + 1 ≤ i from hgt)
                      rw [Nat.add_mul, Nat.one_mul] at this
                      omega
                  subst hik
                  omega
                · rintro ⟨rfl, h1, h2⟩; omega
              refine ⟨h0, .inr ⟨b, new, e, hb, setRow_heap w b _ _ _ _ hh, by simp; omega, by simpa [hsize] using h4, ⟨m, by omega⟩, ?_, fun i j' => if i = k ∧ j ≤ j' ∧ j' < j + u.cells.size then u.cells.getD (j' - j) undef else c i j', ?_, ?_, ?_⟩⟩
              · intro n d hd
                rw [hget] at hd
                split at hd
                · exact hu1 _ d (by simpa using hd)
                · exact h6 n d hd
              · intro i j' hi hj'
                simp at hi
                rw [hnc, hget]
                simp only [Array.length_toList]
                by_cases hin : i = k ∧ j ≤ j' ∧ j' < j + u.cells.size
                · rw [if_pos ((div i j' hi hj').2 hin), if_pos hin]
                  have hlt' : j' - j < u.cells.size := by omega
                  have hgg : u.cells[j' - j]? = some u.cells[j' - j] := by simp
                  have hidx : i * s' + j' - (k * s' + j) = j' - j := by obtain ⟨rfl, _⟩ := hin; omega
                  rw [hidx]
                  have ed : u.cells.getD (j' - j) undef = u.cells[j' - j] := by unfold Array.getD; rw [dif_pos hlt']; rfl
                  rw [ed]
                  exact ⟨by simp [hgg], hu1 _ _ hgg⟩
                · rw [if_neg (fun hh => hin ((div i j' hi hj').1 hh)), if_neg hin, ← hoc]
                  exact g1 i j' hi hj'
              · intro i x' hx' hne'
                rw [List.getElem?_set] at hx'
                split at hx'
                · rename_i hik
                  subst hik
                  simp at hx'
                  subst hx'
                  exact hyl
                · exact g2 i x' hx' hne'
              · intro i j' x' t' hx' hne' ht'
                rw [List.getElem?_set] at hx'
                split at hx'
                · rename_i hik
                  subst hik
                  simp at hx'
                  subst hx'
                  have := (hyc j' t' ht').mono (F' := F1) (w' := w.setRow b new) (fun _ h => h) hf
                  simpa using this
                · rename_i hik
                  have := (g3 i j' x' t' hx' hne' ht').mono (F' := F1) (w' := w.setRow b new) (fun _ h => h) hf
                  show TR F1 _ t' (if i = k ∧ j ≤ j' ∧ j' < j + u.cells.size then u.cells.getD (j' - j) undef else c i j')
                  rw [if_neg (fun hh => hik hh.1.symm)]
                  exact this
          split at t1
          · rename_i hw
            simp only [Bool.and_eq_true, Bool.not_eq_true'] at hw
            have hj := Nat.eq_of_beq_eq_true hw.1.1.2
            have hs := Nat.eq_of_beq_eq_true hw.1.2
            subst hj
            obtain ⟨_, t1⟩ := t1
            obtain ⟨_, t1⟩ := wp_setH t1
            obtain ⟨q1, q2⟩ := fin x hne (by omega) (by
              intro i t' ht'
              have hlt' : i < u.cells.size := by rw [← kc1]; exact (List.getElem?_eq_some_iff.1 ht').1
              rw [if_pos (by omega)]
              have hgg : u.cells[i]? = some u.cells[i] := by simp
              have := kc2 i t' _ ht' hgg
              simpa [hlt'] using this)
            exact ⟨_, F1, _, t1, q1, t3.trans q2, hrun⟩
          · obtain ⟨old, hold, hon, t1⟩ := t1
            obtain ⟨y, r1, r2, r3, r4⟩ := putT_ok (c := c k) (wpQ_bind _ _ _ t1) hon (g2 k old hold hon) h0 (fun i t' ht' => g3 k i old t' hold hon ht') (fun i hi => (g1 k i hlt hi).2) t4 hne hsz huz hu1 hfit
            obtain ⟨_, r1⟩ := wp_setH r1
            obtain ⟨q1, q2⟩ := fin y r2 r3 r4
            exact ⟨_, F1, _, r1, q1, t3.trans q2, hrun⟩
      · exact t1.elim
    · exact h.elim
  · exact h.elim
end
end Go.Eva

/- Eva, part 13: stores and new variables as operations; elements; lengths. -/
namespace Go.Eva
open Go.RowKit

section
variable {P : Program} {cx : Cx} {S : Task → (Res → Prop) → Prop} {w : World} {ι : Io} {F : Nat → Prop} {H : Heap}
variable {o : Oper} {e : Env} {a : Act} {R : V × Heap → Prop} {Q : Exit → Act → World → Prop}

theorem op_store (hc : CxTy P cx) (hg : Good ι F w H) (hs : Sim ι F w H e a) (t : Nat) (x y : Operand) (ho : o.op = .store t x y) (ht : ∃ i, cx.ti.get t = some i) (h : wpQ S (opQ cx o e H) R) :
    o.wp P a w (OpPost R o ι F H w a) Q := by
  unfold opQ at h
  rw [ho] at h
  simp only at h
  obtain ⟨i, hi⟩ := ht
  obtain ⟨v, h1, h2⟩ := typed_ok (wpQ_bind _ _ _ h) (eval_ok hs y)
  obtain ⟨H', F', w', k1, k2, k3, k4⟩ := storeAt_ok hc hg hi (wpQ_bind _ _ _ h1) (eval_ok hs x) h2
  have hrun : (execOp a.eval o).run P w = .ok .skip w' := by
    unfold execOp
    rw [ho]
    show ((Instr.storeAt t (a.eval x) (a.eval y)) >>= fun _ => pure Next.skip).run P w = _
    rw [Sem.run_bind, k4]
    rfl
  unfold Oper.wp
  rw [hrun]
  exact ⟨_, H', ι, F', undef, k1, rfl, k2, k3, .tup [] #[] rfl (by simp)⟩

/-- A variable of its own. -/
theorem newOne_ok (hg : Good ι F w H) {t : Nat} {v : V} {u : Value} (h : wpQ S (newOne cx t v H) R) (hv : VR ι F w H v u) :
    ∃ ι' H' v', R (v', H') ∧ Good ι' F (w.alloc (.cells u.cells t)) H' ∧ Step ι F H w ι' F H' (w.alloc (.cells u.cells t)) ∧ VR ι' F (w.alloc (.cells u.cells t)) H' v' (.pointer (some ⟨w.heap.size, 0, none⟩)) := by
  unfold newOne at h
  split at h
  · exact h.elim
  · rename_i v0 _ bb hna hb
    simp only [Bool.and_eq_true] at hb
    have hsz := Nat.eq_of_beq_eq_true hb.1
    have hne : v0 ≠ .t .any := fun e => hna e
    have h1 := wp_litN (wpQ_bind _ _ _ h)
    have h2 := wp_alloc (wpQ_bind _ _ _ h1)
    obtain ⟨g1, g2⟩ := hv.shape hne hb.2
    have hl := like_push (ob := .one (sizeOf cx t) v0 false) (o := .cells u.cells t (0, 0)) (b := some w.heap.size) hg.lt
    obtain ⟨q1, q2⟩ := alloc_own hg (.one (sizeOf cx t) v0 false) u.cells t rfl
      ⟨hne, hsz, w.heap.size, u, t, by simp [upd], heap_new, hv.mono (fun _ h => h) (fun b hb => heap_old (hg.fin b hb)) hl, by rw [← g1, ← hsz]; rfl, g2⟩
    refine ⟨_, _, _, h2, q1, q2, .ptr _ _ _ _ ?_⟩
    unfold OwnPtr
    simp only [List.getElem?_append_right (Nat.le_refl _), Nat.sub_self, List.getElem?_cons_zero]
    exact ⟨w.heap.size, by simp [upd], rfl⟩
  · exact h.elim

theorem op_box (hg : Good ι F w H) (hs : Sim ι F w H e a) (t : Nat) (x : Operand) (ho : o.op = .box t x) (h : wpQ S (opQ cx o e H) R) :
    o.wp P a w (fun a' w' => OpPost R o ι F H w a a' w' ∧ OldSame w w') Q := by
  unfold opQ at h
  rw [ho] at h
  simp only at h
  obtain ⟨v, h1, h2⟩ := typed_ok (wpQ_bind _ _ _ h) (eval_ok hs x)
  obtain ⟨ι', H', v', k1, k2, k3, k4⟩ := newOne_ok hg h1 h2
  refine wp_value ?_ ⟨⟨v', H', ι', F, _, k1, rfl, k2, k3, k4⟩, .alloc w _⟩
  simp [execOp, ho, Instr.box, newVar, newRow]

theorem op_alloc (hc : CxTy P cx) (hg : Good ι F w H) (t : Nat) (ho : o.op = .alloc t) (h : wpQ S (opQ cx o e H) R) :
    o.wp P a w (fun a' w' => OpPost R o ι F H w a a' w' ∧ OldSame w w') Q := by
  unfold opQ at h
  rw [ho] at h
  simp only at h
  split at h
  · rename_i z hz
    have h1 := wp_force (wpQ_bind _ _ _ h)
    have : ∃ i, cx.ti.get t = some i := by
      cases hq : cx.ti.get t with
      | some i => exact ⟨i, rfl⟩
      | none => unfold depth zeroV at hz; simp [hq] at hz
    obtain ⟨i, hi⟩ := this
    obtain ⟨inf, d, c1, c2, c3, c4, c5, c6, c7⟩ := hc.ty t i hi
    obtain ⟨zv, d1, d2⟩ := c7
    have d2 := d2 z hz
    obtain ⟨ι', H', v', k1, k2, k3, k4⟩ := newOne_ok hg h1 (d2.1 ι F w H)
    refine wp_value ?_ ⟨⟨v', H', ι', F, _, k1, rfl, k2, k3, k4⟩, .alloc w _⟩
    simp [execOp, ho, Instr.alloc, newVar, newRow, zeroValue, typeInfo, c1, d1]
  · exact h.elim

theorem idx_ok {α : Type} {v : V} {u : Value} {k : Nat → Eva.Q α} {R : α → Prop} (h : wpQ S (idx v k) R) (hv : VR ι F w H v u) : ∃ kd n, u = .int kd n ∧ 0 ≤ n ∧ wpQ S (k n.toNat) R := by
  unfold idx at h
  split at h
  · rename_i kd n
    exact ⟨kd, n, hv.t_inv.int_inv, h.1, h.2⟩
  · exact h.elim

theorem run_indexAt {t el : Nat} (hc : CxTy P cx) (he : elemTy cx t = some el) {p : Addr} {len cap : Nat} {kd : IntKind} {n : Int} (h0 : 0 ≤ n) (hn : n.toNat < len) :
    (Instr.indexAt t (.slice (some p) len cap) (.int kd n)).run P w = .ok (.pointer (some (p.add (n.toNat * sizeOf cx el)))) w := by
  obtain ⟨h1, i, inf, h2, h3, h4, h5, h6, h7, h8⟩ := elem_ok hc he
  have hs := run_sizeOf_ok hc h2 w
  have hnn : n < len := by omega
  simp [Instr.indexAt, run_underlying h1, asIntOf, h0, hnn, hs]

theorem indexV_ok (hc : CxTy P cx) (hg : Good ι F w H) {t el : Nat} (he : elemTy cx t = some el) {v iv : V} {u iu : Value} {R : V → Prop} (h : wpQ S (indexV (sizeOf cx el) v iv H) R) (hv : VR ι F w H v u) (hiv : VR ι F w H iv iu) :
    ∃ r val, R r ∧ VR ι F w H r val ∧ ∀ w, (Instr.indexAt t u iu).run P w = .ok val w := by
  have tree : ∀ (s : Nat) (xs : List T) (len cap : Nat) (p : Option Addr), TR F w (.sl s xs) (.slice p len cap) → Nat.beq s (sizeOf cx el) = true → wpQ S (idx iv fun i => .get xs i fun x => .ret (.t (.ip s x 0))) R →
      ∃ r val, R r ∧ VR ι F w H r val ∧ ∀ w, (Instr.indexAt t (.slice p len cap) iu).run P w = .ok val w := by
    intro s xs len cap p ht hs h
    have hs := Nat.eq_of_beq_eq_true hs
    subst hs
    obtain ⟨kd, n, rfl, h0, x, hx, hne, h⟩ := idx_ok h hiv
    have hlt : n.toNat < xs.length := (List.getElem?_eq_some_iff.1 hx).1
    cases ht with
    | slN => simp at hx
    | slC _ _ b oo _ c hn hcap hF hcc hl hr =>
      refine ⟨_, _, h, .t _ _ ?_, fun _ => run_indexAt hc he h0 hlt⟩
      rw [addr_add]
      have := TR.ip (F := F) (w := w) (sizeOf cx el) x 0 b (oo + n.toNat * sizeOf cx el) (c n.toNat) hF hne (fun j hj => by have := hcc n.toNat j hlt hj; simpa [Nat.add_assoc] using this) (hl _ x hx hne) (fun j t ht => hr _ j x t hx hne ht)
      simpa using this
  unfold indexV at h
  split at h
  · rename_i s xs
    split at h
    · rename_i hs
      have ht := hv.t_inv
      cases ht with
      | slN => exact tree _ _ _ _ _ (.slN _ _ _) hs h
      | slC _ _ b oo cap c hn hcap hF hcc hl hr => exact tree _ _ _ _ _ (.slC _ _ b oo _ c hn hcap hF hcc hl hr) hs h
    · exact h.elim
  · rename_i s xs
    split at h
    · rename_i hs
      cases hv with
      | fit _ _ p ht => exact tree _ _ _ _ _ ht hs h
    · exact h.elim
  · rename_i id lim
    rw [nth_eq] at h
    split at h
    · rename_i s xs sp ro hob
      split at h
      · rename_i hs
        have hs := Nat.eq_of_beq_eq_true hs
        subst hs
        obtain ⟨kd, n, rfl, h0, hlt, h⟩ := idx_ok h hiv
        cases hv with
        | all _ _ _ ho =>
        unfold OwnSl at ho
        rw [hob] at ho
        obtain ⟨p, cap, rfl, hcap, hoff, hcase⟩ := ho
        simp only [Option.getD_none] at *
        obtain ⟨h00, hblk⟩ := hg.obj id _ hob
        rcases hblk with ⟨hi, rfl, _⟩ | ⟨b, cs, ee, hi, _⟩
        · simp at hlt
        · rw [hi] at hcase
          have hp : p = some ⟨b, 0 * sizeOf cx el, none⟩ := hcase.1.resolve_left (by omega)
          subst hp
          refine ⟨_, _, h, .ptr _ _ _ _ ?_, fun _ => run_indexAt hc he h0 hlt⟩
          unfold OwnPtr
          rw [hob, addr_add]
          exact ⟨hlt, b, hi, by simp⟩
      · exact h.elim
    · exact h.elim
  · rename_i id off len lim
    rw [nth_eq] at h
    split at h
    · rename_i s xs sp ro hob
      split at h
      · rename_i hs
        have hs := Nat.eq_of_beq_eq_true hs
        subst hs
        obtain ⟨kd, n, rfl, h0, hlt, h⟩ := idx_ok h hiv
        cases hv with
        | sl _ _ _ _ _ ho =>
        unfold OwnSl at ho
        rw [hob] at ho
        obtain ⟨p, cap, rfl, hcap, hoff, hcase⟩ := ho
        simp only [Option.getD_some] at *
        obtain ⟨h00, hblk⟩ := hg.obj id _ hob
        rcases hblk with ⟨hi, rfl, _⟩ | ⟨b, cs, ee, hi, _⟩
        · simp at hoff; omega
        · rw [hi] at hcase
          have hp : p = some ⟨b, off * sizeOf cx el, none⟩ := hcase.1.resolve_left (by omega)
          subst hp
          refine ⟨_, _, h, .ptr _ _ _ _ ?_, fun _ => run_indexAt hc he h0 hlt⟩
          unfold OwnPtr
          rw [hob, addr_add]
          exact ⟨by omega, b, hi, by simp [Nat.add_mul]⟩
      · exact h.elim
    · exact h.elim
  · exact h.elim

theorem op_indexAddr (hc : CxTy P cx) (hg : Good ι F w H) (hs : Sim ι F w H e a) (t : Nat) (x i : Operand) (ho : o.op = .indexAddr t x i) (h : wpQ S (opQ cx o e H) R) :
    Still (Any) P R o ι F H w a := by
  unfold opQ at h
  rw [ho] at h
  simp only at h
  split at h
  · rename_i el he
    obtain ⟨v, h1, h2⟩ := typed_ok (wpQ_bind _ _ _ h) (eval_ok hs x)
    obtain ⟨r, val, k1, k2, k3⟩ := indexV_ok (P := P) hc hg he (wpQ_bind _ _ _ h1) h2 (eval_ok hs i)
    refine op_still hg k1 k2 fun w => ?_
    simp [execOp, ho, k3]
  · exact h.elim

theorem lenV_ok {v : V} {u : Value} {n : Nat} (h : lenV v H = some n) (hv : VR ι F w H v u) : (∃ p c, u = .slice p n c) ∨ ∃ s, v = .t (.str s) ∧ u = .string s ∧ s.size = n := by
  unfold lenV at h
  split at h
  · simp at h; subst h
    have ht := hv.t_inv
    cases ht with
    | slN => exact .inl ⟨_, _, rfl⟩
    | slC => exact .inl ⟨_, _, rfl⟩
  · simp at h; subst h
    cases hv with
    | fit _ _ p ht => exact .inl ⟨_, _, rfl⟩
  · rw [nth_eq] at h
    split at h
    · rename_i hob
      simp at h; subst h
      cases hv with
      | all _ _ _ ho =>
      unfold OwnSl at ho
      rw [hob] at ho
      obtain ⟨p, cap, rfl, _⟩ := ho
      exact .inl ⟨_, _, rfl⟩
    · contradiction
  · rw [nth_eq] at h
    split at h
    · rename_i hob
      simp at h; subst h
      cases hv with
      | sl _ _ _ _ _ ho =>
      unfold OwnSl at ho
      rw [hob] at ho
      obtain ⟨p, cap, rfl, _⟩ := ho
      exact .inl ⟨_, _, rfl⟩
    · contradiction
  · simp at h; subst h
    exact .inr ⟨_, rfl, hv.t_inv.str_inv, rfl⟩
  · contradiction

end
end Go.Eva

/- Eva, part 14: structs by value. -/
namespace Go.Eva
open Go.RowKit

section
variable {P : Program} {cx : Cx} {S : Task → (Res → Prop) → Prop} {w : World} {ι : Io} {F : Nat → Prop} {H : Heap}
variable {o : Oper} {e : Env} {a : Act} {R : V × Heap → Prop} {Q : Exit → Act → World → Prop}

theorem partV_ok (hc : CxTy P cx) {ft off : Nat} {i : TI} (hi : cx.ti.get ft = some i) {vs : List V} {cs : Array Value} {R : V → Prop} (h : wpQ S (partV cx ft vs off) R) (hl : vs.length = cs.size) (h1 : ∀ (i : Nat) c, cs[i]? = some c → c.oneCell' = true)
    (hcc : ∀ (i : Nat) y c, vs[i]? = some y → cs[i]? = some c → VR ι F w H y c) : ∃ r val, R r ∧ VR ι F w H r val ∧ ∀ w, (part ft cs off).run P w = .ok val w := by
  unfold partV at h
  split at h
  · rename_i hst
    have fin : ∀ l, l = (vs.drop off).take (sizeOf cx ft) → l.length = sizeOf cx ft → wpQ S (force (mkAgg l)) R → ∃ r val, R r ∧ VR ι F w H r val ∧ ∀ w, (part ft cs off).run P w = .ok val w := by
      intro l he hll h
      refine ⟨_, _, wp_force h, mkAgg_ok (cs := cs.extract off (off + sizeOf cx ft)) ?_ ?_ ?_, fun _ => run_part_agg hc hi hst cs off⟩
      · subst he; simp at hll ⊢; omega
      · intro k c hk
        rw [Array.getElem?_extract] at hk
        split at hk
        · exact h1 _ c hk
        · contradiction
      · intro k x c hx hk
        rw [Array.getElem?_extract] at hk
        split at hk
        · subst he
          rw [List.getElem?_take] at hx
          split at hx
          · rw [List.getElem?_drop] at hx
            exact hcc _ x c hx hk
          · contradiction
        · contradiction
    rcases wp_cutV (wpQ_bind _ _ _ h) with ⟨k1, k2⟩ | ⟨k1, k2⟩
    · exact fin _ rfl (by simp; omega) k1
    · exact fin [] (by simp [k1]) (by simp [k1]) k2
  · rename_i hst
    rcases wp_cutV (wpQ_bind _ _ _ h) with ⟨k1, k2⟩ | ⟨k1, _⟩
    · have hj : off < vs.length := by omega
      have ee : (vs.drop off).take 1 = [vs[off]] := by rw [List.drop_eq_getElem_cons hj]; rfl
      rw [ee] at k1
      have hj' : off < cs.size := by omega
      have hcv : cs[off]? = some cs[off] := by simp
      exact ⟨_, _, k1, hcc off _ _ (List.getElem?_eq_getElem hj) hcv, fun _ => run_part_one hc hi hst cs off hcv⟩
    · omega

theorem op_field (hc : CxTy P cx) (hg : Good ι F w H) (hs : Sim ι F w H e a) (t : Nat) (x : Operand) (f : Nat) (ho : o.op = .field t x f) (h : wpQ S (opQ cx o e H) R) :
    Still (Any) P R o ι F H w a := by
  unfold opQ at h
  rw [ho] at h
  simp only at h
  have hx := eval_ok hs x
  split at h
  · rename_i off ft hf
    obtain ⟨fields, fd, h1, h2, h3, h4, i, h5⟩ := field_ok hc hf
    have hrun : ∀ cs val, a.eval x = .agg cs → (∀ w, (part ft cs off).run P w = .ok val w) → ∀ w, (execOp a.eval o).run P w = .ok (.value val) w := by
      intro cs val hq hp w
      simp [execOp, ho, hq, Instr.field, run_underlying h1, h2, asAgg, h4, h3, hp]
    split at h
    · rename_i vs hv
      rw [hv] at hx
      have hx := hx.t_inv
      generalize hq : a.eval x = u at hx
      cases hx with
      | agg _ cs hl ho1 hcc =>
        obtain ⟨r, val, k1, k2, k3⟩ := partV_ok (P := P) (ι := ι) (F := F) (w := w) (H := H) hc h5 (wpQ_bind _ _ _ h) (by simpa using hl) ho1 (by
          intro i y c hy hc
          simp at hy
          obtain ⟨z, hz, rfl⟩ := hy
          exact .t _ _ (hcc i z c hz hc))
        exact op_still hg k1 k2 (hrun cs val hq k3)
    · rename_i vs hv
      rw [hv] at hx
      generalize hq : a.eval x = u at hx
      cases hx with
      | agg _ cs hl ho1 hcc =>
        obtain ⟨r, val, k1, k2, k3⟩ := partV_ok (P := P) (ι := ι) (F := F) (w := w) (H := H) hc h5 (wpQ_bind _ _ _ h) hl ho1 hcc
        exact op_still hg k1 k2 (hrun cs val hq k3)
    · exact h.elim
  · exact h.elim

/-- Cells laid over cells, as 'build' lays them. -/
theorem fold_cells : ∀ (l : List Value) (j : Nat) (off : Nat) (cs : Array Value), off + j + l.length ≤ cs.size →
    ((l.zipIdx j).foldl (fun cs (c, j) => cs.setIfInBounds (off + j) c) cs).size = cs.size ∧
    ∀ i : Nat, ((l.zipIdx j).foldl (fun cs (c, j) => cs.setIfInBounds (off + j) c) cs)[i]? = if off + j ≤ i ∧ i < off + j + l.length then l[i - (off + j)]? else cs[i]?
  | [], j, off, cs, _ => by
    refine ⟨rfl, fun i => ?_⟩
    simp only [List.zipIdx_nil, List.foldl_nil, List.length_nil, Nat.add_zero]
    rw [if_neg (by omega)]
  | x :: l, j, off, cs, h => by
    simp only [List.length_cons] at h
    obtain ⟨h1, h2⟩ := fold_cells l (j + 1) off (cs.setIfInBounds (off + j) x) (by simp; omega)
    simp only [List.zipIdx_cons, List.foldl_cons]
    refine ⟨by rw [h1]; simp, fun i => ?_⟩
    rw [h2]
    by_cases hi : i = off + j
    · subst hi
      rw [if_neg (by omega), if_pos (by simp), Array.getElem?_setIfInBounds_self_of_lt (by omega)]
      simp
    · by_cases hin : off + (j + 1) ≤ i ∧ i < off + (j + 1) + l.length
      · rw [if_pos hin, if_pos (by simp; omega)]
        have : i - (off + j) = (i - (off + (j + 1))) + 1 := by omega
        rw [this]; simp
      · rw [if_neg hin, if_neg (by simp; omega), Array.getElem?_setIfInBounds_ne (by omega)]

theorem fill_ok (hc : CxTy P cx) (hs : Sim ι F w H e a) {fs : List (Nat × Nat)} {place : Nat → Option (Nat × Nat)} (hpl : ∀ i off t, nth fs i = some (off, t) → place i = some (off, sizeOf cx t)) :
    ∀ {parts : List (Nat × Operand)} {cs : List V} {vc : Array Value} {R : List V → Prop}, wpQ S (fill cx e H fs parts cs) R → cs.length = vc.size → (∀ (i : Nat) c, vc[i]? = some c → c.oneCell' = true) →
      (∀ (i : Nat) y c, cs[i]? = some y → vc[i]? = some c → VR ι F w H y c) →
      ∃ cs' vc', R cs' ∧ Instr.fill place vc (parts.map fun p => (p.1, a.eval p.2)) = some vc' ∧ cs'.length = vc'.size ∧ vc'.size = vc.size ∧ (∀ (i : Nat) c, vc'[i]? = some c → c.oneCell' = true) ∧
        (∀ (i : Nat) y c, cs'[i]? = some y → vc'[i]? = some c → VR ι F w H y c)
  | [], cs, vc, R, h, hl, h1, hcc => ⟨cs, vc, h, rfl, hl, rfl, h1, hcc⟩
  | (i, x) :: r, cs, vc, R, h, hl, h1, hcc => by
    unfold fill at h
    split at h
    · rename_i off t hn
      obtain ⟨v, k1, k2⟩ := typed_ok (wpQ_bind _ _ _ h) (eval_ok hs x)
      split at k1
      · rename_i hb
        simp only [Bool.and_eq_true] at hb
        have hsz := Nat.eq_of_beq_eq_true hb.1.1
        have hfit : off + v.size ≤ cs.length := Nat.le_of_ble_eq_true hb.1.2
        split at k1
        · exact k1.elim
        · rename_i hna
          have hne : v ≠ .t .any := fun e => hna e
          obtain ⟨g1, g2⟩ := k2.shape hne hb.2
          have hgc := k2.cells hne
          have hsz' : (a.eval x).cells.size = v.size := g1.symm
          obtain ⟨f1, f2⟩ := fold_cells (a.eval x).cells.toList 0 off vc (by simp; omega)
          simp only [Nat.add_zero, Array.length_toList] at f2
          have hov := over_get cs off v.cells (by have : v.cells.length = v.size := rfl; omega)
          have hol := over_len cs off v.cells (by have : v.cells.length = v.size := rfl; omega)
          obtain ⟨cs', vc', q1, q2, q3, q4, q5, q6⟩ := fill_ok hc hs hpl (vc := ((a.eval x).cells.zipIdx.toList).foldl (fun cs (c, j) => cs.setIfInBounds (off + j) c) vc) k1 (by rw [hol, hl]; rw [Array.toList_zipIdx]; exact f1.symm) (by
            intro i c hci
            rw [Array.toList_zipIdx, f2] at hci
            split at hci
            · exact g2 _ c (by simpa using hci)
            · exact h1 i c hci) (by
            intro i y c hy hci
            rw [hov] at hy
            rw [Array.toList_zipIdx, f2] at hci
            have hvl : v.cells.length = v.size := rfl
            by_cases hin : off ≤ i ∧ i < off + v.cells.length
            · rw [if_pos hin] at hy
              rw [if_pos (by omega)] at hci
              exact hgc (i - off) y c hy (by simpa using hci)
            · rw [if_neg hin] at hy
              rw [if_neg (by omega)] at hci
              exact hcc i y c hy hci)
          refine ⟨cs', vc', q1, ?_, q3, by rw [q4]; rw [Array.toList_zipIdx]; exact f1, q5, q6⟩
          simp only [List.map_cons, Instr.fill, hpl i off t hn]
          rw [if_neg (by simp; omega)]
          rw [← q2, Array.foldl_toList]
      · exact k1.elim
    · exact h.elim

theorem mapM_some {α β : Type} (f : α → Option β) (g : α → β) : ∀ (l : List α), (∀ x ∈ l, f x = some (g x)) → l.mapM f = some (l.map g)
  | [], _ => by simp
  | x :: r, h => by
    rw [List.mapM_cons, h x (by simp), mapM_some f g r (fun y hy => h y (by simp [hy]))]
    rfl

theorem op_build (hc : CxTy P cx) (hg : Good ι F w H) (hs : Sim ι F w H e a) (t : Nat) (parts : Array (Nat × Operand)) (ho : o.op = .build t parts) (h : wpQ S (opQ cx o e H) R) :
    Still (Any) P R o ι F H w a := by
  unfold opQ at h
  rw [ho] at h
  simp only at h
  split at h
  · rename_i z fs sz by_ eq hz hget
    obtain ⟨inf, d, c1, c2, c3, c4, c5, c6, c7⟩ := hc.ty t _ hget
    obtain ⟨zv, d1, d2⟩ := c7
    obtain ⟨d2, d3, d4, d5, d6⟩ := d2 z hz
    simp only [TyR] at c5
    obtain ⟨fields, rfl, hm, hall⟩ := c5
    have hpl : ∀ i off t', nth fs i = some (off, t') → ((fields.map fun f => (f.offset, sizeOf cx f.type))[i]?) = some (off, sizeOf cx t') := by
      intro i off t' hn
      rw [nth_eq, ← hm] at hn
      simp at hn ⊢
      obtain ⟨fd, h1, h2, h3⟩ := hn
      exact ⟨fd, h1, h2, by rw [h3]⟩
    have hzr := d2 ι F w H
    have hzc := hzr.cells d4
    obtain ⟨cs', vc', q1, q2, q3, q4, q5, q6⟩ := fill_ok (P := P) hc hs hpl (vc := zv.cells) (wpQ_bind _ _ _ h) (by rw [d6]; exact d5) d3 hzc
    have hplaces : fields.toList.mapM (fun f => (P.info? f.type).map fun i => (f.offset, i.size)) = some (fields.toList.map fun f => (f.offset, sizeOf cx f.type)) := by
      refine mapM_some _ _ _ (fun f hf => ?_)
      obtain ⟨_, i, hi⟩ := hall f hf
      obtain ⟨inf', d', k1, k2, k3, _⟩ := hc.ty _ _ hi
      simp [k1, k3, sizeOf, hi]
    have hbuilt : P.built t (parts.map fun (i, x) => (i, a.eval x)).toList = some vc' := by
      unfold Program.built
      simp only [c1, c2, d1, hplaces]
      rw [← q2]
      congr 1
      · funext i; simp
      · simp
    have hrun := fun w => run_build (P := P) w t (parts.map fun (i, x) => (i, a.eval x)) vc' hbuilt
    rcases wp_cutV (wpQ_bind _ _ _ q1) with ⟨k1, k2⟩ | ⟨k1, k2⟩
    · have hlen : cs'.length = sizeOf cx t := by
        have : sizeOf cx t = sz := by simp [sizeOf, hget]
        rw [q3, q4, d6, this]
      rw [List.drop_zero, List.take_of_length_le (by omega)] at k1
      exact op_still hg (wp_force (wpQ_bind _ _ _ k1)) (mkAgg_ok q3 q5 q6) (fun w => by simp [execOp, ho, hrun w])
    · have hlen : cs'.length = 0 := by
        have : sizeOf cx t = sz := by simp [sizeOf, hget]
        rw [q3, q4, d6, ← this, k1]
      have hnil : cs' = [] := List.eq_nil_of_length_eq_zero hlen
      subst hnil
      exact op_still hg (wp_force (wpQ_bind _ _ _ k2)) (mkAgg_ok q3 q5 q6) (fun w => by simp [execOp, ho, hrun w])
  · exact h.elim
end
end Go.Eva
