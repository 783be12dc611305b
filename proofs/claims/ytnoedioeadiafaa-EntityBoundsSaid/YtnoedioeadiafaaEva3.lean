/- A reading of the program, proved sound against the model, and what its functions answer by it: part 3. -/
import Derived.Test.YtnoedioeadiafaaEva2
set_option linter.unusedSimpArgs false
set_option linter.unusedVariables false
/- The statements of the entities, more. -/
namespace Go.Eva.S1
theorem f_joustlaw05_EntityCounts_loop (a : Int) (x : List Entity) (hx : x.length ≤ 40) (r : Bool) : ∀ (d i n : Nat), i + d = x.length → n ≤ i →
    Is cx (.loop 4 [0, 1, 0, 1, 1, 1, 1] 0 [vi a, .all 0 none, vi n, vi i] [.arr 9 (x.map Entity.enc) none r])
      ⟨.exit 0, [vi a, .all 0 none, vi (n + (x.drop i).countP fun e => e.kind == 1 : Nat), vi x.length], [.arr 9 (x.map Entity.enc) none r]⟩ := by
  intro d
  induction d with
  | zero =>
    intro i n hi hn
    rw [drop_end (by omega)]
    refine Wp.ev ?_
    refine gs (l := [.n (List.length (List.map Entity.enc x)) (List.length x), .b (decide ((↑i : Int) < (↑(List.length x) : Int))) false]) (by kernel_rfl) ⟨o_n (by simp), f_brp (by omega), trivial⟩ ?_
    refine rt (a := Res.mk (Ex.exit 0) [vi a, V.all 0 none, vi (↑n : Int), vi (↑i : Int)] [Ob.arr 9 (List.map Entity.enc x) none r]) (by kernel_rfl) ?_
    ((have hq : i = x.length := by omega); subst hq; rfl)
  | succ d ih =>
    intro i n hi hn
    have hlt : i < x.length := by omega
    have ih1 := ih (i + 1) n (by omega) (by omega)
    have ih2 := ih (i + 1) (n + 1) (by omega) (by omega)
    clear ih
    rw [countP_gt _ hlt]
    refine Wp.ev ?_
    refine gs (l := [.n (List.length (List.map Entity.enc x)) (List.length x), .b (decide ((↑i : Int) < (↑(List.length x) : Int))) true, .w ((0 : Int) ≤ (↑i : Int)), .n (Int.toNat (↑i : Int)) i, .w (i < List.length (List.map Entity.enc x)), .g (List.map Entity.enc x) i (Entity.enc (gt x i))]) (by kernel_rfl) ⟨o_n (by simp), t_brp (by omega), o_w (by omega), o_n (by kernel_rfl), o_w (by (simp; omega)), o_gt rfl (by assumption) (by intro h; cases h), trivial⟩ ?_
    refine bre (x := (gt x i).kind) (y := 1) (by kernel_rfl) (fun h1 => ?_) (fun h1 => ?_)
    · refine gs (l := [.i IntKind.i64 ((↑n : Int) + 1) ((↑(n + 1) : Int)), .i IntKind.i64 ((↑i : Int) + 1) ((↑(i + 1) : Int)), .a (Task.loop 4 [0, 1, 0, 1, 1, 1, 1] 0 [vi a, V.all 0 none, vi (↑(n + 1) : Int), vi (↑(i + 1) : Int)] [Ob.arr 9 (List.map Entity.enc x) none r]) (Res.mk (Ex.exit 0) [vi a, V.all 0 none, vi (↑(n + 1 + List.countP (fun (e : Entity) ↦ e.kind == 1) (List.drop (i + 1) x)) : Int), vi (↑(List.length x) : Int)] [Ob.arr 9 (List.map Entity.enc x) none r])]) (by kernel_rfl) ⟨o_i (w64 (by omega)), o_i (w64 (by omega)), o_a ih2, trivial⟩ ?_
      refine rt (a := Res.mk (Ex.exit 0) [vi a, V.all 0 none, vi (↑(n + 1 + List.countP (fun (e : Entity) ↦ e.kind == 1) (List.drop (i + 1) x)) : Int), vi (↑(List.length x) : Int)] [Ob.arr 9 (List.map Entity.enc x) none r]) (by kernel_rfl) ?_
      (simp_all; try omega)
    · refine gs (l := [.i IntKind.i64 ((↑i : Int) + 1) ((↑(i + 1) : Int)), .a (Task.loop 4 [0, 1, 0, 1, 1, 1, 1] 0 [vi a, V.all 0 none, vi (↑n : Int), vi (↑(i + 1) : Int)] [Ob.arr 9 (List.map Entity.enc x) none r]) (Res.mk (Ex.exit 0) [vi a, V.all 0 none, vi (↑(n + List.countP (fun (e : Entity) ↦ e.kind == 1) (List.drop (i + 1) x)) : Int), vi (↑(List.length x) : Int)] [Ob.arr 9 (List.map Entity.enc x) none r])]) (by kernel_rfl) ⟨o_i (w64 (by omega)), o_a ih1, trivial⟩ ?_
      refine rt (a := Res.mk (Ex.exit 0) [vi a, V.all 0 none, vi (↑(n + List.countP (fun (e : Entity) ↦ e.kind == 1) (List.drop (i + 1) x)) : Int), vi (↑(List.length x) : Int)] [Ob.arr 9 (List.map Entity.enc x) none r]) (by kernel_rfl) ?_
      (simp_all; try omega)
theorem f_joustlaw05_EntityCounts (l : List Entity) (a : Int) : Fn cx 4 [.sl 9 (l.map Entity.enc), ti a] (.bool true) := by
  have ha := f_joustlaw05_awake
  by_cases hl : l.length ≤ 40
  · have h2 := @puts_len l []
    simp only [List.length_nil, Nat.zero_add] at h2
    have h0 := f_entity_Put [] l (by decide) (by omega)
    have hsr : Srt (puts [] l) := puts_sorted (by simp [Srt])
    generalize puts [] l = x at *
    have hs : small x := by unfold small; omega
    have hL := f_joustlaw05_EntityCounts_loop a x (by omega) false x.length 0 0 (by omega) (by omega)
    rw [List.drop_zero, Nat.zero_add] at hL
    have hT := f_entity_Things x hs
    have hc := @things_players x
    unfold things at hT
    by_cases h0x : x.length = 0
    · have : x = [] := List.length_eq_zero_iff.1 h0x
      subst this
      refine Wp.ev ?_
      refine gs (l := [.n (List.length (List.map Entity.enc l)) (List.length l), .b (decide ((↑(List.length l) : Int) > 40)) false, .a (Task.call 14 [V.t (T.sl 9 []), V.t (T.sl 9 (List.map Entity.enc l))] []) (Res.mk Ex.ret [V.all 0 none] [Ob.arr 9 [] none false]), .a (Task.loop 4 [0, 1, 0, 1, 1, 1, 1] 0 [vi a, V.all 0 none, vi 0, vi 0] [Ob.arr 9 [] none false]) (Res.mk (Ex.exit 0) [vi a, V.all 0 none, vi 0, vi 0] [Ob.arr 9 [] none false]), .a (Task.call 13 [] []) (Res.mk Ex.ret [vb true] []), .b (!true) false, .ff, .a (Task.call 19 [V.t (T.sl 9 [])] []) (Res.mk Ex.ret [vi 0] []), .b (flats [ti 0]) true, .ff, .ff, .i IntKind.i64 0 0, .ff, .ff, .l 0, .ff]) (by kernel_rfl) ⟨o_n (by simp), f_brp (by omega), o_a h0, o_a hL, o_a ha, o_b (by kernel_rfl), o_a hT, o_b (by kernel_rfl), o_i (by kernel_rfl), trivial⟩ ?_
      refine gs (l := [.ff, .b (0 != 0) false, .l 0, .b (0 == 0) true]) (by kernel_rfl) ⟨o_b (by kernel_rfl), o_b (by kernel_rfl), trivial⟩ ?_
      refine rt (a := Res.mk Ex.ret [vb true] []) (by kernel_rfl) ?_
      rfl
    · have hpos : 0 ≤ IntKind.u64.wrap a := by simp [IntKind.wrap, IntKind.bits, IntKind.signed]; omega
      have hk := tmod_le (v := IntKind.u64.wrap a) (k := x.length) (by omega) hpos
      generalize hq : (IntKind.u64.wrap a).tmod x.length = q at *
      obtain ⟨k, rfl⟩ : ∃ k : Nat, q = k := ⟨q.toNat, by omega⟩
      have hkl : k < x.length := by omega
      have hi1 : small [(gt x k).id] := by simp [small]
      have hi2 : small [(gt x k).id, (gt x k).id] := by simp [small]
      have hdl := drop_len hsr hkl
      have hdp := drop_put hsr hkl
      have hds : small (drops x [(gt x k).id]) := by unfold small; omega
      have hD := f_entity_Drop (drops x [(gt x k).id]) [(gt x k).id, (gt x k).id] hds hi2
      rw [drop_drop] at hD
      have hP := f_entity_Put (drops x [(gt x k).id]) [gt x k] (by omega) (by simp)
      rw [show puts (drops x [(gt x k).id]) [gt x k] = x from hdp] at hP
      have hS := f_entity_Sorted (drops x [(gt x k).id]) hds
      rw [sorted_iff.2 (drop_sorted hsr)] at hS
      have hQ := f_jousthelp_Plain_Entity x x hs
      rw [show plain x x = true by simp [plain]] at hQ
      have hR := f_jousthelp_Plain_Entity (drops x [(gt x k).id]) (drops x [(gt x k).id]) hds
      rw [show plain (drops x [(gt x k).id]) (drops x [(gt x k).id]) = true by simp [plain]] at hR
      have hE := f_entity_Drop x [(gt x k).id] hs hi1
      refine Wp.ev ?_
      refine gs (l := [.n (List.length (List.map Entity.enc l)) (List.length l), .b (decide ((↑(List.length l) : Int) > 40)) false, .a (Task.call 14 [V.t (T.sl 9 []), V.t (T.sl 9 (List.map Entity.enc l))] []) (Res.mk Ex.ret [V.all 0 none] [Ob.arr 9 (List.map Entity.enc x) none false]), .a (Task.loop 4 [0, 1, 0, 1, 1, 1, 1] 0 [vi a, V.all 0 none, vi 0, vi 0] [Ob.arr 9 (List.map Entity.enc x) none false]) (Res.mk (Ex.exit 0) [vi a, V.all 0 none, vi (↑(List.countP (fun (e : Entity) ↦ e.kind == 1) x) : Int), vi (↑(List.length x) : Int)] [Ob.arr 9 (List.map Entity.enc x) none false]), .a (Task.call 13 [] []) (Res.mk Ex.ret [vb true] []), .b (!true) false, .ff, .a (Task.call 19 [V.t (T.sl 9 (List.map Entity.enc x))] []) (Res.mk Ex.ret [vi (↑(List.countP (fun (e : Entity) ↦ e.kind != 1) x) : Int)] []), .b (flats [ti (↑(List.countP (fun (e : Entity) ↦ e.kind != 1) x) : Int)]) true, .ff, .ff, .i IntKind.i64 ((↑(List.countP (fun (e : Entity) ↦ e.kind != 1) x) : Int) + (↑(List.countP (fun (e : Entity) ↦ e.kind == 1) x) : Int)) ((↑(List.countP (fun (e : Entity) ↦ e.kind != 1) x + List.countP (fun (e : Entity) ↦ e.kind == 1) x) : Int)), .ff, .ff, .n (List.length (List.map Entity.enc x)) (List.length x), .ff]) (by kernel_rfl) ⟨o_n (by simp), f_brp (by omega), o_a h0, o_a hL, o_a ha, o_b (by kernel_rfl), o_a hT, o_b (by kernel_rfl), o_i (w64 (by omega)), o_n (by simp), trivial⟩ ?_
      refine gs (l := [.ff, .b ((↑(List.countP (fun (e : Entity) ↦ e.kind != 1) x + List.countP (fun (e : Entity) ↦ e.kind == 1) x) : Int) != (↑(List.length x) : Int)) false, .n (List.length (List.map Entity.enc x)) (List.length x), .b ((↑(List.length x) : Int) == 0) false, .i IntKind.u64 a (IntKind.wrap IntKind.u64 a), .n (List.length (List.map Entity.enc x)) (List.length x), .i IntKind.u64 ((↑(List.length x) : Int)) ((↑(List.length x) : Int)), .w ((↑(List.length x) : Int) ≠ (0 : Int)), .t (T.int IntKind.u64 (Int.tmod (IntKind.wrap IntKind.u64 a) (↑(List.length x) : Int))) (T.int IntKind.u64 (↑k : Int)), .i IntKind.i64 (↑k : Int) (↑k : Int), .w ((0 : Int) ≤ (↑k : Int)), .n (Int.toNat (↑k : Int)) k, .w (k < List.length (List.map Entity.enc x)), .g (List.map Entity.enc x) k (Entity.enc (gt x k)), .a (Task.call 17 [V.t (T.sl 9 (List.map Entity.enc x)), V.t (T.sl 1 [ti (gt x k).id])] []) (Res.mk Ex.ret [V.all 0 none] [Ob.arr 9 (List.map Entity.enc (drops x [(gt x k).id])) none false]), .n (List.length (List.map Entity.enc (drops x [(gt x k).id]))) (List.length (drops x [(gt x k).id]))]) (by kernel_rfl) ⟨f_brn (by omega), o_n (by simp), f_bre (by omega), o_i rfl, o_n (by simp), o_i (wu64 (by omega)), o_w (by omega), o_t (by rw [hq]), o_i (w64 (by omega)), o_w (by omega), o_n (by kernel_rfl), o_w (by (simp; omega)), o_gt rfl (by assumption) (by intro h; cases h), o_a hE, o_n (by simp), trivial⟩ ?_
      refine gs (l := [.n (List.length (List.map Entity.enc x)) (List.length x), .i IntKind.i64 ((↑(List.length x) : Int) - 1) ((↑(List.length x) : Int) - 1), .b ((↑(List.length (drops x [(gt x k).id])) : Int) == (↑(List.length x) : Int) - 1) true, .tt, .tt, .tt, .a (Task.call 14 [V.t (T.sl 9 (List.map Entity.enc (drops x [(gt x k).id]))), V.t (T.sl 9 [Entity.enc (gt x k)])] []) (Res.mk Ex.ret [V.all 0 none] [Ob.arr 9 (List.map Entity.enc x) none false]), .tt, .tt, .a (Task.call 18 [V.t (T.sl 9 (List.map Entity.enc x)), V.t (T.sl 9 (List.map Entity.enc x))] []) (Res.mk Ex.ret [vb true] []), .b (flats [T.bool true]) true, .tt, .tt, .tt, .tt, .tt]) (by kernel_rfl) ⟨o_n (by simp), o_i (w64 (by omega)), t_bre (by omega), o_a hP, o_a hQ, o_b (by kernel_rfl), trivial⟩ ?_
      refine gs (l := [.tt, .tt, .tt, .a (Task.call 17 [V.t (T.sl 9 (List.map Entity.enc (drops x [(gt x k).id]))), V.t (T.sl 1 [ti (gt x k).id, ti (gt x k).id])] []) (Res.mk Ex.ret [V.all 0 none] [Ob.arr 9 (List.map Entity.enc (drops x [(gt x k).id])) none false]), .tt, .tt, .a (Task.call 18 [V.t (T.sl 9 (List.map Entity.enc (drops x [(gt x k).id]))), V.t (T.sl 9 (List.map Entity.enc (drops x [(gt x k).id])))] []) (Res.mk Ex.ret [vb true] []), .b (flats [T.bool true]) true, .tt, .tt, .tt, .a (Task.call 15 [V.t (T.sl 9 (List.map Entity.enc (drops x [(gt x k).id])))] []) (Res.mk Ex.ret [vb true] []), .b (flats [T.bool true]) true, .tt]) (by kernel_rfl) ⟨o_a hD, o_a hR, o_b (by kernel_rfl), o_a hS, o_b (by kernel_rfl), trivial⟩ ?_
      refine rt (a := Res.mk Ex.ret [vb true] []) (by kernel_rfl) ?_
      rfl
  · refine Wp.ev ?_
    refine gs (l := [.n (List.length (List.map Entity.enc l)) (List.length l), .b (decide ((↑(List.length l) : Int) > 40)) true, .a (Task.call 13 [] []) (Res.mk Ex.ret [vb true] [])]) (by kernel_rfl) ⟨o_n (by simp), t_brp (by omega), o_a ha, trivial⟩ ?_
    refine rt (a := Res.mk Ex.ret [vb true] []) (by kernel_rfl) ?_
    rfl
theorem f_joustlaw05_EntityTells_loop (c : Config) (e : Entity) (l m : List Entity) (ids : List Int) (id : Int) (g : Config) (X Y : List Entity) (n1 n2 : Nat) (hm : m.length ≤ 40) : ∀ (d i : Nat) (W : List Entity), i + d = m.length → W.length ≤ 40 + i →
    Is cx (.loop 6 [0, 1, 0, 1, 1, 1, 1, 1] 0 [.t (.sl 9 (l.map Entity.enc)), .t (.sl 9 (m.map Entity.enc)), .t (.sl 1 (ids.map ti)), vi id, .ptr 0 0 0, .ptr 1 0 0, .ptr 2 0 0, .sl 3 0 n1 none, .sl 4 0 n2 none, .t (.sl 9 (W.map Entity.enc)), vi i]
      [.one 5 (.t c.enc) false, .one 9 (.t e.enc) false, .one 5 (.t g.enc) false, .arr 9 (X.map Entity.enc) (some 0) false, .arr 9 (Y.map Entity.enc) (some 0) false])
      ⟨.exit 0, [.t (.sl 9 (l.map Entity.enc)), .t (.sl 9 (m.map Entity.enc)), .t (.sl 1 (ids.map ti)), vi id, .ptr 0 0 0, .ptr 1 0 0, .ptr 2 0 0, .sl 3 0 n1 none, .sl 4 0 n2 none, .t (.sl 9 ((puts W (m.drop i)).map Entity.enc)), vi m.length],
        [.one 5 (.t c.enc) false, .one 9 (.t e.enc) false, .one 5 (.t g.enc) false, .arr 9 (X.map Entity.enc) (some 0) false, .arr 9 (Y.map Entity.enc) (some 0) false]⟩ := by
  intro d
  induction d with
  | zero =>
    intro i W hi hW
    rw [drop_end (by omega)]
    refine Wp.ev ?_
    refine gs (l := [.n (List.length (List.map Entity.enc m)) (List.length m), .b (decide ((↑i : Int) < (↑(List.length m) : Int))) false]) (by kernel_rfl) ⟨o_n (by simp), f_brp (by omega), trivial⟩ ?_
    refine rt (a := Res.mk (Ex.exit 0) [V.t (T.sl 9 (List.map Entity.enc l)), V.t (T.sl 9 (List.map Entity.enc m)), V.t (T.sl 1 (List.map ti ids)), vi id, V.ptr 0 0 0, V.ptr 1 0 0, V.ptr 2 0 0, V.sl 3 0 n1 none, V.sl 4 0 n2 none, V.t (T.sl 9 (List.map Entity.enc W)), vi (↑i : Int)] [Ob.one 5 (V.t (Config.enc c)) false, Ob.one 9 (V.t (Entity.enc e)) false, Ob.one 5 (V.t (Config.enc g)) false, Ob.arr 9 (List.map Entity.enc X) (some 0) false, Ob.arr 9 (List.map Entity.enc Y) (some 0) false]) (by kernel_rfl) ?_
    ((have hq : i = m.length := by omega); subst hq; rfl)
  | succ d ih =>
    intro i W hi hW
    have hlt : i < m.length := by omega
    have hl := @put1_len W (gt m i)
    have ih1 := ih (i + 1) (put1 W (gt m i)) (by omega) (by omega)
    clear ih
    have hs : small W := by unfold small; omega
    rw [drop_gt hlt]
    show Is cx _ ⟨_, [_, _, _, _, _, _, _, _, _, .t (.sl 9 ((puts (put1 W (gt m i)) (m.drop (i + 1))).map Entity.enc)), _], _⟩
    refine Wp.ev ?_
    refine gs (l := [.n (List.length (List.map Entity.enc m)) (List.length m), .b (decide ((↑i : Int) < (↑(List.length m) : Int))) true, .w ((0 : Int) ≤ (↑i : Int)), .n (Int.toNat (↑i : Int)) i, .g (List.map Entity.enc m) i (Entity.enc (gt m i)), .a (Task.call 24 [V.t (T.sl 9 (List.map Entity.enc W)), V.t (Entity.enc (gt m i))] []) (Res.mk Ex.ret [V.t (T.sl 9 (List.map Entity.enc (put1 W (gt m i))))] []), .i IntKind.i64 ((↑i : Int) + 1) ((↑(i + 1) : Int)), .a (Task.loop 6 [0, 1, 0, 1, 1, 1, 1, 1] 0 [V.t (T.sl 9 (List.map Entity.enc l)), V.t (T.sl 9 (List.map Entity.enc m)), V.t (T.sl 1 (List.map ti ids)), vi id, V.ptr 0 0 0, V.ptr 1 0 0, V.ptr 2 0 0, V.sl 3 0 n1 none, V.sl 4 0 n2 none, V.t (T.sl 9 (List.map Entity.enc (put1 W (gt m i)))), vi (↑(i + 1) : Int)] [Ob.one 5 (V.t (Config.enc c)) false, Ob.one 9 (V.t (Entity.enc e)) false, Ob.one 5 (V.t (Config.enc g)) false, Ob.arr 9 (List.map Entity.enc X) (some 0) false, Ob.arr 9 (List.map Entity.enc Y) (some 0) false]) (Res.mk (Ex.exit 0) [V.t (T.sl 9 (List.map Entity.enc l)), V.t (T.sl 9 (List.map Entity.enc m)), V.t (T.sl 1 (List.map ti ids)), vi id, V.ptr 0 0 0, V.ptr 1 0 0, V.ptr 2 0 0, V.sl 3 0 n1 none, V.sl 4 0 n2 none, V.t (T.sl 9 (List.map Entity.enc (puts (put1 W (gt m i)) (List.drop (i + 1) m)))), vi (↑(List.length m) : Int)] [Ob.one 5 (V.t (Config.enc c)) false, Ob.one 9 (V.t (Entity.enc e)) false, Ob.one 5 (V.t (Config.enc g)) false, Ob.arr 9 (List.map Entity.enc X) (some 0) false, Ob.arr 9 (List.map Entity.enc Y) (some 0) false])]) (by kernel_rfl) ⟨o_n (by simp), t_brp (by omega), o_w (by omega), o_n (by kernel_rfl), o_gt rfl (by assumption) (by intro h; cases h), o_a (f_joustref05_Put _ _ (by assumption)), o_i (w64 (by omega)), o_a ih1, trivial⟩ ?_
    refine rt (a := Res.mk (Ex.exit 0) [V.t (T.sl 9 (List.map Entity.enc l)), V.t (T.sl 9 (List.map Entity.enc m)), V.t (T.sl 1 (List.map ti ids)), vi id, V.ptr 0 0 0, V.ptr 1 0 0, V.ptr 2 0 0, V.sl 3 0 n1 none, V.sl 4 0 n2 none, V.t (T.sl 9 (List.map Entity.enc (puts (put1 W (gt m i)) (List.drop (i + 1) m)))), vi (↑(List.length m) : Int)] [Ob.one 5 (V.t (Config.enc c)) false, Ob.one 9 (V.t (Entity.enc e)) false, Ob.one 5 (V.t (Config.enc g)) false, Ob.arr 9 (List.map Entity.enc X) (some 0) false, Ob.arr 9 (List.map Entity.enc Y) (some 0) false]) (by kernel_rfl) ?_
    rfl
theorem f_joustlaw05_EntityTells (c : Config) (e : Entity) (l m : List Entity) (ids : List Int) (id : Int) : Fn cx 6 [c.enc, e.enc, .sl 9 (l.map Entity.enc), .sl 9 (m.map Entity.enc), .sl 1 (ids.map ti), ti id] (.bool true) := by
  have ha := f_joustlaw05_awake
  by_cases hl : l.length ≤ 40
  · by_cases hm : m.length ≤ 40
    · by_cases hi : ids.length ≤ 40
      · have hs : small l := by unfold small; omega
        have hsm : small m := by unfold small; omega
        have hsi : small ids := by unfold small; omega
        let f : Entity := ⟨71, 0, 0, 0, 0, 0, 0, 0, 0⟩
        have hL := f_joustlaw05_EntityTells_loop c e l m ids id c.grid (l ++ [f, f, f]) (m ++ [f, f, f]) l.length m.length hm m.length 0 l (by omega) (by omega)
        rw [List.drop_zero] at hL
        have hR := f_entity_Right c.grid e
        rw [Entity.right_grid] at hR
        have el : (l ++ [f, f, f]).take l.length = l := by simp
        have em : (m ++ [f, f, f]).take m.length = m := by simp
        have hpl := @puts_len m l
        have hdl : (drops l ids).length ≤ l.length := List.length_filter_le ..
        have hF := f_entity_Find ((l ++ [f, f, f]).take l.length) id (by rw [el]; exact hs)
        rw [show find ((l ++ [f, f, f]).take l.length) id = find l id by rw [el]] at hF
        have hP := f_entity_Put ((l ++ [f, f, f]).take l.length) ((m ++ [f, f, f]).take m.length) (by rw [el]; omega) (by rw [em]; omega)
        rw [show puts ((l ++ [f, f, f]).take l.length) ((m ++ [f, f, f]).take m.length) = puts l m by rw [el, em]] at hP
        have hD := f_entity_Drop ((l ++ [f, f, f]).take l.length) ids (by rw [el]; exact hs) hsi
        rw [show drops ((l ++ [f, f, f]).take l.length) ids = drops l ids by rw [el]] at hD
        have hT := f_entity_Things ((l ++ [f, f, f]).take l.length) (by rw [el]; exact hs)
        rw [show things ((l ++ [f, f, f]).take l.length) = things l by rw [el]] at hT
        have hS := f_entity_Sorted ((l ++ [f, f, f]).take l.length) (by rw [el]; exact hs)
        rw [show sortedL ((l ++ [f, f, f]).take l.length) = sortedL l by rw [el]] at hS
        have hQ := f_jousthelp_Plain_Entity (puts l m) (puts l m) (by unfold small; omega)
        rw [show plain (puts l m) (puts l m) = true by simp [plain]] at hQ
        have hQ2 := f_jousthelp_Plain_Entity (drops l ids) (drops l ids) (by unfold small; omega)
        rw [show plain (drops l ids) (drops l ids) = true by simp [plain]] at hQ2
        have hK := f_jousthelp_Kept_Entity l f (by omega) true
        have hK2 := f_jousthelp_Kept_Entity m f (by omega) true
        have hO := f_jousthelp_Own_Entity l f (by omega)
        have hO2 := f_jousthelp_Own_Entity m f (by omega)
        have hR2 := f_joustref05_Right c e
        have hF2 := f_joustref05_Find l id hs
        have hD2 := f_joustref05_Drop l ids hs hsi
        have hT2 := f_joustref05_Things l hs
        have hS2 := f_joustref05_Sorted l hs
        have hN := f_grid_New c
        clear el em
        generalize find l id = q1 at *
        generalize things l = q2 at *
        generalize e.right c = q3 at *
        generalize sortedL l = q4 at *
        refine Wp.ev ?_
        refine gs (l := [.n (List.length (List.map Entity.enc l)) (List.length l), .b (decide ((↑(List.length l) : Int) > 40)) false, .ff, .n (List.length (List.map Entity.enc m)) (List.length m), .ff, .ff, .b (decide ((↑(List.length m) : Int) > 40)) false, .ff, .n (List.length (List.map ti ids)) (List.length ids), .ff, .ff, .b (decide ((↑(List.length ids) : Int) > 40)) false, .a (Task.call 21 [V.t (Config.enc c)] []) (Res.mk Ex.ret [V.t (Config.enc (Config.grid c)), vi (Config.err c)] []), .a (Task.call 23 [V.t (T.sl 9 (List.map Entity.enc l)), V.t (T.agg [ti 71, ti 0, ti 0, ti 0, ti 0, ti 0, ti 0, ti 0, ti 0])] []) (Res.mk Ex.ret [V.sl 0 0 (List.length l) none] [Ob.arr 9 (List.map Entity.enc (l ++ [f, f, f])) (some 0) false]), .a (Task.call 23 [V.t (T.sl 9 (List.map Entity.enc m)), V.t (T.agg [ti 71, ti 0, ti 0, ti 0, ti 0, ti 0, ti 0, ti 0, ti 0])] []) (Res.mk Ex.ret [V.sl 0 0 (List.length m) none] [Ob.arr 9 (List.map Entity.enc (m ++ [f, f, f])) (some 0) false]), .a (Task.loop 6 [0, 1, 0, 1, 1, 1, 1, 1] 0 [V.t (T.sl 9 (List.map Entity.enc l)), V.t (T.sl 9 (List.map Entity.enc m)), V.t (T.sl 1 (List.map ti ids)), vi id, V.ptr 0 0 0, V.ptr 1 0 0, V.ptr 2 0 0, V.sl 3 0 (List.length l) none, V.sl 4 0 (List.length m) none, V.t (T.sl 9 (List.map Entity.enc l)), vi 0] [Ob.one 5 (V.t (Config.enc c)) false, Ob.one 9 (V.t (Entity.enc e)) false, Ob.one 5 (V.t (Config.enc (Config.grid c))) false, Ob.arr 9 (List.map Entity.enc (l ++ [f, f, f])) (some 0) false, Ob.arr 9 (List.map Entity.enc (m ++ [f, f, f])) (some 0) false]) (Res.mk (Ex.exit 0) [V.t (T.sl 9 (List.map Entity.enc l)), V.t (T.sl 9 (List.map Entity.enc m)), V.t (T.sl 1 (List.map ti ids)), vi id, V.ptr 0 0 0, V.ptr 1 0 0, V.ptr 2 0 0, V.sl 3 0 (List.length l) none, V.sl 4 0 (List.length m) none, V.t (T.sl 9 (List.map Entity.enc (puts l m))), vi (↑(List.length m) : Int)] [Ob.one 5 (V.t (Config.enc c)) false, Ob.one 9 (V.t (Entity.enc e)) false, Ob.one 5 (V.t (Config.enc (Config.grid c))) false, Ob.arr 9 (List.map Entity.enc (l ++ [f, f, f])) (some 0) false, Ob.arr 9 (List.map Entity.enc (m ++ [f, f, f])) (some 0) false])]) (by kernel_rfl) ⟨o_n (by simp), f_brp (by omega), o_n (by simp), f_brp (by omega), o_n (by simp), f_brp (by omega), o_a hN, o_a hO, o_a hO2, o_a hL, trivial⟩ ?_
        refine gs (l := [.a (Task.call 13 [] []) (Res.mk Ex.ret [vb true] []), .tt, .tt, .tt, .tt, .tt, .a (Task.call 22 [V.t (Config.enc (Config.grid c)), V.t (Entity.enc e)] []) (Res.mk Ex.ret [vb q3] []), .tt, .a (Task.call 25 [V.t (Config.enc c), V.t (Entity.enc e)] []) (Res.mk Ex.ret [vb q3] []), .tt, .w (isBool cx (4 : Nat) = true), .tt, .b (q3 == q3) true, .tt, .tt, .tt]) (by kernel_rfl) ⟨o_a ha, o_a hR, o_a hR2, o_w (by kernel_rfl), t_br (by simp), trivial⟩ ?_
        refine gs (l := [.tt, .t (T.sl 9 (List.take (List.length l) (List.drop 0 (List.map Entity.enc (l ++ [f, f, f]))))) (T.sl 9 (List.map Entity.enc (List.take (List.length l) (l ++ [f, f, f])))), .a (Task.call 16 [V.t (T.sl 9 (List.map Entity.enc (List.take (List.length l) (l ++ [f, f, f])))), vi id] []) (Res.mk Ex.ret [vi q1] []), .b (flats [ti q1]) true, .tt, .a (Task.call 26 [V.t (T.sl 9 (List.map Entity.enc l)), vi id] []) (Res.mk Ex.ret [vi q1] []), .tt, .tt, .b (q1 == q1) true, .tt, .tt, .tt, .t (T.sl 9 (List.take (List.length l) (List.drop 0 (List.map Entity.enc (l ++ [f, f, f]))))) (T.sl 9 (List.map Entity.enc (List.take (List.length l) (l ++ [f, f, f])))), .t (T.sl 9 (List.take (List.length m) (List.drop 0 (List.map Entity.enc (m ++ [f, f, f]))))) (T.sl 9 (List.map Entity.enc (List.take (List.length m) (m ++ [f, f, f])))), .a (Task.call 14 [V.t (T.sl 9 (List.map Entity.enc (List.take (List.length l) (l ++ [f, f, f])))), V.t (T.sl 9 (List.map Entity.enc (List.take (List.length m) (m ++ [f, f, f]))))] []) (Res.mk Ex.ret [V.all 0 none] [Ob.arr 9 (List.map Entity.enc (puts l m)) none false]), .tt]) (by kernel_rfl) ⟨o_l (nm_eq (nm_take (nm_drop rfl)) (by kernel_rfl)), o_a hF, o_b (by kernel_rfl), o_a hF2, t_bre (by kernel_rfl), o_l (nm_eq (nm_take (nm_drop rfl)) (by kernel_rfl)), o_l (nm_eq (nm_take (nm_drop rfl)) (by kernel_rfl)), o_a hP, trivial⟩ ?_
        refine gs (l := [.a (Task.call 18 [V.t (T.sl 9 (List.map Entity.enc (puts l m))), V.t (T.sl 9 (List.map Entity.enc (puts l m)))] []) (Res.mk Ex.ret [vb true] []), .b (flats [T.bool true]) true, .tt, .tt, .tt, .tt, .tt, .tt, .t (T.sl 9 (List.take (List.length l) (List.drop 0 (List.map Entity.enc (l ++ [f, f, f]))))) (T.sl 9 (List.map Entity.enc (List.take (List.length l) (l ++ [f, f, f])))), .a (Task.call 17 [V.t (T.sl 9 (List.map Entity.enc (List.take (List.length l) (l ++ [f, f, f])))), V.t (T.sl 1 (List.map ti ids))] []) (Res.mk Ex.ret [V.all 0 none] [Ob.arr 9 (List.map Entity.enc (drops l ids)) none false]), .tt, .a (Task.call 27 [V.t (T.sl 9 (List.map Entity.enc l)), V.t (T.sl 1 (List.map ti ids))] []) (Res.mk Ex.ret [V.t (T.sl 9 (List.map Entity.enc (drops l ids)))] []), .tt, .a (Task.call 18 [V.t (T.sl 9 (List.map Entity.enc (drops l ids))), V.t (T.sl 9 (List.map Entity.enc (drops l ids)))] []) (Res.mk Ex.ret [vb true] []), .b (flats [T.bool true]) true, .tt]) (by kernel_rfl) ⟨o_a hQ, o_b (by kernel_rfl), o_l (nm_eq (nm_take (nm_drop rfl)) (by kernel_rfl)), o_a hD, o_a hD2, o_a hQ2, o_b (by kernel_rfl), trivial⟩ ?_
        refine gs (l := [.tt, .tt, .tt, .t (T.sl 9 (List.take (List.length l) (List.drop 0 (List.map Entity.enc (l ++ [f, f, f]))))) (T.sl 9 (List.map Entity.enc (List.take (List.length l) (l ++ [f, f, f])))), .a (Task.call 19 [V.t (T.sl 9 (List.map Entity.enc (List.take (List.length l) (l ++ [f, f, f]))))] []) (Res.mk Ex.ret [vi q2] []), .b (flats [ti q2]) true, .tt, .a (Task.call 28 [V.t (T.sl 9 (List.map Entity.enc l))] []) (Res.mk Ex.ret [vi q2] []), .tt, .tt, .b (q2 == q2) true, .tt, .tt, .t (T.sl 9 (List.take (List.length l) (List.drop 0 (List.map Entity.enc (l ++ [f, f, f]))))) (T.sl 9 (List.map Entity.enc (List.take (List.length l) (l ++ [f, f, f])))), .a (Task.call 15 [V.t (T.sl 9 (List.map Entity.enc (List.take (List.length l) (l ++ [f, f, f]))))] []) (Res.mk Ex.ret [vb q4] []), .b (flats [T.bool q4]) true]) (by kernel_rfl) ⟨o_l (nm_eq (nm_take (nm_drop rfl)) (by kernel_rfl)), o_a hT, o_b (by kernel_rfl), o_a hT2, t_bre (by kernel_rfl), o_l (nm_eq (nm_take (nm_drop rfl)) (by kernel_rfl)), o_a hS, o_b (by kernel_rfl), trivial⟩ ?_
        refine gs (l := [.tt, .a (Task.call 29 [V.t (T.sl 9 (List.map Entity.enc l))] []) (Res.mk Ex.ret [vb q4] []), .tt, .w (isBool cx (4 : Nat) = true), .tt, .b (q4 == q4) true, .tt, .tt, .tt, .a (Task.call 30 [V.sl 0 0 (List.length l) none, V.t (T.sl 9 (List.map Entity.enc l)), V.t (T.agg [ti 71, ti 0, ti 0, ti 0, ti 0, ti 0, ti 0, ti 0, ti 0])] [Ob.arr 9 (List.map Entity.enc (l ++ [f, f, f])) (some 0) true]) (Res.mk Ex.ret [vb true] [Ob.arr 9 (List.map Entity.enc (l ++ [f, f, f])) (some 0) true]), .tt, .tt, .tt, .tt, .tt, .a (Task.call 30 [V.sl 0 0 (List.length m) none, V.t (T.sl 9 (List.map Entity.enc m)), V.t (T.agg [ti 71, ti 0, ti 0, ti 0, ti 0, ti 0, ti 0, ti 0, ti 0])] [Ob.arr 9 (List.map Entity.enc (m ++ [f, f, f])) (some 0) true]) (Res.mk Ex.ret [vb true] [Ob.arr 9 (List.map Entity.enc (m ++ [f, f, f])) (some 0) true])]) (by kernel_rfl) ⟨o_a hS2, o_w (by kernel_rfl), t_br (by simp), o_a hK, o_a hK2, trivial⟩ ?_
        refine gs (l := [.tt]) (by kernel_rfl) trivial ?_
        refine rt (a := Res.mk Ex.ret [vb true] []) (by kernel_rfl) ?_
        rfl
      · refine Wp.ev ?_
        refine gs (l := [.n (List.length (List.map Entity.enc l)) (List.length l), .b (decide ((↑(List.length l) : Int) > 40)) false, .ff, .n (List.length (List.map Entity.enc m)) (List.length m), .ff, .ff, .b (decide ((↑(List.length m) : Int) > 40)) false, .ff, .n (List.length (List.map ti ids)) (List.length ids), .ff, .ff, .b (decide ((↑(List.length ids) : Int) > 40)) true, .a (Task.call 13 [] []) (Res.mk Ex.ret [vb true] [])]) (by kernel_rfl) ⟨o_n (by simp), f_brp (by omega), o_n (by simp), f_brp (by omega), o_n (by simp), t_brp (by omega), o_a ha, trivial⟩ ?_
        refine rt (a := Res.mk Ex.ret [vb true] []) (by kernel_rfl) ?_
        rfl
    · refine Wp.ev ?_
      refine gs (l := [.n (List.length (List.map Entity.enc l)) (List.length l), .b (decide ((↑(List.length l) : Int) > 40)) false, .ff, .n (List.length (List.map Entity.enc m)) (List.length m), .ff, .ff, .b (decide ((↑(List.length m) : Int) > 40)) true, .tt, .tt, .tt, .tt, .a (Task.call 13 [] []) (Res.mk Ex.ret [vb true] [])]) (by kernel_rfl) ⟨o_n (by simp), f_brp (by omega), o_n (by simp), t_brp (by omega), o_a ha, trivial⟩ ?_
      refine rt (a := Res.mk Ex.ret [vb true] []) (by kernel_rfl) ?_
      rfl
  · refine Wp.ev ?_
    refine gs (l := [.n (List.length (List.map Entity.enc l)) (List.length l), .b (decide ((↑(List.length l) : Int) > 40)) true, .tt, .tt, .tt, .tt, .tt, .tt, .tt, .tt, .a (Task.call 13 [] []) (Res.mk Ex.ret [vb true] [])]) (by kernel_rfl) ⟨o_n (by simp), t_brp (by omega), o_a ha, trivial⟩ ?_
    refine rt (a := Res.mk Ex.ret [vb true] []) (by kernel_rfl) ?_
    rfl
end Go.Eva.S1

/- Eva, part 48: arenas that statements are about. -/
namespace Go.Eva

def u1 (n k : Int) : Int := 1 + (IntKind.u64.wrap n).tmod k
/-- The arena that a statement makes of any one. -/
def Config.play (c : Config) : Config := if c.right = true ∧ c.cols ≤ 3 ∧ c.rows ≤ 3 ∧ c.players ≤ 4 then c else ⟨u1 c.cols 3, u1 c.rows 3, u1 c.players 4, u1 c.window 8, c.seed⟩

theorem u64_nonneg {n : Int} : 0 ≤ IntKind.u64.wrap n := by simp [IntKind.wrap, IntKind.bits, IntKind.signed]; omega
theorem u64_tmod {n k : Int} (hk : 0 < k) : 0 ≤ (IntKind.u64.wrap n).tmod k ∧ (IntKind.u64.wrap n).tmod k < k := tmod_le hk u64_nonneg
theorem Config.play_ok {c : Config} : c.play.right = true ∧ (1 ≤ c.play.cols ∧ c.play.cols ≤ 3) ∧ (1 ≤ c.play.rows ∧ c.play.rows ≤ 3) ∧ (1 ≤ c.play.players ∧ c.play.players ≤ 4) ∧ 1 ≤ c.play.window ∧ c.play.window ≤ 16 := by
  unfold Config.play
  split
  · rename_i h
    have := Config.right_iff.1 h.1
    exact ⟨h.1, by omega, by omega, by omega, by omega⟩
  · have h1 := @u64_tmod c.cols 3 (by decide)
    have h2 := @u64_tmod c.rows 3 (by decide)
    have h3 := @u64_tmod c.players 4 (by decide)
    have h4 := @u64_tmod c.window 8 (by decide)
    simp only [Config.right_iff, u1]
    omega
theorem Config.grid_of {c : Config} (h : c.right = true) : c.grid = c := by simp [Config.grid, h]
theorem Config.err_of {c : Config} (h : c.right = true) : c.err = 0 := by simp [Config.err, h]
end Go.Eva

/- The bounds of entities. -/
namespace Go.Eva.S1
theorem f_joustplay_Config (c : Config) : Fn cx 20 [c.enc] c.play.enc := by
  have k1 := @u64_tmod c.cols 3 (by decide)
  have k2 := @u64_tmod c.rows 3 (by decide)
  have k3 := @u64_tmod c.players 4 (by decide)
  have k4 := @u64_tmod c.window 8 (by decide)
  refine Wp.ev ?_
  refine gs (l := [.a (Task.call 57 [V.t (Config.enc c)] []) (Res.mk Ex.ret [vb (Config.right c)] [])]) (by kernel_rfl) ⟨o_a (f_joustref03_Right _), trivial⟩ ?_
  refine br (b := Config.right c) (by kernel_rfl) (fun h1 => ?_) (fun h1 => ?_)
  · refine gs (l := [.tt, .tt, .tt]) (by kernel_rfl) trivial ?_
    refine brp (p := c.cols ≤ 3) (by kernel_rfl) (fun h2 => ?_) (fun h2 => ?_)
    · refine gs (l := [.tt, .tt, .tt]) (by kernel_rfl) trivial ?_
      refine brp (p := c.rows ≤ 3) (by kernel_rfl) (fun h3 => ?_) (fun h3 => ?_)
      · refine gs (l := [.tt, .tt, .tt]) (by kernel_rfl) trivial ?_
        refine brp (p := c.players ≤ 4) (by kernel_rfl) (fun h4 => ?_) (fun h4 => ?_)
        · refine rt (a := Res.mk Ex.ret [V.t (Config.enc c)] []) (by kernel_rfl) ?_
          (unfold Config.play; first | (rw [if_pos (by simp_all)]; done) | (rw [if_pos (by simp_all)]; rfl) | (rw [if_neg (by rintro ⟨q1, q2, q3, q4⟩; simp_all; try omega)]; simp [Config.enc, u1]; done))
        · refine gs (l := [.i IntKind.u64 c.cols (IntKind.wrap IntKind.u64 c.cols), .w ((3 : Int) ≠ (0 : Int)), .s (T.int IntKind.u64 (Int.tmod (IntKind.wrap IntKind.u64 c.cols) 3)), .i IntKind.i64 (Int.tmod (IntKind.wrap IntKind.u64 c.cols) 3) (Int.tmod (IntKind.wrap IntKind.u64 c.cols) 3), .i IntKind.i64 (1 + Int.tmod (IntKind.wrap IntKind.u64 c.cols) 3) (1 + Int.tmod (IntKind.wrap IntKind.u64 c.cols) 3), .i IntKind.u64 c.rows (IntKind.wrap IntKind.u64 c.rows), .w ((3 : Int) ≠ (0 : Int)), .s (T.int IntKind.u64 (Int.tmod (IntKind.wrap IntKind.u64 c.rows) 3)), .i IntKind.i64 (Int.tmod (IntKind.wrap IntKind.u64 c.rows) 3) (Int.tmod (IntKind.wrap IntKind.u64 c.rows) 3), .i IntKind.i64 (1 + Int.tmod (IntKind.wrap IntKind.u64 c.rows) 3) (1 + Int.tmod (IntKind.wrap IntKind.u64 c.rows) 3), .i IntKind.u64 c.players (IntKind.wrap IntKind.u64 c.players), .w ((4 : Int) ≠ (0 : Int)), .s (T.int IntKind.u64 (Int.tmod (IntKind.wrap IntKind.u64 c.players) 4)), .i IntKind.i64 (Int.tmod (IntKind.wrap IntKind.u64 c.players) 4) (Int.tmod (IntKind.wrap IntKind.u64 c.players) 4), .i IntKind.i64 (1 + Int.tmod (IntKind.wrap IntKind.u64 c.players) 4) (1 + Int.tmod (IntKind.wrap IntKind.u64 c.players) 4), .i IntKind.u64 c.window (IntKind.wrap IntKind.u64 c.window)]) (by kernel_rfl) ⟨o_i rfl, o_w (by intro h; cases h), o_i (w64 (by omega)), o_i (w64 (by omega)), o_i rfl, o_w (by intro h; cases h), o_i (w64 (by omega)), o_i (w64 (by omega)), o_i rfl, o_w (by intro h; cases h), o_i (w64 (by omega)), o_i (w64 (by omega)), o_i rfl, trivial⟩ ?_
          refine gs (l := [.w ((8 : Int) ≠ (0 : Int)), .s (T.int IntKind.u64 (Int.tmod (IntKind.wrap IntKind.u64 c.window) 8)), .i IntKind.i64 (Int.tmod (IntKind.wrap IntKind.u64 c.window) 8) (Int.tmod (IntKind.wrap IntKind.u64 c.window) 8), .i IntKind.i64 (1 + Int.tmod (IntKind.wrap IntKind.u64 c.window) 8) (1 + Int.tmod (IntKind.wrap IntKind.u64 c.window) 8)]) (by kernel_rfl) ⟨o_w (by intro h; cases h), o_i (w64 (by omega)), o_i (w64 (by omega)), trivial⟩ ?_
          refine rt (a := Res.mk Ex.ret [V.t (T.agg [ti (1 + Int.tmod (IntKind.wrap IntKind.u64 c.cols) 3), ti (1 + Int.tmod (IntKind.wrap IntKind.u64 c.rows) 3), ti (1 + Int.tmod (IntKind.wrap IntKind.u64 c.players) 4), ti (1 + Int.tmod (IntKind.wrap IntKind.u64 c.window) 8), T.int IntKind.u64 c.seed])] []) (by kernel_rfl) ?_
          (unfold Config.play; first | (rw [if_pos (by simp_all)]; done) | (rw [if_pos (by simp_all)]; rfl) | (rw [if_neg (by rintro ⟨q1, q2, q3, q4⟩; simp_all; try omega)]; simp [Config.enc, u1]; done))
      · refine gs (l := [.ff, .ff, .ff, .ff, .i IntKind.u64 c.cols (IntKind.wrap IntKind.u64 c.cols), .w ((3 : Int) ≠ (0 : Int)), .s (T.int IntKind.u64 (Int.tmod (IntKind.wrap IntKind.u64 c.cols) 3)), .i IntKind.i64 (Int.tmod (IntKind.wrap IntKind.u64 c.cols) 3) (Int.tmod (IntKind.wrap IntKind.u64 c.cols) 3), .i IntKind.i64 (1 + Int.tmod (IntKind.wrap IntKind.u64 c.cols) 3) (1 + Int.tmod (IntKind.wrap IntKind.u64 c.cols) 3), .i IntKind.u64 c.rows (IntKind.wrap IntKind.u64 c.rows), .w ((3 : Int) ≠ (0 : Int)), .s (T.int IntKind.u64 (Int.tmod (IntKind.wrap IntKind.u64 c.rows) 3)), .i IntKind.i64 (Int.tmod (IntKind.wrap IntKind.u64 c.rows) 3) (Int.tmod (IntKind.wrap IntKind.u64 c.rows) 3), .i IntKind.i64 (1 + Int.tmod (IntKind.wrap IntKind.u64 c.rows) 3) (1 + Int.tmod (IntKind.wrap IntKind.u64 c.rows) 3), .i IntKind.u64 c.players (IntKind.wrap IntKind.u64 c.players), .w ((4 : Int) ≠ (0 : Int))]) (by kernel_rfl) ⟨o_i rfl, o_w (by intro h; cases h), o_i (w64 (by omega)), o_i (w64 (by omega)), o_i rfl, o_w (by intro h; cases h), o_i (w64 (by omega)), o_i (w64 (by omega)), o_i rfl, o_w (by intro h; cases h), trivial⟩ ?_
        refine gs (l := [.s (T.int IntKind.u64 (Int.tmod (IntKind.wrap IntKind.u64 c.players) 4)), .i IntKind.i64 (Int.tmod (IntKind.wrap IntKind.u64 c.players) 4) (Int.tmod (IntKind.wrap IntKind.u64 c.players) 4), .i IntKind.i64 (1 + Int.tmod (IntKind.wrap IntKind.u64 c.players) 4) (1 + Int.tmod (IntKind.wrap IntKind.u64 c.players) 4), .i IntKind.u64 c.window (IntKind.wrap IntKind.u64 c.window), .w ((8 : Int) ≠ (0 : Int)), .s (T.int IntKind.u64 (Int.tmod (IntKind.wrap IntKind.u64 c.window) 8)), .i IntKind.i64 (Int.tmod (IntKind.wrap IntKind.u64 c.window) 8) (Int.tmod (IntKind.wrap IntKind.u64 c.window) 8), .i IntKind.i64 (1 + Int.tmod (IntKind.wrap IntKind.u64 c.window) 8) (1 + Int.tmod (IntKind.wrap IntKind.u64 c.window) 8)]) (by kernel_rfl) ⟨o_i (w64 (by omega)), o_i (w64 (by omega)), o_i rfl, o_w (by intro h; cases h), o_i (w64 (by omega)), o_i (w64 (by omega)), trivial⟩ ?_
        refine rt (a := Res.mk Ex.ret [V.t (T.agg [ti (1 + Int.tmod (IntKind.wrap IntKind.u64 c.cols) 3), ti (1 + Int.tmod (IntKind.wrap IntKind.u64 c.rows) 3), ti (1 + Int.tmod (IntKind.wrap IntKind.u64 c.players) 4), ti (1 + Int.tmod (IntKind.wrap IntKind.u64 c.window) 8), T.int IntKind.u64 c.seed])] []) (by kernel_rfl) ?_
        (unfold Config.play; first | (rw [if_pos (by simp_all)]; done) | (rw [if_pos (by simp_all)]; rfl) | (rw [if_neg (by rintro ⟨q1, q2, q3, q4⟩; simp_all; try omega)]; simp [Config.enc, u1]; done))
    · refine gs (l := [.ff, .ff, .ff, .ff, .ff, .ff, .ff, .ff, .i IntKind.u64 c.cols (IntKind.wrap IntKind.u64 c.cols), .w ((3 : Int) ≠ (0 : Int)), .s (T.int IntKind.u64 (Int.tmod (IntKind.wrap IntKind.u64 c.cols) 3)), .i IntKind.i64 (Int.tmod (IntKind.wrap IntKind.u64 c.cols) 3) (Int.tmod (IntKind.wrap IntKind.u64 c.cols) 3), .i IntKind.i64 (1 + Int.tmod (IntKind.wrap IntKind.u64 c.cols) 3) (1 + Int.tmod (IntKind.wrap IntKind.u64 c.cols) 3), .i IntKind.u64 c.rows (IntKind.wrap IntKind.u64 c.rows), .w ((3 : Int) ≠ (0 : Int)), .s (T.int IntKind.u64 (Int.tmod (IntKind.wrap IntKind.u64 c.rows) 3))]) (by kernel_rfl) ⟨o_i rfl, o_w (by intro h; cases h), o_i (w64 (by omega)), o_i (w64 (by omega)), o_i rfl, o_w (by intro h; cases h), trivial⟩ ?_
      refine gs (l := [.i IntKind.i64 (Int.tmod (IntKind.wrap IntKind.u64 c.rows) 3) (Int.tmod (IntKind.wrap IntKind.u64 c.rows) 3), .i IntKind.i64 (1 + Int.tmod (IntKind.wrap IntKind.u64 c.rows) 3) (1 + Int.tmod (IntKind.wrap IntKind.u64 c.rows) 3), .i IntKind.u64 c.players (IntKind.wrap IntKind.u64 c.players), .w ((4 : Int) ≠ (0 : Int)), .s (T.int IntKind.u64 (Int.tmod (IntKind.wrap IntKind.u64 c.players) 4)), .i IntKind.i64 (Int.tmod (IntKind.wrap IntKind.u64 c.players) 4) (Int.tmod (IntKind.wrap IntKind.u64 c.players) 4), .i IntKind.i64 (1 + Int.tmod (IntKind.wrap IntKind.u64 c.players) 4) (1 + Int.tmod (IntKind.wrap IntKind.u64 c.players) 4), .i IntKind.u64 c.window (IntKind.wrap IntKind.u64 c.window), .w ((8 : Int) ≠ (0 : Int)), .s (T.int IntKind.u64 (Int.tmod (IntKind.wrap IntKind.u64 c.window) 8)), .i IntKind.i64 (Int.tmod (IntKind.wrap IntKind.u64 c.window) 8) (Int.tmod (IntKind.wrap IntKind.u64 c.window) 8), .i IntKind.i64 (1 + Int.tmod (IntKind.wrap IntKind.u64 c.window) 8) (1 + Int.tmod (IntKind.wrap IntKind.u64 c.window) 8)]) (by kernel_rfl) ⟨o_i (w64 (by omega)), o_i (w64 (by omega)), o_i rfl, o_w (by intro h; cases h), o_i (w64 (by omega)), o_i (w64 (by omega)), o_i rfl, o_w (by intro h; cases h), o_i (w64 (by omega)), o_i (w64 (by omega)), trivial⟩ ?_
      refine rt (a := Res.mk Ex.ret [V.t (T.agg [ti (1 + Int.tmod (IntKind.wrap IntKind.u64 c.cols) 3), ti (1 + Int.tmod (IntKind.wrap IntKind.u64 c.rows) 3), ti (1 + Int.tmod (IntKind.wrap IntKind.u64 c.players) 4), ti (1 + Int.tmod (IntKind.wrap IntKind.u64 c.window) 8), T.int IntKind.u64 c.seed])] []) (by kernel_rfl) ?_
      (unfold Config.play; first | (rw [if_pos (by simp_all)]; done) | (rw [if_pos (by simp_all)]; rfl) | (rw [if_neg (by rintro ⟨q1, q2, q3, q4⟩; simp_all; try omega)]; simp [Config.enc, u1]; done))
  · refine gs (l := [.ff, .ff, .ff, .ff, .ff, .ff, .ff, .ff, .ff, .ff, .ff, .ff, .i IntKind.u64 c.cols (IntKind.wrap IntKind.u64 c.cols), .w ((3 : Int) ≠ (0 : Int)), .s (T.int IntKind.u64 (Int.tmod (IntKind.wrap IntKind.u64 c.cols) 3)), .i IntKind.i64 (Int.tmod (IntKind.wrap IntKind.u64 c.cols) 3) (Int.tmod (IntKind.wrap IntKind.u64 c.cols) 3)]) (by kernel_rfl) ⟨o_i rfl, o_w (by intro h; cases h), o_i (w64 (by omega)), trivial⟩ ?_
    refine gs (l := [.i IntKind.i64 (1 + Int.tmod (IntKind.wrap IntKind.u64 c.cols) 3) (1 + Int.tmod (IntKind.wrap IntKind.u64 c.cols) 3), .i IntKind.u64 c.rows (IntKind.wrap IntKind.u64 c.rows), .w ((3 : Int) ≠ (0 : Int)), .s (T.int IntKind.u64 (Int.tmod (IntKind.wrap IntKind.u64 c.rows) 3)), .i IntKind.i64 (Int.tmod (IntKind.wrap IntKind.u64 c.rows) 3) (Int.tmod (IntKind.wrap IntKind.u64 c.rows) 3), .i IntKind.i64 (1 + Int.tmod (IntKind.wrap IntKind.u64 c.rows) 3) (1 + Int.tmod (IntKind.wrap IntKind.u64 c.rows) 3), .i IntKind.u64 c.players (IntKind.wrap IntKind.u64 c.players), .w ((4 : Int) ≠ (0 : Int)), .s (T.int IntKind.u64 (Int.tmod (IntKind.wrap IntKind.u64 c.players) 4)), .i IntKind.i64 (Int.tmod (IntKind.wrap IntKind.u64 c.players) 4) (Int.tmod (IntKind.wrap IntKind.u64 c.players) 4), .i IntKind.i64 (1 + Int.tmod (IntKind.wrap IntKind.u64 c.players) 4) (1 + Int.tmod (IntKind.wrap IntKind.u64 c.players) 4), .i IntKind.u64 c.window (IntKind.wrap IntKind.u64 c.window), .w ((8 : Int) ≠ (0 : Int)), .s (T.int IntKind.u64 (Int.tmod (IntKind.wrap IntKind.u64 c.window) 8)), .i IntKind.i64 (Int.tmod (IntKind.wrap IntKind.u64 c.window) 8) (Int.tmod (IntKind.wrap IntKind.u64 c.window) 8), .i IntKind.i64 (1 + Int.tmod (IntKind.wrap IntKind.u64 c.window) 8) (1 + Int.tmod (IntKind.wrap IntKind.u64 c.window) 8)]) (by kernel_rfl) ⟨o_i (w64 (by omega)), o_i rfl, o_w (by intro h; cases h), o_i (w64 (by omega)), o_i (w64 (by omega)), o_i rfl, o_w (by intro h; cases h), o_i (w64 (by omega)), o_i (w64 (by omega)), o_i rfl, o_w (by intro h; cases h), o_i (w64 (by omega)), o_i (w64 (by omega)), trivial⟩ ?_
    refine rt (a := Res.mk Ex.ret [V.t (T.agg [ti (1 + Int.tmod (IntKind.wrap IntKind.u64 c.cols) 3), ti (1 + Int.tmod (IntKind.wrap IntKind.u64 c.rows) 3), ti (1 + Int.tmod (IntKind.wrap IntKind.u64 c.players) 4), ti (1 + Int.tmod (IntKind.wrap IntKind.u64 c.window) 8), T.int IntKind.u64 c.seed])] []) (by kernel_rfl) ?_
    (unfold Config.play; first | (rw [if_pos (by simp_all)]; done) | (rw [if_pos (by simp_all)]; rfl) | (rw [if_neg (by rintro ⟨q1, q2, q3, q4⟩; simp_all; try omega)]; simp [Config.enc, u1]; done))
theorem f_joustlaw05_EntityBounds (c : Config) (kind which : Int) (up over : Bool) : Fn cx 5 [c.enc, ti kind, ti which, .bool up, .bool over] (.bool true) := by
  have ha := f_joustlaw05_awake
  obtain ⟨hr, h1, h2, h3, h4⟩ := @Config.play_ok c
  have hC := f_joustplay_Config c
  generalize c.play = g at *
  have hN := f_grid_New g
  rw [Config.grid_of hr, Config.err_of hr] at hN
  have hw : g.width = g.cols * 1024 := by simp [Config.width, hr]
  have hh : g.height = g.rows * 1024 := by simp [Config.height, hr]
  have k1 := @u64_tmod kind 2 (by decide)
  have k2 := @u64_tmod which 7 (by decide)
  refine Wp.ev ?_
  refine gs (l := [.a (Task.call 20 [V.t (Config.enc c)] []) (Res.mk Ex.ret [V.t (Config.enc g)] []), .a (Task.call 21 [V.t (Config.enc g)] []) (Res.mk Ex.ret [V.t (Config.enc g), vi 0] []), .i IntKind.u64 kind (IntKind.wrap IntKind.u64 kind), .w ((2 : Int) ≠ (0 : Int)), .s (T.int IntKind.u64 (Int.tmod (IntKind.wrap IntKind.u64 kind) 2))]) (by kernel_rfl) ⟨o_a hC, o_a hN, o_i rfl, o_w (by intro h; cases h), trivial⟩ ?_
  refine bre (x := Int.tmod (IntKind.wrap IntKind.u64 kind) 2) (y := 1) (by kernel_rfl) (fun h1 => ?_) (fun h1 => ?_)
  · refine gs (l := [.i IntKind.u64 which (IntKind.wrap IntKind.u64 which), .w ((7 : Int) ≠ (0 : Int)), .s (T.int IntKind.u64 (Int.tmod (IntKind.wrap IntKind.u64 which) 7))]) (by kernel_rfl) ⟨o_i rfl, o_w (by intro h; cases h), trivial⟩ ?_
    refine bre (x := Int.tmod (IntKind.wrap IntKind.u64 which) 7) (y := 0) (by kernel_rfl) (fun h2 => ?_) (fun h2 => ?_)
    · refine gs (l := [.b (Int.tmod (IntKind.wrap IntKind.u64 kind) 2 == 1) true]) (by kernel_rfl) ⟨t_bre (by assumption), trivial⟩ ?_
      refine br (b := up) (by kernel_rfl) (fun h3 => ?_) (fun h3 => ?_)
      · refine br (b := over) (by kernel_rfl) (fun h4 => ?_) (fun h4 => ?_)
        · refine gs (l := [.tt, .b up true, .i IntKind.i64 2147483648 2147483648, .b (Int.tmod (IntKind.wrap IntKind.u64 which) 7 == 0) true, .a (Task.call 13 [] []) (Res.mk Ex.ret [vb true] []), .tt, .tt, .tt, .b (0 == 0) true, .tt, .tt, .a (Task.call 22 [V.t (Config.enc g), V.t (T.agg [ti 2147483648, ti 2, ti 5, ti 5, ti 160, ti 0, ti 1, ti 0, ti 1])] []) (Res.mk Ex.ret [vb (Entity.right g (Entity.mk 2147483648 2 5 5 160 0 1 0 1))] []), .tt, .tt, .tt, .w (isBool cx (4 : Nat) = true)]) (by kernel_rfl) ⟨t_br (by assumption), o_i (by kernel_rfl), t_bre (by assumption), o_a ha, o_b (by kernel_rfl), o_a (f_entity_Right _ (e := Entity.mk 2147483648 2 5 5 160 0 1 0 1)), o_w (by kernel_rfl), trivial⟩ ?_
          refine gs (l := [.tt]) (by kernel_rfl) trivial ?_
          refine rt (a := Res.mk Ex.ret [vb (Entity.right g (Entity.mk 2147483648 2 5 5 160 0 1 0 1) == !over)] []) (by kernel_rfl) ?_
          (simp_all [Entity.right, Config.inside, within, pace, beqd, bned]; try omega)
        · refine gs (l := [.ff, .ff, .b over false, .b (Int.tmod (IntKind.wrap IntKind.u64 which) 7 == 0) true, .a (Task.call 13 [] []) (Res.mk Ex.ret [vb true] []), .tt, .tt, .tt, .b (0 == 0) true, .tt, .tt, .a (Task.call 22 [V.t (Config.enc g), V.t (T.agg [ti 2147483647, ti 2, ti 5, ti 5, ti 160, ti 0, ti 1, ti 0, ti 1])] []) (Res.mk Ex.ret [vb (Entity.right g (Entity.mk 2147483647 2 5 5 160 0 1 0 1))] []), .tt, .tt, .tt, .w (isBool cx (4 : Nat) = true)]) (by kernel_rfl) ⟨f_br (by assumption), t_bre (by assumption), o_a ha, o_b (by kernel_rfl), o_a (f_entity_Right _ (e := Entity.mk 2147483647 2 5 5 160 0 1 0 1)), o_w (by kernel_rfl), trivial⟩ ?_
          refine gs (l := [.tt]) (by kernel_rfl) trivial ?_
          refine rt (a := Res.mk Ex.ret [vb (Entity.right g (Entity.mk 2147483647 2 5 5 160 0 1 0 1) == !over)] []) (by kernel_rfl) ?_
          (simp_all [Entity.right, Config.inside, within, pace, beqd, bned]; try omega)
      · refine br (b := over) (by kernel_rfl) (fun h4 => ?_) (fun h4 => ?_)
        · refine gs (l := [.tt, .b up false, .b over true, .i IntKind.i64 999 999, .b (Int.tmod (IntKind.wrap IntKind.u64 which) 7 == 0) true, .a (Task.call 13 [] []) (Res.mk Ex.ret [vb true] []), .tt, .tt, .tt, .b (0 == 0) true, .tt, .tt, .a (Task.call 22 [V.t (Config.enc g), V.t (T.agg [ti 999, ti 2, ti 5, ti 5, ti 160, ti 0, ti 1, ti 0, ti 1])] []) (Res.mk Ex.ret [vb (Entity.right g (Entity.mk 999 2 5 5 160 0 1 0 1))] []), .tt, .tt, .tt]) (by kernel_rfl) ⟨f_br (by assumption), t_br (by assumption), o_i (by kernel_rfl), t_bre (by assumption), o_a ha, o_b (by kernel_rfl), o_a (f_entity_Right _ (e := Entity.mk 999 2 5 5 160 0 1 0 1)), trivial⟩ ?_
          refine gs (l := [.w (isBool cx (4 : Nat) = true), .tt]) (by kernel_rfl) ⟨o_w (by kernel_rfl), trivial⟩ ?_
          refine rt (a := Res.mk Ex.ret [vb (Entity.right g (Entity.mk 999 2 5 5 160 0 1 0 1) == !over)] []) (by kernel_rfl) ?_
          (simp_all [Entity.right, Config.inside, within, pace, beqd, bned]; try omega)
        · refine gs (l := [.ff, .ff, .b over false, .b (Int.tmod (IntKind.wrap IntKind.u64 which) 7 == 0) true, .a (Task.call 13 [] []) (Res.mk Ex.ret [vb true] []), .tt, .tt, .tt, .b (0 == 0) true, .tt, .tt, .a (Task.call 22 [V.t (Config.enc g), V.t (T.agg [ti 1000, ti 2, ti 5, ti 5, ti 160, ti 0, ti 1, ti 0, ti 1])] []) (Res.mk Ex.ret [vb (Entity.right g (Entity.mk 1000 2 5 5 160 0 1 0 1))] []), .tt, .tt, .tt, .w (isBool cx (4 : Nat) = true)]) (by kernel_rfl) ⟨f_br (by assumption), t_bre (by assumption), o_a ha, o_b (by kernel_rfl), o_a (f_entity_Right _ (e := Entity.mk 1000 2 5 5 160 0 1 0 1)), o_w (by kernel_rfl), trivial⟩ ?_
          refine gs (l := [.tt]) (by kernel_rfl) trivial ?_
          refine rt (a := Res.mk Ex.ret [vb (Entity.right g (Entity.mk 1000 2 5 5 160 0 1 0 1) == !over)] []) (by kernel_rfl) ?_
          (simp_all [Entity.right, Config.inside, within, pace, beqd, bned]; try omega)
    · refine bre (x := Int.tmod (IntKind.wrap IntKind.u64 which) 7) (y := 1) (by kernel_rfl) (fun h3 => ?_) (fun h3 => ?_)
      · refine gs (l := [.i IntKind.i64 (g.cols * 1024) (g.cols * 1024), .i IntKind.i64 (g.cols * 1024 - 1) (g.cols * 1024 - 1)]) (by kernel_rfl) ⟨o_i (w64 (by omega)), o_i (w64 (by omega)), trivial⟩ ?_
        refine br (b := up) (by kernel_rfl) (fun h4 => ?_) (fun h4 => ?_)
        · refine br (b := over) (by kernel_rfl) (fun h5 => ?_) (fun h5 => ?_)
          · refine gs (l := [.tt, .b up true, .i IntKind.i64 (g.cols * 1024 - 1 + 1) (g.cols * 1024 - 1 + 1), .b (Int.tmod (IntKind.wrap IntKind.u64 which) 7 == 0) false, .b (Int.tmod (IntKind.wrap IntKind.u64 which) 7 == 1) true, .a (Task.call 13 [] []) (Res.mk Ex.ret [vb true] []), .tt, .tt, .tt, .b (0 == 0) true, .tt, .tt, .a (Task.call 22 [V.t (Config.enc g), V.t (T.agg [ti 1000, ti 2, ti (g.cols * 1024 - 1 + 1), ti 5, ti 160, ti 0, ti 1, ti 0, ti 1])] []) (Res.mk Ex.ret [vb (Entity.right g (Entity.mk 1000 2 (g.cols * 1024 - 1 + 1) 5 160 0 1 0 1))] []), .tt, .tt, .tt]) (by kernel_rfl) ⟨t_br (by assumption), o_i (w64 (by omega)), f_bre (by assumption), t_bre (by assumption), o_a ha, o_b (by kernel_rfl), o_a (f_entity_Right _ (e := Entity.mk 1000 2 (g.cols * 1024 - 1 + 1) 5 160 0 1 0 1)), trivial⟩ ?_
            refine gs (l := [.w (isBool cx (4 : Nat) = true), .tt]) (by kernel_rfl) ⟨o_w (by kernel_rfl), trivial⟩ ?_
            refine rt (a := Res.mk Ex.ret [vb (Entity.right g (Entity.mk 1000 2 (g.cols * 1024 - 1 + 1) 5 160 0 1 0 1) == !over)] []) (by kernel_rfl) ?_
            (simp_all [Entity.right, Config.inside, within, pace, beqd, bned]; try omega)
          · refine gs (l := [.ff, .ff, .b over false, .b (Int.tmod (IntKind.wrap IntKind.u64 which) 7 == 0) false, .b (Int.tmod (IntKind.wrap IntKind.u64 which) 7 == 1) true, .a (Task.call 13 [] []) (Res.mk Ex.ret [vb true] []), .tt, .tt, .tt, .b (0 == 0) true, .tt, .tt, .a (Task.call 22 [V.t (Config.enc g), V.t (T.agg [ti 1000, ti 2, ti (g.cols * 1024 - 1), ti 5, ti 160, ti 0, ti 1, ti 0, ti 1])] []) (Res.mk Ex.ret [vb (Entity.right g (Entity.mk 1000 2 (g.cols * 1024 - 1) 5 160 0 1 0 1))] []), .tt, .tt, .tt]) (by kernel_rfl) ⟨f_br (by assumption), f_bre (by assumption), t_bre (by assumption), o_a ha, o_b (by kernel_rfl), o_a (f_entity_Right _ (e := Entity.mk 1000 2 (g.cols * 1024 - 1) 5 160 0 1 0 1)), trivial⟩ ?_
            refine gs (l := [.w (isBool cx (4 : Nat) = true), .tt]) (by kernel_rfl) ⟨o_w (by kernel_rfl), trivial⟩ ?_
            refine rt (a := Res.mk Ex.ret [vb (Entity.right g (Entity.mk 1000 2 (g.cols * 1024 - 1) 5 160 0 1 0 1) == !over)] []) (by kernel_rfl) ?_
            (simp_all [Entity.right, Config.inside, within, pace, beqd, bned]; try omega)
        · refine br (b := over) (by kernel_rfl) (fun h5 => ?_) (fun h5 => ?_)
          · refine gs (l := [.tt, .b up false, .b over true, .i IntKind.i64 (-1) (-1), .b (Int.tmod (IntKind.wrap IntKind.u64 which) 7 == 0) false, .b (Int.tmod (IntKind.wrap IntKind.u64 which) 7 == 1) true, .a (Task.call 13 [] []) (Res.mk Ex.ret [vb true] []), .tt, .tt, .tt, .b (0 == 0) true, .tt, .tt, .a (Task.call 22 [V.t (Config.enc g), V.t (T.agg [ti 1000, ti 2, ti (-1), ti 5, ti 160, ti 0, ti 1, ti 0, ti 1])] []) (Res.mk Ex.ret [vb false] []), .tt, .tt]) (by kernel_rfl) ⟨f_br (by assumption), t_br (by assumption), o_i (by kernel_rfl), f_bre (by assumption), t_bre (by assumption), o_a ha, o_b (by kernel_rfl), o_a (f_entity_Right _ (e := Entity.mk 1000 2 (-1) 5 160 0 1 0 1)), trivial⟩ ?_
            refine gs (l := [.tt, .w (isBool cx (4 : Nat) = true), .tt]) (by kernel_rfl) ⟨o_w (by kernel_rfl), trivial⟩ ?_
            refine rt (a := Res.mk Ex.ret [vb (false == !over)] []) (by kernel_rfl) ?_
            (simp_all [Entity.right, Config.inside, within, pace, beqd, bned]; try omega)
          · refine gs (l := [.ff, .ff, .b over false, .b (Int.tmod (IntKind.wrap IntKind.u64 which) 7 == 0) false, .b (Int.tmod (IntKind.wrap IntKind.u64 which) 7 == 1) true, .a (Task.call 13 [] []) (Res.mk Ex.ret [vb true] []), .tt, .tt, .tt, .b (0 == 0) true, .tt, .tt, .a (Task.call 22 [V.t (Config.enc g), V.t (T.agg [ti 1000, ti 2, ti 0, ti 5, ti 160, ti 0, ti 1, ti 0, ti 1])] []) (Res.mk Ex.ret [vb (Entity.right g (Entity.mk 1000 2 0 5 160 0 1 0 1))] []), .tt, .tt, .tt]) (by kernel_rfl) ⟨f_br (by assumption), f_bre (by assumption), t_bre (by assumption), o_a ha, o_b (by kernel_rfl), o_a (f_entity_Right _ (e := Entity.mk 1000 2 0 5 160 0 1 0 1)), trivial⟩ ?_
            refine gs (l := [.w (isBool cx (4 : Nat) = true), .tt]) (by kernel_rfl) ⟨o_w (by kernel_rfl), trivial⟩ ?_
            refine rt (a := Res.mk Ex.ret [vb (Entity.right g (Entity.mk 1000 2 0 5 160 0 1 0 1) == !over)] []) (by kernel_rfl) ?_
            (simp_all [Entity.right, Config.inside, within, pace, beqd, bned]; try omega)
      · refine bre (x := Int.tmod (IntKind.wrap IntKind.u64 which) 7) (y := 2) (by kernel_rfl) (fun h4 => ?_) (fun h4 => ?_)
        · refine gs (l := [.i IntKind.i64 (g.rows * 1024) (g.rows * 1024), .i IntKind.i64 (g.rows * 1024 - 1) (g.rows * 1024 - 1)]) (by kernel_rfl) ⟨o_i (w64 (by omega)), o_i (w64 (by omega)), trivial⟩ ?_
          refine br (b := up) (by kernel_rfl) (fun h5 => ?_) (fun h5 => ?_)
          · refine br (b := over) (by kernel_rfl) (fun h6 => ?_) (fun h6 => ?_)
            · refine gs (l := [.tt, .b up true, .i IntKind.i64 (g.rows * 1024 - 1 + 1) (g.rows * 1024 - 1 + 1), .b (Int.tmod (IntKind.wrap IntKind.u64 which) 7 == 0) false, .b (Int.tmod (IntKind.wrap IntKind.u64 which) 7 == 1) false, .b (Int.tmod (IntKind.wrap IntKind.u64 which) 7 == 2) true, .a (Task.call 13 [] []) (Res.mk Ex.ret [vb true] []), .tt, .tt, .tt, .b (0 == 0) true, .tt, .tt, .a (Task.call 22 [V.t (Config.enc g), V.t (T.agg [ti 1000, ti 2, ti 5, ti (g.rows * 1024 - 1 + 1), ti 160, ti 0, ti 1, ti 0, ti 1])] []) (Res.mk Ex.ret [vb (Entity.right g (Entity.mk 1000 2 5 (g.rows * 1024 - 1 + 1) 160 0 1 0 1))] []), .tt, .tt]) (by kernel_rfl) ⟨t_br (by assumption), o_i (w64 (by omega)), f_bre (by assumption), f_bre (by assumption), t_bre (by assumption), o_a ha, o_b (by kernel_rfl), o_a (f_entity_Right _ (e := Entity.mk 1000 2 5 (g.rows * 1024 - 1 + 1) 160 0 1 0 1)), trivial⟩ ?_
              refine gs (l := [.tt, .w (isBool cx (4 : Nat) = true), .tt]) (by kernel_rfl) ⟨o_w (by kernel_rfl), trivial⟩ ?_
              refine rt (a := Res.mk Ex.ret [vb (Entity.right g (Entity.mk 1000 2 5 (g.rows * 1024 - 1 + 1) 160 0 1 0 1) == !over)] []) (by kernel_rfl) ?_
              (simp_all [Entity.right, Config.inside, within, pace, beqd, bned]; try omega)
            · refine gs (l := [.ff, .ff, .b over false, .b (Int.tmod (IntKind.wrap IntKind.u64 which) 7 == 0) false, .b (Int.tmod (IntKind.wrap IntKind.u64 which) 7 == 1) false, .b (Int.tmod (IntKind.wrap IntKind.u64 which) 7 == 2) true, .a (Task.call 13 [] []) (Res.mk Ex.ret [vb true] []), .tt, .tt, .tt, .b (0 == 0) true, .tt, .tt, .a (Task.call 22 [V.t (Config.enc g), V.t (T.agg [ti 1000, ti 2, ti 5, ti (g.rows * 1024 - 1), ti 160, ti 0, ti 1, ti 0, ti 1])] []) (Res.mk Ex.ret [vb (Entity.right g (Entity.mk 1000 2 5 (g.rows * 1024 - 1) 160 0 1 0 1))] []), .tt, .tt]) (by kernel_rfl) ⟨f_br (by assumption), f_bre (by assumption), f_bre (by assumption), t_bre (by assumption), o_a ha, o_b (by kernel_rfl), o_a (f_entity_Right _ (e := Entity.mk 1000 2 5 (g.rows * 1024 - 1) 160 0 1 0 1)), trivial⟩ ?_
              refine gs (l := [.tt, .w (isBool cx (4 : Nat) = true), .tt]) (by kernel_rfl) ⟨o_w (by kernel_rfl), trivial⟩ ?_
              refine rt (a := Res.mk Ex.ret [vb (Entity.right g (Entity.mk 1000 2 5 (g.rows * 1024 - 1) 160 0 1 0 1) == !over)] []) (by kernel_rfl) ?_
              (simp_all [Entity.right, Config.inside, within, pace, beqd, bned]; try omega)
          · refine br (b := over) (by kernel_rfl) (fun h6 => ?_) (fun h6 => ?_)
            · refine gs (l := [.tt, .b up false, .b over true, .i IntKind.i64 (-1) (-1), .b (Int.tmod (IntKind.wrap IntKind.u64 which) 7 == 0) false, .b (Int.tmod (IntKind.wrap IntKind.u64 which) 7 == 1) false, .b (Int.tmod (IntKind.wrap IntKind.u64 which) 7 == 2) true, .a (Task.call 13 [] []) (Res.mk Ex.ret [vb true] []), .tt, .tt, .tt, .b (0 == 0) true, .tt, .tt, .a (Task.call 22 [V.t (Config.enc g), V.t (T.agg [ti 1000, ti 2, ti 5, ti (-1), ti 160, ti 0, ti 1, ti 0, ti 1])] []) (Res.mk Ex.ret [vb (Entity.right g (Entity.mk 1000 2 5 (-1) 160 0 1 0 1))] []), .tt]) (by kernel_rfl) ⟨f_br (by assumption), t_br (by assumption), o_i (by kernel_rfl), f_bre (by assumption), f_bre (by assumption), t_bre (by assumption), o_a ha, o_b (by kernel_rfl), o_a (f_entity_Right _ (e := Entity.mk 1000 2 5 (-1) 160 0 1 0 1)), trivial⟩ ?_
              refine gs (l := [.tt, .tt, .w (isBool cx (4 : Nat) = true), .tt]) (by kernel_rfl) ⟨o_w (by kernel_rfl), trivial⟩ ?_
              refine rt (a := Res.mk Ex.ret [vb (Entity.right g (Entity.mk 1000 2 5 (-1) 160 0 1 0 1) == !over)] []) (by kernel_rfl) ?_
              (simp_all [Entity.right, Config.inside, within, pace, beqd, bned]; try omega)
            · refine gs (l := [.ff, .ff, .b over false, .b (Int.tmod (IntKind.wrap IntKind.u64 which) 7 == 0) false, .b (Int.tmod (IntKind.wrap IntKind.u64 which) 7 == 1) false, .b (Int.tmod (IntKind.wrap IntKind.u64 which) 7 == 2) true, .a (Task.call 13 [] []) (Res.mk Ex.ret [vb true] []), .tt, .tt, .tt, .b (0 == 0) true, .tt, .tt, .a (Task.call 22 [V.t (Config.enc g), V.t (T.agg [ti 1000, ti 2, ti 5, ti 0, ti 160, ti 0, ti 1, ti 0, ti 1])] []) (Res.mk Ex.ret [vb (Entity.right g (Entity.mk 1000 2 5 0 160 0 1 0 1))] []), .tt, .tt]) (by kernel_rfl) ⟨f_br (by assumption), f_bre (by assumption), f_bre (by assumption), t_bre (by assumption), o_a ha, o_b (by kernel_rfl), o_a (f_entity_Right _ (e := Entity.mk 1000 2 5 0 160 0 1 0 1)), trivial⟩ ?_
              refine gs (l := [.tt, .w (isBool cx (4 : Nat) = true), .tt]) (by kernel_rfl) ⟨o_w (by kernel_rfl), trivial⟩ ?_
              refine rt (a := Res.mk Ex.ret [vb (Entity.right g (Entity.mk 1000 2 5 0 160 0 1 0 1) == !over)] []) (by kernel_rfl) ?_
              (simp_all [Entity.right, Config.inside, within, pace, beqd, bned]; try omega)
        · refine bre (x := Int.tmod (IntKind.wrap IntKind.u64 which) 7) (y := 3) (by kernel_rfl) (fun h5 => ?_) (fun h5 => ?_)
          · refine br (b := up) (by kernel_rfl) (fun h6 => ?_) (fun h6 => ?_)
            · refine br (b := over) (by kernel_rfl) (fun h7 => ?_) (fun h7 => ?_)
              · refine gs (l := [.tt, .b up true, .i IntKind.i64 65 65, .b (Int.tmod (IntKind.wrap IntKind.u64 which) 7 == 0) false, .b (Int.tmod (IntKind.wrap IntKind.u64 which) 7 == 1) false, .b (Int.tmod (IntKind.wrap IntKind.u64 which) 7 == 2) false, .b (Int.tmod (IntKind.wrap IntKind.u64 which) 7 == 3) true, .b (Int.tmod (IntKind.wrap IntKind.u64 kind) 2 == 1) true, .a (Task.call 13 [] []) (Res.mk Ex.ret [vb true] [])]) (by kernel_rfl) ⟨t_br (by assumption), o_i (by kernel_rfl), f_bre (by assumption), f_bre (by assumption), f_bre (by assumption), t_bre (by assumption), t_bre (by assumption), o_a ha, trivial⟩ ?_
                refine rt (a := Res.mk Ex.ret [vb true] []) (by kernel_rfl) ?_
                (simp_all [Entity.right, Config.inside, within, pace, beqd, bned]; try omega)
              · refine gs (l := [.ff, .ff, .b over false, .b (Int.tmod (IntKind.wrap IntKind.u64 which) 7 == 0) false, .b (Int.tmod (IntKind.wrap IntKind.u64 which) 7 == 1) false, .b (Int.tmod (IntKind.wrap IntKind.u64 which) 7 == 2) false, .b (Int.tmod (IntKind.wrap IntKind.u64 which) 7 == 3) true, .b (Int.tmod (IntKind.wrap IntKind.u64 kind) 2 == 1) true, .a (Task.call 13 [] []) (Res.mk Ex.ret [vb true] [])]) (by kernel_rfl) ⟨f_br (by assumption), f_bre (by assumption), f_bre (by assumption), f_bre (by assumption), t_bre (by assumption), t_bre (by assumption), o_a ha, trivial⟩ ?_
                refine rt (a := Res.mk Ex.ret [vb true] []) (by kernel_rfl) ?_
                (simp_all [Entity.right, Config.inside, within, pace, beqd, bned]; try omega)
            · refine br (b := over) (by kernel_rfl) (fun h7 => ?_) (fun h7 => ?_)
              · refine gs (l := [.tt, .b up false, .b over true, .i IntKind.i64 (-65) (-65), .b (Int.tmod (IntKind.wrap IntKind.u64 which) 7 == 0) false, .b (Int.tmod (IntKind.wrap IntKind.u64 which) 7 == 1) false, .b (Int.tmod (IntKind.wrap IntKind.u64 which) 7 == 2) false, .b (Int.tmod (IntKind.wrap IntKind.u64 which) 7 == 3) true, .b (Int.tmod (IntKind.wrap IntKind.u64 kind) 2 == 1) true, .a (Task.call 13 [] []) (Res.mk Ex.ret [vb true] [])]) (by kernel_rfl) ⟨f_br (by assumption), t_br (by assumption), o_i (by kernel_rfl), f_bre (by assumption), f_bre (by assumption), f_bre (by assumption), t_bre (by assumption), t_bre (by assumption), o_a ha, trivial⟩ ?_
                refine rt (a := Res.mk Ex.ret [vb true] []) (by kernel_rfl) ?_
                (simp_all [Entity.right, Config.inside, within, pace, beqd, bned]; try omega)
              · refine gs (l := [.ff, .ff, .b over false, .b (Int.tmod (IntKind.wrap IntKind.u64 which) 7 == 0) false, .b (Int.tmod (IntKind.wrap IntKind.u64 which) 7 == 1) false, .b (Int.tmod (IntKind.wrap IntKind.u64 which) 7 == 2) false, .b (Int.tmod (IntKind.wrap IntKind.u64 which) 7 == 3) true, .b (Int.tmod (IntKind.wrap IntKind.u64 kind) 2 == 1) true, .a (Task.call 13 [] []) (Res.mk Ex.ret [vb true] [])]) (by kernel_rfl) ⟨f_br (by assumption), f_bre (by assumption), f_bre (by assumption), f_bre (by assumption), t_bre (by assumption), t_bre (by assumption), o_a ha, trivial⟩ ?_
                refine rt (a := Res.mk Ex.ret [vb true] []) (by kernel_rfl) ?_
                (simp_all [Entity.right, Config.inside, within, pace, beqd, bned]; try omega)
          · refine bre (x := Int.tmod (IntKind.wrap IntKind.u64 which) 7) (y := 4) (by kernel_rfl) (fun h6 => ?_) (fun h6 => ?_)
            · refine gs (l := [.b (Int.tmod (IntKind.wrap IntKind.u64 kind) 2 == 1) true]) (by kernel_rfl) ⟨t_bre (by assumption), trivial⟩ ?_
              refine br (b := up) (by kernel_rfl) (fun h7 => ?_) (fun h7 => ?_)
              · refine br (b := over) (by kernel_rfl) (fun h8 => ?_) (fun h8 => ?_)
                · refine gs (l := [.tt, .b up true, .i IntKind.i64 2 2, .b (Int.tmod (IntKind.wrap IntKind.u64 which) 7 == 0) false, .b (Int.tmod (IntKind.wrap IntKind.u64 which) 7 == 1) false, .b (Int.tmod (IntKind.wrap IntKind.u64 which) 7 == 2) false, .b (Int.tmod (IntKind.wrap IntKind.u64 which) 7 == 3) false, .b (Int.tmod (IntKind.wrap IntKind.u64 which) 7 == 4) true, .a (Task.call 13 [] []) (Res.mk Ex.ret [vb true] []), .tt, .tt, .tt, .b (0 == 0) true, .tt, .tt, .a (Task.call 22 [V.t (Config.enc g), V.t (T.agg [ti 1000, ti 2, ti 5, ti 5, ti 160, ti 0, ti 2, ti 0, ti 1])] []) (Res.mk Ex.ret [vb (Entity.right g (Entity.mk 1000 2 5 5 160 0 2 0 1))] [])]) (by kernel_rfl) ⟨t_br (by assumption), o_i (by kernel_rfl), f_bre (by assumption), f_bre (by assumption), f_bre (by assumption), f_bre (by assumption), t_bre (by assumption), o_a ha, o_b (by kernel_rfl), o_a (f_entity_Right _ (e := Entity.mk 1000 2 5 5 160 0 2 0 1)), trivial⟩ ?_
                  refine gs (l := [.tt, .tt, .tt, .w (isBool cx (4 : Nat) = true), .tt]) (by kernel_rfl) ⟨o_w (by kernel_rfl), trivial⟩ ?_
                  refine rt (a := Res.mk Ex.ret [vb (Entity.right g (Entity.mk 1000 2 5 5 160 0 2 0 1) == !over)] []) (by kernel_rfl) ?_
                  (simp_all [Entity.right, Config.inside, within, pace, beqd, bned]; try omega)
                · refine gs (l := [.ff, .ff, .b over false, .b (Int.tmod (IntKind.wrap IntKind.u64 which) 7 == 0) false, .b (Int.tmod (IntKind.wrap IntKind.u64 which) 7 == 1) false, .b (Int.tmod (IntKind.wrap IntKind.u64 which) 7 == 2) false, .b (Int.tmod (IntKind.wrap IntKind.u64 which) 7 == 3) false, .b (Int.tmod (IntKind.wrap IntKind.u64 which) 7 == 4) true, .a (Task.call 13 [] []) (Res.mk Ex.ret [vb true] []), .tt, .tt, .tt, .b (0 == 0) true, .tt, .tt, .a (Task.call 22 [V.t (Config.enc g), V.t (T.agg [ti 1000, ti 2, ti 5, ti 5, ti 160, ti 0, ti 1, ti 0, ti 1])] []) (Res.mk Ex.ret [vb (Entity.right g (Entity.mk 1000 2 5 5 160 0 1 0 1))] [])]) (by kernel_rfl) ⟨f_br (by assumption), f_bre (by assumption), f_bre (by assumption), f_bre (by assumption), f_bre (by assumption), t_bre (by assumption), o_a ha, o_b (by kernel_rfl), o_a (f_entity_Right _ (e := Entity.mk 1000 2 5 5 160 0 1 0 1)), trivial⟩ ?_
                  refine gs (l := [.tt, .tt, .tt, .w (isBool cx (4 : Nat) = true), .tt]) (by kernel_rfl) ⟨o_w (by kernel_rfl), trivial⟩ ?_
                  refine rt (a := Res.mk Ex.ret [vb (Entity.right g (Entity.mk 1000 2 5 5 160 0 1 0 1) == !over)] []) (by kernel_rfl) ?_
                  (simp_all [Entity.right, Config.inside, within, pace, beqd, bned]; try omega)
              · refine br (b := over) (by kernel_rfl) (fun h8 => ?_) (fun h8 => ?_)
                · refine gs (l := [.tt, .b up false, .b over true, .i IntKind.i64 0 0, .b (Int.tmod (IntKind.wrap IntKind.u64 which) 7 == 0) false, .b (Int.tmod (IntKind.wrap IntKind.u64 which) 7 == 1) false, .b (Int.tmod (IntKind.wrap IntKind.u64 which) 7 == 2) false, .b (Int.tmod (IntKind.wrap IntKind.u64 which) 7 == 3) false, .b (Int.tmod (IntKind.wrap IntKind.u64 which) 7 == 4) true, .a (Task.call 13 [] []) (Res.mk Ex.ret [vb true] []), .tt, .tt, .tt, .b (0 == 0) true, .tt, .tt]) (by kernel_rfl) ⟨f_br (by assumption), t_br (by assumption), o_i (by kernel_rfl), f_bre (by assumption), f_bre (by assumption), f_bre (by assumption), f_bre (by assumption), t_bre (by assumption), o_a ha, o_b (by kernel_rfl), trivial⟩ ?_
                  refine gs (l := [.a (Task.call 22 [V.t (Config.enc g), V.t (T.agg [ti 1000, ti 2, ti 5, ti 5, ti 160, ti 0, ti 0, ti 0, ti 1])] []) (Res.mk Ex.ret [vb (Entity.right g (Entity.mk 1000 2 5 5 160 0 0 0 1))] []), .tt, .tt, .tt, .w (isBool cx (4 : Nat) = true), .tt]) (by kernel_rfl) ⟨o_a (f_entity_Right _ (e := Entity.mk 1000 2 5 5 160 0 0 0 1)), o_w (by kernel_rfl), trivial⟩ ?_
                  refine rt (a := Res.mk Ex.ret [vb (Entity.right g (Entity.mk 1000 2 5 5 160 0 0 0 1) == !over)] []) (by kernel_rfl) ?_
                  (simp_all [Entity.right, Config.inside, within, pace, beqd, bned]; try omega)
                · refine gs (l := [.ff, .ff, .b over false, .b (Int.tmod (IntKind.wrap IntKind.u64 which) 7 == 0) false, .b (Int.tmod (IntKind.wrap IntKind.u64 which) 7 == 1) false, .b (Int.tmod (IntKind.wrap IntKind.u64 which) 7 == 2) false, .b (Int.tmod (IntKind.wrap IntKind.u64 which) 7 == 3) false, .b (Int.tmod (IntKind.wrap IntKind.u64 which) 7 == 4) true, .a (Task.call 13 [] []) (Res.mk Ex.ret [vb true] []), .tt, .tt, .tt, .b (0 == 0) true, .tt, .tt, .a (Task.call 22 [V.t (Config.enc g), V.t (T.agg [ti 1000, ti 2, ti 5, ti 5, ti 160, ti 0, ti 1, ti 0, ti 1])] []) (Res.mk Ex.ret [vb (Entity.right g (Entity.mk 1000 2 5 5 160 0 1 0 1))] [])]) (by kernel_rfl) ⟨f_br (by assumption), f_bre (by assumption), f_bre (by assumption), f_bre (by assumption), f_bre (by assumption), t_bre (by assumption), o_a ha, o_b (by kernel_rfl), o_a (f_entity_Right _ (e := Entity.mk 1000 2 5 5 160 0 1 0 1)), trivial⟩ ?_
                  refine gs (l := [.tt, .tt, .tt, .w (isBool cx (4 : Nat) = true), .tt]) (by kernel_rfl) ⟨o_w (by kernel_rfl), trivial⟩ ?_
                  refine rt (a := Res.mk Ex.ret [vb (Entity.right g (Entity.mk 1000 2 5 5 160 0 1 0 1) == !over)] []) (by kernel_rfl) ?_
                  (simp_all [Entity.right, Config.inside, within, pace, beqd, bned]; try omega)
            · refine bre (x := Int.tmod (IntKind.wrap IntKind.u64 which) 7) (y := 5) (by kernel_rfl) (fun h7 => ?_) (fun h7 => ?_)
              · refine gs (l := [.b (Int.tmod (IntKind.wrap IntKind.u64 kind) 2 == 1) true]) (by kernel_rfl) ⟨t_bre (by assumption), trivial⟩ ?_
                refine br (b := up) (by kernel_rfl) (fun h8 => ?_) (fun h8 => ?_)
                · refine br (b := over) (by kernel_rfl) (fun h9 => ?_) (fun h9 => ?_)
                  · refine gs (l := [.tt, .b up true, .i IntKind.i64 13 13, .b (Int.tmod (IntKind.wrap IntKind.u64 which) 7 == 0) false, .b (Int.tmod (IntKind.wrap IntKind.u64 which) 7 == 1) false, .b (Int.tmod (IntKind.wrap IntKind.u64 which) 7 == 2) false, .b (Int.tmod (IntKind.wrap IntKind.u64 which) 7 == 3) false, .b (Int.tmod (IntKind.wrap IntKind.u64 which) 7 == 4) false, .b (Int.tmod (IntKind.wrap IntKind.u64 which) 7 == 5) true, .a (Task.call 13 [] []) (Res.mk Ex.ret [vb true] []), .tt, .tt, .tt, .b (0 == 0) true, .tt, .tt]) (by kernel_rfl) ⟨t_br (by assumption), o_i (by kernel_rfl), f_bre (by assumption), f_bre (by assumption), f_bre (by assumption), f_bre (by assumption), f_bre (by assumption), t_bre (by assumption), o_a ha, o_b (by kernel_rfl), trivial⟩ ?_
                    refine gs (l := [.a (Task.call 22 [V.t (Config.enc g), V.t (T.agg [ti 1000, ti 2, ti 5, ti 5, ti 160, ti 0, ti 1, ti 13, ti 1])] []) (Res.mk Ex.ret [vb (Entity.right g (Entity.mk 1000 2 5 5 160 0 1 13 1))] []), .tt, .tt, .tt, .w (isBool cx (4 : Nat) = true), .tt]) (by kernel_rfl) ⟨o_a (f_entity_Right _ (e := Entity.mk 1000 2 5 5 160 0 1 13 1)), o_w (by kernel_rfl), trivial⟩ ?_
                    refine rt (a := Res.mk Ex.ret [vb (Entity.right g (Entity.mk 1000 2 5 5 160 0 1 13 1) == !over)] []) (by kernel_rfl) ?_
                    (simp_all [Entity.right, Config.inside, within, pace, beqd, bned]; try omega)
                  · refine gs (l := [.ff, .ff, .b over false, .b (Int.tmod (IntKind.wrap IntKind.u64 which) 7 == 0) false, .b (Int.tmod (IntKind.wrap IntKind.u64 which) 7 == 1) false, .b (Int.tmod (IntKind.wrap IntKind.u64 which) 7 == 2) false, .b (Int.tmod (IntKind.wrap IntKind.u64 which) 7 == 3) false, .b (Int.tmod (IntKind.wrap IntKind.u64 which) 7 == 4) false, .b (Int.tmod (IntKind.wrap IntKind.u64 which) 7 == 5) true, .a (Task.call 13 [] []) (Res.mk Ex.ret [vb true] []), .tt, .tt, .tt, .b (0 == 0) true, .tt, .tt]) (by kernel_rfl) ⟨f_br (by assumption), f_bre (by assumption), f_bre (by assumption), f_bre (by assumption), f_bre (by assumption), f_bre (by assumption), t_bre (by assumption), o_a ha, o_b (by kernel_rfl), trivial⟩ ?_
                    refine gs (l := [.a (Task.call 22 [V.t (Config.enc g), V.t (T.agg [ti 1000, ti 2, ti 5, ti 5, ti 160, ti 0, ti 1, ti 12, ti 1])] []) (Res.mk Ex.ret [vb (Entity.right g (Entity.mk 1000 2 5 5 160 0 1 12 1))] []), .tt, .tt, .tt, .w (isBool cx (4 : Nat) = true), .tt]) (by kernel_rfl) ⟨o_a (f_entity_Right _ (e := Entity.mk 1000 2 5 5 160 0 1 12 1)), o_w (by kernel_rfl), trivial⟩ ?_
                    refine rt (a := Res.mk Ex.ret [vb (Entity.right g (Entity.mk 1000 2 5 5 160 0 1 12 1) == !over)] []) (by kernel_rfl) ?_
                    (simp_all [Entity.right, Config.inside, within, pace, beqd, bned]; try omega)
                · refine br (b := over) (by kernel_rfl) (fun h9 => ?_) (fun h9 => ?_)
                  · refine gs (l := [.tt, .b up false, .b over true, .i IntKind.i64 (-1) (-1), .b (Int.tmod (IntKind.wrap IntKind.u64 which) 7 == 0) false, .b (Int.tmod (IntKind.wrap IntKind.u64 which) 7 == 1) false, .b (Int.tmod (IntKind.wrap IntKind.u64 which) 7 == 2) false, .b (Int.tmod (IntKind.wrap IntKind.u64 which) 7 == 3) false, .b (Int.tmod (IntKind.wrap IntKind.u64 which) 7 == 4) false, .b (Int.tmod (IntKind.wrap IntKind.u64 which) 7 == 5) true, .a (Task.call 13 [] []) (Res.mk Ex.ret [vb true] []), .tt, .tt, .tt, .b (0 == 0) true, .tt]) (by kernel_rfl) ⟨f_br (by assumption), t_br (by assumption), o_i (by kernel_rfl), f_bre (by assumption), f_bre (by assumption), f_bre (by assumption), f_bre (by assumption), f_bre (by assumption), t_bre (by assumption), o_a ha, o_b (by kernel_rfl), trivial⟩ ?_
                    refine gs (l := [.tt, .a (Task.call 22 [V.t (Config.enc g), V.t (T.agg [ti 1000, ti 2, ti 5, ti 5, ti 160, ti 0, ti 1, ti (-1), ti 1])] []) (Res.mk Ex.ret [vb (Entity.right g (Entity.mk 1000 2 5 5 160 0 1 (-1) 1))] []), .tt, .tt, .tt, .w (isBool cx (4 : Nat) = true), .tt]) (by kernel_rfl) ⟨o_a (f_entity_Right _ (e := Entity.mk 1000 2 5 5 160 0 1 (-1) 1)), o_w (by kernel_rfl), trivial⟩ ?_
                    refine rt (a := Res.mk Ex.ret [vb (Entity.right g (Entity.mk 1000 2 5 5 160 0 1 (-1) 1) == !over)] []) (by kernel_rfl) ?_
                    (simp_all [Entity.right, Config.inside, within, pace, beqd, bned]; try omega)
                  · refine gs (l := [.ff, .ff, .b over false, .b (Int.tmod (IntKind.wrap IntKind.u64 which) 7 == 0) false, .b (Int.tmod (IntKind.wrap IntKind.u64 which) 7 == 1) false, .b (Int.tmod (IntKind.wrap IntKind.u64 which) 7 == 2) false, .b (Int.tmod (IntKind.wrap IntKind.u64 which) 7 == 3) false, .b (Int.tmod (IntKind.wrap IntKind.u64 which) 7 == 4) false, .b (Int.tmod (IntKind.wrap IntKind.u64 which) 7 == 5) true, .a (Task.call 13 [] []) (Res.mk Ex.ret [vb true] []), .tt, .tt, .tt, .b (0 == 0) true, .tt, .tt]) (by kernel_rfl) ⟨f_br (by assumption), f_bre (by assumption), f_bre (by assumption), f_bre (by assumption), f_bre (by assumption), f_bre (by assumption), t_bre (by assumption), o_a ha, o_b (by kernel_rfl), trivial⟩ ?_
                    refine gs (l := [.a (Task.call 22 [V.t (Config.enc g), V.t (T.agg [ti 1000, ti 2, ti 5, ti 5, ti 160, ti 0, ti 1, ti 0, ti 1])] []) (Res.mk Ex.ret [vb (Entity.right g (Entity.mk 1000 2 5 5 160 0 1 0 1))] []), .tt, .tt, .tt, .w (isBool cx (4 : Nat) = true), .tt]) (by kernel_rfl) ⟨o_a (f_entity_Right _ (e := Entity.mk 1000 2 5 5 160 0 1 0 1)), o_w (by kernel_rfl), trivial⟩ ?_
                    refine rt (a := Res.mk Ex.ret [vb (Entity.right g (Entity.mk 1000 2 5 5 160 0 1 0 1) == !over)] []) (by kernel_rfl) ?_
                    (simp_all [Entity.right, Config.inside, within, pace, beqd, bned]; try omega)
              · refine gs (l := [.b (Int.tmod (IntKind.wrap IntKind.u64 kind) 2 == 1) true]) (by kernel_rfl) ⟨t_bre (by assumption), trivial⟩ ?_
                refine br (b := up) (by kernel_rfl) (fun h8 => ?_) (fun h8 => ?_)
                · refine br (b := over) (by kernel_rfl) (fun h9 => ?_) (fun h9 => ?_)
                  · refine gs (l := [.tt, .b up true, .i IntKind.i64 (g.players + 1) (g.players + 1), .b (Int.tmod (IntKind.wrap IntKind.u64 which) 7 == 0) false, .b (Int.tmod (IntKind.wrap IntKind.u64 which) 7 == 1) false, .b (Int.tmod (IntKind.wrap IntKind.u64 which) 7 == 2) false, .b (Int.tmod (IntKind.wrap IntKind.u64 which) 7 == 3) false, .b (Int.tmod (IntKind.wrap IntKind.u64 which) 7 == 4) false, .b (Int.tmod (IntKind.wrap IntKind.u64 which) 7 == 5) false, .a (Task.call 13 [] []) (Res.mk Ex.ret [vb true] []), .tt, .tt, .tt, .b (0 == 0) true, .tt, .tt]) (by kernel_rfl) ⟨t_br (by assumption), o_i (w64 (by omega)), f_bre (by assumption), f_bre (by assumption), f_bre (by assumption), f_bre (by assumption), f_bre (by assumption), f_bre (by assumption), o_a ha, o_b (by kernel_rfl), trivial⟩ ?_
                    refine gs (l := [.a (Task.call 22 [V.t (Config.enc g), V.t (T.agg [ti 1000, ti 2, ti 5, ti 5, ti 160, ti 0, ti 1, ti 0, ti (g.players + 1)])] []) (Res.mk Ex.ret [vb (Entity.right g (Entity.mk 1000 2 5 5 160 0 1 0 (g.players + 1)))] []), .tt, .tt, .tt, .w (isBool cx (4 : Nat) = true), .tt]) (by kernel_rfl) ⟨o_a (f_entity_Right _ (e := Entity.mk 1000 2 5 5 160 0 1 0 (g.players + 1))), o_w (by kernel_rfl), trivial⟩ ?_
                    refine rt (a := Res.mk Ex.ret [vb (Entity.right g (Entity.mk 1000 2 5 5 160 0 1 0 (g.players + 1)) == !over)] []) (by kernel_rfl) ?_
                    (simp_all [Entity.right, Config.inside, within, pace, beqd, bned]; try omega)
                  · refine gs (l := [.ff, .ff, .b over false, .b (Int.tmod (IntKind.wrap IntKind.u64 which) 7 == 0) false, .b (Int.tmod (IntKind.wrap IntKind.u64 which) 7 == 1) false, .b (Int.tmod (IntKind.wrap IntKind.u64 which) 7 == 2) false, .b (Int.tmod (IntKind.wrap IntKind.u64 which) 7 == 3) false, .b (Int.tmod (IntKind.wrap IntKind.u64 which) 7 == 4) false, .b (Int.tmod (IntKind.wrap IntKind.u64 which) 7 == 5) false, .a (Task.call 13 [] []) (Res.mk Ex.ret [vb true] []), .tt, .tt, .tt, .b (0 == 0) true, .tt, .tt]) (by kernel_rfl) ⟨f_br (by assumption), f_bre (by assumption), f_bre (by assumption), f_bre (by assumption), f_bre (by assumption), f_bre (by assumption), f_bre (by assumption), o_a ha, o_b (by kernel_rfl), trivial⟩ ?_
                    refine gs (l := [.a (Task.call 22 [V.t (Config.enc g), V.t (T.agg [ti 1000, ti 2, ti 5, ti 5, ti 160, ti 0, ti 1, ti 0, ti g.players])] []) (Res.mk Ex.ret [vb (Entity.right g (Entity.mk 1000 2 5 5 160 0 1 0 g.3))] []), .tt, .tt, .tt, .w (isBool cx (4 : Nat) = true), .tt]) (by kernel_rfl) ⟨o_a (f_entity_Right _ (e := Entity.mk 1000 2 5 5 160 0 1 0 g.3)), o_w (by kernel_rfl), trivial⟩ ?_
                    refine rt (a := Res.mk Ex.ret [vb (Entity.right g (Entity.mk 1000 2 5 5 160 0 1 0 g.3) == !over)] []) (by kernel_rfl) ?_
                    (simp_all [Entity.right, Config.inside, within, pace, beqd, bned]; try omega)
                · refine br (b := over) (by kernel_rfl) (fun h9 => ?_) (fun h9 => ?_)
                  · refine gs (l := [.tt, .b up false, .b over true, .i IntKind.i64 0 0, .b (Int.tmod (IntKind.wrap IntKind.u64 which) 7 == 0) false, .b (Int.tmod (IntKind.wrap IntKind.u64 which) 7 == 1) false, .b (Int.tmod (IntKind.wrap IntKind.u64 which) 7 == 2) false, .b (Int.tmod (IntKind.wrap IntKind.u64 which) 7 == 3) false, .b (Int.tmod (IntKind.wrap IntKind.u64 which) 7 == 4) false, .b (Int.tmod (IntKind.wrap IntKind.u64 which) 7 == 5) false, .a (Task.call 13 [] []) (Res.mk Ex.ret [vb true] []), .tt, .tt, .tt, .b (0 == 0) true, .tt]) (by kernel_rfl) ⟨f_br (by assumption), t_br (by assumption), o_i (by kernel_rfl), f_bre (by assumption), f_bre (by assumption), f_bre (by assumption), f_bre (by assumption), f_bre (by assumption), f_bre (by assumption), o_a ha, o_b (by kernel_rfl), trivial⟩ ?_
                    refine gs (l := [.tt, .a (Task.call 22 [V.t (Config.enc g), V.t (T.agg [ti 1000, ti 2, ti 5, ti 5, ti 160, ti 0, ti 1, ti 0, ti 0])] []) (Res.mk Ex.ret [vb (Entity.right g (Entity.mk 1000 2 5 5 160 0 1 0 0))] []), .tt, .tt, .tt, .w (isBool cx (4 : Nat) = true), .tt]) (by kernel_rfl) ⟨o_a (f_entity_Right _ (e := Entity.mk 1000 2 5 5 160 0 1 0 0)), o_w (by kernel_rfl), trivial⟩ ?_
                    refine rt (a := Res.mk Ex.ret [vb (Entity.right g (Entity.mk 1000 2 5 5 160 0 1 0 0) == !over)] []) (by kernel_rfl) ?_
                    (simp_all [Entity.right, Config.inside, within, pace, beqd, bned]; try omega)
                  · refine gs (l := [.ff, .ff, .b over false, .b (Int.tmod (IntKind.wrap IntKind.u64 which) 7 == 0) false, .b (Int.tmod (IntKind.wrap IntKind.u64 which) 7 == 1) false, .b (Int.tmod (IntKind.wrap IntKind.u64 which) 7 == 2) false, .b (Int.tmod (IntKind.wrap IntKind.u64 which) 7 == 3) false, .b (Int.tmod (IntKind.wrap IntKind.u64 which) 7 == 4) false, .b (Int.tmod (IntKind.wrap IntKind.u64 which) 7 == 5) false, .a (Task.call 13 [] []) (Res.mk Ex.ret [vb true] []), .tt, .tt, .tt, .b (0 == 0) true, .tt, .tt]) (by kernel_rfl) ⟨f_br (by assumption), f_bre (by assumption), f_bre (by assumption), f_bre (by assumption), f_bre (by assumption), f_bre (by assumption), f_bre (by assumption), o_a ha, o_b (by kernel_rfl), trivial⟩ ?_
                    refine gs (l := [.a (Task.call 22 [V.t (Config.enc g), V.t (T.agg [ti 1000, ti 2, ti 5, ti 5, ti 160, ti 0, ti 1, ti 0, ti 1])] []) (Res.mk Ex.ret [vb (Entity.right g (Entity.mk 1000 2 5 5 160 0 1 0 1))] []), .tt, .tt, .tt, .w (isBool cx (4 : Nat) = true), .tt]) (by kernel_rfl) ⟨o_a (f_entity_Right _ (e := Entity.mk 1000 2 5 5 160 0 1 0 1)), o_w (by kernel_rfl), trivial⟩ ?_
                    refine rt (a := Res.mk Ex.ret [vb (Entity.right g (Entity.mk 1000 2 5 5 160 0 1 0 1) == !over)] []) (by kernel_rfl) ?_
                    (simp_all [Entity.right, Config.inside, within, pace, beqd, bned]; try omega)
  · refine gs (l := [.i IntKind.u64 which (IntKind.wrap IntKind.u64 which), .w ((7 : Int) ≠ (0 : Int)), .s (T.int IntKind.u64 (Int.tmod (IntKind.wrap IntKind.u64 which) 7))]) (by kernel_rfl) ⟨o_i rfl, o_w (by intro h; cases h), trivial⟩ ?_
    refine bre (x := Int.tmod (IntKind.wrap IntKind.u64 which) 7) (y := 0) (by kernel_rfl) (fun h2 => ?_) (fun h2 => ?_)
    · refine gs (l := [.b (Int.tmod (IntKind.wrap IntKind.u64 kind) 2 == 1) false]) (by kernel_rfl) ⟨f_bre (by assumption), trivial⟩ ?_
      refine br (b := up) (by kernel_rfl) (fun h3 => ?_) (fun h3 => ?_)
      · refine br (b := over) (by kernel_rfl) (fun h4 => ?_) (fun h4 => ?_)
        · refine gs (l := [.tt, .b up true, .i IntKind.i64 (g.players + 1) (g.players + 1), .b (Int.tmod (IntKind.wrap IntKind.u64 which) 7 == 0) true, .a (Task.call 13 [] []) (Res.mk Ex.ret [vb true] []), .tt, .tt, .tt, .b (0 == 0) true, .tt, .tt, .a (Task.call 22 [V.t (Config.enc g), V.t (T.agg [ti (g.players + 1), ti 1, ti 5, ti 5, ti 0, ti 0, ti 50, ti 0, ti 0])] []) (Res.mk Ex.ret [vb (Entity.right g (Entity.mk (g.players + 1) 1 5 5 0 0 50 0 0))] []), .tt, .tt, .tt, .w (isBool cx (4 : Nat) = true)]) (by kernel_rfl) ⟨t_br (by assumption), o_i (w64 (by omega)), t_bre (by assumption), o_a ha, o_b (by kernel_rfl), o_a (f_entity_Right _ (e := Entity.mk (g.players + 1) 1 5 5 0 0 50 0 0)), o_w (by kernel_rfl), trivial⟩ ?_
          refine gs (l := [.tt]) (by kernel_rfl) trivial ?_
          refine rt (a := Res.mk Ex.ret [vb (Entity.right g (Entity.mk (g.players + 1) 1 5 5 0 0 50 0 0) == !over)] []) (by kernel_rfl) ?_
          (simp_all [Entity.right, Config.inside, within, pace, beqd, bned]; try omega)
        · refine gs (l := [.ff, .ff, .b over false, .b (Int.tmod (IntKind.wrap IntKind.u64 which) 7 == 0) true, .a (Task.call 13 [] []) (Res.mk Ex.ret [vb true] []), .tt, .tt, .tt, .b (0 == 0) true, .tt, .tt, .a (Task.call 22 [V.t (Config.enc g), V.t (T.agg [ti g.players, ti 1, ti 5, ti 5, ti 0, ti 0, ti 50, ti 0, ti 0])] []) (Res.mk Ex.ret [vb (Entity.right g (Entity.mk g.3 1 5 5 0 0 50 0 0))] []), .tt, .tt, .tt, .w (isBool cx (4 : Nat) = true)]) (by kernel_rfl) ⟨f_br (by assumption), t_bre (by assumption), o_a ha, o_b (by kernel_rfl), o_a (f_entity_Right _ (e := Entity.mk g.3 1 5 5 0 0 50 0 0)), o_w (by kernel_rfl), trivial⟩ ?_
          refine gs (l := [.tt]) (by kernel_rfl) trivial ?_
          refine rt (a := Res.mk Ex.ret [vb (Entity.right g (Entity.mk g.3 1 5 5 0 0 50 0 0) == !over)] []) (by kernel_rfl) ?_
          (simp_all [Entity.right, Config.inside, within, pace, beqd, bned]; try omega)
      · refine br (b := over) (by kernel_rfl) (fun h4 => ?_) (fun h4 => ?_)
        · refine gs (l := [.tt, .b up false, .b over true, .i IntKind.i64 0 0, .b (Int.tmod (IntKind.wrap IntKind.u64 which) 7 == 0) true, .a (Task.call 13 [] []) (Res.mk Ex.ret [vb true] []), .tt, .tt, .tt, .b (0 == 0) true, .tt, .tt, .a (Task.call 22 [V.t (Config.enc g), V.t (T.agg [ti 0, ti 1, ti 5, ti 5, ti 0, ti 0, ti 50, ti 0, ti 0])] []) (Res.mk Ex.ret [vb (Entity.right g (Entity.mk 0 1 5 5 0 0 50 0 0))] []), .tt, .tt, .tt]) (by kernel_rfl) ⟨f_br (by assumption), t_br (by assumption), o_i (by kernel_rfl), t_bre (by assumption), o_a ha, o_b (by kernel_rfl), o_a (f_entity_Right _ (e := Entity.mk 0 1 5 5 0 0 50 0 0)), trivial⟩ ?_
          refine gs (l := [.w (isBool cx (4 : Nat) = true), .tt]) (by kernel_rfl) ⟨o_w (by kernel_rfl), trivial⟩ ?_
          refine rt (a := Res.mk Ex.ret [vb (Entity.right g (Entity.mk 0 1 5 5 0 0 50 0 0) == !over)] []) (by kernel_rfl) ?_
          (simp_all [Entity.right, Config.inside, within, pace, beqd, bned]; try omega)
        · refine gs (l := [.ff, .ff, .b over false, .b (Int.tmod (IntKind.wrap IntKind.u64 which) 7 == 0) true, .a (Task.call 13 [] []) (Res.mk Ex.ret [vb true] []), .tt, .tt, .tt, .b (0 == 0) true, .tt, .tt, .a (Task.call 22 [V.t (Config.enc g), V.t (T.agg [ti 1, ti 1, ti 5, ti 5, ti 0, ti 0, ti 50, ti 0, ti 0])] []) (Res.mk Ex.ret [vb (Entity.right g (Entity.mk 1 1 5 5 0 0 50 0 0))] []), .tt, .tt, .tt, .w (isBool cx (4 : Nat) = true)]) (by kernel_rfl) ⟨f_br (by assumption), t_bre (by assumption), o_a ha, o_b (by kernel_rfl), o_a (f_entity_Right _ (e := Entity.mk 1 1 5 5 0 0 50 0 0)), o_w (by kernel_rfl), trivial⟩ ?_
          refine gs (l := [.tt]) (by kernel_rfl) trivial ?_
          refine rt (a := Res.mk Ex.ret [vb (Entity.right g (Entity.mk 1 1 5 5 0 0 50 0 0) == !over)] []) (by kernel_rfl) ?_
          (simp_all [Entity.right, Config.inside, within, pace, beqd, bned]; try omega)
    · refine bre (x := Int.tmod (IntKind.wrap IntKind.u64 which) 7) (y := 1) (by kernel_rfl) (fun h3 => ?_) (fun h3 => ?_)
      · refine gs (l := [.i IntKind.i64 (g.cols * 1024) (g.cols * 1024), .i IntKind.i64 (g.cols * 1024 - 1) (g.cols * 1024 - 1)]) (by kernel_rfl) ⟨o_i (w64 (by omega)), o_i (w64 (by omega)), trivial⟩ ?_
        refine br (b := up) (by kernel_rfl) (fun h4 => ?_) (fun h4 => ?_)
        · refine br (b := over) (by kernel_rfl) (fun h5 => ?_) (fun h5 => ?_)
          · refine gs (l := [.tt, .b up true, .i IntKind.i64 (g.cols * 1024 - 1 + 1) (g.cols * 1024 - 1 + 1), .b (Int.tmod (IntKind.wrap IntKind.u64 which) 7 == 0) false, .b (Int.tmod (IntKind.wrap IntKind.u64 which) 7 == 1) true, .a (Task.call 13 [] []) (Res.mk Ex.ret [vb true] []), .tt, .tt, .tt, .b (0 == 0) true, .tt, .tt, .a (Task.call 22 [V.t (Config.enc g), V.t (T.agg [ti 1, ti 1, ti (g.cols * 1024 - 1 + 1), ti 5, ti 0, ti 0, ti 50, ti 0, ti 0])] []) (Res.mk Ex.ret [vb (Entity.right g (Entity.mk 1 1 (g.cols * 1024 - 1 + 1) 5 0 0 50 0 0))] []), .tt, .tt, .tt]) (by kernel_rfl) ⟨t_br (by assumption), o_i (w64 (by omega)), f_bre (by assumption), t_bre (by assumption), o_a ha, o_b (by kernel_rfl), o_a (f_entity_Right _ (e := Entity.mk 1 1 (g.cols * 1024 - 1 + 1) 5 0 0 50 0 0)), trivial⟩ ?_
            refine gs (l := [.w (isBool cx (4 : Nat) = true), .tt]) (by kernel_rfl) ⟨o_w (by kernel_rfl), trivial⟩ ?_
            refine rt (a := Res.mk Ex.ret [vb (Entity.right g (Entity.mk 1 1 (g.cols * 1024 - 1 + 1) 5 0 0 50 0 0) == !over)] []) (by kernel_rfl) ?_
            (simp_all [Entity.right, Config.inside, within, pace, beqd, bned]; try omega)
          · refine gs (l := [.ff, .ff, .b over false, .b (Int.tmod (IntKind.wrap IntKind.u64 which) 7 == 0) false, .b (Int.tmod (IntKind.wrap IntKind.u64 which) 7 == 1) true, .a (Task.call 13 [] []) (Res.mk Ex.ret [vb true] []), .tt, .tt, .tt, .b (0 == 0) true, .tt, .tt, .a (Task.call 22 [V.t (Config.enc g), V.t (T.agg [ti 1, ti 1, ti (g.cols * 1024 - 1), ti 5, ti 0, ti 0, ti 50, ti 0, ti 0])] []) (Res.mk Ex.ret [vb (Entity.right g (Entity.mk 1 1 (g.cols * 1024 - 1) 5 0 0 50 0 0))] []), .tt, .tt, .tt]) (by kernel_rfl) ⟨f_br (by assumption), f_bre (by assumption), t_bre (by assumption), o_a ha, o_b (by kernel_rfl), o_a (f_entity_Right _ (e := Entity.mk 1 1 (g.cols * 1024 - 1) 5 0 0 50 0 0)), trivial⟩ ?_
            refine gs (l := [.w (isBool cx (4 : Nat) = true), .tt]) (by kernel_rfl) ⟨o_w (by kernel_rfl), trivial⟩ ?_
            refine rt (a := Res.mk Ex.ret [vb (Entity.right g (Entity.mk 1 1 (g.cols * 1024 - 1) 5 0 0 50 0 0) == !over)] []) (by kernel_rfl) ?_
            (simp_all [Entity.right, Config.inside, within, pace, beqd, bned]; try omega)
        · refine br (b := over) (by kernel_rfl) (fun h5 => ?_) (fun h5 => ?_)
          · refine gs (l := [.tt, .b up false, .b over true, .i IntKind.i64 (-1) (-1), .b (Int.tmod (IntKind.wrap IntKind.u64 which) 7 == 0) false, .b (Int.tmod (IntKind.wrap IntKind.u64 which) 7 == 1) true, .a (Task.call 13 [] []) (Res.mk Ex.ret [vb true] []), .tt, .tt, .tt, .b (0 == 0) true, .tt, .tt, .a (Task.call 22 [V.t (Config.enc g), V.t (T.agg [ti 1, ti 1, ti (-1), ti 5, ti 0, ti 0, ti 50, ti 0, ti 0])] []) (Res.mk Ex.ret [vb false] []), .tt, .tt]) (by kernel_rfl) ⟨f_br (by assumption), t_br (by assumption), o_i (by kernel_rfl), f_bre (by assumption), t_bre (by assumption), o_a ha, o_b (by kernel_rfl), o_a (f_entity_Right _ (e := Entity.mk 1 1 (-1) 5 0 0 50 0 0)), trivial⟩ ?_
            refine gs (l := [.tt, .w (isBool cx (4 : Nat) = true), .tt]) (by kernel_rfl) ⟨o_w (by kernel_rfl), trivial⟩ ?_
            refine rt (a := Res.mk Ex.ret [vb (false == !over)] []) (by kernel_rfl) ?_
            (simp_all [Entity.right, Config.inside, within, pace, beqd, bned]; try omega)
          · refine gs (l := [.ff, .ff, .b over false, .b (Int.tmod (IntKind.wrap IntKind.u64 which) 7 == 0) false, .b (Int.tmod (IntKind.wrap IntKind.u64 which) 7 == 1) true, .a (Task.call 13 [] []) (Res.mk Ex.ret [vb true] []), .tt, .tt, .tt, .b (0 == 0) true, .tt, .tt, .a (Task.call 22 [V.t (Config.enc g), V.t (T.agg [ti 1, ti 1, ti 0, ti 5, ti 0, ti 0, ti 50, ti 0, ti 0])] []) (Res.mk Ex.ret [vb (Entity.right g (Entity.mk 1 1 0 5 0 0 50 0 0))] []), .tt, .tt, .tt]) (by kernel_rfl) ⟨f_br (by assumption), f_bre (by assumption), t_bre (by assumption), o_a ha, o_b (by kernel_rfl), o_a (f_entity_Right _ (e := Entity.mk 1 1 0 5 0 0 50 0 0)), trivial⟩ ?_
            refine gs (l := [.w (isBool cx (4 : Nat) = true), .tt]) (by kernel_rfl) ⟨o_w (by kernel_rfl), trivial⟩ ?_
            refine rt (a := Res.mk Ex.ret [vb (Entity.right g (Entity.mk 1 1 0 5 0 0 50 0 0) == !over)] []) (by kernel_rfl) ?_
            (simp_all [Entity.right, Config.inside, within, pace, beqd, bned]; try omega)
      · refine bre (x := Int.tmod (IntKind.wrap IntKind.u64 which) 7) (y := 2) (by kernel_rfl) (fun h4 => ?_) (fun h4 => ?_)
        · refine gs (l := [.i IntKind.i64 (g.rows * 1024) (g.rows * 1024), .i IntKind.i64 (g.rows * 1024 - 1) (g.rows * 1024 - 1)]) (by kernel_rfl) ⟨o_i (w64 (by omega)), o_i (w64 (by omega)), trivial⟩ ?_
          refine br (b := up) (by kernel_rfl) (fun h5 => ?_) (fun h5 => ?_)
          · refine br (b := over) (by kernel_rfl) (fun h6 => ?_) (fun h6 => ?_)
            · refine gs (l := [.tt, .b up true, .i IntKind.i64 (g.rows * 1024 - 1 + 1) (g.rows * 1024 - 1 + 1), .b (Int.tmod (IntKind.wrap IntKind.u64 which) 7 == 0) false, .b (Int.tmod (IntKind.wrap IntKind.u64 which) 7 == 1) false, .b (Int.tmod (IntKind.wrap IntKind.u64 which) 7 == 2) true, .a (Task.call 13 [] []) (Res.mk Ex.ret [vb true] []), .tt, .tt, .tt, .b (0 == 0) true, .tt, .tt, .a (Task.call 22 [V.t (Config.enc g), V.t (T.agg [ti 1, ti 1, ti 5, ti (g.rows * 1024 - 1 + 1), ti 0, ti 0, ti 50, ti 0, ti 0])] []) (Res.mk Ex.ret [vb (Entity.right g (Entity.mk 1 1 5 (g.rows * 1024 - 1 + 1) 0 0 50 0 0))] []), .tt, .tt]) (by kernel_rfl) ⟨t_br (by assumption), o_i (w64 (by omega)), f_bre (by assumption), f_bre (by assumption), t_bre (by assumption), o_a ha, o_b (by kernel_rfl), o_a (f_entity_Right _ (e := Entity.mk 1 1 5 (g.rows * 1024 - 1 + 1) 0 0 50 0 0)), trivial⟩ ?_
              refine gs (l := [.tt, .w (isBool cx (4 : Nat) = true), .tt]) (by kernel_rfl) ⟨o_w (by kernel_rfl), trivial⟩ ?_
              refine rt (a := Res.mk Ex.ret [vb (Entity.right g (Entity.mk 1 1 5 (g.rows * 1024 - 1 + 1) 0 0 50 0 0) == !over)] []) (by kernel_rfl) ?_
              (simp_all [Entity.right, Config.inside, within, pace, beqd, bned]; try omega)
            · refine gs (l := [.ff, .ff, .b over false, .b (Int.tmod (IntKind.wrap IntKind.u64 which) 7 == 0) false, .b (Int.tmod (IntKind.wrap IntKind.u64 which) 7 == 1) false, .b (Int.tmod (IntKind.wrap IntKind.u64 which) 7 == 2) true, .a (Task.call 13 [] []) (Res.mk Ex.ret [vb true] []), .tt, .tt, .tt, .b (0 == 0) true, .tt, .tt, .a (Task.call 22 [V.t (Config.enc g), V.t (T.agg [ti 1, ti 1, ti 5, ti (g.rows * 1024 - 1), ti 0, ti 0, ti 50, ti 0, ti 0])] []) (Res.mk Ex.ret [vb (Entity.right g (Entity.mk 1 1 5 (g.rows * 1024 - 1) 0 0 50 0 0))] []), .tt, .tt]) (by kernel_rfl) ⟨f_br (by assumption), f_bre (by assumption), f_bre (by assumption), t_bre (by assumption), o_a ha, o_b (by kernel_rfl), o_a (f_entity_Right _ (e := Entity.mk 1 1 5 (g.rows * 1024 - 1) 0 0 50 0 0)), trivial⟩ ?_
              refine gs (l := [.tt, .w (isBool cx (4 : Nat) = true), .tt]) (by kernel_rfl) ⟨o_w (by kernel_rfl), trivial⟩ ?_
              refine rt (a := Res.mk Ex.ret [vb (Entity.right g (Entity.mk 1 1 5 (g.rows * 1024 - 1) 0 0 50 0 0) == !over)] []) (by kernel_rfl) ?_
              (simp_all [Entity.right, Config.inside, within, pace, beqd, bned]; try omega)
          · refine br (b := over) (by kernel_rfl) (fun h6 => ?_) (fun h6 => ?_)
            · refine gs (l := [.tt, .b up false, .b over true, .i IntKind.i64 (-1) (-1), .b (Int.tmod (IntKind.wrap IntKind.u64 which) 7 == 0) false, .b (Int.tmod (IntKind.wrap IntKind.u64 which) 7 == 1) false, .b (Int.tmod (IntKind.wrap IntKind.u64 which) 7 == 2) true, .a (Task.call 13 [] []) (Res.mk Ex.ret [vb true] []), .tt, .tt, .tt, .b (0 == 0) true, .tt, .tt, .a (Task.call 22 [V.t (Config.enc g), V.t (T.agg [ti 1, ti 1, ti 5, ti (-1), ti 0, ti 0, ti 50, ti 0, ti 0])] []) (Res.mk Ex.ret [vb (Entity.right g (Entity.mk 1 1 5 (-1) 0 0 50 0 0))] []), .tt]) (by kernel_rfl) ⟨f_br (by assumption), t_br (by assumption), o_i (by kernel_rfl), f_bre (by assumption), f_bre (by assumption), t_bre (by assumption), o_a ha, o_b (by kernel_rfl), o_a (f_entity_Right _ (e := Entity.mk 1 1 5 (-1) 0 0 50 0 0)), trivial⟩ ?_
              refine gs (l := [.tt, .tt, .w (isBool cx (4 : Nat) = true), .tt]) (by kernel_rfl) ⟨o_w (by kernel_rfl), trivial⟩ ?_
              refine rt (a := Res.mk Ex.ret [vb (Entity.right g (Entity.mk 1 1 5 (-1) 0 0 50 0 0) == !over)] []) (by kernel_rfl) ?_
              (simp_all [Entity.right, Config.inside, within, pace, beqd, bned]; try omega)
            · refine gs (l := [.ff, .ff, .b over false, .b (Int.tmod (IntKind.wrap IntKind.u64 which) 7 == 0) false, .b (Int.tmod (IntKind.wrap IntKind.u64 which) 7 == 1) false, .b (Int.tmod (IntKind.wrap IntKind.u64 which) 7 == 2) true, .a (Task.call 13 [] []) (Res.mk Ex.ret [vb true] []), .tt, .tt, .tt, .b (0 == 0) true, .tt, .tt, .a (Task.call 22 [V.t (Config.enc g), V.t (T.agg [ti 1, ti 1, ti 5, ti 0, ti 0, ti 0, ti 50, ti 0, ti 0])] []) (Res.mk Ex.ret [vb (Entity.right g (Entity.mk 1 1 5 0 0 0 50 0 0))] []), .tt, .tt]) (by kernel_rfl) ⟨f_br (by assumption), f_bre (by assumption), f_bre (by assumption), t_bre (by assumption), o_a ha, o_b (by kernel_rfl), o_a (f_entity_Right _ (e := Entity.mk 1 1 5 0 0 0 50 0 0)), trivial⟩ ?_
              refine gs (l := [.tt, .w (isBool cx (4 : Nat) = true), .tt]) (by kernel_rfl) ⟨o_w (by kernel_rfl), trivial⟩ ?_
              refine rt (a := Res.mk Ex.ret [vb (Entity.right g (Entity.mk 1 1 5 0 0 0 50 0 0) == !over)] []) (by kernel_rfl) ?_
              (simp_all [Entity.right, Config.inside, within, pace, beqd, bned]; try omega)
        · refine bre (x := Int.tmod (IntKind.wrap IntKind.u64 which) 7) (y := 3) (by kernel_rfl) (fun h5 => ?_) (fun h5 => ?_)
          · refine br (b := up) (by kernel_rfl) (fun h6 => ?_) (fun h6 => ?_)
            · refine br (b := over) (by kernel_rfl) (fun h7 => ?_) (fun h7 => ?_)
              · refine gs (l := [.tt, .b up true, .i IntKind.i64 65 65, .b (Int.tmod (IntKind.wrap IntKind.u64 which) 7 == 0) false, .b (Int.tmod (IntKind.wrap IntKind.u64 which) 7 == 1) false, .b (Int.tmod (IntKind.wrap IntKind.u64 which) 7 == 2) false, .b (Int.tmod (IntKind.wrap IntKind.u64 which) 7 == 3) true, .b (Int.tmod (IntKind.wrap IntKind.u64 kind) 2 == 1) false, .a (Task.call 13 [] []) (Res.mk Ex.ret [vb true] []), .tt, .tt, .tt, .b (0 == 0) true, .tt, .tt, .a (Task.call 22 [V.t (Config.enc g), V.t (T.agg [ti 1, ti 1, ti 5, ti 5, ti 65, ti 0, ti 50, ti 0, ti 0])] []) (Res.mk Ex.ret [vb (Entity.right g (Entity.mk 1 1 5 5 65 0 50 0 0))] [])]) (by kernel_rfl) ⟨t_br (by assumption), o_i (by kernel_rfl), f_bre (by assumption), f_bre (by assumption), f_bre (by assumption), t_bre (by assumption), f_bre (by assumption), o_a ha, o_b (by kernel_rfl), o_a (f_entity_Right _ (e := Entity.mk 1 1 5 5 65 0 50 0 0)), trivial⟩ ?_
                refine gs (l := [.tt, .tt, .tt, .w (isBool cx (4 : Nat) = true), .tt]) (by kernel_rfl) ⟨o_w (by kernel_rfl), trivial⟩ ?_
                refine rt (a := Res.mk Ex.ret [vb (Entity.right g (Entity.mk 1 1 5 5 65 0 50 0 0) == !over)] []) (by kernel_rfl) ?_
                (simp_all [Entity.right, Config.inside, within, pace, beqd, bned]; try omega)
              · refine gs (l := [.ff, .ff, .b over false, .b (Int.tmod (IntKind.wrap IntKind.u64 which) 7 == 0) false, .b (Int.tmod (IntKind.wrap IntKind.u64 which) 7 == 1) false, .b (Int.tmod (IntKind.wrap IntKind.u64 which) 7 == 2) false, .b (Int.tmod (IntKind.wrap IntKind.u64 which) 7 == 3) true, .b (Int.tmod (IntKind.wrap IntKind.u64 kind) 2 == 1) false, .a (Task.call 13 [] []) (Res.mk Ex.ret [vb true] []), .tt, .tt, .tt, .b (0 == 0) true, .tt, .tt, .a (Task.call 22 [V.t (Config.enc g), V.t (T.agg [ti 1, ti 1, ti 5, ti 5, ti 64, ti 0, ti 50, ti 0, ti 0])] []) (Res.mk Ex.ret [vb (Entity.right g (Entity.mk 1 1 5 5 64 0 50 0 0))] [])]) (by kernel_rfl) ⟨f_br (by assumption), f_bre (by assumption), f_bre (by assumption), f_bre (by assumption), t_bre (by assumption), f_bre (by assumption), o_a ha, o_b (by kernel_rfl), o_a (f_entity_Right _ (e := Entity.mk 1 1 5 5 64 0 50 0 0)), trivial⟩ ?_
                refine gs (l := [.tt, .tt, .tt, .w (isBool cx (4 : Nat) = true), .tt]) (by kernel_rfl) ⟨o_w (by kernel_rfl), trivial⟩ ?_
                refine rt (a := Res.mk Ex.ret [vb (Entity.right g (Entity.mk 1 1 5 5 64 0 50 0 0) == !over)] []) (by kernel_rfl) ?_
                (simp_all [Entity.right, Config.inside, within, pace, beqd, bned]; try omega)
            · refine br (b := over) (by kernel_rfl) (fun h7 => ?_) (fun h7 => ?_)
              · refine gs (l := [.tt, .b up false, .b over true, .i IntKind.i64 (-65) (-65), .b (Int.tmod (IntKind.wrap IntKind.u64 which) 7 == 0) false, .b (Int.tmod (IntKind.wrap IntKind.u64 which) 7 == 1) false, .b (Int.tmod (IntKind.wrap IntKind.u64 which) 7 == 2) false, .b (Int.tmod (IntKind.wrap IntKind.u64 which) 7 == 3) true, .b (Int.tmod (IntKind.wrap IntKind.u64 kind) 2 == 1) false, .a (Task.call 13 [] []) (Res.mk Ex.ret [vb true] []), .tt, .tt, .tt, .b (0 == 0) true, .tt, .tt]) (by kernel_rfl) ⟨f_br (by assumption), t_br (by assumption), o_i (by kernel_rfl), f_bre (by assumption), f_bre (by assumption), f_bre (by assumption), t_bre (by assumption), f_bre (by assumption), o_a ha, o_b (by kernel_rfl), trivial⟩ ?_
                refine gs (l := [.a (Task.call 22 [V.t (Config.enc g), V.t (T.agg [ti 1, ti 1, ti 5, ti 5, ti (-65), ti 0, ti 50, ti 0, ti 0])] []) (Res.mk Ex.ret [vb (Entity.right g (Entity.mk 1 1 5 5 (-65) 0 50 0 0))] []), .tt, .tt, .tt, .w (isBool cx (4 : Nat) = true), .tt]) (by kernel_rfl) ⟨o_a (f_entity_Right _ (e := Entity.mk 1 1 5 5 (-65) 0 50 0 0)), o_w (by kernel_rfl), trivial⟩ ?_
                refine rt (a := Res.mk Ex.ret [vb (Entity.right g (Entity.mk 1 1 5 5 (-65) 0 50 0 0) == !over)] []) (by kernel_rfl) ?_
                (simp_all [Entity.right, Config.inside, within, pace, beqd, bned]; try omega)
              · refine gs (l := [.ff, .ff, .b over false, .b (Int.tmod (IntKind.wrap IntKind.u64 which) 7 == 0) false, .b (Int.tmod (IntKind.wrap IntKind.u64 which) 7 == 1) false, .b (Int.tmod (IntKind.wrap IntKind.u64 which) 7 == 2) false, .b (Int.tmod (IntKind.wrap IntKind.u64 which) 7 == 3) true, .b (Int.tmod (IntKind.wrap IntKind.u64 kind) 2 == 1) false, .a (Task.call 13 [] []) (Res.mk Ex.ret [vb true] []), .tt, .tt, .tt, .b (0 == 0) true, .tt, .tt, .a (Task.call 22 [V.t (Config.enc g), V.t (T.agg [ti 1, ti 1, ti 5, ti 5, ti (-64), ti 0, ti 50, ti 0, ti 0])] []) (Res.mk Ex.ret [vb (Entity.right g (Entity.mk 1 1 5 5 (-64) 0 50 0 0))] [])]) (by kernel_rfl) ⟨f_br (by assumption), f_bre (by assumption), f_bre (by assumption), f_bre (by assumption), t_bre (by assumption), f_bre (by assumption), o_a ha, o_b (by kernel_rfl), o_a (f_entity_Right _ (e := Entity.mk 1 1 5 5 (-64) 0 50 0 0)), trivial⟩ ?_
                refine gs (l := [.tt, .tt, .tt, .w (isBool cx (4 : Nat) = true), .tt]) (by kernel_rfl) ⟨o_w (by kernel_rfl), trivial⟩ ?_
                refine rt (a := Res.mk Ex.ret [vb (Entity.right g (Entity.mk 1 1 5 5 (-64) 0 50 0 0) == !over)] []) (by kernel_rfl) ?_
                (simp_all [Entity.right, Config.inside, within, pace, beqd, bned]; try omega)
          · refine bre (x := Int.tmod (IntKind.wrap IntKind.u64 which) 7) (y := 4) (by kernel_rfl) (fun h6 => ?_) (fun h6 => ?_)
            · refine gs (l := [.b (Int.tmod (IntKind.wrap IntKind.u64 kind) 2 == 1) false]) (by kernel_rfl) ⟨f_bre (by assumption), trivial⟩ ?_
              refine br (b := up) (by kernel_rfl) (fun h7 => ?_) (fun h7 => ?_)
              · refine br (b := over) (by kernel_rfl) (fun h8 => ?_) (fun h8 => ?_)
                · refine gs (l := [.tt, .b up true, .i IntKind.i64 101 101, .b (Int.tmod (IntKind.wrap IntKind.u64 which) 7 == 0) false, .b (Int.tmod (IntKind.wrap IntKind.u64 which) 7 == 1) false, .b (Int.tmod (IntKind.wrap IntKind.u64 which) 7 == 2) false, .b (Int.tmod (IntKind.wrap IntKind.u64 which) 7 == 3) false, .b (Int.tmod (IntKind.wrap IntKind.u64 which) 7 == 4) true, .a (Task.call 13 [] []) (Res.mk Ex.ret [vb true] []), .tt, .tt, .tt, .b (0 == 0) true, .tt, .tt, .a (Task.call 22 [V.t (Config.enc g), V.t (T.agg [ti 1, ti 1, ti 5, ti 5, ti 0, ti 0, ti 101, ti 0, ti 0])] []) (Res.mk Ex.ret [vb (Entity.right g (Entity.mk 1 1 5 5 0 0 101 0 0))] [])]) (by kernel_rfl) ⟨t_br (by assumption), o_i (by kernel_rfl), f_bre (by assumption), f_bre (by assumption), f_bre (by assumption), f_bre (by assumption), t_bre (by assumption), o_a ha, o_b (by kernel_rfl), o_a (f_entity_Right _ (e := Entity.mk 1 1 5 5 0 0 101 0 0)), trivial⟩ ?_
                  refine gs (l := [.tt, .tt, .tt, .w (isBool cx (4 : Nat) = true), .tt]) (by kernel_rfl) ⟨o_w (by kernel_rfl), trivial⟩ ?_
                  refine rt (a := Res.mk Ex.ret [vb (Entity.right g (Entity.mk 1 1 5 5 0 0 101 0 0) == !over)] []) (by kernel_rfl) ?_
                  (simp_all [Entity.right, Config.inside, within, pace, beqd, bned]; try omega)
                · refine gs (l := [.ff, .ff, .b over false, .b (Int.tmod (IntKind.wrap IntKind.u64 which) 7 == 0) false, .b (Int.tmod (IntKind.wrap IntKind.u64 which) 7 == 1) false, .b (Int.tmod (IntKind.wrap IntKind.u64 which) 7 == 2) false, .b (Int.tmod (IntKind.wrap IntKind.u64 which) 7 == 3) false, .b (Int.tmod (IntKind.wrap IntKind.u64 which) 7 == 4) true, .a (Task.call 13 [] []) (Res.mk Ex.ret [vb true] []), .tt, .tt, .tt, .b (0 == 0) true, .tt, .tt, .a (Task.call 22 [V.t (Config.enc g), V.t (T.agg [ti 1, ti 1, ti 5, ti 5, ti 0, ti 0, ti 100, ti 0, ti 0])] []) (Res.mk Ex.ret [vb (Entity.right g (Entity.mk 1 1 5 5 0 0 100 0 0))] [])]) (by kernel_rfl) ⟨f_br (by assumption), f_bre (by assumption), f_bre (by assumption), f_bre (by assumption), f_bre (by assumption), t_bre (by assumption), o_a ha, o_b (by kernel_rfl), o_a (f_entity_Right _ (e := Entity.mk 1 1 5 5 0 0 100 0 0)), trivial⟩ ?_
                  refine gs (l := [.tt, .tt, .tt, .w (isBool cx (4 : Nat) = true), .tt]) (by kernel_rfl) ⟨o_w (by kernel_rfl), trivial⟩ ?_
                  refine rt (a := Res.mk Ex.ret [vb (Entity.right g (Entity.mk 1 1 5 5 0 0 100 0 0) == !over)] []) (by kernel_rfl) ?_
                  (simp_all [Entity.right, Config.inside, within, pace, beqd, bned]; try omega)
              · refine br (b := over) (by kernel_rfl) (fun h8 => ?_) (fun h8 => ?_)
                · refine gs (l := [.tt, .b up false, .b over true, .i IntKind.i64 0 0, .b (Int.tmod (IntKind.wrap IntKind.u64 which) 7 == 0) false, .b (Int.tmod (IntKind.wrap IntKind.u64 which) 7 == 1) false, .b (Int.tmod (IntKind.wrap IntKind.u64 which) 7 == 2) false, .b (Int.tmod (IntKind.wrap IntKind.u64 which) 7 == 3) false, .b (Int.tmod (IntKind.wrap IntKind.u64 which) 7 == 4) true, .a (Task.call 13 [] []) (Res.mk Ex.ret [vb true] []), .tt, .tt, .tt, .b (0 == 0) true, .tt, .tt]) (by kernel_rfl) ⟨f_br (by assumption), t_br (by assumption), o_i (by kernel_rfl), f_bre (by assumption), f_bre (by assumption), f_bre (by assumption), f_bre (by assumption), t_bre (by assumption), o_a ha, o_b (by kernel_rfl), trivial⟩ ?_
                  refine gs (l := [.a (Task.call 22 [V.t (Config.enc g), V.t (T.agg [ti 1, ti 1, ti 5, ti 5, ti 0, ti 0, ti 0, ti 0, ti 0])] []) (Res.mk Ex.ret [vb (Entity.right g (Entity.mk 1 1 5 5 0 0 0 0 0))] []), .tt, .tt, .tt, .w (isBool cx (4 : Nat) = true), .tt]) (by kernel_rfl) ⟨o_a (f_entity_Right _ (e := Entity.mk 1 1 5 5 0 0 0 0 0)), o_w (by kernel_rfl), trivial⟩ ?_
                  refine rt (a := Res.mk Ex.ret [vb (Entity.right g (Entity.mk 1 1 5 5 0 0 0 0 0) == !over)] []) (by kernel_rfl) ?_
                  (simp_all [Entity.right, Config.inside, within, pace, beqd, bned]; try omega)
                · refine gs (l := [.ff, .ff, .b over false, .b (Int.tmod (IntKind.wrap IntKind.u64 which) 7 == 0) false, .b (Int.tmod (IntKind.wrap IntKind.u64 which) 7 == 1) false, .b (Int.tmod (IntKind.wrap IntKind.u64 which) 7 == 2) false, .b (Int.tmod (IntKind.wrap IntKind.u64 which) 7 == 3) false, .b (Int.tmod (IntKind.wrap IntKind.u64 which) 7 == 4) true, .a (Task.call 13 [] []) (Res.mk Ex.ret [vb true] []), .tt, .tt, .tt, .b (0 == 0) true, .tt, .tt, .a (Task.call 22 [V.t (Config.enc g), V.t (T.agg [ti 1, ti 1, ti 5, ti 5, ti 0, ti 0, ti 1, ti 0, ti 0])] []) (Res.mk Ex.ret [vb (Entity.right g (Entity.mk 1 1 5 5 0 0 1 0 0))] [])]) (by kernel_rfl) ⟨f_br (by assumption), f_bre (by assumption), f_bre (by assumption), f_bre (by assumption), f_bre (by assumption), t_bre (by assumption), o_a ha, o_b (by kernel_rfl), o_a (f_entity_Right _ (e := Entity.mk 1 1 5 5 0 0 1 0 0)), trivial⟩ ?_
                  refine gs (l := [.tt, .tt, .tt, .w (isBool cx (4 : Nat) = true), .tt]) (by kernel_rfl) ⟨o_w (by kernel_rfl), trivial⟩ ?_
                  refine rt (a := Res.mk Ex.ret [vb (Entity.right g (Entity.mk 1 1 5 5 0 0 1 0 0) == !over)] []) (by kernel_rfl) ?_
                  (simp_all [Entity.right, Config.inside, within, pace, beqd, bned]; try omega)
            · refine bre (x := Int.tmod (IntKind.wrap IntKind.u64 which) 7) (y := 5) (by kernel_rfl) (fun h7 => ?_) (fun h7 => ?_)
              · refine gs (l := [.b (Int.tmod (IntKind.wrap IntKind.u64 kind) 2 == 1) false]) (by kernel_rfl) ⟨f_bre (by assumption), trivial⟩ ?_
                refine br (b := up) (by kernel_rfl) (fun h8 => ?_) (fun h8 => ?_)
                · refine br (b := over) (by kernel_rfl) (fun h9 => ?_) (fun h9 => ?_)
                  · refine gs (l := [.tt, .b up true, .i IntKind.i64 7 7, .b (Int.tmod (IntKind.wrap IntKind.u64 which) 7 == 0) false, .b (Int.tmod (IntKind.wrap IntKind.u64 which) 7 == 1) false, .b (Int.tmod (IntKind.wrap IntKind.u64 which) 7 == 2) false, .b (Int.tmod (IntKind.wrap IntKind.u64 which) 7 == 3) false, .b (Int.tmod (IntKind.wrap IntKind.u64 which) 7 == 4) false, .b (Int.tmod (IntKind.wrap IntKind.u64 which) 7 == 5) true, .a (Task.call 13 [] []) (Res.mk Ex.ret [vb true] []), .tt, .tt, .tt, .b (0 == 0) true, .tt, .tt]) (by kernel_rfl) ⟨t_br (by assumption), o_i (by kernel_rfl), f_bre (by assumption), f_bre (by assumption), f_bre (by assumption), f_bre (by assumption), f_bre (by assumption), t_bre (by assumption), o_a ha, o_b (by kernel_rfl), trivial⟩ ?_
                    refine gs (l := [.a (Task.call 22 [V.t (Config.enc g), V.t (T.agg [ti 1, ti 1, ti 5, ti 5, ti 0, ti 0, ti 50, ti 7, ti 0])] []) (Res.mk Ex.ret [vb (Entity.right g (Entity.mk 1 1 5 5 0 0 50 7 0))] []), .tt, .tt, .tt, .w (isBool cx (4 : Nat) = true), .tt]) (by kernel_rfl) ⟨o_a (f_entity_Right _ (e := Entity.mk 1 1 5 5 0 0 50 7 0)), o_w (by kernel_rfl), trivial⟩ ?_
                    refine rt (a := Res.mk Ex.ret [vb (Entity.right g (Entity.mk 1 1 5 5 0 0 50 7 0) == !over)] []) (by kernel_rfl) ?_
                    (simp_all [Entity.right, Config.inside, within, pace, beqd, bned]; try omega)
                  · refine gs (l := [.ff, .ff, .b over false, .b (Int.tmod (IntKind.wrap IntKind.u64 which) 7 == 0) false, .b (Int.tmod (IntKind.wrap IntKind.u64 which) 7 == 1) false, .b (Int.tmod (IntKind.wrap IntKind.u64 which) 7 == 2) false, .b (Int.tmod (IntKind.wrap IntKind.u64 which) 7 == 3) false, .b (Int.tmod (IntKind.wrap IntKind.u64 which) 7 == 4) false, .b (Int.tmod (IntKind.wrap IntKind.u64 which) 7 == 5) true, .a (Task.call 13 [] []) (Res.mk Ex.ret [vb true] []), .tt, .tt, .tt, .b (0 == 0) true, .tt, .tt]) (by kernel_rfl) ⟨f_br (by assumption), f_bre (by assumption), f_bre (by assumption), f_bre (by assumption), f_bre (by assumption), f_bre (by assumption), t_bre (by assumption), o_a ha, o_b (by kernel_rfl), trivial⟩ ?_
                    refine gs (l := [.a (Task.call 22 [V.t (Config.enc g), V.t (T.agg [ti 1, ti 1, ti 5, ti 5, ti 0, ti 0, ti 50, ti 6, ti 0])] []) (Res.mk Ex.ret [vb (Entity.right g (Entity.mk 1 1 5 5 0 0 50 6 0))] []), .tt, .tt, .tt, .w (isBool cx (4 : Nat) = true), .tt]) (by kernel_rfl) ⟨o_a (f_entity_Right _ (e := Entity.mk 1 1 5 5 0 0 50 6 0)), o_w (by kernel_rfl), trivial⟩ ?_
                    refine rt (a := Res.mk Ex.ret [vb (Entity.right g (Entity.mk 1 1 5 5 0 0 50 6 0) == !over)] []) (by kernel_rfl) ?_
                    (simp_all [Entity.right, Config.inside, within, pace, beqd, bned]; try omega)
                · refine br (b := over) (by kernel_rfl) (fun h9 => ?_) (fun h9 => ?_)
                  · refine gs (l := [.tt, .b up false, .b over true, .i IntKind.i64 (-1) (-1), .b (Int.tmod (IntKind.wrap IntKind.u64 which) 7 == 0) false, .b (Int.tmod (IntKind.wrap IntKind.u64 which) 7 == 1) false, .b (Int.tmod (IntKind.wrap IntKind.u64 which) 7 == 2) false, .b (Int.tmod (IntKind.wrap IntKind.u64 which) 7 == 3) false, .b (Int.tmod (IntKind.wrap IntKind.u64 which) 7 == 4) false, .b (Int.tmod (IntKind.wrap IntKind.u64 which) 7 == 5) true, .a (Task.call 13 [] []) (Res.mk Ex.ret [vb true] []), .tt, .tt, .tt, .b (0 == 0) true, .tt]) (by kernel_rfl) ⟨f_br (by assumption), t_br (by assumption), o_i (by kernel_rfl), f_bre (by assumption), f_bre (by assumption), f_bre (by assumption), f_bre (by assumption), f_bre (by assumption), t_bre (by assumption), o_a ha, o_b (by kernel_rfl), trivial⟩ ?_
                    refine gs (l := [.tt, .a (Task.call 22 [V.t (Config.enc g), V.t (T.agg [ti 1, ti 1, ti 5, ti 5, ti 0, ti 0, ti 50, ti (-1), ti 0])] []) (Res.mk Ex.ret [vb (Entity.right g (Entity.mk 1 1 5 5 0 0 50 (-1) 0))] []), .tt, .tt, .tt, .w (isBool cx (4 : Nat) = true), .tt]) (by kernel_rfl) ⟨o_a (f_entity_Right _ (e := Entity.mk 1 1 5 5 0 0 50 (-1) 0)), o_w (by kernel_rfl), trivial⟩ ?_
                    refine rt (a := Res.mk Ex.ret [vb (Entity.right g (Entity.mk 1 1 5 5 0 0 50 (-1) 0) == !over)] []) (by kernel_rfl) ?_
                    (simp_all [Entity.right, Config.inside, within, pace, beqd, bned]; try omega)
                  · refine gs (l := [.ff, .ff, .b over false, .b (Int.tmod (IntKind.wrap IntKind.u64 which) 7 == 0) false, .b (Int.tmod (IntKind.wrap IntKind.u64 which) 7 == 1) false, .b (Int.tmod (IntKind.wrap IntKind.u64 which) 7 == 2) false, .b (Int.tmod (IntKind.wrap IntKind.u64 which) 7 == 3) false, .b (Int.tmod (IntKind.wrap IntKind.u64 which) 7 == 4) false, .b (Int.tmod (IntKind.wrap IntKind.u64 which) 7 == 5) true, .a (Task.call 13 [] []) (Res.mk Ex.ret [vb true] []), .tt, .tt, .tt, .b (0 == 0) true, .tt, .tt]) (by kernel_rfl) ⟨f_br (by assumption), f_bre (by assumption), f_bre (by assumption), f_bre (by assumption), f_bre (by assumption), f_bre (by assumption), t_bre (by assumption), o_a ha, o_b (by kernel_rfl), trivial⟩ ?_
                    refine gs (l := [.a (Task.call 22 [V.t (Config.enc g), V.t (T.agg [ti 1, ti 1, ti 5, ti 5, ti 0, ti 0, ti 50, ti 0, ti 0])] []) (Res.mk Ex.ret [vb (Entity.right g (Entity.mk 1 1 5 5 0 0 50 0 0))] []), .tt, .tt, .tt, .w (isBool cx (4 : Nat) = true), .tt]) (by kernel_rfl) ⟨o_a (f_entity_Right _ (e := Entity.mk 1 1 5 5 0 0 50 0 0)), o_w (by kernel_rfl), trivial⟩ ?_
                    refine rt (a := Res.mk Ex.ret [vb (Entity.right g (Entity.mk 1 1 5 5 0 0 50 0 0) == !over)] []) (by kernel_rfl) ?_
                    (simp_all [Entity.right, Config.inside, within, pace, beqd, bned]; try omega)
              · refine gs (l := [.b (Int.tmod (IntKind.wrap IntKind.u64 kind) 2 == 1) false]) (by kernel_rfl) ⟨f_bre (by assumption), trivial⟩ ?_
                refine br (b := up) (by kernel_rfl) (fun h8 => ?_) (fun h8 => ?_)
                · refine br (b := over) (by kernel_rfl) (fun h9 => ?_) (fun h9 => ?_)
                  · refine gs (l := [.tt, .b up true, .i IntKind.i64 1 1, .b (Int.tmod (IntKind.wrap IntKind.u64 which) 7 == 0) false, .b (Int.tmod (IntKind.wrap IntKind.u64 which) 7 == 1) false, .b (Int.tmod (IntKind.wrap IntKind.u64 which) 7 == 2) false, .b (Int.tmod (IntKind.wrap IntKind.u64 which) 7 == 3) false, .b (Int.tmod (IntKind.wrap IntKind.u64 which) 7 == 4) false, .b (Int.tmod (IntKind.wrap IntKind.u64 which) 7 == 5) false, .a (Task.call 13 [] []) (Res.mk Ex.ret [vb true] []), .tt, .tt, .tt, .b (0 == 0) true, .tt, .tt]) (by kernel_rfl) ⟨t_br (by assumption), o_i (by kernel_rfl), f_bre (by assumption), f_bre (by assumption), f_bre (by assumption), f_bre (by assumption), f_bre (by assumption), f_bre (by assumption), o_a ha, o_b (by kernel_rfl), trivial⟩ ?_
                    refine gs (l := [.a (Task.call 22 [V.t (Config.enc g), V.t (T.agg [ti 1, ti 1, ti 5, ti 5, ti 0, ti 0, ti 50, ti 0, ti 1])] []) (Res.mk Ex.ret [vb (Entity.right g (Entity.mk 1 1 5 5 0 0 50 0 1))] []), .tt, .tt, .tt, .w (isBool cx (4 : Nat) = true), .tt]) (by kernel_rfl) ⟨o_a (f_entity_Right _ (e := Entity.mk 1 1 5 5 0 0 50 0 1)), o_w (by kernel_rfl), trivial⟩ ?_
                    refine rt (a := Res.mk Ex.ret [vb (Entity.right g (Entity.mk 1 1 5 5 0 0 50 0 1) == !over)] []) (by kernel_rfl) ?_
                    (simp_all [Entity.right, Config.inside, within, pace, beqd, bned]; try omega)
                  · refine gs (l := [.ff, .ff, .b over false, .b (Int.tmod (IntKind.wrap IntKind.u64 which) 7 == 0) false, .b (Int.tmod (IntKind.wrap IntKind.u64 which) 7 == 1) false, .b (Int.tmod (IntKind.wrap IntKind.u64 which) 7 == 2) false, .b (Int.tmod (IntKind.wrap IntKind.u64 which) 7 == 3) false, .b (Int.tmod (IntKind.wrap IntKind.u64 which) 7 == 4) false, .b (Int.tmod (IntKind.wrap IntKind.u64 which) 7 == 5) false, .a (Task.call 13 [] []) (Res.mk Ex.ret [vb true] []), .tt, .tt, .tt, .b (0 == 0) true, .tt, .tt]) (by kernel_rfl) ⟨f_br (by assumption), f_bre (by assumption), f_bre (by assumption), f_bre (by assumption), f_bre (by assumption), f_bre (by assumption), f_bre (by assumption), o_a ha, o_b (by kernel_rfl), trivial⟩ ?_
                    refine gs (l := [.a (Task.call 22 [V.t (Config.enc g), V.t (T.agg [ti 1, ti 1, ti 5, ti 5, ti 0, ti 0, ti 50, ti 0, ti 0])] []) (Res.mk Ex.ret [vb (Entity.right g (Entity.mk 1 1 5 5 0 0 50 0 0))] []), .tt, .tt, .tt, .w (isBool cx (4 : Nat) = true), .tt]) (by kernel_rfl) ⟨o_a (f_entity_Right _ (e := Entity.mk 1 1 5 5 0 0 50 0 0)), o_w (by kernel_rfl), trivial⟩ ?_
                    refine rt (a := Res.mk Ex.ret [vb (Entity.right g (Entity.mk 1 1 5 5 0 0 50 0 0) == !over)] []) (by kernel_rfl) ?_
                    (simp_all [Entity.right, Config.inside, within, pace, beqd, bned]; try omega)
                · refine br (b := over) (by kernel_rfl) (fun h9 => ?_) (fun h9 => ?_)
                  · refine gs (l := [.tt, .b up false, .b over true, .i IntKind.i64 (-1) (-1), .b (Int.tmod (IntKind.wrap IntKind.u64 which) 7 == 0) false, .b (Int.tmod (IntKind.wrap IntKind.u64 which) 7 == 1) false, .b (Int.tmod (IntKind.wrap IntKind.u64 which) 7 == 2) false, .b (Int.tmod (IntKind.wrap IntKind.u64 which) 7 == 3) false, .b (Int.tmod (IntKind.wrap IntKind.u64 which) 7 == 4) false, .b (Int.tmod (IntKind.wrap IntKind.u64 which) 7 == 5) false, .a (Task.call 13 [] []) (Res.mk Ex.ret [vb true] []), .tt, .tt, .tt, .b (0 == 0) true, .tt]) (by kernel_rfl) ⟨f_br (by assumption), t_br (by assumption), o_i (by kernel_rfl), f_bre (by assumption), f_bre (by assumption), f_bre (by assumption), f_bre (by assumption), f_bre (by assumption), f_bre (by assumption), o_a ha, o_b (by kernel_rfl), trivial⟩ ?_
                    refine gs (l := [.tt, .a (Task.call 22 [V.t (Config.enc g), V.t (T.agg [ti 1, ti 1, ti 5, ti 5, ti 0, ti 0, ti 50, ti 0, ti (-1)])] []) (Res.mk Ex.ret [vb (Entity.right g (Entity.mk 1 1 5 5 0 0 50 0 (-1)))] []), .tt, .tt, .tt, .w (isBool cx (4 : Nat) = true), .tt]) (by kernel_rfl) ⟨o_a (f_entity_Right _ (e := Entity.mk 1 1 5 5 0 0 50 0 (-1))), o_w (by kernel_rfl), trivial⟩ ?_
                    refine rt (a := Res.mk Ex.ret [vb (Entity.right g (Entity.mk 1 1 5 5 0 0 50 0 (-1)) == !over)] []) (by kernel_rfl) ?_
                    (simp_all [Entity.right, Config.inside, within, pace, beqd, bned]; try omega)
                  · refine gs (l := [.ff, .ff, .b over false, .b (Int.tmod (IntKind.wrap IntKind.u64 which) 7 == 0) false, .b (Int.tmod (IntKind.wrap IntKind.u64 which) 7 == 1) false, .b (Int.tmod (IntKind.wrap IntKind.u64 which) 7 == 2) false, .b (Int.tmod (IntKind.wrap IntKind.u64 which) 7 == 3) false, .b (Int.tmod (IntKind.wrap IntKind.u64 which) 7 == 4) false, .b (Int.tmod (IntKind.wrap IntKind.u64 which) 7 == 5) false, .a (Task.call 13 [] []) (Res.mk Ex.ret [vb true] []), .tt, .tt, .tt, .b (0 == 0) true, .tt, .tt]) (by kernel_rfl) ⟨f_br (by assumption), f_bre (by assumption), f_bre (by assumption), f_bre (by assumption), f_bre (by assumption), f_bre (by assumption), f_bre (by assumption), o_a ha, o_b (by kernel_rfl), trivial⟩ ?_
                    refine gs (l := [.a (Task.call 22 [V.t (Config.enc g), V.t (T.agg [ti 1, ti 1, ti 5, ti 5, ti 0, ti 0, ti 50, ti 0, ti 0])] []) (Res.mk Ex.ret [vb (Entity.right g (Entity.mk 1 1 5 5 0 0 50 0 0))] []), .tt, .tt, .tt, .w (isBool cx (4 : Nat) = true), .tt]) (by kernel_rfl) ⟨o_a (f_entity_Right _ (e := Entity.mk 1 1 5 5 0 0 50 0 0)), o_w (by kernel_rfl), trivial⟩ ?_
                    refine rt (a := Res.mk Ex.ret [vb (Entity.right g (Entity.mk 1 1 5 5 0 0 50 0 0) == !over)] []) (by kernel_rfl) ?_
                    (simp_all [Entity.right, Config.inside, within, pace, beqd, bned]; try omega)
end Go.Eva.S1

namespace Go.Eva.S1
open Go.Proofs
theorem cxTy : CxTy Try.prog cx := cxTy_of (by decide +kernel) (by decide +kernel) (⟨⟨Try.f78, rfl, by decide, rfl, by kernel_rfl, by kernel_rfl, rfl, 28, rfl⟩, trivial⟩)
theorem ok3 : FnOK Try.prog cx 3 fi3 Try.f3 := ⟨rfl, by decide, rfl, rfl, rfl, by decide +kernel⟩
theorem ok4 : FnOK Try.prog cx 4 fi4 Try.f4 := ⟨rfl, by decide, rfl, rfl, rfl, by decide +kernel⟩
theorem ok5 : FnOK Try.prog cx 5 fi5 Try.f5 := ⟨rfl, by decide, rfl, rfl, rfl, by decide +kernel⟩
theorem ok6 : FnOK Try.prog cx 6 fi6 Try.f6 := ⟨rfl, by decide, rfl, rfl, rfl, by decide +kernel⟩
theorem ok7 : FnOK Try.prog cx 7 fi7 Try.f7 := ⟨rfl, by decide, rfl, rfl, rfl, by decide +kernel⟩
theorem ok8 : FnOK Try.prog cx 8 fi8 Try.f8 := ⟨rfl, by decide, rfl, rfl, rfl, by decide +kernel⟩
theorem ok9 : FnOK Try.prog cx 9 fi9 Try.f9 := ⟨rfl, by decide, rfl, rfl, rfl, by decide +kernel⟩
theorem ok10 : FnOK Try.prog cx 10 fi10 Try.f10 := ⟨rfl, by decide, rfl, rfl, rfl, by decide +kernel⟩
theorem ok11 : FnOK Try.prog cx 11 fi11 Try.f11 := ⟨rfl, by decide, rfl, rfl, rfl, by decide +kernel⟩
theorem ok12 : FnOK Try.prog cx 12 fi12 Try.f12 := ⟨rfl, by decide, rfl, rfl, rfl, by decide +kernel⟩
theorem ok13 : FnOK Try.prog cx 13 fi13 Try.f13 := ⟨rfl, by decide, rfl, rfl, rfl, by decide +kernel⟩
theorem ok14 : FnOK Try.prog cx 14 fi14 Try.f14 := ⟨rfl, by decide, rfl, rfl, rfl, by decide +kernel⟩
theorem ok15 : FnOK Try.prog cx 15 fi15 Try.f15 := ⟨rfl, by decide, rfl, rfl, rfl, by decide +kernel⟩
theorem ok16 : FnOK Try.prog cx 16 fi16 Try.f16 := ⟨rfl, by decide, rfl, rfl, rfl, by decide +kernel⟩
theorem ok17 : FnOK Try.prog cx 17 fi17 Try.f17 := ⟨rfl, by decide, rfl, rfl, rfl, by decide +kernel⟩
theorem ok18 : FnOK Try.prog cx 18 fi18 Try.f18 := ⟨rfl, by decide, rfl, rfl, rfl, by decide +kernel⟩
theorem ok19 : FnOK Try.prog cx 19 fi19 Try.f19 := ⟨rfl, by decide, rfl, rfl, rfl, by decide +kernel⟩
theorem ok20 : FnOK Try.prog cx 20 fi20 Try.f20 := ⟨rfl, by decide, rfl, rfl, rfl, by decide +kernel⟩
theorem ok21 : FnOK Try.prog cx 21 fi21 Try.f21 := ⟨rfl, by decide, rfl, rfl, rfl, by decide +kernel⟩
theorem ok22 : FnOK Try.prog cx 22 fi22 Try.f22 := ⟨rfl, by decide, rfl, rfl, rfl, by decide +kernel⟩
theorem ok23 : FnOK Try.prog cx 23 fi23 Try.f23 := ⟨rfl, by decide, rfl, rfl, rfl, by decide +kernel⟩
theorem ok24 : FnOK Try.prog cx 24 fi24 Try.f24 := ⟨rfl, by decide, rfl, rfl, rfl, by decide +kernel⟩
theorem ok25 : FnOK Try.prog cx 25 fi25 Try.f25 := ⟨rfl, by decide, rfl, rfl, rfl, by decide +kernel⟩
theorem ok26 : FnOK Try.prog cx 26 fi26 Try.f26 := ⟨rfl, by decide, rfl, rfl, rfl, by decide +kernel⟩
theorem ok27 : FnOK Try.prog cx 27 fi27 Try.f27 := ⟨rfl, by decide, rfl, rfl, rfl, by decide +kernel⟩
theorem ok28 : FnOK Try.prog cx 28 fi28 Try.f28 := ⟨rfl, by decide, rfl, rfl, rfl, by decide +kernel⟩
theorem ok29 : FnOK Try.prog cx 29 fi29 Try.f29 := ⟨rfl, by decide, rfl, rfl, rfl, by decide +kernel⟩
theorem ok30 : FnOK Try.prog cx 30 fi30 Try.f30 := ⟨rfl, by decide, rfl, rfl, rfl, by decide +kernel⟩
theorem ok31 : FnOK Try.prog cx 31 fi31 Try.f31 := ⟨rfl, by decide, rfl, rfl, rfl, by decide +kernel⟩
theorem ok32 : FnOK Try.prog cx 32 fi32 Try.f32 := ⟨rfl, by decide, rfl, rfl, rfl, by decide +kernel⟩
theorem ok33 : FnOK Try.prog cx 33 fi33 Try.f33 := ⟨rfl, by decide, rfl, rfl, rfl, by decide +kernel⟩
theorem ok34 : FnOK Try.prog cx 34 fi34 Try.f34 := ⟨rfl, by decide, rfl, rfl, rfl, by decide +kernel⟩
theorem ok35 : FnOK Try.prog cx 35 fi35 Try.f35 := ⟨rfl, by decide, rfl, rfl, rfl, by decide +kernel⟩
theorem ok36 : FnOK Try.prog cx 36 fi36 Try.f36 := ⟨rfl, by decide, rfl, rfl, rfl, by decide +kernel⟩
theorem ok37 : FnOK Try.prog cx 37 fi37 Try.f37 := ⟨rfl, by decide, rfl, rfl, rfl, by decide +kernel⟩
theorem ok38 : FnOK Try.prog cx 38 fi38 Try.f38 := ⟨rfl, by decide, rfl, rfl, rfl, by decide +kernel⟩
theorem ok39 : FnOK Try.prog cx 39 fi39 Try.f39 := ⟨rfl, by decide, rfl, rfl, rfl, by decide +kernel⟩
theorem ok40 : FnOK Try.prog cx 40 fi40 Try.f40 := ⟨rfl, by decide, rfl, rfl, rfl, by decide +kernel⟩
theorem ok41 : FnOK Try.prog cx 41 fi41 Try.f41 := ⟨rfl, by decide, rfl, rfl, rfl, by decide +kernel⟩
theorem ok42 : FnOK Try.prog cx 42 fi42 Try.f42 := ⟨rfl, by decide, rfl, rfl, rfl, by decide +kernel⟩
theorem ok43 : FnOK Try.prog cx 43 fi43 Try.f43 := ⟨rfl, by decide, rfl, rfl, rfl, by decide +kernel⟩
theorem ok44 : FnOK Try.prog cx 44 fi44 Try.f44 := ⟨rfl, by decide, rfl, rfl, rfl, by decide +kernel⟩
theorem ok45 : FnOK Try.prog cx 45 fi45 Try.f45 := ⟨rfl, by decide, rfl, rfl, rfl, by decide +kernel⟩
theorem ok46 : FnOK Try.prog cx 46 fi46 Try.f46 := ⟨rfl, by decide, rfl, rfl, rfl, by decide +kernel⟩
theorem ok47 : FnOK Try.prog cx 47 fi47 Try.f47 := ⟨rfl, by decide, rfl, rfl, rfl, by decide +kernel⟩
theorem ok48 : FnOK Try.prog cx 48 fi48 Try.f48 := ⟨rfl, by decide, rfl, rfl, rfl, by decide +kernel⟩
theorem ok49 : FnOK Try.prog cx 49 fi49 Try.f49 := ⟨rfl, by decide, rfl, rfl, rfl, by decide +kernel⟩
theorem ok50 : FnOK Try.prog cx 50 fi50 Try.f50 := ⟨rfl, by decide, rfl, rfl, rfl, by decide +kernel⟩
theorem ok51 : FnOK Try.prog cx 51 fi51 Try.f51 := ⟨rfl, by decide, rfl, rfl, rfl, by decide +kernel⟩
theorem ok52 : FnOK Try.prog cx 52 fi52 Try.f52 := ⟨rfl, by decide, rfl, rfl, rfl, by decide +kernel⟩
theorem ok53 : FnOK Try.prog cx 53 fi53 Try.f53 := ⟨rfl, by decide, rfl, rfl, rfl, by decide +kernel⟩
theorem ok54 : FnOK Try.prog cx 54 fi54 Try.f54 := ⟨rfl, by decide, rfl, rfl, rfl, by decide +kernel⟩
theorem ok55 : FnOK Try.prog cx 55 fi55 Try.f55 := ⟨rfl, by decide, rfl, rfl, rfl, by decide +kernel⟩
theorem ok56 : FnOK Try.prog cx 56 fi56 Try.f56 := ⟨rfl, by decide, rfl, rfl, rfl, by decide +kernel⟩
theorem ok57 : FnOK Try.prog cx 57 fi57 Try.f57 := ⟨rfl, by decide, rfl, rfl, rfl, by decide +kernel⟩
theorem ok58 : FnOK Try.prog cx 58 fi58 Try.f58 := ⟨rfl, by decide, rfl, rfl, rfl, by decide +kernel⟩
theorem ok59 : FnOK Try.prog cx 59 fi59 Try.f59 := ⟨rfl, by decide, rfl, rfl, rfl, by decide +kernel⟩
theorem ok60 : FnOK Try.prog cx 60 fi60 Try.f60 := ⟨rfl, by decide, rfl, rfl, rfl, by decide +kernel⟩
theorem ok61 : FnOK Try.prog cx 61 fi61 Try.f61 := ⟨rfl, by decide, rfl, rfl, rfl, by decide +kernel⟩
theorem ok62 : FnOK Try.prog cx 62 fi62 Try.f62 := ⟨rfl, by decide, rfl, rfl, rfl, by decide +kernel⟩
theorem ok63 : FnOK Try.prog cx 63 fi63 Try.f63 := ⟨rfl, by decide, rfl, rfl, rfl, by decide +kernel⟩
theorem ok64 : FnOK Try.prog cx 64 fi64 Try.f64 := ⟨rfl, by decide, rfl, rfl, rfl, by decide +kernel⟩
theorem ok65 : FnOK Try.prog cx 65 fi65 Try.f65 := ⟨rfl, by decide, rfl, rfl, rfl, by decide +kernel⟩
theorem ok66 : FnOK Try.prog cx 66 fi66 Try.f66 := ⟨rfl, by decide, rfl, rfl, rfl, by decide +kernel⟩
theorem ok67 : FnOK Try.prog cx 67 fi67 Try.f67 := ⟨rfl, by decide, rfl, rfl, rfl, by decide +kernel⟩
theorem ok68 : FnOK Try.prog cx 68 fi68 Try.f68 := ⟨rfl, by decide, rfl, rfl, rfl, by decide +kernel⟩
theorem ok69 : FnOK Try.prog cx 69 fi69 Try.f69 := ⟨rfl, by decide, rfl, rfl, rfl, by decide +kernel⟩
theorem ok70 : FnOK Try.prog cx 70 fi70 Try.f70 := ⟨rfl, by decide, rfl, rfl, rfl, by decide +kernel⟩
theorem ok71 : FnOK Try.prog cx 71 fi71 Try.f71 := ⟨rfl, by decide, rfl, rfl, rfl, by decide +kernel⟩
theorem ok72 : FnOK Try.prog cx 72 fi72 Try.f72 := ⟨rfl, by decide, rfl, rfl, rfl, by decide +kernel⟩
theorem ok73 : FnOK Try.prog cx 73 fi73 Try.f73 := ⟨rfl, by decide, rfl, rfl, rfl, by decide +kernel⟩
theorem ok74 : FnOK Try.prog cx 74 fi74 Try.f74 := ⟨rfl, by decide, rfl, rfl, rfl, by decide +kernel⟩
theorem ok75 : FnOK Try.prog cx 75 fi75 Try.f75 := ⟨rfl, by decide, rfl, rfl, rfl, by decide +kernel⟩
theorem ok76 : FnOK Try.prog cx 76 fi76 Try.f76 := ⟨rfl, by decide, rfl, rfl, rfl, by decide +kernel⟩
theorem ok77 : FnOK Try.prog cx 77 fi77 Try.f77 := ⟨rfl, by decide, rfl, rfl, rfl, by decide +kernel⟩
theorem ok79 : FnOK Try.prog cx 79 fi79 Try.f79 := ⟨rfl, by decide, rfl, rfl, rfl, by decide +kernel⟩
theorem ok80 : FnOK Try.prog cx 80 fi80 Try.f80 := ⟨rfl, by decide, rfl, rfl, rfl, by decide +kernel⟩
theorem ok81 : FnOK Try.prog cx 81 fi81 Try.f81 := ⟨rfl, by decide, rfl, rfl, rfl, by decide +kernel⟩
theorem ok82 : FnOK Try.prog cx 82 fi82 Try.f82 := ⟨rfl, by decide, rfl, rfl, rfl, by decide +kernel⟩
theorem ok83 : FnOK Try.prog cx 83 fi83 Try.f83 := ⟨rfl, by decide, rfl, rfl, rfl, by decide +kernel⟩
theorem ok84 : FnOK Try.prog cx 84 fi84 Try.f84 := ⟨rfl, by decide, rfl, rfl, rfl, by decide +kernel⟩
theorem ok85 : FnOK Try.prog cx 85 fi85 Try.f85 := ⟨rfl, by decide, rfl, rfl, rfl, by decide +kernel⟩
theorem ok86 : FnOK Try.prog cx 86 fi86 Try.f86 := ⟨rfl, by decide, rfl, rfl, rfl, by decide +kernel⟩
theorem ok87 : FnOK Try.prog cx 87 fi87 Try.f87 := ⟨rfl, by decide, rfl, rfl, rfl, by decide +kernel⟩
theorem ok88 : FnOK Try.prog cx 88 fi88 Try.f88 := ⟨rfl, by decide, rfl, rfl, rfl, by decide +kernel⟩
theorem ok89 : FnOK Try.prog cx 89 fi89 Try.f89 := ⟨rfl, by decide, rfl, rfl, rfl, by decide +kernel⟩
theorem ok90 : FnOK Try.prog cx 90 fi90 Try.f90 := ⟨rfl, by decide, rfl, rfl, rfl, by decide +kernel⟩
theorem ok91 : FnOK Try.prog cx 91 fi91 Try.f91 := ⟨rfl, by decide, rfl, rfl, rfl, by decide +kernel⟩
theorem ok92 : FnOK Try.prog cx 92 fi92 Try.f92 := ⟨rfl, by decide, rfl, rfl, rfl, by decide +kernel⟩
theorem ok93 : FnOK Try.prog cx 93 fi93 Try.f93 := ⟨rfl, by decide, rfl, rfl, rfl, by decide +kernel⟩
theorem ok94 : FnOK Try.prog cx 94 fi94 Try.f94 := ⟨rfl, by decide, rfl, rfl, rfl, by decide +kernel⟩
theorem ok95 : FnOK Try.prog cx 95 fi95 Try.f95 := ⟨rfl, by decide, rfl, rfl, rfl, by decide +kernel⟩
theorem ok96 : FnOK Try.prog cx 96 fi96 Try.f96 := ⟨rfl, by decide, rfl, rfl, rfl, by decide +kernel⟩
theorem ok97 : FnOK Try.prog cx 97 fi97 Try.f97 := ⟨rfl, by decide, rfl, rfl, rfl, by decide +kernel⟩
theorem ok98 : FnOK Try.prog cx 98 fi98 Try.f98 := ⟨rfl, by decide, rfl, rfl, rfl, by decide +kernel⟩
theorem ok99 : FnOK Try.prog cx 99 fi99 Try.f99 := ⟨rfl, by decide, rfl, rfl, rfl, by decide +kernel⟩
theorem fnsOK : FnsOK Try.prog cx := fnsOK_of (⟨none_ok _, ⟨none_ok _, ⟨some_ok ok3, ⟨some_ok ok7, ⟨some_ok ok15, ⟨some_ok ok31, ⟨some_ok ok63, trivial, trivial⟩, ⟨some_ok ok95, trivial, trivial⟩⟩, ⟨some_ok ok47, ⟨some_ok ok79, trivial, trivial⟩, ⟨none_ok _, trivial, trivial⟩⟩⟩, ⟨some_ok ok23, ⟨some_ok ok39, ⟨some_ok ok71, trivial, trivial⟩, ⟨none_ok _, trivial, trivial⟩⟩, ⟨some_ok ok55, ⟨some_ok ok87, trivial, trivial⟩, trivial⟩⟩⟩, ⟨some_ok ok11, ⟨some_ok ok19, ⟨some_ok ok35, ⟨some_ok ok67, trivial, trivial⟩, ⟨some_ok ok99, trivial, trivial⟩⟩, ⟨some_ok ok51, ⟨some_ok ok83, trivial, trivial⟩, ⟨none_ok _, trivial, trivial⟩⟩⟩, ⟨some_ok ok27, ⟨some_ok ok43, ⟨some_ok ok75, trivial, trivial⟩, ⟨none_ok _, trivial, trivial⟩⟩, ⟨some_ok ok59, ⟨some_ok ok91, trivial, trivial⟩, trivial⟩⟩⟩⟩, ⟨some_ok ok5, ⟨some_ok ok9, ⟨some_ok ok17, ⟨some_ok ok33, ⟨some_ok ok65, trivial, trivial⟩, ⟨some_ok ok97, trivial, trivial⟩⟩, ⟨some_ok ok49, ⟨some_ok ok81, trivial, trivial⟩, ⟨none_ok _, trivial, trivial⟩⟩⟩, ⟨some_ok ok25, ⟨some_ok ok41, ⟨some_ok ok73, trivial, trivial⟩, ⟨none_ok _, trivial, trivial⟩⟩, ⟨some_ok ok57, ⟨some_ok ok89, trivial, trivial⟩, trivial⟩⟩⟩, ⟨some_ok ok13, ⟨some_ok ok21, ⟨some_ok ok37, ⟨some_ok ok69, trivial, trivial⟩, ⟨none_ok _, trivial, trivial⟩⟩, ⟨some_ok ok53, ⟨some_ok ok85, trivial, trivial⟩, trivial⟩⟩, ⟨some_ok ok29, ⟨some_ok ok45, ⟨some_ok ok77, trivial, trivial⟩, ⟨none_ok _, trivial, trivial⟩⟩, ⟨some_ok ok61, ⟨some_ok ok93, trivial, trivial⟩, trivial⟩⟩⟩⟩⟩, ⟨none_ok _, ⟨some_ok ok4, ⟨some_ok ok8, ⟨some_ok ok16, ⟨some_ok ok32, ⟨some_ok ok64, trivial, trivial⟩, ⟨some_ok ok96, trivial, trivial⟩⟩, ⟨some_ok ok48, ⟨some_ok ok80, trivial, trivial⟩, ⟨none_ok _, trivial, trivial⟩⟩⟩, ⟨some_ok ok24, ⟨some_ok ok40, ⟨some_ok ok72, trivial, trivial⟩, ⟨none_ok _, trivial, trivial⟩⟩, ⟨some_ok ok56, ⟨some_ok ok88, trivial, trivial⟩, trivial⟩⟩⟩, ⟨some_ok ok12, ⟨some_ok ok20, ⟨some_ok ok36, ⟨some_ok ok68, trivial, trivial⟩, ⟨none_ok _, trivial, trivial⟩⟩, ⟨some_ok ok52, ⟨some_ok ok84, trivial, trivial⟩, trivial⟩⟩, ⟨some_ok ok28, ⟨some_ok ok44, ⟨some_ok ok76, trivial, trivial⟩, ⟨none_ok _, trivial, trivial⟩⟩, ⟨some_ok ok60, ⟨some_ok ok92, trivial, trivial⟩, trivial⟩⟩⟩⟩, ⟨some_ok ok6, ⟨some_ok ok10, ⟨some_ok ok18, ⟨some_ok ok34, ⟨some_ok ok66, trivial, trivial⟩, ⟨some_ok ok98, trivial, trivial⟩⟩, ⟨some_ok ok50, ⟨some_ok ok82, trivial, trivial⟩, ⟨none_ok _, trivial, trivial⟩⟩⟩, ⟨some_ok ok26, ⟨some_ok ok42, ⟨some_ok ok74, trivial, trivial⟩, ⟨none_ok _, trivial, trivial⟩⟩, ⟨some_ok ok58, ⟨some_ok ok90, trivial, trivial⟩, trivial⟩⟩⟩, ⟨some_ok ok14, ⟨some_ok ok22, ⟨some_ok ok38, ⟨some_ok ok70, trivial, trivial⟩, ⟨none_ok _, trivial, trivial⟩⟩, ⟨some_ok ok54, ⟨some_ok ok86, trivial, trivial⟩, trivial⟩⟩, ⟨some_ok ok30, ⟨some_ok ok46, ⟨none_ok _, trivial, trivial⟩, ⟨none_ok _, trivial, trivial⟩⟩, ⟨some_ok ok62, ⟨some_ok ok94, trivial, trivial⟩, trivial⟩⟩⟩⟩⟩⟩)
end Go.Eva.S1

/- Eva, part 47: what arguments of the program's plain types are. -/
namespace Go.Eva

section
variable {cx : Cx} {t m : Nat} {ts : List T} {i : TI}

theorem conf_int (hti : cx.ti.get t = some i) (hk : i.ty = .int .i64) (h : Conf cx m t ts) : ∃ n, ts = [ti n] ∧ i64 n := by
  cases m with
  | zero => exact h.elim
  | succ m =>
    simp only [Conf, hti, hk] at h
    obtain ⟨n, rfl, hw⟩ := h
    refine ⟨n, rfl, ?_⟩
    simp [Lit.wf, IntKind.min, IntKind.max, IntKind.signed, IntKind.bits] at hw
    exact ⟨by omega, by omega⟩
theorem conf_u64 (hti : cx.ti.get t = some i) (hk : i.ty = .int .u64) (h : Conf cx m t ts) : ∃ n, ts = [.int .u64 n] ∧ 0 ≤ n ∧ n ≤ 18446744073709551615 := by
  cases m with
  | zero => exact h.elim
  | succ m =>
    simp only [Conf, hti, hk] at h
    obtain ⟨n, rfl, hw⟩ := h
    refine ⟨n, rfl, ?_⟩
    simp [Lit.wf, IntKind.min, IntKind.max, IntKind.signed, IntKind.bits] at hw
    exact ⟨by omega, by omega⟩
theorem conf_bool (hti : cx.ti.get t = some i) (hk : i.ty = .bool) (h : Conf cx m t ts) : ∃ b, ts = [.bool b] := by
  cases m with
  | zero => exact h.elim
  | succ m => simpa only [Conf, hti, hk] using h
theorem conf_struct {fs : List (Nat × Nat)} (hti : cx.ti.get t = some i) (hk : i.ty = .struct fs) (h : Conf cx (m + 1) t ts) : ts.length = i.size ∧ ∀ p ∈ fs, Conf cx m p.2 ((ts.drop p.1).take (sizeOf cx p.2)) := by
  simpa only [Conf, hti, hk] using h
theorem conf_slice {e : Nat} (hti : cx.ti.get t = some i) (hk : i.ty = .slice e) (h : Conf cx (m + 1) t ts) :
    ∃ xs, ts = [.sl (sizeOf cx e) xs] ∧ xs.length ≤ maxLen ∧ xs.length * bytesOf cx e ≤ reachBytes ∧ ∀ x ∈ xs, x ≠ .any ∧ (isStruct cx e = true → ∃ l, x = .agg l) ∧ (isStruct cx e = false → x.cells = [x]) ∧ Conf cx m e x.cells := by
  simpa only [Conf, hti, hk] using h

/-- A field that is a whole number. -/
theorem conf_at {j k : Nat} {fs : List (Nat × Nat)} (hi : cx.ti.get k = some i) (hk : i.ty = .int .i64) (hs : sizeOf cx k = 1) (h : ∀ p ∈ fs, Conf cx m p.2 ((ts.drop p.1).take (sizeOf cx p.2))) (hp : (j, k) ∈ fs) : ∃ n, ts[j]? = some (ti n) ∧ i64 n := by
  have := h _ hp
  simp only [hs] at this
  obtain ⟨n, h1, h2⟩ := conf_int hi hk this
  refine ⟨n, ?_, h2⟩
  have h3 := congrArg (fun l => l[0]?) h1
  simpa [List.getElem?_take, List.getElem?_drop] using h3

theorem list_of {α : Type} {f : α → T} {P : α → Prop} : ∀ {xs : List T}, (∀ x ∈ xs, ∃ e, x = f e ∧ P e) → ∃ l : List α, xs = l.map f ∧ ∀ e ∈ l, P e
  | [], _ => ⟨[], rfl, by simp⟩
  | x :: xs, h => by
    obtain ⟨e, rfl, he⟩ := h x (List.mem_cons_self ..)
    obtain ⟨l, rfl, hl⟩ := list_of fun y hy => h y (List.mem_cons_of_mem _ hy)
    exact ⟨e :: l, rfl, fun y hy => by
      rcases List.mem_cons.1 hy with rfl | hy
      · exact he
      · exact hl y hy⟩

def Entity.ok (e : Entity) : Prop := i64 e.id ∧ i64 e.kind ∧ i64 e.x ∧ i64 e.y ∧ i64 e.vx ∧ i64 e.vy ∧ i64 e.health ∧ i64 e.age ∧ i64 e.owner
def Input.ok (e : Input) : Prop := i64 e.dx ∧ i64 e.dy
def Cross.ok (c : Cross) : Prop := i64 c.kind ∧ i64 c.frm ∧ i64 c.to ∧ i64 c.frame ∧ c.ent.ok ∧ i64 c.x ∧ i64 c.y

theorem nine {ts : List T} (h : ts.length = 9) {a0 a1 a2 a3 a4 a5 a6 a7 a8 : T} (h0 : ts[0]? = some a0) (h1 : ts[1]? = some a1) (h2 : ts[2]? = some a2) (h3 : ts[3]? = some a3) (h4 : ts[4]? = some a4)
    (h5 : ts[5]? = some a5) (h6 : ts[6]? = some a6) (h7 : ts[7]? = some a7) (h8 : ts[8]? = some a8) : ts = [a0, a1, a2, a3, a4, a5, a6, a7, a8] := by
  match ts, h with
  | [_, _, _, _, _, _, _, _, _], _ => simp_all

/-- An entity's cells. -/
theorem conf_entity {k : Nat} {j : TI} (hk : cx.ti.get k = some j) (hkt : j.ty = .int .i64) (hs : sizeOf cx k = 1) (hti : cx.ti.get t = some i) (hty : i.ty = .struct [(0, k), (1, k), (2, k), (3, k), (4, k), (5, k), (6, k), (7, k), (8, k)]) (hsz : i.size = 9)
    (h : Conf cx (m + 1) t ts) : ∃ e : Entity, ts = e.enc.cells ∧ e.ok := by
  obtain ⟨h1, h2⟩ := conf_struct hti hty h
  rw [hsz] at h1
  obtain ⟨n0, a0, b0⟩ := conf_at (j := 0) hk hkt hs h2 (by simp)
  obtain ⟨n1, a1, b1⟩ := conf_at (j := 1) hk hkt hs h2 (by simp)
  obtain ⟨n2, a2, b2⟩ := conf_at (j := 2) hk hkt hs h2 (by simp)
  obtain ⟨n3, a3, b3⟩ := conf_at (j := 3) hk hkt hs h2 (by simp)
  obtain ⟨n4, a4, b4⟩ := conf_at (j := 4) hk hkt hs h2 (by simp)
  obtain ⟨n5, a5, b5⟩ := conf_at (j := 5) hk hkt hs h2 (by simp)
  obtain ⟨n6, a6, b6⟩ := conf_at (j := 6) hk hkt hs h2 (by simp)
  obtain ⟨n7, a7, b7⟩ := conf_at (j := 7) hk hkt hs h2 (by simp)
  obtain ⟨n8, a8, b8⟩ := conf_at (j := 8) hk hkt hs h2 (by simp)
  exact ⟨⟨n0, n1, n2, n3, n4, n5, n6, n7, n8⟩, nine h1 a0 a1 a2 a3 a4 a5 a6 a7 a8, b0, b1, b2, b3, b4, b5, b6, b7, b8⟩

theorem conf_config {k u : Nat} {j v : TI} (hk : cx.ti.get k = some j) (hkt : j.ty = .int .i64) (hs : sizeOf cx k = 1) (hu : cx.ti.get u = some v) (hut : v.ty = .int .u64) (hus : sizeOf cx u = 1) (hti : cx.ti.get t = some i)
    (hty : i.ty = .struct [(0, k), (1, k), (2, k), (3, k), (4, u)]) (hsz : i.size = 5) (h : Conf cx (m + 1) t ts) : ∃ c : Config, ts = c.enc.cells ∧ c.ok := by
  obtain ⟨h1, h2⟩ := conf_struct hti hty h
  rw [hsz] at h1
  obtain ⟨n0, a0, b0⟩ := conf_at (j := 0) hk hkt hs h2 (by simp)
  obtain ⟨n1, a1, b1⟩ := conf_at (j := 1) hk hkt hs h2 (by simp)
  obtain ⟨n2, a2, b2⟩ := conf_at (j := 2) hk hkt hs h2 (by simp)
  obtain ⟨n3, a3, b3⟩ := conf_at (j := 3) hk hkt hs h2 (by simp)
  have h4 := h2 (4, u) (by simp)
  simp only [hus] at h4
  obtain ⟨n4, a4, b4⟩ := conf_u64 hu hut h4
  refine ⟨⟨n0, n1, n2, n3, n4⟩, ?_, b0, b1, b2, b3, b4⟩
  match ts, h1 with
  | [_, _, _, _, _], _ => simp_all [Config.enc, T.cells]

theorem not_struct (hti : cx.ti.get t = some i) (h : ∀ fs, i.ty ≠ .struct fs) : isStruct cx t = false := by
  unfold isStruct
  rw [hti]
  cases i with
  | mk ty s b q => cases ty <;> simp_all
theorem is_struct {fs : List (Nat × Nat)} (hti : cx.ti.get t = some i) (h : i.ty = .struct fs) : isStruct cx t = true := by
  unfold isStruct
  rw [hti]
  cases i with
  | mk ty s b q => simp only at h; subst h; rfl

/-- Arguments. -/
theorem arg_int (hti : cx.ti.get t = some i) (hk : i.ty = .int .i64) {x : T} (h : Arg cx m t x) : ∃ n, x = ti n ∧ i64 n := by
  obtain ⟨h1, h2, h3, h4⟩ := h
  obtain ⟨n, h5, h6⟩ := conf_int hti hk h4
  rw [h3 (not_struct hti (by rw [hk]; simp))] at h5
  exact ⟨n, by simpa using h5, h6⟩
theorem arg_bool (hti : cx.ti.get t = some i) (hk : i.ty = .bool) {x : T} (h : Arg cx m t x) : ∃ b, x = .bool b := by
  obtain ⟨h1, h2, h3, h4⟩ := h
  obtain ⟨n, h5⟩ := conf_bool hti hk h4
  rw [h3 (not_struct hti (by rw [hk]; simp))] at h5
  exact ⟨n, by simpa using h5⟩
/-- A struct, by its cells. -/
theorem arg_of {α : Type} {f : α → T} {P : α → Prop} {fs : List (Nat × Nat)} (hti : cx.ti.get t = some i) (hk : i.ty = .struct fs) (hf : ∀ e, ∃ l, f e = .agg l) (hc : ∀ {ts}, Conf cx m t ts → ∃ e, ts = (f e).cells ∧ P e) {x : T} (h : Arg cx m t x) : ∃ e, x = f e ∧ P e := by
  obtain ⟨h1, h2, h3, h4⟩ := h
  obtain ⟨l, rfl⟩ := h2 (is_struct hti hk)
  obtain ⟨e, h5, h6⟩ := hc h4
  obtain ⟨l', hl⟩ := hf e
  rw [hl] at h5
  simp only [T.cells] at h5
  exact ⟨e, by rw [hl, h5], h6⟩
/-- A slice, by its members. -/
theorem arg_slice {α : Type} {f : α → T} {P : α → Prop} {e s : Nat} (hti : cx.ti.get t = some i) (hk : i.ty = .slice e) (hs : sizeOf cx e = s) (hc : ∀ {x}, Arg cx m e x → ∃ a, x = f a ∧ P a) {x : T} (h : Arg cx (m + 1) t x) :
    ∃ l : List α, x = .sl s (l.map f) ∧ (∀ a ∈ l, P a) ∧ l.length ≤ maxLen ∧ l.length * bytesOf cx e ≤ reachBytes := by
  obtain ⟨h1, h2, h3, h4⟩ := h
  obtain ⟨xs, h5, h6, h7, h8⟩ := conf_slice hti hk h4
  rw [h3 (not_struct hti (by rw [hk]; simp))] at h5
  obtain ⟨l, rfl, hl⟩ := list_of (f := f) (P := P) fun x hx => hc (h8 x hx)
  refine ⟨l, ?_, hl, by simpa using h6, by simpa using h7⟩
  rw [← hs]
  simpa using h5
end
end Go.Eva
