/- A reading of the program, proved sound against the model, and what its functions answer by it: part 3. -/
import Derived.Test.YtdlmgaiiheeigaaGreatEva2
set_option linter.unusedSimpArgs false
set_option linter.unusedVariables false
/- Eva, part 62: what stays so where players steer; in plain words. -/
namespace Go.Eva

theorem uniq_id {l : List Entity} (h : Srt l) : ∀ {x y : Entity}, x ∈ l → y ∈ l → x.id = y.id → x = y := by
  induction l with
  | nil => intro x y hx; simp at hx
  | cons a l ih =>
    intro x y hx hy e
    obtain ⟨h1, h2⟩ := List.pairwise_cons.1 h
    rcases List.mem_cons.1 hx with kx | kx <;> rcases List.mem_cons.1 hy with ky | ky
    · rw [kx, ky]
    · have := h1 y ky; rw [kx] at e; omega
    · have := h1 x kx; rw [ky] at e; omega
    · exact ih h2 kx ky e
theorem find_of {l : List Entity} {p : Entity} (hs : Srt l) (h : p ∈ l) : ∃ k : Nat, find l p.id = k ∧ k < l.length ∧ gt l k = p := by
  obtain ⟨k, h1, h2, h3⟩ := find_lt (l := l) (id := p.id) ⟨p, h, rfl⟩
  exact ⟨k, h1, h2, uniq_id hs (gt_mem h2) h h3⟩
theorem setId_srt {l : List Entity} {p e : Entity} (hs : Srt l) (h : p ∈ l) (he : e.id = p.id) : Srt (setId l p.id e) := by
  rw [← he]
  exact srt_ids (setId_ids ⟨p, h, he.symm⟩).symm hs
theorem setId_things {l : List Entity} {p e : Entity} (hs : Srt l) (h : p ∈ l) (hk : e.kind = p.kind) : things (setId l p.id e) = things l := by
  obtain ⟨k, h1, h2, h3⟩ := find_of hs h
  unfold setId things
  rw [h1, Int.toNat_natCast, List.countP_set h2, hk]
  rw [gt_eq h2] at h3
  rw [h3]
  have : (if (p.kind != 1) = true then 1 else 0) ≤ l.countP fun e => e.kind != 1 := by
    split
    · rename_i hp
      exact List.countP_pos_iff.2 ⟨p, h, hp⟩
    · omega
  omega
theorem setId_keep {l : List Entity} {p e x : Entity} (hs : Srt l) (h : p ∈ l) (hx : x ∈ l) (hne : x.id ≠ p.id) : x ∈ setId l p.id e := by
  obtain ⟨k, h1, h2, h3⟩ := find_of hs h
  obtain ⟨j, j1, j2, j3⟩ := find_of hs hx
  unfold setId
  rw [h1, Int.toNat_natCast]
  have hjk : j ≠ k := fun e => hne (by rw [← j3, ← h3, e])
  rw [List.mem_iff_getElem?]
  refine ⟨j, ?_⟩
  rw [List.getElem?_set_ne (by omega), get_gt j2, j3]
theorem steerE_id {p : Entity} {i : Input} : (steerE p i).1.id = p.id ∧ (steerE p i).1.kind = p.kind ∧ (steerE p i).1.x = p.x ∧ (steerE p i).1.y = p.y ∧ (steerE p i).1.health = p.health := by
  unfold steerE
  split
  · simp
  · split <;> simp
theorem maxI_le {a b : Int} : a ≤ maxI a b ∧ b ≤ maxI a b ∧ (maxI a b = a ∨ maxI a b = b) := by unfold maxI; split <;> omega
theorem steerE_right {c : Config} {p : Entity} {i : Input} (h : p.right c = true) (hk : p.kind = 1) (hi : i.right = true) : (steerE p i).1.right c = true ∧ ({ (steerE p i).1 with age := 0 } : Entity).right c = true := by
  simp only [Input.right, Bool.and_eq_true, within_iff] at hi
  simp only [Entity.right, hk, if_true, Bool.and_eq_true, within_iff, decide_eq_true_eq] at h
  have hm := @maxI_le p.age 1
  unfold steerE
  split
  · simp only [Entity.right, hk, if_true, Bool.and_eq_true, within_iff, decide_eq_true_eq]
    refine ⟨⟨h.1, ?_⟩, ⟨h.1, ?_⟩⟩ <;> omega
  · split
    · simp only [Entity.right, hk, if_true, Bool.and_eq_true, within_iff, decide_eq_true_eq]
      refine ⟨⟨h.1, ?_⟩, ⟨h.1, ?_⟩⟩ <;> omega
    · simp only [Entity.right, hk, if_true, Bool.and_eq_true, within_iff, decide_eq_true_eq]
      refine ⟨⟨h.1, ?_⟩, ⟨h.1, ?_⟩⟩ <;> omega
theorem clamp_one (d : Int) : clamp d (-1) 1 = -1 ∨ clamp d (-1) 1 = 0 ∨ clamp d (-1) 1 = 1 := by unfold clamp; split <;> (try split) <;> omega
theorem shootE_right {c : Config} {p : Entity} {i : Input} {id : Int} (h : p.right c = true) (hk : p.kind = 1) (hid : 1000 ≤ id ∧ id ≤ 2147483647) : (shootE p i id).right c = true := by
  have hp := Entity.right_player h hk
  simp only [Entity.right, Bool.and_eq_true] at h
  have h1 := clamp_one i.dx
  have h2 := clamp_one i.dy
  have hh : within id 1000 2147483647 = true := within_iff.2 hid
  have ho : within p.id 1 c.players = true := within_iff.2 hp
  have h0 : within 0 0 12 = true := by decide
  unfold shootE paceD
  simp only [Entity.right, h.1, hh, ho, h0, pace]
  rcases h1 with h1 | h1 | h1 <;> rcases h2 with h2 | h2 | h2 <;> simp [h1, h2]

/-- What holds while players steer. -/
structure Steer (c : Config) (r : Int) (s : Stg) : Prop where
  sane : Sane c r s.l
  made : 0 ≤ s.made ∧ s.made ≤ 8
theorem num_le {c : Config} {r f made : Int} (hr : 0 ≤ r ∧ r < c.regions) (hf : 0 ≤ f ∧ f < 10000) (hm : 0 ≤ made ∧ made ≤ 8) : 1000 ≤ numI c r f made ∧ numI c r f made ≤ 2147483647 := by
  have h := @Config.regions_le c
  have h1 : 0 ≤ f * c.regions := Int.mul_nonneg hf.1 h.1
  have h2 : f * c.regions ≤ 10000 * 16 := Int.mul_le_mul (by omega) h.2 h.1 (by omega)
  unfold numI
  omega
theorem Config.is_le {c : Config} {r : Int} (h : c.is r = true) : 0 ≤ r ∧ r < c.regions := by
  simp only [Config.is, within_iff] at h; omega
theorem Stg.room_iff {s : Stg} : s.room = true ↔ s.made < 8 ∧ things s.l < 24 := by simp [Stg.room]
theorem steer1_ok {c : Config} {r f : Int} {ins : List Input} {s : Stg} {p : Entity} (hs : Steer c r s) (hr : c.is r = true) (hf : 0 ≤ f ∧ f < 10000) (hp : p ∈ s.l) (hi : p.kind = 1 → (inAt ins p.id).right = true) :
    Steer c r (steer1 c r f ins s p) ∧ (∀ x ∈ s.l, x.id ≠ p.id → x ∈ (steer1 c r f ins s p).l) ∧ (steer1 c r f ins s p).out = s.out := by
  unfold steer1
  split
  · exact ⟨hs, fun x hx _ => hx, rfl⟩
  · rename_i hk
    have hk : p.kind = 1 := by omega
    obtain ⟨hpr, hpo⟩ := hs.sane.ents p hp
    have hi := hi hk
    obtain ⟨e1, e2⟩ := steerE_right hpr hk hi
    obtain ⟨i1, i2, i3, i4, i5⟩ := @steerE_id p (inAt ins p.id)
    split
    · split
      · rename_i hroom
        have hroom := Stg.room_iff.1 hroom
        have hn := num_le (made := s.made) (Config.is_le hr) hf hs.made
        have hsh := shootE_right (i := inAt ins p.id) e1 (by omega) hn
        have hs1 : Srt (put1 s.l (shootE (steerE p (inAt ins p.id)).1 (inAt ins p.id) (numI c r f s.made))) := put1_sorted hs.sane.srt
        have hp1 : p ∈ put1 s.l (shootE (steerE p (inAt ins p.id)).1 (inAt ins p.id) (numI c r f s.made)) := put1_sub p hp
        have ht := @put1_things s.l (shootE (steerE p (inAt ins p.id)).1 (inAt ins p.id) (numI c r f s.made))
        refine ⟨⟨⟨setId_srt hs1 hp1 i1, ?_, fun e he => ?_⟩, by have := hs.made; simp only; omega⟩, fun x hx hne => setId_keep hs1 hp1 (put1_sub x hx) hne, rfl⟩
        · simp only
          rw [setId_things hs1 hp1 i2]
          have := hs.sane.things
          split at ht <;> omega
        · rcases setId_mem he with rfl | he
          · exact ⟨e1, by rw [i3, i4]; exact hpo⟩
          · rcases put1_mem_iff he with rfl | he
            · refine ⟨hsh, ?_⟩
              show c.of (steerE p (inAt ins p.id)).1.x (steerE p (inAt ins p.id)).1.y = r
              rw [i3, i4]; exact hpo
            · exact hs.sane.ents e he
      · refine ⟨⟨⟨setId_srt hs.sane.srt hp i1, ?_, fun e he => ?_⟩, hs.made⟩, fun x hx hne => setId_keep hs.sane.srt hp hx hne, rfl⟩
        · simp only
          rw [setId_things hs.sane.srt hp (by exact i2)]
          exact hs.sane.things
        · rcases setId_mem he with rfl | he
          · refine ⟨e2, ?_⟩
            show c.of (steerE p (inAt ins p.id)).1.x (steerE p (inAt ins p.id)).1.y = r
            rw [i3, i4]; exact hpo
          · exact hs.sane.ents e he
    · refine ⟨⟨⟨setId_srt hs.sane.srt hp i1, ?_, fun e he => ?_⟩, hs.made⟩, fun x hx hne => setId_keep hs.sane.srt hp hx hne, rfl⟩
      · simp only
        rw [setId_things hs.sane.srt hp i2]
        exact hs.sane.things
      · rcases setId_mem he with rfl | he
        · exact ⟨e1, by rw [i3, i4]; exact hpo⟩
        · exact hs.sane.ents e he
theorem steer_fold {c : Config} {r f : Int} {ins : List Input} (hr : c.is r = true) (hf : 0 ≤ f ∧ f < 10000) (hins : (ins.length : Int) = c.players) (hi : ∀ i ∈ ins, i.right = true) : ∀ {R : List Entity} {s : Stg}, Steer c r s → Srt R → (∀ p ∈ R, p ∈ s.l) →
    Steer c r (R.foldl (steer1 c r f ins) s) ∧ (R.foldl (steer1 c r f ins) s).out = s.out := by
  intro R
  induction R with
  | nil => intro s h _ _; exact ⟨h, rfl⟩
  | cons p R ih =>
    intro s h hR hm
    have hp := hm p (List.mem_cons_self ..)
    obtain ⟨h1, h2, h3⟩ := steer1_ok (f := f) (ins := ins) h hr hf hp fun hk => by
      have := Entity.right_player (h.sane.ents p hp).1 hk
      unfold inAt
      exact hi _ (gt_mem (by omega))
    obtain ⟨hR1, hR2⟩ := List.pairwise_cons.1 hR
    have := ih h1 hR2 fun q hq => h2 q (hm q (List.mem_cons_of_mem _ hq)) (by have := hR1 q hq; omega)
    exact ⟨this.1, by rw [List.foldl_cons, this.2, h3]⟩
theorem steer_ok {c : Config} {r : Int} {s : Region} {ins : List Input} {inbox : List Cross} (h : Fine c r s ins inbox) :
    Steer c r (steerS c r s.frame ins ⟨arriveL s.ents inbox, 0, []⟩) ∧ (steerS c r s.frame ins ⟨arriveL s.ents inbox, 0, []⟩).out = [] :=
  steer_fold (ins := ins) h.is h.frame h.len h.ins ⟨h.sane, by simp⟩ h.sane.srt fun p hp => hp
end Go.Eva

/- Chance, numbers that are held, how things move. -/
namespace Go.Eva.S3
theorem f_chance_Mix (x : Int) : Fn cx 185 [.int .u64 x] (.int .u64 (mix x)) := by
  refine Wp.ev ?_
  refine gg [.w ((0 : Int) ≤ (33 : Int)), .s (T.int IntKind.u64 (Int.fdiv x 8589934592)), .i IntKind.u64 ((↑(BitVec.toNat (BitVec.ofInt 64 x ^^^ BitVec.ofInt 64 (Int.fdiv x 8589934592))) : Int)) (IntKind.wrap IntKind.u64 (↑(BitVec.toNat (BitVec.ofInt 64 x ^^^ BitVec.ofInt 64 (Int.fdiv x 8589934592))) : Int)), .i IntKind.u64 (IntKind.wrap IntKind.u64 (↑(BitVec.toNat (BitVec.ofInt 64 x ^^^ BitVec.ofInt 64 (Int.fdiv x 8589934592))) : Int) * 18397679294719823053) (IntKind.wrap IntKind.u64 (IntKind.wrap IntKind.u64 (↑(BitVec.toNat (BitVec.ofInt 64 x ^^^ BitVec.ofInt 64 (Int.fdiv x 8589934592))) : Int) * 18397679294719823053)), .w ((0 : Int) ≤ (33 : Int)), .s (T.int IntKind.u64 (Int.fdiv (IntKind.wrap IntKind.u64 (IntKind.wrap IntKind.u64 (↑(BitVec.toNat (BitVec.ofInt 64 x ^^^ BitVec.ofInt 64 (Int.fdiv x 8589934592))) : Int) * 18397679294719823053)) 8589934592)), .i IntKind.u64 ((↑(BitVec.toNat (BitVec.ofInt 64 (IntKind.wrap IntKind.u64 (IntKind.wrap IntKind.u64 (↑(BitVec.toNat (BitVec.ofInt 64 x ^^^ BitVec.ofInt 64 (Int.fdiv x 8589934592))) : Int) * 18397679294719823053)) ^^^ BitVec.ofInt 64 (Int.fdiv (IntKind.wrap IntKind.u64 (IntKind.wrap IntKind.u64 (↑(BitVec.toNat (BitVec.ofInt 64 x ^^^ BitVec.ofInt 64 (Int.fdiv x 8589934592))) : Int) * 18397679294719823053)) 8589934592))) : Int)) (IntKind.wrap IntKind.u64 (↑(BitVec.toNat (BitVec.ofInt 64 (IntKind.wrap IntKind.u64 (IntKind.wrap IntKind.u64 (↑(BitVec.toNat (BitVec.ofInt 64 x ^^^ BitVec.ofInt 64 (Int.fdiv x 8589934592))) : Int) * 18397679294719823053)) ^^^ BitVec.ofInt 64 (Int.fdiv (IntKind.wrap IntKind.u64 (IntKind.wrap IntKind.u64 (↑(BitVec.toNat (BitVec.ofInt 64 x ^^^ BitVec.ofInt 64 (Int.fdiv x 8589934592))) : Int) * 18397679294719823053)) 8589934592))) : Int)), .i IntKind.u64 (IntKind.wrap IntKind.u64 (↑(BitVec.toNat (BitVec.ofInt 64 (IntKind.wrap IntKind.u64 (IntKind.wrap IntKind.u64 (↑(BitVec.toNat (BitVec.ofInt 64 x ^^^ BitVec.ofInt 64 (Int.fdiv x 8589934592))) : Int) * 18397679294719823053)) ^^^ BitVec.ofInt 64 (Int.fdiv (IntKind.wrap IntKind.u64 (IntKind.wrap IntKind.u64 (↑(BitVec.toNat (BitVec.ofInt 64 x ^^^ BitVec.ofInt 64 (Int.fdiv x 8589934592))) : Int) * 18397679294719823053)) 8589934592))) : Int) * 14181476777654086739) (IntKind.wrap IntKind.u64 (IntKind.wrap IntKind.u64 (↑(BitVec.toNat (BitVec.ofInt 64 (IntKind.wrap IntKind.u64 (IntKind.wrap IntKind.u64 (↑(BitVec.toNat (BitVec.ofInt 64 x ^^^ BitVec.ofInt 64 (Int.fdiv x 8589934592))) : Int) * 18397679294719823053)) ^^^ BitVec.ofInt 64 (Int.fdiv (IntKind.wrap IntKind.u64 (IntKind.wrap IntKind.u64 (↑(BitVec.toNat (BitVec.ofInt 64 x ^^^ BitVec.ofInt 64 (Int.fdiv x 8589934592))) : Int) * 18397679294719823053)) 8589934592))) : Int) * 14181476777654086739)), .w ((0 : Int) ≤ (33 : Int)), .s (T.int IntKind.u64 (Int.fdiv (IntKind.wrap IntKind.u64 (IntKind.wrap IntKind.u64 (↑(BitVec.toNat (BitVec.ofInt 64 (IntKind.wrap IntKind.u64 (IntKind.wrap IntKind.u64 (↑(BitVec.toNat (BitVec.ofInt 64 x ^^^ BitVec.ofInt 64 (Int.fdiv x 8589934592))) : Int) * 18397679294719823053)) ^^^ BitVec.ofInt 64 (Int.fdiv (IntKind.wrap IntKind.u64 (IntKind.wrap IntKind.u64 (↑(BitVec.toNat (BitVec.ofInt 64 x ^^^ BitVec.ofInt 64 (Int.fdiv x 8589934592))) : Int) * 18397679294719823053)) 8589934592))) : Int) * 14181476777654086739)) 8589934592))] ⟨oW, o_i rfl, o_i rfl, oW, o_i rfl, o_i rfl, oW, trivial⟩ ?_
  refine gg [.i IntKind.u64 ((↑(BitVec.toNat (BitVec.ofInt 64 (IntKind.wrap IntKind.u64 (IntKind.wrap IntKind.u64 (↑(BitVec.toNat (BitVec.ofInt 64 (IntKind.wrap IntKind.u64 (IntKind.wrap IntKind.u64 (↑(BitVec.toNat (BitVec.ofInt 64 x ^^^ BitVec.ofInt 64 (Int.fdiv x 8589934592))) : Int) * 18397679294719823053)) ^^^ BitVec.ofInt 64 (Int.fdiv (IntKind.wrap IntKind.u64 (IntKind.wrap IntKind.u64 (↑(BitVec.toNat (BitVec.ofInt 64 x ^^^ BitVec.ofInt 64 (Int.fdiv x 8589934592))) : Int) * 18397679294719823053)) 8589934592))) : Int) * 14181476777654086739)) ^^^ BitVec.ofInt 64 (Int.fdiv (IntKind.wrap IntKind.u64 (IntKind.wrap IntKind.u64 (↑(BitVec.toNat (BitVec.ofInt 64 (IntKind.wrap IntKind.u64 (IntKind.wrap IntKind.u64 (↑(BitVec.toNat (BitVec.ofInt 64 x ^^^ BitVec.ofInt 64 (Int.fdiv x 8589934592))) : Int) * 18397679294719823053)) ^^^ BitVec.ofInt 64 (Int.fdiv (IntKind.wrap IntKind.u64 (IntKind.wrap IntKind.u64 (↑(BitVec.toNat (BitVec.ofInt 64 x ^^^ BitVec.ofInt 64 (Int.fdiv x 8589934592))) : Int) * 18397679294719823053)) 8589934592))) : Int) * 14181476777654086739)) 8589934592))) : Int)) (IntKind.wrap IntKind.u64 (↑(BitVec.toNat (BitVec.ofInt 64 (IntKind.wrap IntKind.u64 (IntKind.wrap IntKind.u64 (↑(BitVec.toNat (BitVec.ofInt 64 (IntKind.wrap IntKind.u64 (IntKind.wrap IntKind.u64 (↑(BitVec.toNat (BitVec.ofInt 64 x ^^^ BitVec.ofInt 64 (Int.fdiv x 8589934592))) : Int) * 18397679294719823053)) ^^^ BitVec.ofInt 64 (Int.fdiv (IntKind.wrap IntKind.u64 (IntKind.wrap IntKind.u64 (↑(BitVec.toNat (BitVec.ofInt 64 x ^^^ BitVec.ofInt 64 (Int.fdiv x 8589934592))) : Int) * 18397679294719823053)) 8589934592))) : Int) * 14181476777654086739)) ^^^ BitVec.ofInt 64 (Int.fdiv (IntKind.wrap IntKind.u64 (IntKind.wrap IntKind.u64 (↑(BitVec.toNat (BitVec.ofInt 64 (IntKind.wrap IntKind.u64 (IntKind.wrap IntKind.u64 (↑(BitVec.toNat (BitVec.ofInt 64 x ^^^ BitVec.ofInt 64 (Int.fdiv x 8589934592))) : Int) * 18397679294719823053)) ^^^ BitVec.ofInt 64 (Int.fdiv (IntKind.wrap IntKind.u64 (IntKind.wrap IntKind.u64 (↑(BitVec.toNat (BitVec.ofInt 64 x ^^^ BitVec.ofInt 64 (Int.fdiv x 8589934592))) : Int) * 18397679294719823053)) 8589934592))) : Int) * 14181476777654086739)) 8589934592))) : Int))] ⟨o_i rfl, trivial⟩ ?_
  exact ge
theorem f_chance_At_loop (l : List Int) (hn : small l) : ∀ (d i : Nat) (h : Int), i + d = l.length →
    Is cx (.loop 170 [0, 1, 0, 1, 1] 0 [.t (.int .u64 h), .t (.sl 1 (l.map ti)), vi l.length, vi i] [])
      ⟨.exit 0, [.t (.int .u64 ((l.drop i).foldl atStep h)), .t (.sl 1 (l.map ti)), vi l.length, vi l.length], []⟩ := by
  unfold small at hn
  intro d
  induction d with
  | zero =>
    intro i h hi
    rw [drop_end (by omega)]
    refine Wp.ev ?_
    refine gg [.b (decide ((↑i : Int) < (↑(List.length l) : Int))) false] ⟨fP, trivial⟩ ?_
    refine rt (a := Res.mk (Ex.exit 0) [V.t (T.int IntKind.u64 h), V.t (T.sl 1 (List.map ti l)), vi (↑(List.length l) : Int), vi (↑i : Int)] []) (by kernel_rfl) ?_
    ((have hq : i = l.length := by omega); subst hq; rfl)
  | succ d ih =>
    intro i h hi
    have hlt : i < l.length := by omega
    have ih1 := ih (i + 1) (atStep h (gt l i)) (by omega)
    clear ih
    rw [drop_gt hlt, List.foldl_cons]
    unfold atStep at ih1 ⊢
    refine Wp.ev ?_
    refine gg [.b (decide ((↑i : Int) < (↑(List.length l) : Int))) true, .w ((0 : Int) ≤ (↑i : Int)), .n (Int.toNat (↑i : Int)) i, .g (List.map ti l) i (ti (gt l i)), .i IntKind.u64 (gt l i) (IntKind.wrap IntKind.u64 (gt l i)), .i IntKind.u64 (h + IntKind.wrap IntKind.u64 (gt l i)) (IntKind.wrap IntKind.u64 (h + IntKind.wrap IntKind.u64 (gt l i))), .i IntKind.u64 (IntKind.wrap IntKind.u64 (h + IntKind.wrap IntKind.u64 (gt l i)) + 11400714819323198485) (IntKind.wrap IntKind.u64 (IntKind.wrap IntKind.u64 (h + IntKind.wrap IntKind.u64 (gt l i)) + 11400714819323198485)), .a _ _, .i IntKind.i64 ((↑i : Int) + 1) ((↑(i + 1) : Int)), .a _ _] ⟨tP, oW, o_n (by kernel_rfl), o_gt rfl (by assumption) (by intro h; cases h), o_i rfl, o_i rfl, o_i rfl, o_a (f_chance_Mix (IntKind.wrap IntKind.u64 (IntKind.wrap IntKind.u64 (h + IntKind.wrap IntKind.u64 (gt l i)) + 11400714819323198485))), oI, o_a ih1, trivial⟩ ?_
    exact ge
theorem f_chance_At (seed : Int) (l : List Int) (hn : small l) : Fn cx 170 [.int .u64 seed, .sl 1 (l.map ti)] (.int .u64 (chanceAt seed l)) := by
  have h := f_chance_At_loop l hn l.length 0 (mix seed) (by omega)
  rw [List.drop_zero] at h
  refine Wp.ev ?_
  refine gg [.a _ _, .n (List.length (List.map ti l)) (List.length l), .a _ _] ⟨o_a (f_chance_Mix seed), o_n (by simp), o_a h, trivial⟩ ?_
  exact ge
theorem f_chance_Below (n seed : Int) (l : List Int) (hn : n ≤ 1000000) (hl : small l) : Fn cx 126 [ti n, .int .u64 seed, .sl 1 (l.map ti)] (ti (below n seed l)) := by
  by_cases h : n < 1
  · have e : below n seed l = 0 := by simp [below, h]
    rw [e]
    refine Wp.ev ?_
    refine gg [.b (decide (n < 1)) true] ⟨t_brp (by assumption), trivial⟩ ?_
    exact ge
  · have e : below n seed l = (chanceAt seed l).tmod n := by simp [below, h]
    have hle := @below_le n seed l (by omega)
    rw [e] at hle ⊢
    refine Wp.ev ?_
    refine gg [.b (decide (n < 1)) false, .a _ _, .i IntKind.u64 n n, .w (n ≠ (0 : Int)), .s (T.int IntKind.u64 (Int.tmod (chanceAt seed l) n)), .i IntKind.i64 (Int.tmod (chanceAt seed l) n) (Int.tmod (chanceAt seed l) n)] ⟨f_brp (by assumption), o_a (f_chance_At seed l (by assumption)), oU, oW, oI, trivial⟩ ?_
    exact ge
theorem f_fixed_Held (v : Int) : Fn cx 168 [ti v] (ti (held v)) := by
  refine Wp.ev ?_
  refine gg [.a _ _] ⟨o_a (f_fixed_Clamp v (-2147483647) 2147483647), trivial⟩ ?_
  exact ge
theorem f_fixed_Sub (a b : Int) : Fn cx 116 [ti a, ti b] (ti (subH a b)) := by
  have h1 := @held_le a
  have h2 := @held_le b
  refine Wp.ev ?_
  refine gg [.a _ _, .a _ _, .i IntKind.i64 (held a - held b) (held a - held b), .a _ _] ⟨o_a (f_fixed_Held a), o_a (f_fixed_Held b), oI, o_a (f_fixed_Held (held a - held b)), trivial⟩ ?_
  exact ge
theorem f_fixed_size (v : Int) (h : -2147483647 ≤ v ∧ v ≤ 2147483647) : Fn cx 184 [ti v] (ti (sizeI v)) := by
  refine Wp.ev ?_
  refine gg [.i IntKind.i64 (0 - v) (0 - v), .s (ti (maxI v (0 - v)))] ⟨oI, trivial⟩ ?_
  exact ge
theorem f_fixed_Far (ax ay bx y : Int) : Fn cx 167 [ti ax, ti ay, ti bx, ti y] (ti (farI ax ay bx y)) := by
  have h1 : -2147483647 ≤ subH ax bx ∧ subH ax bx ≤ 2147483647 := held_le
  have h2 : -2147483647 ≤ subH ay y ∧ subH ay y ≤ 2147483647 := held_le
  refine Wp.ev ?_
  refine gg [.a _ _, .a _ _, .a _ _, .a _ _, .s (ti (maxI (sizeI (subH ax bx)) (sizeI (subH ay y))))] ⟨o_a (f_fixed_Sub ax bx), o_a (f_fixed_size (subH ax bx) ⟨(by omega), (by omega)⟩), o_a (f_fixed_Sub ay y), o_a (f_fixed_size (subH ay y) ⟨(by omega), (by omega)⟩), trivial⟩ ?_
  exact ge
theorem f_fixed_Add_loop (l : List Int) (hn : small l) : ∀ (d i : Nat) (s : Int), i + d = l.length → -2147483647 ≤ s ∧ s ≤ 2147483647 →
    Is cx (.loop 120 [0, 1, 0, 1, 1] 0 [vi s, .t (.sl 1 (l.map ti)), vi l.length, vi i] [])
      ⟨.exit 0, [vi ((l.drop i).foldl sumStep s), .t (.sl 1 (l.map ti)), vi l.length, vi l.length], []⟩ := by
  unfold small at hn
  intro d
  induction d with
  | zero =>
    intro i s hi hs
    rw [drop_end (by omega)]
    refine Wp.ev ?_
    refine gg [.b (decide ((↑i : Int) < (↑(List.length l) : Int))) false] ⟨fP, trivial⟩ ?_
    refine rt (a := Res.mk (Ex.exit 0) [vi s, V.t (T.sl 1 (List.map ti l)), vi (↑(List.length l) : Int), vi (↑i : Int)] []) (by kernel_rfl) ?_
    ((have hq : i = l.length := by omega); subst hq; rfl)
  | succ d ih =>
    intro i s hi hs
    have hlt : i < l.length := by omega
    have ih1 := ih (i + 1) (sumStep s (gt l i)) (by omega) held_le
    clear ih
    rw [drop_gt hlt, List.foldl_cons]
    unfold sumStep at ih1 ⊢
    have h2 := @held_le (gt l i)
    refine Wp.ev ?_
    refine gg [.b (decide ((↑i : Int) < (↑(List.length l) : Int))) true, .w ((0 : Int) ≤ (↑i : Int)), .n (Int.toNat (↑i : Int)) i, .g (List.map ti l) i (ti (gt l i)), .a _ _, .i IntKind.i64 (s + held (gt l i)) (s + held (gt l i)), .a _ _, .i IntKind.i64 ((↑i : Int) + 1) ((↑(i + 1) : Int)), .a _ _] ⟨tP, oW, o_n (by kernel_rfl), o_gt rfl (by assumption) (by intro h; cases h), o_a (f_fixed_Held (gt l i)), oI, o_a (f_fixed_Held (s + held (gt l i))), oI, o_a ih1, trivial⟩ ?_
    exact ge
theorem f_fixed_Add (l : List Int) (hn : small l) : Fn cx 120 [.sl 1 (l.map ti)] (ti (sumH l)) := by
  have h := f_fixed_Add_loop l hn l.length 0 0 (by omega) (by omega)
  rw [List.drop_zero] at h
  refine Wp.ev ?_
  refine gg [.n (List.length (List.map ti l)) (List.length l), .a _ _] ⟨o_n (by simp), o_a h, trivial⟩ ?_
  exact ge
theorem f_input_Right (i : Input) : Fn cx 104 [i.enc] (.bool i.right) := by
  refine Wp.ev ?_
  refine brp (p := i.dx ≥ -2) (by kernel_rfl) (fun h1 => ?_) (fun h1 => ?_)
  · refine gg [.tt, .tt, .tt] trivial ?_
    refine brp (p := i.dx ≤ 2) (by kernel_rfl) (fun h2 => ?_) (fun h2 => ?_)
    · refine gg [.tt, .tt, .tt] trivial ?_
      refine brp (p := i.dy ≥ -2) (by kernel_rfl) (fun h3 => ?_) (fun h3 => ?_)
      · refine gg [.tt, .tt, .tt] trivial ?_
        refine rt (a := Res.mk Ex.ret [vb (decide (i.dy ≤ 2))] []) (by kernel_rfl) ?_
        (simp_all [Input.right, within]; (try (rw [Bool.eq_iff_iff]; simp only [decide_eq_true_eq, Bool.and_eq_true]; omega)); (try (intros; omega)))
      · refine gg [.ff, .ff, .ff] trivial ?_
        refine rt (a := Res.mk Ex.ret [vb false] []) (by kernel_rfl) ?_
        (simp_all [Input.right, within]; (try (rw [Bool.eq_iff_iff]; simp only [decide_eq_true_eq, Bool.and_eq_true]; omega)); (try (intros; omega)))
    · refine gg [.ff, .ff, .ff, .ff, .ff, .ff, .ff] trivial ?_
      refine rt (a := Res.mk Ex.ret [vb false] []) (by kernel_rfl) ?_
      (simp_all [Input.right, within]; (try (rw [Bool.eq_iff_iff]; simp only [decide_eq_true_eq, Bool.and_eq_true]; omega)); (try (intros; omega)))
  · refine gg [.ff, .ff, .ff, .ff, .ff, .ff, .ff, .ff, .ff, .ff, .ff] trivial ?_
    refine rt (a := Res.mk Ex.ret [vb false] []) (by kernel_rfl) ?_
    (simp_all [Input.right, within]; (try (rw [Bool.eq_iff_iff]; simp only [decide_eq_true_eq, Bool.and_eq_true]; omega)); (try (intros; omega)))
theorem f_joustref05_Input (i : Input) : Fn cx 101 [i.enc] (.bool i.right) := by
  refine Wp.ev ?_
  refine brp (p := i.dx ≥ -2) (by kernel_rfl) (fun h1 => ?_) (fun h1 => ?_)
  · refine gg [.tt, .tt, .tt] trivial ?_
    refine brp (p := i.dx ≤ 2) (by kernel_rfl) (fun h2 => ?_) (fun h2 => ?_)
    · refine gg [.tt, .tt, .tt] trivial ?_
      refine brp (p := i.dy ≥ -2) (by kernel_rfl) (fun h3 => ?_) (fun h3 => ?_)
      · refine gg [.tt, .tt, .tt] trivial ?_
        refine rt (a := Res.mk Ex.ret [vb (decide (i.dy ≤ 2))] []) (by kernel_rfl) ?_
        (simp_all [Input.right, within]; (try (rw [Bool.eq_iff_iff]; simp only [decide_eq_true_eq, Bool.and_eq_true]; omega)); (try (intros; omega)))
      · refine gg [.ff, .ff, .ff] trivial ?_
        refine rt (a := Res.mk Ex.ret [vb false] []) (by kernel_rfl) ?_
        (simp_all [Input.right, within]; (try (rw [Bool.eq_iff_iff]; simp only [decide_eq_true_eq, Bool.and_eq_true]; omega)); (try (intros; omega)))
    · refine gg [.ff, .ff, .ff, .ff, .ff, .ff, .ff] trivial ?_
      refine rt (a := Res.mk Ex.ret [vb false] []) (by kernel_rfl) ?_
      (simp_all [Input.right, within]; (try (rw [Bool.eq_iff_iff]; simp only [decide_eq_true_eq, Bool.and_eq_true]; omega)); (try (intros; omega)))
  · refine gg [.ff, .ff, .ff, .ff, .ff, .ff, .ff, .ff, .ff, .ff, .ff] trivial ?_
    refine rt (a := Res.mk Ex.ret [vb false] []) (by kernel_rfl) ?_
    (simp_all [Input.right, within]; (try (rw [Bool.eq_iff_iff]; simp only [decide_eq_true_eq, Bool.and_eq_true]; omega)); (try (intros; omega)))
theorem f_moving_Steer (e : Entity) (i : Input) (he : -1000000 ≤ e.age ∧ e.age ≤ 1000000) : Is cx (.call 109 [.t e.enc, .t i.enc] []) ⟨.ret, [.t (steerE e i).1.enc, vb (steerE e i).2], []⟩ := by
  have hR := f_input_Right i
  have hm := @maxI_le e.age 1
  have hm2 := @maxI_le 1 e.age
  have hmm : maxI 1 e.age = maxI e.age 1 := by unfold maxI; split <;> split <;> omega
  by_cases hk : e.kind = 1
  · cases hr : i.right with
    | true =>
      rw [hr] at hR
      have hi := hr
      simp only [Input.right, Bool.and_eq_true, within_iff] at hi
      cases hf : i.fire with
      | true =>
        by_cases ha : e.age = 0
        · have e1 : steerE e i = ({ e with vx := i.dx * 32, vy := i.dy * 32, age := 6 }, true) := by simp [steerE, hk, hr, hf, ha]
          rw [e1]
          refine Wp.ev ?_
          refine gg [.b (e.kind != 1) false, .ff, .a _ _, .ff, .ff, .b (!true) false, .i IntKind.i64 (i.dx * 32) (i.dx * 32)] ⟨f_brn (by assumption), o_a hR, o_b (by kernel_rfl), oI, trivial⟩ ?_
          refine bo (by kernel_rfl) ?_ ?_
          all_goals
            refine gg [.i IntKind.i64 (i.dy * 32) (i.dy * 32), .b i.fire true, .tt, .tt, .tt, .b (e.age == 0) true] ⟨oI, tB, t_bre (by assumption), trivial⟩ ?_
            exact ge
        · have e1 : steerE e i = ({ e with vx := i.dx * 32, vy := i.dy * 32, age := maxI e.age 1 - 1 }, false) := by simp [steerE, hk, hr, ha]
          rw [e1]
          refine Wp.ev ?_
          refine gg [.b (e.kind != 1) false, .ff, .a _ _, .ff, .ff, .b (!true) false, .i IntKind.i64 (i.dx * 32) (i.dx * 32)] ⟨f_brn (by assumption), o_a hR, o_b (by kernel_rfl), oI, trivial⟩ ?_
          refine bo (by kernel_rfl) ?_ ?_
          all_goals
            refine gg [.i IntKind.i64 (i.dy * 32) (i.dy * 32), .b i.fire true, .tt, .tt, .tt, .b (e.age == 0) false, .s (ti (maxI e.age 1)), .i IntKind.i64 (maxI e.age 1 - 1) (maxI e.age 1 - 1)] ⟨oI, tB, f_bre (by assumption), oI, trivial⟩ ?_
            refine rt (a := Res.mk Ex.ret [V.t (T.agg [ti e.id, ti e.kind, ti e.x, ti e.y, ti (i.dx * 32), ti (i.dy * 32), ti e.health, ti (maxI e.age 1 - 1), ti e.owner]), vb false] []) (by kernel_rfl) ?_
            (first | rfl | (simp [Entity.enc, hmm]; done))
      | false =>
        have e1 : steerE e i = ({ e with vx := i.dx * 32, vy := i.dy * 32, age := maxI e.age 1 - 1 }, false) := by simp [steerE, hk, hr, hf]
        rw [e1]
        refine Wp.ev ?_
        refine gg [.b (e.kind != 1) false, .ff, .a _ _, .ff, .ff, .b (!true) false, .i IntKind.i64 (i.dx * 32) (i.dx * 32)] ⟨f_brn (by assumption), o_a hR, o_b (by kernel_rfl), oI, trivial⟩ ?_
        refine bo (by kernel_rfl) ?_ ?_
        all_goals
          refine gg [.i IntKind.i64 (i.dy * 32) (i.dy * 32), .b i.fire false, .ff, .ff, .ff, .ff, .s (ti (maxI e.age 1)), .i IntKind.i64 (maxI e.age 1 - 1) (maxI e.age 1 - 1)] ⟨oI, fB, oI, trivial⟩ ?_
          refine rt (a := Res.mk Ex.ret [V.t (T.agg [ti e.id, ti e.kind, ti e.x, ti e.y, ti (i.dx * 32), ti (i.dy * 32), ti e.health, ti (maxI e.age 1 - 1), ti e.owner]), vb false] []) (by kernel_rfl) ?_
          (first | rfl | (simp [Entity.enc, hmm]; done))
    | false =>
      rw [hr] at hR
      have e1 : steerE e i = (e, false) := by simp [steerE, hr]
      rw [e1]
      refine Wp.ev ?_
      refine gg [.b (e.kind != 1) false, .ff, .a _ _, .ff, .ff, .b (!false) true] ⟨f_brn (by assumption), o_a hR, o_b (by kernel_rfl), trivial⟩ ?_
      exact ge
  · have e1 : steerE e i = (e, false) := by simp [steerE, hk]
    rw [e1]
    refine Wp.ev ?_
    refine gg [.b (e.kind != 1) true, .tt, .tt, .tt, .tt] ⟨t_brn (by assumption), trivial⟩ ?_
    exact ge
theorem f_moving_pace (d : Int) : Fn cx 164 [ti d] (ti (paceD d)) := by
  have h := @clamp_le d (-1) 1 (by decide)
  refine Wp.ev ?_
  refine gg [.a _ _, .i IntKind.i64 (clamp d (-1) 1 * 160) (clamp d (-1) 1 * 160)] ⟨o_a (f_fixed_Clamp d (-1) 1), oI, trivial⟩ ?_
  exact ge
theorem f_moving_Shoot (e : Entity) (i : Input) (id : Int) : Fn cx 111 [e.enc, i.enc, ti id] ((shootE e i id).enc) := by
  refine Wp.ev ?_
  refine bo (by kernel_rfl) ?_ ?_
  · refine gg [.a _ _] ⟨o_a (f_moving_pace i.dx), trivial⟩ ?_
    refine bo (by kernel_rfl) ?_ ?_
    all_goals
      refine gg [.a _ _] ⟨o_a (f_moving_pace i.dy), trivial⟩ ?_
      refine bre (x := paceD i.dx) (y := 0) (by kernel_rfl) (fun h1 => ?_) (fun h1 => ?_)
      · refine gg [.tt, .tt, .tt] trivial ?_
        refine bre (x := paceD i.dy) (y := 0) (by kernel_rfl) (fun h2 => ?_) (fun h2 => ?_)
        · refine rt (a := Res.mk Ex.ret [V.t (T.agg [ti id, ti 2, ti e.x, ti e.y, ti 160, ti (paceD i.dy), ti 1, ti 0, ti e.id])] []) (by kernel_rfl) ?_
          (unfold shootE; first | (rw [if_pos (by simp_all)]; rfl) | (rw [if_neg (by simp_all)]; rfl))
        · refine rt (a := Res.mk Ex.ret [V.t (T.agg [ti id, ti 2, ti e.x, ti e.y, ti (paceD i.dx), ti (paceD i.dy), ti 1, ti 0, ti e.id])] []) (by kernel_rfl) ?_
          (unfold shootE; first | (rw [if_pos (by simp_all)]; rfl) | (rw [if_neg (by simp_all)]; rfl))
      · refine gg [.ff, .ff, .ff, .ff] trivial ?_
        refine rt (a := Res.mk Ex.ret [V.t (T.agg [ti id, ti 2, ti e.x, ti e.y, ti (paceD i.dx), ti (paceD i.dy), ti 1, ti 0, ti e.id])] []) (by kernel_rfl) ?_
        (unfold shootE; first | (rw [if_pos (by simp_all)]; rfl) | (rw [if_neg (by simp_all)]; rfl))
  · refine gg [.a _ _, .a _ _] ⟨o_a (f_moving_pace i.dx), o_a (f_moving_pace i.dy), trivial⟩ ?_
    refine bre (x := paceD i.dx) (y := 0) (by kernel_rfl) (fun h1 => ?_) (fun h1 => ?_)
    · refine gg [.tt, .tt, .tt] trivial ?_
      refine bre (x := paceD i.dy) (y := 0) (by kernel_rfl) (fun h2 => ?_) (fun h2 => ?_)
      · refine rt (a := Res.mk Ex.ret [V.t (T.agg [ti id, ti 2, ti e.x, ti e.y, ti 160, ti (paceD i.dy), ti 1, ti 0, ti e.id])] []) (by kernel_rfl) ?_
        (unfold shootE; first | (rw [if_pos (by simp_all)]; rfl) | (rw [if_neg (by simp_all)]; rfl))
      · refine rt (a := Res.mk Ex.ret [V.t (T.agg [ti id, ti 2, ti e.x, ti e.y, ti (paceD i.dx), ti (paceD i.dy), ti 1, ti 0, ti e.id])] []) (by kernel_rfl) ?_
        (unfold shootE; first | (rw [if_pos (by simp_all)]; rfl) | (rw [if_neg (by simp_all)]; rfl))
    · refine gg [.ff, .ff, .ff, .ff] trivial ?_
      refine rt (a := Res.mk Ex.ret [V.t (T.agg [ti id, ti 2, ti e.x, ti e.y, ti (paceD i.dx), ti (paceD i.dy), ti 1, ti 0, ti e.id])] []) (by kernel_rfl) ?_
      (unfold shootE; first | (rw [if_pos (by simp_all)]; rfl) | (rw [if_neg (by simp_all)]; rfl))
theorem f_moving_sum (l : List Int) (hn : small l) : Fn cx 166 [.sl 1 (l.map ti)] (ti (sumH l)) := by
  refine Wp.ev ?_
  refine gg [.a _ _] ⟨o_a (f_fixed_Add l (by assumption)), trivial⟩ ?_
  exact ge
theorem f_moving_Go (c : Config) (e : Entity) (he : -1000000 ≤ e.age ∧ e.age ≤ 1000000) : Is cx (.call 114 [.t c.enc, .t e.enc] []) ⟨.ret, [.t (goE c e).1.enc, vb (goE c e).2], []⟩ := by
  have hR := f_entity_Right c e
  cases hr : e.right c with
  | false =>
    rw [hr] at hR
    have e1 : goE c e = (Entity.zero, false) := by simp [goE, hr]
    rw [e1]
    refine Wp.ev ?_
    refine gg [.a _ _, .b (!false) true] ⟨o_a hR, o_b (by kernel_rfl), trivial⟩ ?_
    exact ge
  | true =>
    rw [hr] at hR
    have h1 := @Config.width_le c
    have h2 := @Config.height_le c
    have hx := f_moving_sum [e.x, e.vx] (by simp [small])
    have hy := f_moving_sum [e.y, e.vy] (by simp [small])
    have hI := f_grid_Inside c (sumH [e.x, e.vx]) (sumH [e.y, e.vy])
    by_cases hk : e.kind = 2
    · by_cases ha : e.age + 1 > 12
      · have e1 : goE c e = (Entity.zero, false) := by simp [goE, hr, hk, ha]
        rw [e1]
        refine Wp.ev ?_
        refine gg [.a _ _, .b (!true) false] ⟨o_a hR, o_b (by kernel_rfl), trivial⟩ ?_
        refine bo (by kernel_rfl) (bo (by kernel_rfl) ?_ ?_) ?_
        all_goals
          refine gg [.a _ _, .a _ _, .b (e.kind == 2) true, .i IntKind.i64 (e.age + 1) (e.age + 1), .b (decide (e.age + 1 > 12)) true, .tt, .tt, .tt, .tt, .tt, .tt] ⟨o_a hx, o_a hy, t_bre (by assumption), oI, t_brp (by assumption), trivial⟩ ?_
          exact ge
      · cases hi : c.inside (sumH [e.x, e.vx]) (sumH [e.y, e.vy]) with
        | true =>
          rw [hi] at hI
          have e1 : goE c e = ({ e with x := clamp (sumH [e.x, e.vx]) 0 (c.width - 1), y := clamp (sumH [e.y, e.vy]) 0 (c.height - 1), age := e.age + 1 }, true) := by simp [goE, hr, hk, ha, hi]
          rw [e1]
          refine Wp.ev ?_
          refine gg [.a _ _, .b (!true) false] ⟨o_a hR, o_b (by kernel_rfl), trivial⟩ ?_
          refine bo (by kernel_rfl) (bo (by kernel_rfl) ?_ ?_) ?_
          all_goals
            refine gg [.a _ _, .a _ _, .b (e.kind == 2) true, .i IntKind.i64 (e.age + 1) (e.age + 1), .b (decide (e.age + 1 > 12)) false, .ff, .ff, .ff, .a _ _, .ff, .ff, .b (!true) false, .a _ _, .i IntKind.i64 (Config.width c - 1) (Config.width c - 1), .a _ _, .a _ _] ⟨o_a hx, o_a hy, t_bre (by assumption), oI, f_brp (by assumption), o_a hI, o_b (by kernel_rfl), o_a (f_grid_Width c), oI, o_a (f_fixed_Clamp (sumH [e.x, e.vx]) 0 (Config.width c - 1)), o_a (f_grid_Height c), trivial⟩ ?_
            refine gg [.i IntKind.i64 (Config.height c - 1) (Config.height c - 1), .a _ _] ⟨oI, o_a (f_fixed_Clamp (sumH [e.y, e.vy]) 0 (Config.height c - 1)), trivial⟩ ?_
            exact ge
        | false =>
          rw [hi] at hI
          have e1 : goE c e = (Entity.zero, false) := by simp [goE, hr, hk, hi]
          rw [e1]
          refine Wp.ev ?_
          refine gg [.a _ _, .b (!true) false] ⟨o_a hR, o_b (by kernel_rfl), trivial⟩ ?_
          refine bo (by kernel_rfl) (bo (by kernel_rfl) ?_ ?_) ?_
          all_goals
            refine gg [.a _ _, .a _ _, .b (e.kind == 2) true, .i IntKind.i64 (e.age + 1) (e.age + 1), .b (decide (e.age + 1 > 12)) false, .ff, .ff, .ff, .a _ _, .ff, .ff, .b (!false) true] ⟨o_a hx, o_a hy, t_bre (by assumption), oI, f_brp (by assumption), o_a hI, o_b (by kernel_rfl), trivial⟩ ?_
            exact ge
    · have e1 : goE c e = ({ e with x := clamp (sumH [e.x, e.vx]) 0 (c.width - 1), y := clamp (sumH [e.y, e.vy]) 0 (c.height - 1) }, true) := by simp [goE, hr, hk]
      rw [e1]
      refine Wp.ev ?_
      refine gg [.a _ _, .b (!true) false] ⟨o_a hR, o_b (by kernel_rfl), trivial⟩ ?_
      refine bo (by kernel_rfl) (bo (by kernel_rfl) ?_ ?_) ?_
      all_goals
        refine gg [.a _ _, .a _ _, .b (e.kind == 2) false, .a _ _, .i IntKind.i64 (Config.width c - 1) (Config.width c - 1), .a _ _, .a _ _, .i IntKind.i64 (Config.height c - 1) (Config.height c - 1), .a _ _] ⟨o_a hx, o_a hy, f_bre (by assumption), o_a (f_grid_Width c), oI, o_a (f_fixed_Clamp (sumH [e.x, e.vx]) 0 (Config.width c - 1)), o_a (f_grid_Height c), oI, o_a (f_fixed_Clamp (sumH [e.y, e.vy]) 0 (Config.height c - 1)), trivial⟩ ?_
        exact ge
end Go.Eva.S3

/- Eva, part 63: what stays so where things move, hit, fall and leave; in plain words. -/
namespace Go.Eva

theorem goE_id {c : Config} {e : Entity} (h : (goE c e).2 = true) : (goE c e).1.id = e.id ∧ (goE c e).1.kind = e.kind ∧ (goE c e).1.health = e.health ∧ (goE c e).1.owner = e.owner := by
  unfold goE at h ⊢
  split
  · rename_i h1; rw [if_pos h1] at h; simp at h
  · rename_i h1
    rw [if_neg h1] at h
    split
    · rename_i h2
      rw [if_pos h2] at h
      split
      · rename_i h3; rw [if_pos h3] at h; simp at h
      · simp
    · simp
theorem right_place {c : Config} {e : Entity} (h : e.right c = true) : c.right = true ∧ (0 ≤ e.x ∧ e.x < c.width) ∧ (0 ≤ e.y ∧ e.y < c.height) := by
  simp only [Entity.right, Bool.and_eq_true] at h
  have hr := Config.inside_right h.1
  have := h.1
  simp only [Config.inside, Bool.and_eq_true, within_iff] at this
  exact ⟨hr, by omega, by omega⟩
theorem right_pace {c : Config} {e : Entity} (h : e.right c = true) : (-160 ≤ e.vx ∧ e.vx ≤ 160) ∧ (-160 ≤ e.vy ∧ e.vy ≤ 160) ∧ (e.kind = 1 ∨ e.kind = 2 ∨ e.kind = 3) ∧ (e.kind = 3 → e.vx = 0 ∧ e.vy = 0) := by
  simp only [Entity.right, Bool.and_eq_true] at h
  have h2 := h.2
  by_cases k1 : e.kind = 1
  · rw [if_pos k1] at h2
    simp only [Bool.and_eq_true, within_iff, decide_eq_true_eq] at h2
    omega
  · rw [if_neg k1] at h2
    by_cases k2 : e.kind = 2
    · rw [if_pos k2] at h2
      simp only [Bool.and_eq_true, within_iff, decide_eq_true_eq, pace, Bool.or_eq_true] at h2
      omega
    · rw [if_neg k2] at h2
      by_cases k3 : e.kind = 3
      · rw [if_pos k3] at h2
        simp only [Bool.and_eq_true, within_iff, decide_eq_true_eq] at h2
        omega
      · rw [if_neg k3] at h2; contradiction
theorem clamp_in {v hi : Int} (h : 0 ≤ v ∧ v ≤ hi) : clamp v 0 hi = v := by unfold clamp; rw [if_neg (by omega), if_neg (by omega)]
theorem clamp_near {v d hi : Int} (h : 0 ≤ v ∧ v ≤ hi) (hd : -160 ≤ d ∧ d ≤ 160) : v - 160 ≤ clamp (v + d) 0 hi ∧ clamp (v + d) 0 hi ≤ v + 160 := by unfold clamp; split <;> (try split) <;> omega
theorem go_right {c : Config} {e : Entity} (h : (goE c e).2 = true) : (goE c e).1.right c = true ∧ e.right c = true ∧ (e.x - 160 ≤ (goE c e).1.x ∧ (goE c e).1.x ≤ e.x + 160) ∧ (e.y - 160 ≤ (goE c e).1.y ∧ (goE c e).1.y ≤ e.y + 160) := by
  have hr : e.right c = true := by
    cases hq : e.right c with
    | true => rfl
    | false => unfold goE at h; rw [if_pos hq] at h; simp at h
  obtain ⟨hc, hx, hy⟩ := right_place hr
  obtain ⟨vx, vy, hk, _⟩ := right_pace hr
  have hw := @Config.width_le c
  have hh := @Config.height_le c
  have ax : sumH [e.x, e.vx] = e.x + e.vx := add_two (by omega) (by omega)
  have ay : sumH [e.y, e.vy] = e.y + e.vy := add_two (by omega) (by omega)
  have cx := clamp_near (v := e.x) (d := e.vx) (hi := c.width - 1) (by omega) vx
  have cy := clamp_near (v := e.y) (d := e.vy) (hi := c.height - 1) (by omega) vy
  have bx := clamp_le (v := e.x + e.vx) (lo := 0) (hi := c.width - 1) (by omega)
  have bY := clamp_le (v := e.y + e.vy) (lo := 0) (hi := c.height - 1) (by omega)
  refine ⟨?_, hr, ?_⟩
  · have hin : c.inside (clamp (e.x + e.vx) 0 (c.width - 1)) (clamp (e.y + e.vy) 0 (c.height - 1)) = true := by
      simp only [Config.inside, Bool.and_eq_true, within_iff]
      exact ⟨bx, bY⟩
    unfold goE at h ⊢
    rw [ax, ay] at h ⊢
    rw [if_neg (by simp [hr])] at h ⊢
    simp only [Entity.right, Bool.and_eq_true] at hr
    have hr2 := hr.2
    by_cases k2 : e.kind = 2
    · rw [if_pos k2] at h ⊢
      by_cases k3 : e.age + 1 > 12 ∨ c.inside (e.x + e.vx) (e.y + e.vy) = false
      · rw [if_pos k3] at h; simp at h
      · rw [if_neg k3]
        simp only [Entity.right, hin, Bool.true_and, if_neg (show ¬ e.kind = 1 by omega), if_pos k2] at hr2 ⊢
        simp only [Bool.and_eq_true, within_iff] at hr2 ⊢
        refine ⟨⟨hr2.1.1, ?_⟩, hr2.2⟩
        have := hr2.1.2
        omega
    · rw [if_neg k2]
      simp only [Entity.right, hin, Bool.true_and]
      exact hr2
  · unfold goE at h ⊢
    rw [ax, ay] at h ⊢
    rw [if_neg (by simp [hr])] at h ⊢
    by_cases k2 : e.kind = 2
    · rw [if_pos k2] at h ⊢
      by_cases k3 : e.age + 1 > 12 ∨ c.inside (e.x + e.vx) (e.y + e.vy) = false
      · rw [if_pos k3] at h; simp at h
      · rw [if_neg k3]; exact ⟨cx, cy⟩
    · rw [if_neg k2]; exact ⟨cx, cy⟩

/-- Right, but for a player's health. -/
def weak (c : Config) (e : Entity) : Prop := ({ e with health := 1 } : Entity).right c = true ∧ e.health ≤ 100 ∧ (e.kind ≠ 1 → e.health = 1)
theorem right_weak {c : Config} {e : Entity} (h : e.right c = true) : weak c e ∧ 1 ≤ e.health := by
  unfold weak
  simp only [Entity.right, Bool.and_eq_true] at h ⊢
  by_cases k1 : e.kind = 1
  · simp only [k1, if_true, Bool.and_eq_true, within_iff, decide_eq_true_eq] at h ⊢
    obtain ⟨h0, h⟩ := h
    refine ⟨⟨⟨h0, ?_⟩, ?_, fun q => absurd rfl q⟩, ?_⟩ <;> omega
  · simp only [if_neg k1] at h ⊢
    by_cases k2 : e.kind = 2
    · simp only [if_pos k2, Bool.and_eq_true, decide_eq_true_eq] at h ⊢
      simp only [h, and_self, true_and, implies_true, and_true]
      omega
    · simp only [if_neg k2] at h ⊢
      by_cases k3 : e.kind = 3
      · simp only [if_pos k3, Bool.and_eq_true, decide_eq_true_eq] at h ⊢
        simp only [h, and_self, true_and, implies_true, and_true]
        omega
      · simp [k3] at h
theorem weak_right {c : Config} {e : Entity} (h : weak c e) (hp : 1 ≤ e.health) : e.right c = true := by
  obtain ⟨h1, h2, h3⟩ := h
  by_cases k1 : e.kind = 1
  · simp only [Entity.right, k1, if_true, Bool.and_eq_true, within_iff, decide_eq_true_eq] at h1 ⊢
    exact ⟨h1.1, by omega⟩
  · have : ({ e with health := 1 } : Entity) = e := by have := h3 k1; cases e; simp_all
    rw [this] at h1; exact h1
theorem weak_place {c : Config} {e : Entity} (h : weak c e) : c.right = true ∧ (0 ≤ e.x ∧ e.x < c.width) ∧ (0 ≤ e.y ∧ e.y < c.height) := by
  have := right_place h.1
  exact this

/-- What holds behind moving: by rising numbers, near enough. -/
structure Moved (c : Config) (r : Int) (l : List Entity) : Prop where
  srt : Srt l
  things : things l ≤ 24
  ents : ∀ e ∈ l, weak c e ∧ has (c.near r) (c.of e.x e.y) = true
/-- Lists of entities that differ in players' health alone, less some that are none. -/
theorem things_sub {l m : List Entity} (h : l.Sublist m) : things l ≤ things m := by
  unfold things
  have := h.countP_le (p := fun e : Entity => e.kind != 1)
  omega
end Go.Eva

/- Eva, part 64: places, and regions that are near; in plain words. -/
namespace Go.Eva

theorem nearR_has {cols r m : Int} : ∀ {d : Nat} {n : Int}, has (nearR cols r n d) m = true ↔ (n ≤ m ∧ m < n + d) ∧ isNear cols r m = true
  | 0, n => by simp [nearR, has]; omega
  | d + 1, n => by
    have ih := @nearR_has cols r m d (n + 1)
    unfold has at ih ⊢
    rw [nearR, List.any_append, Bool.or_eq_true, ih]
    constructor
    · rintro (h | ⟨h1, h2⟩)
      · split at h
        · rename_i hn
          simp only [List.any_cons, List.any_nil, Bool.or_false, beq_iff_eq] at h
          subst h
          exact ⟨by omega, hn⟩
        · simp at h
      · exact ⟨by omega, h2⟩
    · rintro ⟨h1, h2⟩
      by_cases hnm : n = m
      · subst hnm
        left
        rw [if_pos h2]; simp
      · right
        exact ⟨by omega, h2⟩
theorem near_has {c : Config} {r m : Int} (h : c.is r = true) : has (c.near r) m = true ↔ (0 ≤ m ∧ m < c.cols * c.rows) ∧ isNear c.cols r m = true := by
  have hr := Config.is_right h
  have hi := (Config.is_iff hr).1 h
  obtain ⟨hc, hrr, _⟩ := Config.right_iff.1 hr
  have hN : c.near r = nearR c.cols r 0 (c.cols * c.rows).toNat := by rw [near_eq hc hrr hi]; simp [Config.near, h]
  rw [hN, nearR_has]
  have := Config.mul_le hr
  constructor
  · rintro ⟨h1, h2⟩; exact ⟨by omega, h2⟩
  · rintro ⟨h1, h2⟩; exact ⟨by omega, h2⟩
theorem row_col {a q p : Int} (ha : 0 < a) (hp : 0 ≤ p ∧ p < a) (hq : 0 ≤ q) : (q * a + p).tmod a = p ∧ (q * a + p).tdiv a = q := by
  have h0 : 0 ≤ q * a := Int.mul_nonneg hq (by omega)
  rw [Int.tmod_eq_emod_of_nonneg (by omega), Int.tdiv_eq_ediv_of_nonneg (by omega)]
  constructor
  · rw [Int.add_comm, Int.add_mul_emod_self_right, Int.emod_eq_of_lt hp.1 hp.2]
  · rw [Int.add_comm, Int.add_mul_ediv_right _ _ (by omega), Int.ediv_eq_zero_of_lt hp.1 hp.2]; omega
theorem of_eq {c : Config} {x y : Int} (hr : c.right = true) (hx : 0 ≤ x ∧ x < c.width) (hy : 0 ≤ y ∧ y < c.height) : c.of x y = y.tdiv 1024 * c.cols + x.tdiv 1024 ∧ (0 ≤ x.tdiv 1024 ∧ x.tdiv 1024 < c.cols) ∧ (0 ≤ y.tdiv 1024 ∧ y.tdiv 1024 < c.rows) := by
  have h := Config.right_iff.1 hr
  have hw : c.width = c.cols * 1024 := by simp [Config.width, hr]
  have hh : c.height = c.rows * 1024 := by simp [Config.height, hr]
  refine ⟨?_, tdiv_le (by omega) hx.1 (by omega), tdiv_le (by omega) hy.1 (by omega)⟩
  unfold Config.of
  rw [if_pos hr, clamp_in (by omega), clamp_in (by omega)]
theorem of_is {c : Config} {x y : Int} (hr : c.right = true) (hx : 0 ≤ x ∧ x < c.width) (hy : 0 ≤ y ∧ y < c.height) : c.is (c.of x y) = true := by
  obtain ⟨h1, h2, h3⟩ := of_eq hr hx hy
  obtain ⟨hc, hrr, _⟩ := Config.right_iff.1 hr
  rw [Config.is_iff hr, h1]
  have h4 : y.tdiv 1024 * c.cols ≤ (c.rows - 1) * c.cols := Int.mul_le_mul_of_nonneg_right (by omega) (by omega)
  have h5 : 0 ≤ y.tdiv 1024 * c.cols := Int.mul_nonneg (by omega) (by omega)
  have h6 : (c.rows - 1) * c.cols = c.cols * c.rows - c.cols := by rw [Int.sub_mul, Int.one_mul, Int.mul_comm]
  omega
/-- A step of no more than a region's size goes to a near region. -/
theorem near_step {c : Config} {x y u v : Int} (hr : c.right = true) (hx : 0 ≤ x ∧ x < c.width) (hy : 0 ≤ y ∧ y < c.height) (hu : 0 ≤ u ∧ u < c.width) (hv : 0 ≤ v ∧ v < c.height)
    (h1 : x - 160 ≤ u ∧ u ≤ x + 160) (h2 : y - 160 ≤ v ∧ v ≤ y + 160) : has (c.near (c.of x y)) (c.of u v) = true := by
  rw [near_has (of_is hr hx hy)]
  have hi := (Config.is_iff hr).1 (of_is hr hu hv)
  refine ⟨hi, ?_⟩
  obtain ⟨a1, a2, a3⟩ := of_eq hr hx hy
  obtain ⟨b1, b2, b3⟩ := of_eq hr hu hv
  obtain ⟨hc, hrr, _⟩ := Config.right_iff.1 hr
  have p := row_col (a := c.cols) (q := y.tdiv 1024) (p := x.tdiv 1024) (by omega) a2 a3.1
  have q := row_col (a := c.cols) (q := v.tdiv 1024) (p := u.tdiv 1024) (by omega) b2 b3.1
  unfold isNear
  rw [a1, b1, p.1, p.2, q.1, q.2, decide_eq_true_eq]
  rw [Int.tdiv_eq_ediv_of_nonneg hx.1, Int.tdiv_eq_ediv_of_nonneg hy.1, Int.tdiv_eq_ediv_of_nonneg hu.1, Int.tdiv_eq_ediv_of_nonneg hv.1]
  omega
theorem near_self {c : Config} {r : Int} (h : c.is r = true) : has (c.near r) r = true := by
  rw [near_has h]
  exact ⟨(Config.is_iff (Config.is_right h)).1 h, by simp [isNear]⟩
/-- A place in a region, by chance. -/
theorem place_of {c : Config} {r f o1 o2 a b : Int} (h : c.is r = true) : (0 ≤ placeX c r f a o1 ∧ placeX c r f a o1 < c.width) ∧ (0 ≤ placeY c r f b o2 ∧ placeY c r f b o2 < c.height) ∧ c.of (placeX c r f a o1) (placeY c r f b o2) = r := by
  have hr := Config.is_right h
  have hi := (Config.is_iff hr).1 h
  obtain ⟨hc, hrr, _⟩ := Config.right_iff.1 hr
  have hw : c.width = c.cols * 1024 := by simp [Config.width, hr]
  have hh : c.height = c.rows * 1024 := by simp [Config.height, hr]
  have b1 := below_le (n := 1024) (seed := c.seed) (l := [a, f, o1]) (by decide)
  have b2 := below_le (n := 1024) (seed := c.seed) (l := [b, f, o2]) (by decide)
  have k1 := tdiv_le (v := r) (k := c.cols) (m := c.rows) (by omega) (by omega) (by omega)
  have k2 := tmod_le (v := r) (k := c.cols) (by omega) (by omega)
  have e := Int.tmod_add_tdiv_mul r c.cols
  have hx : 0 ≤ placeX c r f a o1 ∧ placeX c r f a o1 < c.width := by unfold placeX Config.cornerX; rw [if_pos h]; omega
  have hy : 0 ≤ placeY c r f b o2 ∧ placeY c r f b o2 < c.height := by unfold placeY Config.cornerY; rw [if_pos h]; omega
  refine ⟨hx, hy, ?_⟩
  rw [(of_eq hr hx hy).1, Int.tdiv_eq_ediv_of_nonneg hx.1, Int.tdiv_eq_ediv_of_nonneg hy.1]
  unfold placeX placeY Config.cornerX Config.cornerY
  rw [if_pos h, if_pos h]
  have d1 : (r.tmod c.cols * 1024 + below 1024 c.seed [a, f, o1]) / 1024 = r.tmod c.cols := by omega
  have d2 : (r.tdiv c.cols * 1024 + below 1024 c.seed [b, f, o2]) / 1024 = r.tdiv c.cols := by omega
  rw [d1, d2]
  omega
end Go.Eva

/- Eva, part 65: hits turn nothing but players' health; in plain words. -/
namespace Go.Eva

theorem gt_self {α : Type} [Inhabited α] {l : List α} {i : Nat} (h : i < l.length) : l.set i (gt l i) = l := by
  rw [gt_eq h]; exact List.set_getElem_self h
/-- An entity but for a player's health. -/
def core (e : Entity) : Entity := if e.kind = 1 then { e with health := 0 } else e
theorem core_eq {a b : Entity} (h : core a = core b) : a.id = b.id ∧ a.kind = b.kind ∧ a.x = b.x ∧ a.y = b.y ∧ a.vx = b.vx ∧ a.vy = b.vy ∧ a.age = b.age ∧ a.owner = b.owner ∧ (a.kind ≠ 1 → a = b) := by
  have hk : ∀ e : Entity, (core e).kind = e.kind := fun e => by unfold core; split <;> rfl
  have e1 : a.kind = b.kind := by rw [← hk a, ← hk b, h]
  unfold core at h
  by_cases k : a.kind = 1
  · rw [if_pos k, if_pos (by omega)] at h
    cases a; cases b
    simp only [Entity.mk.injEq] at h ⊢
    simp_all
  · rw [if_neg k, if_neg (by omega)] at h
    subst h
    simp
theorem core_health {e : Entity} {n : Int} (h : e.kind = 1) : core { e with health := n } = core e := by
  unfold core; simp only [h, if_true]
theorem core_set {l : List Entity} {k : Nat} {n : Int} (hk : k < l.length) (h : (gt l k).kind = 1) : (l.set k { gt l k with health := n }).map core = l.map core := by
  rw [List.map_set, core_health h]
  apply List.ext_getElem?
  intro i
  rw [List.getElem?_set]
  split
  · rename_i hik
    subst hik
    rw [List.length_map, if_pos hk, List.getElem?_map, get_gt hk, Option.map_some]
  · rfl
theorem core_mem {l m : List Entity} (h : l.map core = m.map core) {e : Entity} (he : e ∈ l) : ∃ x ∈ m, core e = core x := by
  have : core e ∈ l.map core := List.mem_map_of_mem he
  rw [h] at this
  obtain ⟨x, h1, h2⟩ := List.mem_map.1 this
  exact ⟨x, h1, h2.symm⟩
theorem core_ids {l m : List Entity} (h : l.map core = m.map core) : l.map Entity.id = m.map Entity.id := by
  have hk : ∀ e : Entity, (core e).id = e.id := fun e => by unfold core; split <;> rfl
  have h2 := congrArg (List.map Entity.id) h
  rw [List.map_map, List.map_map] at h2
  have e : Entity.id ∘ core = Entity.id := funext hk
  rwa [e] at h2
theorem core_kinds {l m : List Entity} (h : l.map core = m.map core) : l.map Entity.kind = m.map Entity.kind := by
  have hk : ∀ e : Entity, (core e).kind = e.kind := fun e => by unfold core; split <;> rfl
  have h2 := congrArg (List.map Entity.kind) h
  rw [List.map_map, List.map_map] at h2
  have e : Entity.kind ∘ core = Entity.kind := funext hk
  rwa [e] at h2
theorem core_things {l m : List Entity} (h : l.map core = m.map core) : things l = things m := by
  have h2 := core_kinds h
  have e : ∀ l : List Entity, things l = ((l.map Entity.kind).countP fun k => k != 1 : Nat) := fun l => by
    unfold things; rw [List.countP_map]; rfl
  rw [e, e, h2]
theorem core_gt {l m : List Entity} (h : l.map core = m.map core) {i : Nat} (hi : i < l.length) : core (gt l i) = core (gt m i) := by
  have hl : l.length = m.length := by simpa using congrArg List.length h
  have := congrArg (fun x => x[i]?) h
  simp only [List.getElem?_map, get_gt hi, get_gt (l := m) (i := i) (by omega), Option.map_some, Option.some.injEq] at this
  exact this
theorem weak_core {c : Config} {a b : Entity} (h : core a = core b) (hb : weak c b) (ha : a.kind = 1 → a.health ≤ 100) : weak c a := by
  obtain ⟨h1, h2, h3, h4, h5, h6, h7, h8, h9⟩ := core_eq h
  by_cases k : a.kind = 1
  · refine ⟨?_, ha k, fun q => absurd k q⟩
    have := hb.1
    have e : ({ a with health := 1 } : Entity) = { b with health := 1 } := by cases a; cases b; simp_all
    rw [e]; exact this
  · rw [h9 k]; exact hb
theorem moved_core {c : Config} {r : Int} {l m : List Entity} (h : l.map core = m.map core) (hm : Moved c r m) (hh : ∀ e ∈ l, e.kind = 1 → e.health ≤ 100) : Moved c r l := by
  refine ⟨srt_ids (core_ids h).symm hm.srt, by rw [core_things h]; exact hm.things, fun e he => ?_⟩
  obtain ⟨x, hx, hc⟩ := core_mem h he
  obtain ⟨h1, h2⟩ := hm.ents x hx
  refine ⟨weak_core hc h1 (hh e he), ?_⟩
  obtain ⟨_, _, k3, k4, _⟩ := core_eq hc
  rw [k3, k4]; exact h2

section
variable {kind far : Int} {other : Entity → Entity → Bool} {turn : Int → Int}
theorem meet1_ok {out : List Entity} {gone : List Bool} {i : Nat} (hk : kind ≠ 1) (hi : i < out.length) (hg : gone.length = out.length) (ht : ∀ n, n ≤ 100 → turn n ≤ 100) (hh : ∀ e ∈ out, e.kind = 1 → e.health ≤ 100) (hf : ∀ j, gt gone j = true → (gt out j).kind = kind) :
    (meet1 kind far other turn out gone i).1.map core = out.map core ∧ (∀ e ∈ (meet1 kind far other turn out gone i).1, e.kind = 1 → e.health ≤ 100) ∧
      (meet1 kind far other turn out gone i).2.length = out.length ∧ ∀ j, gt (meet1 kind far other turn out gone i).2 j = true → (gt (meet1 kind far other turn out gone i).1 j).kind = kind := by
  unfold meet1
  split
  · rename_i hki
    split
    · rename_i k hq
      obtain ⟨hk1, hk2, _⟩ := List.findIdx?_eq_some_iff_getElem.1 hq
      simp only [meetP, Bool.and_eq_true, decide_eq_true_eq] at hk2
      rw [← gt_eq hk1] at hk2
      have hc := core_set (n := turn (gt out k).health) hk1 hk2.1
      refine ⟨hc, fun e he hek => ?_, by simpa using hg, fun j hj => ?_⟩
      · rcases set_mem he with rfl | he
        · exact ht _ (hh _ (gt_mem hk1) hk2.1)
        · exact hh e he hek
      · have hlen : (out.set k { gt out k with health := turn (gt out k).health }).length = out.length := by simp
        by_cases hij : j = i
        · subst hij
          have := core_eq (core_gt hc (i := j) (by rw [hlen]; exact hi))
          simp only
          rw [this.2.1]; exact hki
        · simp only at hj ⊢
          rw [gt_set (by omega), if_neg hij] at hj
          have hj2 := hf j hj
          by_cases hjl : j < out.length
          · have := core_eq (core_gt hc (i := j) (by rw [hlen]; exact hjl))
            rw [this.2.1]; exact hj2
          · exfalso
            unfold gt at hj
            rw [List.getElem?_eq_none (by omega)] at hj
            simp at hj
    · exact ⟨rfl, hh, hg, hf⟩
  · exact ⟨rfl, hh, hg, hf⟩
theorem meetN_ok (hk : kind ≠ 1) (ht : ∀ n, n ≤ 100 → turn n ≤ 100) : ∀ {d i : Nat} {out : List Entity} {gone : List Bool}, i + d = out.length → gone.length = out.length → (∀ e ∈ out, e.kind = 1 → e.health ≤ 100) → (∀ j, gt gone j = true → (gt out j).kind = kind) →
    (meetN kind far other turn d i out gone).1.map core = out.map core ∧ (∀ e ∈ (meetN kind far other turn d i out gone).1, e.kind = 1 → e.health ≤ 100) ∧
      (meetN kind far other turn d i out gone).2.length = out.length ∧ ∀ j, gt (meetN kind far other turn d i out gone).2 j = true → (gt (meetN kind far other turn d i out gone).1 j).kind = kind
  | 0, i, out, gone, _, hg, hh, hf => ⟨rfl, hh, hg, hf⟩
  | d + 1, i, out, gone, hi, hg, hh, hf => by
    obtain ⟨h1, h2, h3, h4⟩ := meet1_ok (far := far) (other := other) (turn := turn) (i := i) hk (by omega) hg ht hh hf
    have hl : (meet1 kind far other turn out gone i).1.length = out.length := by simpa using congrArg List.length h1
    obtain ⟨k1, k2, k3, k4⟩ := meetN_ok hk ht (d := d) (i := i + 1) (by omega) (by omega) h2 h4
    rw [meetN]
    exact ⟨k1.trans h1, k2, by omega, k4⟩
theorem keepL_sub : ∀ {l : List Entity} {g : List Bool}, (keepL l g).Sublist l
  | [], _ => by simp [keepL]
  | e :: l, [] => by simp [keepL]
  | e :: l, b :: g => by
    rw [keepL]
    split
    · exact (keepL_sub (l := l) (g := g)).cons _
    · exact (keepL_sub (l := l) (g := g)).cons_cons _
theorem keepL_players : ∀ {l : List Entity} {g : List Bool}, g.length = l.length → (∀ j, gt g j = true → (gt l j).kind ≠ 1) → (keepL l g).filter (fun e => decide (e.kind = 1)) = l.filter fun e => decide (e.kind = 1)
  | [], _, _, _ => by simp [keepL]
  | e :: l, [], h, _ => by simp at h
  | e :: l, b :: g, h, hf => by
    rw [keepL, List.filter_append, keepL_players (l := l) (g := g) (by simpa using h) fun j hj => hf (j + 1) hj]
    split
    · rename_i hb
      have := hf 0 hb
      rw [List.filter_cons, if_neg (by simpa [gt] using this)]
      simp
    · rw [List.filter_cons, List.filter_cons]
      split <;> simp
end
/-- What a list of entities is turned into by hits: some things are gone, players' health is another. -/
structure Hit (l m : List Entity) : Prop where
  sub : ∃ k : List Entity, l.Sublist k ∧ k.map core = m.map core ∧ l.filter (fun e => decide (e.kind = 1)) = k.filter fun e => decide (e.kind = 1)
  low : ∀ e ∈ l, e.kind = 1 → e.health ≤ 100
theorem meetL_hit {kind far : Int} {other : Entity → Entity → Bool} {turn : Int → Int} {l : List Entity} (hk : kind ≠ 1) (ht : ∀ n, n ≤ 100 → turn n ≤ 100) (hh : ∀ e ∈ l, e.kind = 1 → e.health ≤ 100) : Hit (meetL kind far other turn l) l := by
  obtain ⟨h1, h2, h3, h4⟩ := meetN_ok (far := far) (other := other) (turn := turn) hk ht (d := l.length) (i := 0) (out := l) (gone := List.replicate l.length false) (by omega) (by simp) hh fun j hj => by
    exfalso
    unfold gt at hj
    rw [List.getElem?_replicate] at hj
    split at hj <;> simp at hj
  have hl : (meetN kind far other turn l.length 0 l (List.replicate l.length false)).1.length = l.length := by simpa using congrArg List.length h1
  refine ⟨⟨_, keepL_sub, h1, keepL_players (by omega) fun j hj => by rw [h4 j hj]; exact hk⟩, fun e he => h2 e (keepL_sub.subset he)⟩
theorem Hit.moved {c : Config} {r : Int} {l m : List Entity} (h : Hit l m) (hm : Moved c r m) : Moved c r l := by
  obtain ⟨⟨k, h1, h2, h3⟩, h4⟩ := h
  refine ⟨(srt_ids (core_ids h2).symm hm.srt).sublist h1, ?_, fun e he => ?_⟩
  · have := things_sub h1
    rw [core_things h2] at this
    have := hm.things
    omega
  · obtain ⟨x, hx, hc⟩ := core_mem h2 (h1.subset he)
    obtain ⟨g1, g2⟩ := hm.ents x hx
    refine ⟨weak_core hc g1 (h4 e he), ?_⟩
    obtain ⟨_, _, k3, k4, _⟩ := core_eq hc
    rw [k3, k4]; exact g2
theorem pl_ids {k m : List Entity} (h : k.map core = m.map core) : (k.filter fun e => decide (e.kind = 1)).map Entity.id = (m.filter fun e => decide (e.kind = 1)).map Entity.id := by
  have hk : ∀ e : Entity, (core e).kind = e.kind := fun e => by unfold core; split <;> rfl
  have hi : ∀ e : Entity, (core e).id = e.id := fun e => by unfold core; split <;> rfl
  have e : ∀ l : List Entity, (l.filter fun e => decide (e.kind = 1)).map Entity.id = ((l.map core).filter fun e => decide (e.kind = 1)).map Entity.id := fun l => by
    rw [List.filter_map, List.map_map]
    have e1 : Entity.id ∘ core = Entity.id := funext hi
    have e2 : (fun e : Entity => decide (e.kind = 1)) ∘ core = fun e => decide (e.kind = 1) := funext fun e => by simp [hk]
    rw [e1, e2]
  rw [e k, e m, h]
theorem Hit.players {l m : List Entity} (h : Hit l m) : (l.filter fun e => decide (e.kind = 1)).map Entity.id = (m.filter fun e => decide (e.kind = 1)).map Entity.id := by
  obtain ⟨⟨k, h1, h2, h3⟩, h4⟩ := h
  rw [h3, pl_ids h2]
theorem shots_hit {l : List Entity} (hh : ∀ e ∈ l, e.kind = 1 → e.health ≤ 100) : Hit (shotsL l) l :=
  meetL_hit (by decide) (fun n hn => by
    unfold subH
    have h1 : held n ≤ 100 := by unfold held clamp; split <;> (try split) <;> omega
    rw [show held 20 = 20 by decide]
    unfold held clamp at *
    split <;> (try split) <;> omega) hh
theorem gems_hit {l : List Entity} (hh : ∀ e ∈ l, e.kind = 1 → e.health ≤ 100) : Hit (gemsL l) l :=
  meetL_hit (by decide) (fun n hn => by unfold minI; split <;> omega) hh
theorem blasts_core {bs : List Cross} : ∀ {l : List Entity}, (∀ e ∈ l, e.kind = 1 → e.health ≤ 100) → (blastsL l bs).map core = l.map core ∧ ∀ e ∈ blastsL l bs, e.kind = 1 → e.health ≤ 100 := by
  induction bs with
  | nil => intro l h; exact ⟨rfl, h⟩
  | cons b bs ih =>
    intro l h
    have h1 : (l.map (hurtE b)).map core = l.map core := by
      rw [List.map_map]
      congr 1
      funext e
      simp only [Function.comp, hurtE]
      split
      · rename_i hq; exact core_health hq.2.1
      · rfl
    have h2 : ∀ e ∈ l.map (hurtE b), e.kind = 1 → e.health ≤ 100 := by
      intro e he hk
      obtain ⟨x, hx, rfl⟩ := List.mem_map.1 he
      unfold hurtE at hk ⊢
      split
      · rename_i hq
        have := h x hx hq.2.1
        simp only [subH]
        have h1 : held x.health ≤ 100 := by unfold held clamp; split <;> (try split) <;> omega
        rw [show held 10 = 10 by decide]
        unfold held clamp at *
        split <;> (try split) <;> omega
      · rename_i hq
        rw [if_neg hq] at hk
        exact h x hx hk
    obtain ⟨k1, k2⟩ := ih h2
    exact ⟨k1.trans h1, k2⟩
end Go.Eva

/- Hits. -/
namespace Go.Eva.S3
theorem f_hitting_near (e : Entity) (x y far : Int) : Fn cx 115 [e.enc, ti x, ti y, ti far] (.bool (nearE e x y far)) := by
  refine Wp.ev ?_
  refine gg [.a _ _] ⟨o_a (f_fixed_Far e.x e.y x y), trivial⟩ ?_
  exact ge
theorem f_hitting_meet_1 (t p : Entity) (g : Nat) (other : Entity → Entity → Bool) (far : Int) (hb : isFnB cx g = true) (hg : Fn cx g [t.enc, p.enc] (.bool (other t p))) :
    Fn cx 169 [p.enc, .ip 1 (.clo g []) 0, .ip 9 t.enc 0, .ip 1 (ti far) 0] (.bool (meetP far other t p)) := by
  have hn := f_hitting_near p t.x t.y far
  by_cases hk : p.kind = 1
  · cases ho : other t p with
    | true =>
      rw [ho] at hg
      refine Wp.ev ?_
      refine gg [.b (p.kind == 1) true, .tt, .tt, .tt, .w (isFnB cx g = true), .a _ _, .tt, .tt, .tt, .tt, .tt, .tt, .tt, .tt, .a _ _, .tt] ⟨t_bre (by assumption), oA, o_a hg, o_a hn, trivial⟩ ?_
      refine rt (a := Res.mk Ex.ret [vb (nearE p t.x t.y far)] []) (by kernel_rfl) ?_
      simp [meetP, hk, ho]
    | false =>
      rw [ho] at hg
      refine Wp.ev ?_
      refine gg [.b (p.kind == 1) true, .tt, .tt, .tt, .w (isFnB cx g = true), .a _ _, .tt, .ff, .ff, .ff, .ff, .ff, .ff, .ff, .ff] ⟨t_bre (by assumption), oA, o_a hg, trivial⟩ ?_
      refine rt (a := Res.mk Ex.ret [vb false] []) (by kernel_rfl) ?_
      simp [meetP, hk, ho]
  · refine Wp.ev ?_
    refine gg [.b (p.kind == 1) false, .ff, .ff, .ff, .ff, .ff, .ff, .ff, .ff, .ff, .ff, .ff, .ff] ⟨f_bre (by assumption), trivial⟩ ?_
    refine rt (a := Res.mk Ex.ret [vb false] []) (by kernel_rfl) ?_
    simp [meetP, hk]
theorem f_hitting_meet_loop0 (kind far : Int) (g h : Nat) (other : Entity → Entity → Bool) (turn : Int → Int) (n : Nat) (hn : n ≤ 1000000) (hb : isFnB cx g = true) (hb2 : isFnB cx h = true)
    (hg : ∀ t p : Entity, Fn cx g [t.enc, p.enc] (.bool (other t p))) (hh : ∀ v : Int, Fn cx h [ti v] (ti (turn v))) : ∀ (d i : Nat) (out : List Entity) (gone : List Bool), i + d = n → out.length = n → gone.length = n →
    Is cx (.loop 117 [0, 1, 0, 1, 1, 1] 0 [vi kind, .t (.clo h []), .ptr 0 0 0, .ptr 1 0 0, .all 2 none, .all 3 none, .all 2 none, vi n, vi i] [.one 1 (.t (ti far)) false, .one 1 (.t (.clo g [])) false, .arr 9 (out.map Entity.enc) none false, .arr 1 (gone.map T.bool) (some 0) false])
      ⟨.exit 0, [vi kind, .t (.clo h []), .ptr 0 0 0, .ptr 1 0 0, .all 2 none, .all 3 none, .all 2 none, vi n, vi n], [.one 1 (.t (ti far)) false, .one 1 (.t (.clo g [])) false, .arr 9 ((meetN kind far other turn d i out gone).1.map Entity.enc) none false, .arr 1 ((meetN kind far other turn d i out gone).2.map T.bool) (some 0) false]⟩ := by
  intro d
  induction d with
  | zero =>
    intro i out gone hi ho hgo
    unfold meetN
    refine Wp.ev ?_
    refine gg [.b (decide ((↑i : Int) < (↑n : Int))) false] ⟨fP, trivial⟩ ?_
    refine rt (a := Res.mk (Ex.exit 0) [vi kind, V.t (T.clo h []), V.ptr 0 0 0, V.ptr 1 0 0, V.all 2 none, V.all 3 none, V.all 2 none, vi (↑n : Int), vi (↑i : Int)] [Ob.one 1 (vi far) false, Ob.one 1 (V.t (T.clo g [])) false, Ob.arr 9 (List.map Entity.enc out) none false, Ob.arr 1 (List.map T.bool gone) (some 0) false]) (by kernel_rfl) ?_
    ((have hq : i = n := by omega); subst hq; rfl)
  | succ d ih =>
    intro i out gone hi ho hgo
    rw [meetN]
    have hlt : i < out.length := by omega
    by_cases hk : (gt out i).kind = kind
    · have hI := f_slices_IndexFunc_Entity out 169 [.ip 1 (.clo g []) 0, .ip 9 (gt out i).enc 0, .ip 1 (ti far) 0] (meetP far other (gt out i)) (by kernel_rfl) (by unfold small; omega) (fun p _ => f_hitting_meet_1 (gt out i) p g other far hb (hg _ _))
      cases hq : out.findIdx? (meetP far other (gt out i)) with
      | some k =>
        have e1 : meet1 kind far other turn out gone i = (out.set k { gt out k with health := turn (gt out k).health }, gone.set i true) := by simp [meet1, hk, hq]
        rw [e1]
        rw [pos_some hq] at hI
        have hkl := (List.findIdx?_eq_some_iff_getElem.1 hq).1
        have ht := hh (gt out k).health
        have ih1 := ih (i + 1) (out.set k { gt out k with health := turn (gt out k).health }) (gone.set i true) (by omega) (by simpa using ho) (by simpa using hgo)
        clear ih hg hh hq e1
        refine Wp.ev ?_
        refine gg [.b (decide ((↑i : Int) < (↑n : Int))) true, .w ((0 : Int) ≤ (↑i : Int)), .n (Int.toNat (↑i : Int)) i, .w (i < List.length (List.map Entity.enc out)), .g (List.map Entity.enc out) i (Entity.enc (gt out i)), .b ((gt out i).kind != kind) false, .a _ _, .b (flats [ti (↑k : Int)]) true, .b (decide ((↑k : Int) ≥ 0)) true, .w ((0 : Int) ≤ (↑k : Int)), .n (Int.toNat (↑k : Int)) k, .w (k < List.length (List.map Entity.enc out)), .g (List.map Entity.enc out) k (Entity.enc (gt out k)), .w (isFnB cx h = true), .a _ _, .w ((0 : Int) ≤ (↑k : Int))] ⟨tP, oW, o_n (by kernel_rfl), o_w (by (simp; omega)), o_gt rfl (by assumption) (by intro h; cases h), f_brn (by assumption), o_a hI, o_b (by kernel_rfl), o_b (by kernel_rfl), oW, o_n (by kernel_rfl), o_w (by (simp; omega)), o_gt rfl (by assumption) (by intro h; cases h), oA, o_a ht, oW, trivial⟩ ?_
        refine gg [.n (Int.toNat (↑k : Int)) k, .w (k < List.length (List.map Entity.enc out)), .g (List.map Entity.enc out) k (Entity.enc (gt out k)), .t (T.sl 0 (List.set (List.map Entity.enc out) k (T.agg [ti (gt out k).id, ti (gt out k).kind, ti (gt out k).x, ti (gt out k).y, ti (gt out k).vx, ti (gt out k).vy, ti (turn (gt out k).health), ti (gt out k).age, ti (gt out k).owner]))) (T.sl 0 (List.map Entity.enc (List.set out k (Entity.mk (gt out k).id (gt out k).kind (gt out k).x (gt out k).y (gt out k).vx (gt out k).vy (turn (gt out k).health) (gt out k).age (gt out k).owner)))), .w ((0 : Int) ≤ (↑i : Int)), .n (Int.toNat (↑i : Int)) i, .w (i < List.length (List.map T.bool gone)), .g (List.map T.bool gone) i (T.bool (gt gone i)), .t (T.sl 0 (List.set (List.map T.bool gone) i (T.bool true))) (T.sl 0 (List.map T.bool (List.set gone i true))), .i IntKind.i64 ((↑i : Int) + 1) ((↑(i + 1) : Int)), .a _ _] ⟨o_n (by kernel_rfl), o_w (by (simp; omega)), o_gt rfl (by assumption) (by intro h; cases h), o_l (nm_set (e := Entity.mk (gt out k).id (gt out k).kind (gt out k).x (gt out k).y (gt out k).vx (gt out k).vy (turn (gt out k).health) (gt out k).age (gt out k).owner) rfl rfl), oW, o_n (by kernel_rfl), o_w (by (simp; omega)), oT, o_l (nm_set rfl rfl), oI, o_a ih1, trivial⟩ ?_
        exact ge
      | none =>
        have e1 : meet1 kind far other turn out gone i = (out, gone) := by simp [meet1, hk, hq]
        rw [e1]
        rw [pos_none hq] at hI
        have ih1 := ih (i + 1) out gone (by omega) ho hgo
        clear ih hg hh hq e1
        refine Wp.ev ?_
        refine gg [.b (decide ((↑i : Int) < (↑n : Int))) true, .w ((0 : Int) ≤ (↑i : Int)), .n (Int.toNat (↑i : Int)) i, .w (i < List.length (List.map Entity.enc out)), .g (List.map Entity.enc out) i (Entity.enc (gt out i)), .b ((gt out i).kind != kind) false, .a _ _, .b (flats [ti (-1)]) true, .b (decide (-1 ≥ 0)) false, .i IntKind.i64 ((↑i : Int) + 1) ((↑(i + 1) : Int)), .a _ _] ⟨tP, oW, o_n (by kernel_rfl), o_w (by (simp; omega)), o_gt rfl (by assumption) (by intro h; cases h), f_brn (by assumption), o_a hI, o_b (by kernel_rfl), o_b (by kernel_rfl), oI, o_a ih1, trivial⟩ ?_
        exact ge
    · have e1 : meet1 kind far other turn out gone i = (out, gone) := by simp [meet1, hk]
      rw [e1]
      have ih1 := ih (i + 1) out gone (by omega) ho hgo
      clear ih hg hh e1
      refine Wp.ev ?_
      refine gg [.b (decide ((↑i : Int) < (↑n : Int))) true, .w ((0 : Int) ≤ (↑i : Int)), .n (Int.toNat (↑i : Int)) i, .w (i < List.length (List.map Entity.enc out)), .g (List.map Entity.enc out) i (Entity.enc (gt out i)), .b ((gt out i).kind != kind) true, .i IntKind.i64 ((↑i : Int) + 1) ((↑(i + 1) : Int)), .a _ _] ⟨tP, oW, o_n (by kernel_rfl), o_w (by (simp; omega)), o_gt rfl (by assumption) (by intro h; cases h), t_brn (by assumption), oI, o_a ih1, trivial⟩ ?_
      exact ge
theorem f_hitting_meet_loop1 (out : List Entity) (gone : List Bool) (hn : small out) (hgo : gone.length = out.length) : ∀ (d i : Nat) (A : List Entity), i + d = out.length → A.length ≤ i →
    Is cx (.loop 117 [0, 1, 0, 1, 1, 1, 1, 1] 0 [.all 0 none, .all 1 none, .all 2 none, vi out.length, vi i] [.arr 1 (gone.map T.bool) (some 0) false, .arr 9 (A.map Entity.enc) none false, .arr 9 (out.map Entity.enc) none false])
      ⟨.exit 2, [.all 0 none, .all 1 none, .all 2 none, vi out.length, vi out.length], [.arr 1 (gone.map T.bool) (some 0) false, .arr 9 ((A ++ keepL (out.drop i) (gone.drop i)).map Entity.enc) none false, .arr 9 (out.map Entity.enc) none false]⟩ := by
  unfold small at hn
  intro d
  induction d with
  | zero =>
    intro i A hi hA
    rw [drop_end (l := out) (by omega)]
    refine Wp.ev ?_
    refine gg [.b (decide ((↑i : Int) < (↑(List.length out) : Int))) false] ⟨fP, trivial⟩ ?_
    refine rt (a := Res.mk (Ex.exit 2) [V.all 0 none, V.all 1 none, V.all 2 none, vi (↑(List.length out) : Int), vi (↑i : Int)] [Ob.arr 1 (List.map T.bool gone) (some 0) false, Ob.arr 9 (List.map Entity.enc A) none false, Ob.arr 9 (List.map Entity.enc out) none false]) (by kernel_rfl) ?_
    ((have hq : i = out.length := by omega); subst hq; simp [keepL])
  | succ d ih =>
    intro i A hi hA
    have hlt : i < out.length := by omega
    have hlt2 : i < gone.length := by omega
    have ih1 := ih (i + 1) A (by omega) (by omega)
    have ih2 := ih (i + 1) (A ++ [gt out i]) (by omega) (by simp; omega)
    clear ih
    rw [drop_gt hlt, drop_gt hlt2, keepL]
    cases hg : gt gone i with
    | true =>
      have hx : (gone.map T.bool)[i]? = some (T.bool true) := by rw [List.getElem?_map, get_gt hlt2, hg]; rfl
      simp only [if_true, List.nil_append]
      clear ih2
      refine Wp.ev ?_
      refine gg [.b (decide ((↑i : Int) < (↑(List.length out) : Int))) true, .w ((0 : Int) ≤ (↑i : Int)), .n (Int.toNat (↑i : Int)) i, .w (i < List.length (List.map Entity.enc out)), .g (List.map Entity.enc out) i (Entity.enc (gt out i)), .w ((0 : Int) ≤ (↑i : Int)), .n (Int.toNat (↑i : Int)) i, .w (i < List.length (List.map T.bool gone)), .g (List.map T.bool gone) i (T.bool (gt gone i)), .b (!gt gone i) false, .i IntKind.i64 ((↑i : Int) + 1) ((↑(i + 1) : Int)), .a _ _] ⟨tP, oW, o_n (by kernel_rfl), o_w (by (simp; omega)), o_gt rfl (by assumption) (by intro h; cases h), oW, o_n (by kernel_rfl), o_w (by (simp; omega)), o_gt rfl (by assumption) (by intro h; cases h), f_brnot (by assumption), oI, o_a ih1, trivial⟩ ?_
      exact ge
    | false =>
      have hx : (gone.map T.bool)[i]? = some (T.bool false) := by rw [List.getElem?_map, get_gt hlt2, hg]; rfl
      simp only [Bool.false_eq_true, if_false]
      rw [← List.append_assoc]
      clear ih1
      refine Wp.ev ?_
      refine gg [.b (decide ((↑i : Int) < (↑(List.length out) : Int))) true, .w ((0 : Int) ≤ (↑i : Int)), .n (Int.toNat (↑i : Int)) i, .w (i < List.length (List.map Entity.enc out)), .g (List.map Entity.enc out) i (Entity.enc (gt out i)), .w ((0 : Int) ≤ (↑i : Int)), .n (Int.toNat (↑i : Int)) i, .w (i < List.length (List.map T.bool gone)), .g (List.map T.bool gone) i (T.bool (gt gone i)), .b (!gt gone i) true, .w ((0 : Nat) < (72 : Nat)), .t (T.sl 0 [Entity.enc (gt out i)]) (T.sl 0 (List.map Entity.enc [gt out i])), .t (T.sl 0 (List.map Entity.enc A ++ List.map Entity.enc [gt out i])) (T.sl 0 (List.map Entity.enc (A ++ [gt out i]))), .w (room (List.length (List.map Entity.enc (A ++ [gt out i]))) (72 : Nat)), .i IntKind.i64 ((↑i : Int) + 1) ((↑(i + 1) : Int)), .a _ _] ⟨tP, oW, o_n (by kernel_rfl), o_w (by (simp [room, appendMax]; omega)), o_gt rfl (by assumption) (by intro h; cases h), oW, o_n (by kernel_rfl), o_w (by (simp [room, appendMax]; omega)), o_gt rfl (by assumption) (by intro h; cases h), t_brnot (by assumption), oW, o_l (nm_cons rfl nm_nil), o_l (nm_app rfl rfl), o_w (by (simp [room, appendMax]; omega)), o_i (w64 (by (simp [room, appendMax]; omega))), o_a ih2, trivial⟩ ?_
      exact ge
theorem f_hitting_meet (l : List Entity) (kind far : Int) (g h : Nat) (other : Entity → Entity → Bool) (turn : Int → Int) (hn : small l) (hb : isFnB cx g = true) (hb2 : isFnB cx h = true)
    (hg : ∀ t p : Entity, Fn cx g [t.enc, p.enc] (.bool (other t p))) (hh : ∀ v : Int, Fn cx h [ti v] (ti (turn v))) :
    Is cx (.call 117 [.t (.sl 9 (l.map Entity.enc)), vi kind, vi far, .t (.clo g []), .t (.clo h [])] []) ⟨.ret, [.all 0 none], [.arr 9 ((meetL kind far other turn l).map Entity.enc) none false]⟩ := by
  have hn' : l.length ≤ 1000000 := hn
  have h0 := f_hitting_meet_loop0 kind far g h other turn l.length hn hb hb2 hg hh l.length 0 l (List.replicate l.length false) (by omega) rfl (by simp)
  unfold meetL
  have hlen : ∀ (d i : Nat) (out : List Entity) (gone : List Bool), (meetN kind far other turn d i out gone).1.length = out.length ∧ (meetN kind far other turn d i out gone).2.length = gone.length := by
    intro d
    induction d with
    | zero => intros; exact ⟨rfl, rfl⟩
    | succ d ih =>
      intro i out gone
      rw [meetN]
      obtain ⟨h1, h2⟩ := ih (i + 1) (meet1 kind far other turn out gone i).1 (meet1 kind far other turn out gone i).2
      rw [h1, h2]
      unfold meet1
      split
      · split <;> simp
      · exact ⟨rfl, rfl⟩
  obtain ⟨l1, l2⟩ := hlen l.length 0 l (List.replicate l.length false)
  simp only [List.length_replicate] at l2
  rw [List.map_replicate] at h0
  generalize (meetN kind far other turn l.length 0 l (List.replicate l.length false)).1 = X at *
  generalize (meetN kind far other turn l.length 0 l (List.replicate l.length false)).2 = Y at *
  have h1 := f_hitting_meet_loop1 X Y (by unfold small; omega) (by omega) X.length 0 [] (by omega) (by simp)
  rw [List.drop_zero, List.drop_zero, List.nil_append] at h1
  clear hlen hg hh
  refine Wp.ev ?_
  refine gg [.a _ _, .n (List.length (List.map Entity.enc l)) (List.length l), .w ((0 : Int) ≤ (↑(List.length l) : Int) ∧ (↑(List.length l) : Int) ≤ (↑(List.length l) : Int) ∧ room (Int.toNat (↑(List.length l) : Int)) (1 : Nat)), .n (Int.toNat (↑(List.length l) : Int)) (List.length l), .n (List.length (List.map Entity.enc l)) (List.length l), .a _ _, .n (List.length (List.map Entity.enc X)) (List.length X), .a _ _] ⟨o_a (f_slices_Clone_Entity l (by assumption)), o_n (by simp), o_w ⟨(by omega), ⟨(by omega), (by (simp [room, appendMax]; omega))⟩⟩, o_n (by kernel_rfl), o_n (by simp), o_a h0, o_n (by simp), o_a h1, trivial⟩ ?_
  exact ge
theorem f_hitting_Shots_1 (t p : Entity) : Fn cx 121 [t.enc, p.enc] (.bool (decide (p.id ≠ t.owner))) := by
  refine Wp.ev ?_
  refine rt (a := Res.mk Ex.ret [vb (p.id != t.owner)] []) (by kernel_rfl) ?_
  simp [bned]
theorem f_hitting_Shots_2 (v : Int) : Fn cx 122 [ti v] (ti (subH v 20)) := by
  refine Wp.ev ?_
  refine gg [.a _ _] ⟨o_a (f_fixed_Sub v 20), trivial⟩ ?_
  exact ge
theorem f_hitting_Gems_1 (t p : Entity) : Fn cx 118 [t.enc, p.enc] (.bool true) := by
  refine Wp.ev ?_
  exact ge
theorem f_hitting_Gems_2 (v : Int) : Fn cx 119 [ti v] (ti (minI (sumH [v, 25]) 100)) := by
  have h := f_fixed_Add [v, 25] (by simp [small])
  refine Wp.ev ?_
  refine gg [.a _ _, .s (ti (minI (sumH [v, 25]) 100))] ⟨o_a h, trivial⟩ ?_
  exact ge
theorem f_hitting_Shots (l : List Entity) (hn : small l) : Is cx (.call 66 [.t (.sl 9 (l.map Entity.enc))] []) ⟨.ret, [.all 0 none], [.arr 9 ((shotsL l).map Entity.enc) none false]⟩ := by
  have h := f_hitting_meet l 2 24 121 122 (fun s p => decide (p.id ≠ s.owner)) (fun h => subH h 20) hn (by kernel_rfl) (by kernel_rfl) (fun t p => f_hitting_Shots_1 t p) (fun v => f_hitting_Shots_2 v)
  change Is cx _ ⟨_, _, [.arr 9 ((shotsL l).map Entity.enc) none false]⟩ at h
  generalize shotsL l = X at *
  refine Wp.ev ?_
  refine gg [.a _ _] ⟨o_a h, trivial⟩ ?_
  exact ge
theorem f_hitting_Gems (l : List Entity) (hn : small l) : Is cx (.call 65 [.t (.sl 9 (l.map Entity.enc))] []) ⟨.ret, [.all 0 none], [.arr 9 ((gemsL l).map Entity.enc) none false]⟩ := by
  have h := f_hitting_meet l 3 32 118 119 (fun _ _ => true) (fun h => minI (sumH [h, 25]) 100) hn (by kernel_rfl) (by kernel_rfl) (fun t p => f_hitting_Gems_1 t p) (fun v => f_hitting_Gems_2 v)
  change Is cx _ ⟨_, _, [.arr 9 ((gemsL l).map Entity.enc) none false]⟩ at h
  generalize gemsL l = X at *
  refine Wp.ev ?_
  refine gg [.a _ _] ⟨o_a h, trivial⟩ ?_
  exact ge
theorem map_from {b : Cross} {A : List Entity} {j : Nat} (h : j < A.length) : (A.set j (hurtE b (gt A j))).take (j + 1) ++ ((A.set j (hurtE b (gt A j))).drop (j + 1)).map (hurtE b) = A.take j ++ (A.drop j).map (hurtE b) := by
  rw [drop_gt h, List.map_cons, List.drop_set_of_lt (by omega), List.take_add_one, List.take_set_of_le (by omega)]
  simp [h]
theorem f_hitting_Blasts_inner (b : Cross) (bl : List Cross) (i : Nat) : ∀ (d j : Nat) (A : List Entity), j + d = A.length → small A →
    Is cx (.loop 64 [0, 1, 1, 0, 0, 1, 1, 0, 0, 1, 0, 1, 1] 0 [.all 0 none, .ptr 1 0 0, .t (.sl 15 (bl.map Cross.enc)), vi bl.length, vi i, vi A.length, vi j] [.arr 9 (A.map Entity.enc) none false, .one 15 (.t b.enc) false])
      ⟨.exit 2, [.all 0 none, .ptr 1 0 0, .t (.sl 15 (bl.map Cross.enc)), vi bl.length, vi i, vi A.length, vi A.length], [.arr 9 ((A.take j ++ (A.drop j).map (hurtE b)).map Entity.enc) none false, .one 15 (.t b.enc) false]⟩ := by
  intro d
  induction d with
  | zero =>
    intro j A hj hn
    unfold small at hn
    rw [drop_end (by omega), List.take_of_length_le (by omega)]
    refine Wp.ev ?_
    refine gg [.b (decide ((↑j : Int) < (↑(List.length A) : Int))) false] ⟨fP, trivial⟩ ?_
    refine rt (a := Res.mk (Ex.exit 2) [V.all 0 none, V.ptr 1 0 0, V.t (T.sl 15 (List.map Cross.enc bl)), vi (↑(List.length bl) : Int), vi (↑i : Int), vi (↑(List.length A) : Int), vi (↑j : Int)] [Ob.arr 9 (List.map Entity.enc A) none false, Ob.one 15 (V.t (Cross.enc b)) false]) (by kernel_rfl) ?_
    ((have hq : j = A.length := by omega); subst hq; simp)
  | succ d ih =>
    intro j A hj hn
    have hlt : j < A.length := by omega
    have ih1 := ih (j + 1) (A.set j (hurtE b (gt A j))) (by simp; omega) (by unfold small at *; simpa using hn)
    rw [map_from hlt, List.length_set] at ih1
    clear ih
    unfold small at hn
    have hN := f_hitting_near (gt A j) b.x b.y 128
    have hS := f_fixed_Sub (gt A j).health 10
    by_cases hk : b.kind = 2
    · by_cases hp : (gt A j).kind = 1
      · cases hq : nearE (gt A j) b.x b.y 128 with
        | true =>
          rw [hq] at hN
          have e : hurtE b (gt A j) = { gt A j with health := subH (gt A j).health 10 } := by simp [hurtE, hk, hp, hq]
          rw [e] at ih1
          refine Wp.ev ?_
          refine gg [.b (decide ((↑j : Int) < (↑(List.length A) : Int))) true, .w ((0 : Int) ≤ (↑j : Int)), .n (Int.toNat (↑j : Int)) j, .w (j < List.length (List.map Entity.enc A)), .b (b.kind == 2) true, .tt, .tt, .tt, .g (List.map Entity.enc A) j (Entity.enc (gt A j)), .tt, .tt, .b ((gt A j).kind == 1) true, .tt, .tt, .tt, .tt] ⟨tP, oW, o_n (by kernel_rfl), o_w (by (simp; omega)), t_bre (by assumption), o_gt rfl (by assumption) (by intro h; cases h), t_bre (by assumption), trivial⟩ ?_
          refine gg [.g (List.map Entity.enc A) j (Entity.enc (gt A j)), .tt, .tt, .tt, .a _ _, .tt, .tt, .g (List.map Entity.enc A) j (Entity.enc (gt A j)), .a _ _, .g (List.map Entity.enc A) j (Entity.enc (gt A j)), .t (T.sl 0 (List.set (List.map Entity.enc A) j (T.agg [ti (gt A j).id, ti (gt A j).kind, ti (gt A j).x, ti (gt A j).y, ti (gt A j).vx, ti (gt A j).vy, ti (subH (gt A j).health 10), ti (gt A j).age, ti (gt A j).owner]))) (T.sl 0 (List.map Entity.enc (List.set A j (Entity.mk (gt A j).id (gt A j).kind (gt A j).x (gt A j).y (gt A j).vx (gt A j).vy (subH (gt A j).health 10) (gt A j).age (gt A j).owner)))), .i IntKind.i64 ((↑j : Int) + 1) ((↑(j + 1) : Int)), .a _ _] ⟨o_gt rfl (by assumption) (by intro h; cases h), o_a hN, o_gt rfl (by assumption) (by intro h; cases h), o_a hS, o_gt rfl (by assumption) (by intro h; cases h), o_l (nm_set (e := Entity.mk (gt A j).id (gt A j).kind (gt A j).x (gt A j).y (gt A j).vx (gt A j).vy (subH (gt A j).health 10) (gt A j).age (gt A j).owner) rfl rfl), oI, o_a ih1, trivial⟩ ?_
          exact ge
        | false =>
          rw [hq] at hN
          have e : hurtE b (gt A j) = gt A j := by simp [hurtE, hq]
          rw [e, gt_self hlt] at ih1
          refine Wp.ev ?_
          refine gg [.b (decide ((↑j : Int) < (↑(List.length A) : Int))) true, .w ((0 : Int) ≤ (↑j : Int)), .n (Int.toNat (↑j : Int)) j, .w (j < List.length (List.map Entity.enc A)), .b (b.kind == 2) true, .tt, .tt, .tt, .g (List.map Entity.enc A) j (Entity.enc (gt A j)), .tt, .tt, .b ((gt A j).kind == 1) true, .tt, .tt, .tt, .tt] ⟨tP, oW, o_n (by kernel_rfl), o_w (by (simp; omega)), t_bre (by assumption), o_gt rfl (by assumption) (by intro h; cases h), t_bre (by assumption), trivial⟩ ?_
          refine gg [.g (List.map Entity.enc A) j (Entity.enc (gt A j)), .tt, .tt, .tt, .a _ _, .tt, .ff, .i IntKind.i64 ((↑j : Int) + 1) ((↑(j + 1) : Int)), .a _ _] ⟨o_gt rfl (by assumption) (by intro h; cases h), o_a hN, oI, o_a ih1, trivial⟩ ?_
          exact ge
      · have e : hurtE b (gt A j) = gt A j := by simp [hurtE, hp]
        rw [e, gt_self hlt] at ih1
        refine Wp.ev ?_
        refine gg [.b (decide ((↑j : Int) < (↑(List.length A) : Int))) true, .w ((0 : Int) ≤ (↑j : Int)), .n (Int.toNat (↑j : Int)) j, .w (j < List.length (List.map Entity.enc A)), .b (b.kind == 2) true, .tt, .tt, .tt, .g (List.map Entity.enc A) j (Entity.enc (gt A j)), .tt, .tt, .b ((gt A j).kind == 1) false, .ff, .ff, .ff, .ff] ⟨tP, oW, o_n (by kernel_rfl), o_w (by (simp; omega)), t_bre (by assumption), o_gt rfl (by assumption) (by intro h; cases h), f_bre (by assumption), trivial⟩ ?_
        refine gg [.ff, .ff, .ff, .ff, .ff, .i IntKind.i64 ((↑j : Int) + 1) ((↑(j + 1) : Int)), .a _ _] ⟨oI, o_a ih1, trivial⟩ ?_
        exact ge
    · have e : hurtE b (gt A j) = gt A j := by simp [hurtE, hk]
      rw [e, gt_self hlt] at ih1
      refine Wp.ev ?_
      refine gg [.b (decide ((↑j : Int) < (↑(List.length A) : Int))) true, .w ((0 : Int) ≤ (↑j : Int)), .n (Int.toNat (↑j : Int)) j, .w (j < List.length (List.map Entity.enc A)), .b (b.kind == 2) false, .ff, .ff, .ff, .ff, .ff, .ff, .ff, .ff, .ff, .ff, .ff] ⟨tP, oW, o_n (by kernel_rfl), o_w (by (simp; omega)), f_bre (by assumption), trivial⟩ ?_
      refine gg [.ff, .ff, .ff, .ff, .i IntKind.i64 ((↑j : Int) + 1) ((↑(j + 1) : Int)), .a _ _] ⟨oI, o_a ih1, trivial⟩ ?_
      exact ge
theorem f_hitting_Blasts_outer (bl : List Cross) (hb : small bl) : ∀ (d i : Nat) (A : List Entity), i + d = bl.length → small A →
    Is cx (.loop 64 [0, 1, 0, 1, 1] 0 [.all 0 none, .t (.sl 15 (bl.map Cross.enc)), vi bl.length, vi i] [.arr 9 (A.map Entity.enc) none false])
      ⟨.exit 0, [.all 0 none, .t (.sl 15 (bl.map Cross.enc)), vi bl.length, vi bl.length], [.arr 9 ((blastsL A (bl.drop i)).map Entity.enc) none false]⟩ := by
  unfold small at hb
  intro d
  induction d with
  | zero =>
    intro i A hi hn
    rw [drop_end (by omega)]
    refine Wp.ev ?_
    refine gg [.b (decide ((↑i : Int) < (↑(List.length bl) : Int))) false] ⟨fP, trivial⟩ ?_
    refine rt (a := Res.mk (Ex.exit 0) [V.all 0 none, V.t (T.sl 15 (List.map Cross.enc bl)), vi (↑(List.length bl) : Int), vi (↑i : Int)] [Ob.arr 9 (List.map Entity.enc A) none false]) (by kernel_rfl) ?_
    ((have hq : i = bl.length := by omega); subst hq; rfl)
  | succ d ih =>
    intro i A hi hn
    have hlt : i < bl.length := by omega
    have ih1 := ih (i + 1) (A.map (hurtE (gt bl i))) (by omega) (by unfold small at *; simpa using hn)
    have h1 := f_hitting_Blasts_inner (gt bl i) bl i A.length 0 A (by omega) hn
    rw [List.take_zero, List.drop_zero, List.nil_append] at h1
    clear ih
    unfold small at hn
    rw [drop_gt hlt]
    change Is cx _ ⟨_, _, [.arr 9 ((blastsL (A.map (hurtE (gt bl i))) (bl.drop (i + 1))).map Entity.enc) none false]⟩
    generalize A.map (hurtE (gt bl i)) = B at *
    refine Wp.ev ?_
    refine gg [.b (decide ((↑i : Int) < (↑(List.length bl) : Int))) true, .w ((0 : Int) ≤ (↑i : Int)), .n (Int.toNat (↑i : Int)) i, .g (List.map Cross.enc bl) i (Cross.enc (gt bl i)), .n (List.length (List.map Entity.enc A)) (List.length A), .a _ _, .i IntKind.i64 ((↑i : Int) + 1) ((↑(i + 1) : Int)), .a _ _] ⟨tP, oW, o_n (by kernel_rfl), o_gt rfl (by assumption) (by intro h; cases h), o_n (by simp), o_a h1, oI, o_a ih1, trivial⟩ ?_
    exact ge
theorem f_hitting_Blasts (l : List Entity) (bl : List Cross) (hn : small l) (hb : small bl) : Is cx (.call 64 [.t (.sl 9 (l.map Entity.enc)), .t (.sl 15 (bl.map Cross.enc))] []) ⟨.ret, [.all 0 none], [.arr 9 ((blastsL l bl).map Entity.enc) none false]⟩ := by
  have h := f_hitting_Blasts_outer bl hb bl.length 0 l (by omega) hn
  rw [List.drop_zero] at h
  refine Wp.ev ?_
  refine gg [.a _ _, .n (List.length (List.map Cross.enc bl)) (List.length bl), .a _ _] ⟨o_a (f_slices_Clone_Entity l (by assumption)), o_n (by simp), o_a h, trivial⟩ ?_
  exact ge
theorem f_hitting_Fallen_loop (l : List Entity) (hn : small l) : ∀ (d i : Nat) (A : List Int), i + d = l.length → A.length ≤ i →
    Is cx (.loop 123 [0, 1, 0, 1, 1] 1 [.all 1 none, .all 0 none, vi l.length, vi i] [.arr 9 (l.map Entity.enc) none false, .arr 1 (A.map ti) none false])
      ⟨.exit 0, [.all 1 none, .all 0 none, vi l.length, vi l.length], [.arr 9 (l.map Entity.enc) none false, .arr 1 ((A ++ fallenL (l.drop i)).map ti) none false]⟩ := by
  unfold small at hn
  intro d
  induction d with
  | zero =>
    intro i A hi hA
    rw [drop_end (by omega)]
    refine Wp.ev ?_
    refine gg [.b (decide ((↑i : Int) < (↑(List.length l) : Int))) false] ⟨fP, trivial⟩ ?_
    refine rt (a := Res.mk (Ex.exit 0) [V.all 1 none, V.all 0 none, vi (↑(List.length l) : Int), vi (↑i : Int)] [Ob.arr 9 (List.map Entity.enc l) none false, Ob.arr 1 (List.map ti A) none false]) (by kernel_rfl) ?_
    ((have hq : i = l.length := by omega); subst hq; simp [fallenL])
  | succ d ih =>
    intro i A hi hA
    have hlt : i < l.length := by omega
    have ih1 := ih (i + 1) A (by omega) (by omega)
    have ih2 := ih (i + 1) (A ++ [(gt l i).id]) (by omega) (by simp; omega)
    clear ih
    unfold fallenL at *
    rw [filter_gt _ hlt]
    refine Wp.ev ?_
    refine gg [.b (decide ((↑i : Int) < (↑(List.length l) : Int))) true, .w ((0 : Int) ≤ (↑i : Int)), .n (Int.toNat (↑i : Int)) i, .w (i < List.length (List.map Entity.enc l)), .g (List.map Entity.enc l) i (Entity.enc (gt l i))] ⟨tP, oW, o_n (by kernel_rfl), o_w (by (simp [room, appendMax]; omega)), o_gt rfl (by assumption) (by intro h; cases h), trivial⟩ ?_
    refine bre (x := (gt l i).kind) (y := 1) (by kernel_rfl) (fun h1 => ?_) (fun h1 => ?_)
    · refine gg [.tt, .tt, .tt] trivial ?_
      refine brp (p := (gt l i).health ≤ 0) (by kernel_rfl) (fun h2 => ?_) (fun h2 => ?_)
      · refine gg [.w ((0 : Nat) < (8 : Nat)), .t (T.sl 0 [ti (gt l i).id]) (T.sl 0 (List.map (T.int IntKind.i64) [(gt l i).id])), .t (T.sl 0 (List.map ti A ++ List.map (T.int IntKind.i64) [(gt l i).id])) (T.sl 0 (List.map ti (A ++ [(gt l i).id]))), .w (room (List.length (List.map ti (A ++ [(gt l i).id]))) (8 : Nat)), .i IntKind.i64 ((↑i : Int) + 1) ((↑(i + 1) : Int)), .a _ _] ⟨oW, o_l (nm_cons rfl nm_nil), o_l (nm_app rfl rfl), o_w (by (simp [room, appendMax]; omega)), o_i (w64 (by (simp [room, appendMax]; omega))), o_a ih2, trivial⟩ ?_
        refine rt (a := Res.mk (Ex.exit 0) [V.all 1 none, V.all 0 none, vi (↑(List.length l) : Int), vi (↑(List.length l) : Int)] [Ob.arr 9 (List.map Entity.enc l) none false, Ob.arr 1 (List.map ti (A ++ [(gt l i).id] ++ List.map Entity.id (List.filter fallenP (List.drop (i + 1) l)))) none false]) (by kernel_rfl) ?_
        (simp_all [fallenP]; try omega)
      · refine gg [.i IntKind.i64 ((↑i : Int) + 1) ((↑(i + 1) : Int)), .a _ _] ⟨o_i (w64 (by (simp [room, appendMax]; omega))), o_a ih1, trivial⟩ ?_
        refine rt (a := Res.mk (Ex.exit 0) [V.all 1 none, V.all 0 none, vi (↑(List.length l) : Int), vi (↑(List.length l) : Int)] [Ob.arr 9 (List.map Entity.enc l) none false, Ob.arr 1 (List.map ti (A ++ List.map Entity.id (List.filter fallenP (List.drop (i + 1) l)))) none false]) (by kernel_rfl) ?_
        (simp_all [fallenP]; try omega)
    · refine gg [.ff, .ff, .ff, .ff, .i IntKind.i64 ((↑i : Int) + 1) ((↑(i + 1) : Int)), .a _ _] ⟨o_i (w64 (by (simp [room, appendMax]; omega))), o_a ih1, trivial⟩ ?_
      refine rt (a := Res.mk (Ex.exit 0) [V.all 1 none, V.all 0 none, vi (↑(List.length l) : Int), vi (↑(List.length l) : Int)] [Ob.arr 9 (List.map Entity.enc l) none false, Ob.arr 1 (List.map ti (A ++ List.map Entity.id (List.filter fallenP (List.drop (i + 1) l)))) none false]) (by kernel_rfl) ?_
      (simp_all [fallenP]; try omega)
theorem f_hitting_Fallen (l : List Entity) (hn : small l) : Is cx (.call 123 [.all 0 none] [.arr 9 (l.map Entity.enc) none false]) ⟨.ret, [.all 1 none], [.arr 9 (l.map Entity.enc) none false, .arr 1 ((fallenL l).map ti) none false]⟩ := by
  have h := f_hitting_Fallen_loop l hn l.length 0 [] (by omega) (by simp)
  rw [List.drop_zero, List.nil_append] at h
  generalize fallenL l = X at *
  refine Wp.ev ?_
  refine gg [.n (List.length (List.map Entity.enc l)) (List.length l), .a _ _] ⟨o_n (by simp), o_a h, trivial⟩ ?_
  exact ge
end Go.Eva.S3

/- A region: what may be asked, who arrives, numbers and places. -/
namespace Go.Eva.S3
theorem f_slices_ContainsFunc_Entity (l : List Entity) (g : Nat) (cs : List T) (p : Entity → Bool) (hb : isFnB cx g = true) (hn : small l)
    (hg : ∀ e ∈ l, Fn cx g (e.enc :: cs) (.bool (p e))) : Fn cx 95 [.sl 9 (l.map Entity.enc), .clo g cs] (.bool (l.any p)) := by
  have h := f_slices_IndexFunc_Entity l g cs p hb hn hg
  clear hg
  cases hq : l.findIdx? p with
  | some k =>
    rw [pos_some hq] at h
    have e : l.any p = true := by
      obtain ⟨hk, h1, _⟩ := List.findIdx?_eq_some_iff_getElem.1 hq
      exact List.any_eq_true.2 ⟨_, List.getElem_mem hk, h1⟩
    rw [e]
    refine Wp.ev ?_
    refine gg [.a _ _] ⟨o_a h, trivial⟩ ?_
    exact ge
  | none =>
    rw [pos_none hq] at h
    have e : l.any p = false := by
      rw [List.any_eq_false]
      intro x hx
      simpa using List.findIdx?_eq_none_iff.1 hq x hx
    rw [e]
    refine Wp.ev ?_
    refine gg [.a _ _] ⟨o_a h, trivial⟩ ?_
    exact ge
theorem f_slices_ContainsFunc_Cross (l : List Cross) (g : Nat) (cs : List T) (p : Cross → Bool) (hb : isFnB cx g = true) (hn : small l)
    (hg : ∀ e ∈ l, Fn cx g (e.enc :: cs) (.bool (p e))) : Fn cx 105 [.sl 15 (l.map Cross.enc), .clo g cs] (.bool (l.any p)) := by
  have h := f_slices_IndexFunc_Cross l g cs p hb hn hg
  clear hg
  cases hq : l.findIdx? p with
  | some k =>
    rw [pos_some hq] at h
    have e : l.any p = true := by
      obtain ⟨hk, h1, _⟩ := List.findIdx?_eq_some_iff_getElem.1 hq
      exact List.any_eq_true.2 ⟨_, List.getElem_mem hk, h1⟩
    rw [e]
    refine Wp.ev ?_
    refine gg [.a _ _] ⟨o_a h, trivial⟩ ?_
    exact ge
  | none =>
    rw [pos_none hq] at h
    have e : l.any p = false := by
      rw [List.any_eq_false]
      intro x hx
      simpa using List.findIdx?_eq_none_iff.1 hq x hx
    rw [e]
    refine Wp.ev ?_
    refine gg [.a _ _] ⟨o_a h, trivial⟩ ?_
    exact ge
theorem f_slices_ContainsFunc_Input (l : List Input) (g : Nat) (cs : List T) (p : Input → Bool) (hb : isFnB cx g = true) (hn : small l)
    (hg : ∀ e ∈ l, Fn cx g (e.enc :: cs) (.bool (p e))) : Fn cx 102 [.sl 3 (l.map Input.enc), .clo g cs] (.bool (l.any p)) := by
  have h := f_slices_IndexFunc_Input l g cs p hb hn hg
  clear hg
  cases hq : l.findIdx? p with
  | some k =>
    rw [pos_some hq] at h
    have e : l.any p = true := by
      obtain ⟨hk, h1, _⟩ := List.findIdx?_eq_some_iff_getElem.1 hq
      exact List.any_eq_true.2 ⟨_, List.getElem_mem hk, h1⟩
    rw [e]
    refine Wp.ev ?_
    refine gg [.a _ _] ⟨o_a h, trivial⟩ ?_
    exact ge
  | none =>
    rw [pos_none hq] at h
    have e : l.any p = false := by
      rw [List.any_eq_false]
      intro x hx
      simpa using List.findIdx?_eq_none_iff.1 hq x hx
    rw [e]
    refine Wp.ev ?_
    refine gg [.a _ _] ⟨o_a h, trivial⟩ ?_
    exact ge
theorem f_region_is (c : Config) (r : Int) : Fn cx 92 [c.enc, ti r] (.bool (c.is r)) := by
  have h1 := @Config.regions_le c
  refine Wp.ev ?_
  refine brp (p := r ≥ 0) (by kernel_rfl) (fun h1 => ?_) (fun h1 => ?_)
  · refine gg [.tt, .tt, .a _ _, .tt, .tt] ⟨o_a (f_grid_Regions c), trivial⟩ ?_
    refine rt (a := Res.mk Ex.ret [vb (decide (r < Config.regions c))] []) (by kernel_rfl) ?_
    (simp only [Config.is, within]; first | rfl | (congr 3; rw [Bool.eq_iff_iff]; simp; omega))
  · refine gg [.ff, .ff, .ff, .ff] trivial ?_
    refine rt (a := Res.mk Ex.ret [vb false] []) (by kernel_rfl) ?_
    (simp only [Config.is, within]; first | rfl | (congr 3; rw [Bool.eq_iff_iff]; simp; omega))
theorem f_region_Right_1 (c : Config) (r : Int) (e : Entity) : Fn cx 96 [e.enc, .ip 5 c.enc 0, .ip 1 (ti r) 0] (.bool (!(e.right c && decide (c.of e.x e.y = r)))) := by
  have h1 := f_entity_Right c e
  have h2 := f_grid_Of c e.x e.y
  cases hr : e.right c with
  | true =>
    rw [hr] at h1
    refine Wp.ev ?_
    refine gg [.a _ _, .b (!true) false, .ff, .ff, .ff, .ff, .ff, .ff, .a _ _, .ff, .ff] ⟨o_a h1, o_b (by kernel_rfl), o_a h2, trivial⟩ ?_
    refine rt (a := Res.mk Ex.ret [vb (Config.of c e.x e.y != r)] []) (by kernel_rfl) ?_
    simp [bned]
  | false =>
    rw [hr] at h1
    refine Wp.ev ?_
    refine gg [.a _ _, .b (!false) true, .tt, .tt, .tt, .tt, .tt, .tt, .tt, .tt] ⟨o_a h1, o_b (by kernel_rfl), trivial⟩ ?_
    refine rt (a := Res.mk Ex.ret [vb true] []) (by kernel_rfl) ?_
    simp
theorem f_region_Right (c : Config) (r : Int) (s : Region) (hn : small s.ents) : Fn cx 54 [c.enc, ti r, s.enc] (.bool (regionRight c r s)) := by
  have q1 := f_region_is c r
  have q2 := f_entity_Sorted s.ents hn
  have q3 := f_entity_Things s.ents hn
  have q4 := f_slices_ContainsFunc_Entity s.ents 96 [.ip 5 c.enc 0, .ip 1 (ti r) 0] (fun e => !(e.right c && decide (c.of e.x e.y = r))) (by kernel_rfl) hn (fun e _ => f_region_Right_1 c r e)
  have e4 : (s.ents.any fun e => !(e.right c && decide (c.of e.x e.y = r))) = !(s.ents.all fun e => e.right c && decide (c.of e.x e.y = r)) := by rw [List.any_eq_not_all_not]; simp
  rw [e4] at q4
  unfold regionRight within
  generalize c.is r = b1 at *
  generalize sortedL s.ents = b2 at *
  generalize things s.ents = n3 at *
  generalize (s.ents.all fun e => e.right c && decide (c.of e.x e.y = r)) = b4 at *
  obtain ⟨f, l⟩ := s
  refine Wp.ev ?_
  refine gg [.a _ _] ⟨o_a q1, trivial⟩ ?_
  refine brnot (b := b1) (by kernel_rfl) (fun h1 => ?_) (fun h1 => ?_)
  · refine gg [.tt, .tt, .tt, .tt, .tt, .tt, .tt, .tt, .tt, .tt, .tt, .tt, .tt, .tt, .tt, .tt] trivial ?_
    refine gg [.tt, .tt] trivial ?_
    refine rt (a := Res.mk Ex.ret [vb false] []) (by kernel_rfl) ?_
    (simp_all; try omega)
  · refine gg [.ff, .ff, .ff] trivial ?_
    refine brp (p := f < 0) (by kernel_rfl) (fun h2 => ?_) (fun h2 => ?_)
    · refine gg [.tt, .tt, .tt, .tt, .tt, .tt, .tt, .tt, .tt, .tt, .tt, .tt, .tt, .tt] trivial ?_
      refine rt (a := Res.mk Ex.ret [vb false] []) (by kernel_rfl) ?_
      (simp_all; try omega)
    · refine gg [.ff, .ff, .ff] trivial ?_
      refine brp (p := f > 10000) (by kernel_rfl) (fun h3 => ?_) (fun h3 => ?_)
      · refine gg [.tt, .tt, .tt, .tt, .tt, .tt, .tt, .tt, .tt, .tt] trivial ?_
        refine rt (a := Res.mk Ex.ret [vb false] []) (by kernel_rfl) ?_
        (simp_all; try omega)
      · refine gg [.ff, .ff, .a _ _, .ff, .ff] ⟨o_a q2, trivial⟩ ?_
        refine brnot (b := b2) (by kernel_rfl) (fun h4 => ?_) (fun h4 => ?_)
        · refine gg [.tt, .tt, .tt, .tt, .tt] trivial ?_
          refine rt (a := Res.mk Ex.ret [vb false] []) (by kernel_rfl) ?_
          (simp_all; try omega)
        · refine gg [.ff, .ff, .a _ _, .ff, .ff] ⟨o_a q3, trivial⟩ ?_
          refine brp (p := n3 > 24) (by kernel_rfl) (fun h5 => ?_) (fun h5 => ?_)
          · refine rt (a := Res.mk Ex.ret [vb false] []) (by kernel_rfl) ?_
            (simp_all; try omega)
          · refine gg [.a _ _, .b (flats [T.bool !b4]) true] ⟨o_a q4, o_b (by kernel_rfl), trivial⟩ ?_
            refine rt (a := Res.mk Ex.ret [vb !!b4] []) (by kernel_rfl) ?_
            (simp_all; try omega)
theorem f_region_asked_1 (i : Input) : Fn cx 103 [i.enc] (.bool (!i.right)) := by
  refine Wp.ev ?_
  refine gg [.a _ _] ⟨o_a (f_input_Right i), trivial⟩ ?_
  exact ge
theorem f_region_asked_2 (c : Config) (r : Int) (s : Region) (m : Cross) (hf : 0 ≤ s.frame ∧ s.frame ≤ 10000) : Fn cx 106 [m.enc, .ip 5 c.enc 0, .ip 1 (ti r) 0, .ip 2 s.enc 0] (.bool (!(m.right c && decide (m.to = r) && decide (m.frame = s.frame - 1)))) := by
  have h := f_cross_Right c m
  obtain ⟨f, l⟩ := s
  simp only at hf
  generalize m.right c = b at *
  cases b with
  | true => refine Wp.ev ?_
            refine gg [.a _ _, .b (!true) false, .ff, .ff, .ff, .ff] ⟨o_a h, o_b (by kernel_rfl), trivial⟩ ?_
            refine brn (x := m.to) (y := r) (by kernel_rfl) (fun h1 => ?_) (fun h1 => ?_)
            · refine gg [.tt, .tt, .tt, .tt, .tt, .tt] trivial ?_
              refine rt (a := Res.mk Ex.ret [vb true] []) (by kernel_rfl) ?_
              (simp_all [bned]; try omega)
            · refine gg [.ff, .ff, .ff, .ff, .i IntKind.i64 (f - 1) (f - 1), .ff, .ff] ⟨oI, trivial⟩ ?_
              refine rt (a := Res.mk Ex.ret [vb (m.frame != f - 1)] []) (by kernel_rfl) ?_
              (simp_all [bned]; try omega)
  | false => refine Wp.ev ?_
             refine gg [.a _ _, .b (!false) true, .tt, .tt, .tt, .tt, .tt, .tt, .tt, .tt, .tt, .tt, .tt] ⟨o_a h, o_b (by kernel_rfl), trivial⟩ ?_
             refine rt (a := Res.mk Ex.ret [vb true] []) (by kernel_rfl) ?_
             simp
theorem f_region_asked (c : Config) (r : Int) (s : Region) (ins : List Input) (inbox : List Cross) (hn : small s.ents) (hi : small ins) (hb : small inbox) :
    Fn cx 60 [c.enc, ti r, s.enc, .sl 3 (ins.map Input.enc), .sl 15 (inbox.map Cross.enc)] (ti (askedE c r s ins inbox)) := by
  have h1 := f_region_is c r
  have h2 := f_region_Right c r s hn
  have h3 := f_slices_ContainsFunc_Input ins 103 [] (fun i => !i.right) (by kernel_rfl) hi (fun i _ => f_region_asked_1 i)
  unfold askedE
  cases q1 : c.is r with
  | false =>
    rw [q1] at h1
    clear h2 h3
    rw [if_pos rfl]
    obtain ⟨f, l⟩ := s
    refine Wp.ev ?_
    refine gg [.a _ _, .b (!false) true] ⟨o_a h1, o_b (by kernel_rfl), trivial⟩ ?_
    exact ge
  | true =>
    rw [q1] at h1
    rw [if_neg (by simp)]
    cases q2 : regionRight c r s with
    | false =>
      rw [q2] at h2
      clear h3
      rw [if_pos rfl]
      obtain ⟨f, l⟩ := s
      refine Wp.ev ?_
      refine gg [.a _ _, .b (!true) false, .a _ _, .b (!false) true] ⟨o_a h1, o_b (by kernel_rfl), o_a h2, o_b (by kernel_rfl), trivial⟩ ?_
      exact ge
    | true =>
      rw [q2] at h2
      rw [if_neg (by simp)]
      have hf := (regionRight_iff.1 q2).2.1
      have h4 := f_slices_ContainsFunc_Cross inbox 106 [.ip 5 c.enc 0, .ip 1 (ti r) 0, .ip 2 s.enc 0] (fun m => !(m.right c && decide (m.to = r) && decide (m.frame = s.frame - 1))) (by kernel_rfl) hb (fun m _ => f_region_asked_2 c r s m hf)
      clear q2
      obtain ⟨f, l⟩ := s
      simp only at hf h4 ⊢
      unfold small at hi
      generalize (ins.any fun i => !i.right) = b3 at *
      generalize (inbox.any fun m => !(m.right c && decide (m.to = r) && decide (m.frame = f - 1))) = b4 at *
      refine Wp.ev ?_
      refine gg [.a _ _, .b (!true) false, .a _ _, .b (!true) false, .n (List.length (List.map Input.enc ins)) (List.length ins)] ⟨o_a h1, o_b (by kernel_rfl), o_a h2, o_b (by kernel_rfl), o_n (by simp), trivial⟩ ?_
      refine brn (x := (↑(List.length ins) : Int)) (y := c.players) (by kernel_rfl) (fun h1 => ?_) (fun h1 => ?_)
      · refine gg [.tt, .tt, .tt] trivial ?_
        refine rt (a := Res.mk Ex.ret [vi 11] []) (by kernel_rfl) ?_
        (simp_all; try omega)
      · refine gg [.ff, .a _ _, .ff] ⟨o_a h3, trivial⟩ ?_
        refine br (b := b3) (by kernel_rfl) (fun h2 => ?_) (fun h2 => ?_)
        · refine rt (a := Res.mk Ex.ret [vi 11] []) (by kernel_rfl) ?_
          (simp_all; try omega)
        · refine gg [.a _ _, .b (flats [T.bool b4]) true] ⟨o_a h4, o_b (by kernel_rfl), trivial⟩ ?_
          refine br (b := b4) (by kernel_rfl) (fun h3 => ?_) (fun h3 => ?_)
          · refine rt (a := Res.mk Ex.ret [vi 1] []) (by kernel_rfl) ?_
            (simp_all; try omega)
          · refine bre (x := f) (y := 10000) (by kernel_rfl) (fun h4 => ?_) (fun h4 => ?_)
            · refine rt (a := Res.mk Ex.ret [vi 16] []) (by kernel_rfl) ?_
              (simp_all; try omega)
            · refine rt (a := Res.mk Ex.ret [vi 0] []) (by kernel_rfl) ?_
              (simp_all; try omega)
theorem f_region_Arrive_loop (inbox : List Cross) (hb : inbox.length ≤ 100000) : ∀ (d i : Nat) (A : List Entity), i + d = inbox.length → A.length ≤ 100000 + i →
    Is cx (.loop 61 [0, 1, 0, 1, 1] 0 [.all 0 none, .t (.sl 15 (inbox.map Cross.enc)), vi inbox.length, vi i] [.arr 9 (A.map Entity.enc) none false])
      ⟨.exit 0, [.all 0 none, .t (.sl 15 (inbox.map Cross.enc)), vi inbox.length, vi inbox.length], [.arr 9 ((arriveL A (inbox.drop i)).map Entity.enc) none false]⟩ := by
  intro d
  induction d with
  | zero =>
    intro i A hi hA
    rw [drop_end (by omega)]
    refine Wp.ev ?_
    refine gg [.b (decide ((↑i : Int) < (↑(List.length inbox) : Int))) false] ⟨fP, trivial⟩ ?_
    refine rt (a := Res.mk (Ex.exit 0) [V.all 0 none, V.t (T.sl 15 (List.map Cross.enc inbox)), vi (↑(List.length inbox) : Int), vi (↑i : Int)] [Ob.arr 9 (List.map Entity.enc A) none false]) (by kernel_rfl) ?_
    ((have hq : i = inbox.length := by omega); subst hq; rfl)
  | succ d ih =>
    intro i A hi hA
    have hlt : i < inbox.length := by omega
    rw [drop_gt hlt]
    change Is cx _ ⟨_, _, [.arr 9 ((arriveL (arrive1 A (gt inbox i)) (inbox.drop (i + 1))).map Entity.enc) none false]⟩
    have hT := f_entity_Things A (by unfold small; omega)
    have hP := f_entity_Put A [(gt inbox i).ent] (by omega) (by simp)
    change Is cx _ ⟨_, _, [.arr 9 ((put1 A (gt inbox i).ent).map Entity.enc) none false]⟩ at hP
    have hl := @put1_len A (gt inbox i).ent
    have ih1 := ih (i + 1) A (by omega) (by omega)
    have ih2 := ih (i + 1) (put1 A (gt inbox i).ent) (by omega) (by omega)
    clear ih hl
    by_cases hk : (gt inbox i).kind = 1
    · by_cases he : (gt inbox i).ent.kind = 1
      · have e : arrive1 A (gt inbox i) = put1 A (gt inbox i).ent := by simp [arrive1, hk, he]
        rw [e]
        generalize put1 A (gt inbox i).ent = B at *
        refine Wp.ev ?_
        refine gg [.b (decide ((↑i : Int) < (↑(List.length inbox) : Int))) true, .w ((0 : Int) ≤ (↑i : Int)), .n (Int.toNat (↑i : Int)) i, .g (List.map Cross.enc inbox) i (Cross.enc (gt inbox i)), .b ((gt inbox i).kind == 1) true, .tt, .tt, .tt, .tt, .b ((gt inbox i).ent.kind == 1) true, .tt, .tt, .tt, .tt, .tt, .tt] ⟨tP, oW, o_n (by kernel_rfl), o_gt rfl (by assumption) (by intro h; cases h), t_bre (by assumption), t_bre (by assumption), trivial⟩ ?_
        refine gg [.a _ _, .i IntKind.i64 ((↑i : Int) + 1) ((↑(i + 1) : Int)), .a _ _] ⟨o_a hP, oI, o_a ih2, trivial⟩ ?_
        exact ge
      · by_cases ht : things A < 24
        · have e : arrive1 A (gt inbox i) = put1 A (gt inbox i).ent := by simp [arrive1, hk, ht]
          rw [e]
          generalize put1 A (gt inbox i).ent = B at *
          generalize things A = n at *
          refine Wp.ev ?_
          refine gg [.b (decide ((↑i : Int) < (↑(List.length inbox) : Int))) true, .w ((0 : Int) ≤ (↑i : Int)), .n (Int.toNat (↑i : Int)) i, .g (List.map Cross.enc inbox) i (Cross.enc (gt inbox i)), .b ((gt inbox i).kind == 1) true, .tt, .tt, .tt, .tt, .b ((gt inbox i).ent.kind == 1) false, .ff, .a _ _, .b (flats [ti n]) true, .ff, .tt, .ff] ⟨tP, oW, o_n (by kernel_rfl), o_gt rfl (by assumption) (by intro h; cases h), t_bre (by assumption), f_bre (by assumption), o_a hT, o_b (by kernel_rfl), trivial⟩ ?_
          refine gg [.tt, .b (decide (n < 24)) true, .a _ _, .i IntKind.i64 ((↑i : Int) + 1) ((↑(i + 1) : Int)), .a _ _] ⟨t_brp (by assumption), o_a hP, oI, o_a ih2, trivial⟩ ?_
          exact ge
        · have e : arrive1 A (gt inbox i) = A := by simp [arrive1, hk, he, ht]
          rw [e]
          generalize put1 A (gt inbox i).ent = B at *
          generalize things A = n at *
          refine Wp.ev ?_
          refine gg [.b (decide ((↑i : Int) < (↑(List.length inbox) : Int))) true, .w ((0 : Int) ≤ (↑i : Int)), .n (Int.toNat (↑i : Int)) i, .g (List.map Cross.enc inbox) i (Cross.enc (gt inbox i)), .b ((gt inbox i).kind == 1) true, .tt, .tt, .tt, .tt, .b ((gt inbox i).ent.kind == 1) false, .ff, .a _ _, .b (flats [ti n]) true, .ff, .tt, .ff] ⟨tP, oW, o_n (by kernel_rfl), o_gt rfl (by assumption) (by intro h; cases h), t_bre (by assumption), f_bre (by assumption), o_a hT, o_b (by kernel_rfl), trivial⟩ ?_
          refine gg [.tt, .b (decide (n < 24)) false, .i IntKind.i64 ((↑i : Int) + 1) ((↑(i + 1) : Int)), .a _ _] ⟨f_brp (by assumption), oI, o_a ih1, trivial⟩ ?_
          exact ge
    · have e : arrive1 A (gt inbox i) = A := by simp [arrive1, hk]
      rw [e]
      generalize put1 A (gt inbox i).ent = B at *
      refine Wp.ev ?_
      refine gg [.b (decide ((↑i : Int) < (↑(List.length inbox) : Int))) true, .w ((0 : Int) ≤ (↑i : Int)), .n (Int.toNat (↑i : Int)) i, .g (List.map Cross.enc inbox) i (Cross.enc (gt inbox i)), .b ((gt inbox i).kind == 1) false, .ff, .ff, .ff, .ff, .ff, .ff, .ff, .i IntKind.i64 ((↑i : Int) + 1) ((↑(i + 1) : Int)), .a _ _] ⟨tP, oW, o_n (by kernel_rfl), o_gt rfl (by assumption) (by intro h; cases h), f_bre (by assumption), oI, o_a ih1, trivial⟩ ?_
      exact ge
theorem f_region_Arrive (c : Config) (r : Int) (s : Region) (inbox : List Cross) (hn : s.ents.length ≤ 100000) (hb : inbox.length ≤ 100000) :
    Is cx (.call 61 [.t c.enc, vi r, .t s.enc, .t (.sl 15 (inbox.map Cross.enc))] []) ⟨.ret, [.all 0 none], [.arr 9 ((arriveL s.ents inbox).map Entity.enc) none false]⟩ := by
  have h := f_region_Arrive_loop inbox hb inbox.length 0 s.ents (by omega) (by omega)
  rw [List.drop_zero] at h
  obtain ⟨f, l⟩ := s
  simp only at hn h ⊢
  have hs : small l := by unfold small; omega
  refine Wp.ev ?_
  refine gg [.a _ _, .n (List.length (List.map Cross.enc inbox)) (List.length inbox), .a _ _] ⟨o_a (f_slices_Clone_Entity l (by assumption)), o_n (by simp), o_a h, trivial⟩ ?_
  exact ge
theorem f_grid_Corner (c : Config) (r : Int) : Is cx (.call 81 [.t c.enc, vi r] []) ⟨.ret, [vi (c.cornerX r), vi (c.cornerY r)], []⟩ := by
  have h := f_grid_is c r
  unfold Config.cornerX Config.cornerY
  cases hi : c.is r with
  | false =>
    rw [hi] at h
    refine Wp.ev ?_
    refine gg [.a _ _, .b (!false) true] ⟨o_a h, o_b (by kernel_rfl), trivial⟩ ?_
    exact ge
  | true =>
    rw [hi] at h
    have hr := Config.is_right hi
    have hi2 := (Config.is_iff hr).1 hi
    obtain ⟨hc, hrr, _⟩ := Config.right_iff.1 hr
    have k1 := tdiv_le (v := r) (k := c.cols) (m := c.rows) (by omega) (by omega) (by omega)
    have k2 := tmod_le (v := r) (k := c.cols) (by omega) (by omega)
    refine Wp.ev ?_
    refine gg [.a _ _, .b (!true) false, .w (c.cols ≠ (0 : Int)), .s (ti (Int.tmod r c.cols)), .i IntKind.i64 (Int.tmod r c.cols * 1024) (Int.tmod r c.cols * 1024), .w (c.cols ≠ (0 : Int)), .i IntKind.i64 (Int.tdiv r c.cols) (Int.tdiv r c.cols), .i IntKind.i64 (Int.tdiv r c.cols * 1024) (Int.tdiv r c.cols * 1024)] ⟨o_a h, o_b (by kernel_rfl), oW, oI, oW, oI, oI, trivial⟩ ?_
    exact ge
/-- A step under way, as a tree, and as it lies in a heap. -/
def stepT (c : Config) (r f : Int) (s : Stg) : T := .agg [ti c.cols, ti c.rows, ti c.players, ti c.window, .int .u64 c.seed, ti r, ti f, .sl 9 (s.l.map Entity.enc), ti s.made, .sl 15 (s.out.map Cross.enc)]
abbrev stepV (c : Config) (r f made : Int) (lv ov : V) : V := .agg [vi c.cols, vi c.rows, vi c.players, vi c.window, .t (.int .u64 c.seed), vi r, vi f, lv, vi made, ov]
theorem f_region_room (c : Config) (r f : Int) (s : Stg) (hn : small s.l) : Fn cx 110 [.ip 10 (stepT c r f s) 0] (.bool s.room) := by
  have h := f_entity_Things s.l hn
  unfold Stg.room
  obtain ⟨l, made, out⟩ := s
  simp only at h ⊢
  unfold stepT
  generalize things l = n at *
  by_cases h1 : made < 8
  · refine Wp.ev ?_
    refine gg [.b (decide (made < 8)) true, .tt, .tt, .tt, .tt, .a _ _, .tt, .tt] ⟨t_brp (by assumption), o_a h, trivial⟩ ?_
    refine rt (a := Res.mk Ex.ret [vb (decide (n < 24))] []) (by kernel_rfl) ?_
    simp [h1]
  · refine Wp.ev ?_
    refine gg [.b (decide (made < 8)) false, .ff, .ff, .ff, .ff, .ff, .ff] ⟨f_brp (by assumption), trivial⟩ ?_
    refine rt (a := Res.mk Ex.ret [vb false] []) (by kernel_rfl) ?_
    simp [h1]
theorem corner_le {c : Config} {r : Int} : (0 ≤ c.cornerX r ∧ c.cornerX r ≤ 4096) ∧ 0 ≤ c.cornerY r ∧ c.cornerY r ≤ 4096 := by
  unfold Config.cornerX Config.cornerY
  split
  · rename_i hi
    have hr := Config.is_right hi
    have hi2 := (Config.is_iff hr).1 hi
    obtain ⟨hc, hrr, _⟩ := Config.right_iff.1 hr
    have k1 := tdiv_le (v := r) (k := c.cols) (m := c.rows) (by omega) (by omega) (by omega)
    have k2 := tmod_le (v := r) (k := c.cols) (by omega) (by omega)
    omega
  · omega
theorem f_region_place (c : Config) (r f x y o : Int) (s : Stg) : Is cx (.call 125 [.t (.ip 10 (stepT c r f s) 0), vi x, vi y, vi o] []) ⟨.ret, [vi (placeX c r f x o), vi (placeY c r f y o)], []⟩ := by
  have h0 := f_grid_Corner c r
  have h1 := f_chance_Below 1024 c.seed [x, f, o] (by decide) (by simp [small])
  have h2 := f_chance_Below 1024 c.seed [y, f, o] (by decide) (by simp [small])
  have b1 := below_le (n := 1024) (seed := c.seed) (l := [x, f, o]) (by decide)
  have b2 := below_le (n := 1024) (seed := c.seed) (l := [y, f, o]) (by decide)
  have b3 := @corner_le c r
  unfold placeX placeY
  obtain ⟨l, made, out⟩ := s
  unfold stepT
  generalize below 1024 c.seed [x, f, o] = v1 at *
  generalize below 1024 c.seed [y, f, o] = v2 at *
  generalize c.cornerX r = v3 at *
  generalize c.cornerY r = v4 at *
  refine Wp.ev ?_
  refine gg [.a _ _] ⟨o_a h0, trivial⟩ ?_
  refine bo (by kernel_rfl) (bo (by kernel_rfl) ?_ ?_) ?_
  all_goals
    refine gg [.a _ _, .i IntKind.i64 (v3 + v1) (v3 + v1), .a _ _, .i IntKind.i64 (v4 + v2) (v4 + v2)] ⟨o_a h1, oI, o_a h2, oI, trivial⟩ ?_
    exact ge
theorem f_region_number_a (c : Config) (r f made : Int) (l : List Entity) (o : List Cross) (hr : 0 ≤ r ∧ r ≤ 16) (hf : 0 ≤ f ∧ f ≤ 10000) (hm : 0 ≤ made ∧ made ≤ 1000) :
    Is cx (.call 112 [.ptr 0 0 0] [.one 10 (stepV c r f made (.all 1 none) (.fit 15 [])) false, .arr 9 (l.map Entity.enc) none false])
      ⟨.ret, [vi (numI c r f made)], [.one 10 (stepV c r f (made + 1) (.all 1 none) (.fit 15 [])) false, .arr 9 (l.map Entity.enc) none false]⟩ := by
  have h := f_grid_Regions c
  have hl := @Config.regions_le c
  unfold numI
  generalize c.regions = g at *
  have h1 : 0 ≤ f * g ∧ f * g ≤ 160000 := ⟨Int.mul_nonneg hf.1 hl.1, Int.le_trans (Int.mul_le_mul hf.2 hl.2 hl.1 (by omega)) (by omega)⟩
  refine Wp.ev ?_
  refine gg [.i IntKind.i64 (made + 1) (made + 1), .a _ _, .i IntKind.i64 (f * g) (f * g), .i IntKind.i64 (f * g + r) (f * g + r), .i IntKind.i64 ((f * g + r) * 8) ((f * g + r) * 8), .i IntKind.i64 (1000 + (f * g + r) * 8) (1000 + (f * g + r) * 8), .i IntKind.i64 (1000 + (f * g + r) * 8 + (made + 1)) (1000 + (f * g + r) * 8 + (made + 1)), .i IntKind.i64 (1000 + (f * g + r) * 8 + (made + 1) - 1) (1000 + (f * g + r) * 8 + (made + 1) - 1)] ⟨oI, o_a h, oI, oI, oI, oI, oI, oI, trivial⟩ ?_
  exact ge
theorem f_region_number_b (c : Config) (r f made : Int) (l : List Entity) (o : List Cross) (hr : 0 ≤ r ∧ r ≤ 16) (hf : 0 ≤ f ∧ f ≤ 10000) (hm : 0 ≤ made ∧ made ≤ 1000) :
    Is cx (.call 112 [.ptr 0 0 0] [.one 10 (stepV c r f made (.all 1 none) (.all 2 none)) false, .arr 9 (l.map Entity.enc) none false, .arr 15 (o.map Cross.enc) none false])
      ⟨.ret, [vi (numI c r f made)], [.one 10 (stepV c r f (made + 1) (.all 1 none) (.all 2 none)) false, .arr 9 (l.map Entity.enc) none false, .arr 15 (o.map Cross.enc) none false]⟩ := by
  have h := f_grid_Regions c
  have hl := @Config.regions_le c
  unfold numI
  generalize c.regions = g at *
  have h1 : 0 ≤ f * g ∧ f * g ≤ 160000 := ⟨Int.mul_nonneg hf.1 hl.1, Int.le_trans (Int.mul_le_mul hf.2 hl.2 hl.1 (by omega)) (by omega)⟩
  refine Wp.ev ?_
  refine gg [.i IntKind.i64 (made + 1) (made + 1), .a _ _, .i IntKind.i64 (f * g) (f * g), .i IntKind.i64 (f * g + r) (f * g + r), .i IntKind.i64 ((f * g + r) * 8) ((f * g + r) * 8), .i IntKind.i64 (1000 + (f * g + r) * 8) (1000 + (f * g + r) * 8), .i IntKind.i64 (1000 + (f * g + r) * 8 + (made + 1)) (1000 + (f * g + r) * 8 + (made + 1)), .i IntKind.i64 (1000 + (f * g + r) * 8 + (made + 1) - 1) (1000 + (f * g + r) * 8 + (made + 1) - 1)] ⟨oI, o_a h, oI, oI, oI, oI, oI, oI, trivial⟩ ?_
  exact ge
theorem f_region_send_a (c : Config) (r f made : Int) (l : List Entity) (m : Cross) :
    Is cx (.call 124 [.ptr 0 0 0, .t m.enc] [.one 10 (stepV c r f made (.all 1 none) (.fit 15 [])) false, .arr 9 (l.map Entity.enc) none false])
      ⟨.ret, [], [.one 10 (stepV c r f made (.all 1 none) (.all 2 none)) false, .arr 9 (l.map Entity.enc) none false, .arr 15 ([{ m with frm := r, frame := f }].map Cross.enc) none false]⟩ := by
  refine Wp.ev ?_
  refine bo (by kernel_rfl) ?_ ?_
  all_goals
    refine gg [.w ((0 : Nat) < (120 : Nat)), .s (T.sl 0 [T.agg [ti m.kind, ti r, ti m.to, ti f, ti m.ent.id, ti m.ent.kind, ti m.ent.x, ti m.ent.y, ti m.ent.vx, ti m.ent.vy, ti m.ent.health, ti m.ent.age, ti m.ent.owner, ti m.x, ti m.y]]), .s (T.sl 0 [T.agg [ti m.kind, ti r, ti m.to, ti f, ti m.ent.id, ti m.ent.kind, ti m.ent.x, ti m.ent.y, ti m.ent.vx, ti m.ent.vy, ti m.ent.health, ti m.ent.age, ti m.ent.owner, ti m.x, ti m.y]]), .w (room (List.length [T.agg [ti m.kind, ti r, ti m.to, ti f, ti m.ent.id, ti m.ent.kind, ti m.ent.x, ti m.ent.y, ti m.ent.vx, ti m.ent.vy, ti m.ent.health, ti m.ent.age, ti m.ent.owner, ti m.x, ti m.y]]) (120 : Nat))] ⟨o_w (by (simp [room, appendMax])), o_w (by (simp [room, appendMax])), trivial⟩ ?_
    exact ge
theorem f_region_send_b (c : Config) (r f made : Int) (l : List Entity) (o : List Cross) (m : Cross) (ho : o.length ≤ 100000) :
    Is cx (.call 124 [.ptr 0 0 0, .t m.enc] [.one 10 (stepV c r f made (.all 1 none) (.all 2 none)) false, .arr 9 (l.map Entity.enc) none false, .arr 15 (o.map Cross.enc) none false])
      ⟨.ret, [], [.one 10 (stepV c r f made (.all 1 none) (.all 3 none)) false, .arr 9 (l.map Entity.enc) none false, .dead, .arr 15 ((o ++ [{ m with frm := r, frame := f }]).map Cross.enc) none false]⟩ := by
  refine Wp.ev ?_
  refine bo (by kernel_rfl) ?_ ?_
  all_goals
    refine gg [.w ((0 : Nat) < (120 : Nat)), .s (T.sl 0 [T.agg [ti m.kind, ti r, ti m.to, ti f, ti m.ent.id, ti m.ent.kind, ti m.ent.x, ti m.ent.y, ti m.ent.vx, ti m.ent.vy, ti m.ent.health, ti m.ent.age, ti m.ent.owner, ti m.x, ti m.y]]), .t (T.sl 0 (List.map Cross.enc o ++ [T.agg [ti m.kind, ti r, ti m.to, ti f, ti m.ent.id, ti m.ent.kind, ti m.ent.x, ti m.ent.y, ti m.ent.vx, ti m.ent.vy, ti m.ent.health, ti m.ent.age, ti m.ent.owner, ti m.x, ti m.y]])) (T.sl 0 (List.map Cross.enc (o ++ [Cross.mk m.kind r m.to f m.ent m.x m.y]))), .w (room (List.length (List.map Cross.enc (o ++ [Cross.mk m.kind r m.to f m.ent m.x m.y]))) (120 : Nat))] ⟨oW, o_l (nm_app rfl (nm_cons (e := Cross.mk m.kind r m.to f m.ent m.x m.y) rfl nm_nil)), o_w (by (simp [room, appendMax]; omega)), trivial⟩ ?_
    exact ge
end Go.Eva.S3

/- Eva, part 66: what the walk through a region's step leans on; in plain words. -/
namespace Go.Eva

theorem find_le {l : List Entity} {id : Int} {i k : Nat} (hi : i < l.length) (h : (gt l i).id = id) (hk : find l id = k) : k ≤ i := by
  unfold find pos at hk
  cases hq : l.findIdx? fun e => e.id == id with
  | none =>
    have := List.findIdx?_eq_none_iff.1 hq _ (gt_mem hi)
    simp [h] at this
  | some j =>
    rw [hq] at hk
    simp only at hk
    obtain rfl : j = k := by omega
    obtain ⟨hj, _, h2⟩ := List.findIdx?_eq_some_iff_getElem.1 hq
    rcases Nat.lt_or_ge i j with hlt | hge
    · have := h2 i hlt
      rw [← gt_eq hi] at this
      simp [h] at this
    · exact hge
/-- Ids that stay. -/
theorem put1_has {l : List Entity} {e : Entity} {id : Int} (h : ∃ x ∈ l, x.id = id) : ∃ x ∈ put1 l e, x.id = id := by
  obtain ⟨x, h1, h2⟩ := h
  exact ⟨x, put1_sub x h1, h2⟩
theorem setId_has {l : List Entity} {p e : Entity} {id : Int} (hp : ∃ x ∈ l, x.id = p.id) (he : e.id = p.id) (h : ∃ x ∈ l, x.id = id) : ∃ x ∈ setId l p.id e, x.id = id := by
  refine mem_ids ?_ h
  rw [← he]
  rw [← he] at hp
  exact (setId_ids hp).symm
theorem setId_eq {l : List Entity} {id : Int} {e : Entity} {k : Nat} (h : find l id = k) : setId l id e = l.set k e := by
  unfold setId; rw [h]; rfl
theorem gt_set_ne {α : Type} [Inhabited α] {l : List α} {k j : Nat} {x : α} (h : j ≠ k) : gt (l.set k x) j = gt l j := by
  unfold gt; rw [List.getElem?_set_ne (by omega)]
theorem drop_same {α : Type} [Inhabited α] {A B : List α} {i : Nat} (hl : A.length = B.length) (h : ∀ j, i ≤ j → j < B.length → gt A j = gt B j) : A.drop i = B.drop i := by
  refine list_gt (by simp [hl]) fun j hj => ?_
  have e : ∀ l : List α, gt (l.drop i) j = gt l (i + j) := fun l => by unfold gt; rw [List.getElem?_drop]
  rw [e, e]
  simp only [List.length_drop] at hj
  exact h _ (by omega) (by omega)
end Go.Eva

/- A region's step: players steer, and all move. -/
namespace Go.Eva.S3
/-- What is known of one who is still to steer. -/
def Ready (ins : List Input) (A : List Entity) (p : Entity) : Prop := (-1000000 ≤ p.age ∧ p.age ≤ 1000000) ∧ (p.kind = 1 → (1 ≤ p.id ∧ p.id ≤ ins.length) ∧ ∃ x ∈ A, x.id = p.id)
theorem f_steer_B (c : Config) (r f : Int) (ins : List Input) (hi0 : ins.length ≤ 1000000) (hr : 0 ≤ r ∧ r ≤ 16) (hf : 0 ≤ f ∧ f ≤ 10000) (R : List Entity) (hR : R.length ≤ 1000) : ∀ (d i : Nat) (A : List Entity) (made : Int), i + d = R.length → A.length ≤ 1000 + i → 0 ≤ made ∧ made ≤ 8 → (∀ j, i ≤ j → j < R.length → Ready ins A (gt R j)) →
    Is cx (.loop 62 [0, 1] 2 [.ptr 0 0 0, .t (.sl 3 (ins.map Input.enc)), .all 1 none, vi R.length, vi i] [.one 10 (stepV c r f made (.all 2 none) (.fit 15 [])) false, .arr 9 (R.map Entity.enc) none true, .arr 9 (A.map Entity.enc) none false])
      ⟨.exit 0, [.ptr 0 0 0, .t (.sl 3 (ins.map Input.enc)), .all 1 none, vi R.length, vi R.length], [.one 10 (stepV c r f ((R.drop i).foldl (steer1 c r f ins) ⟨A, made, []⟩).made (.all 2 none) (.fit 15 [])) false, .arr 9 (R.map Entity.enc) none true, .arr 9 (((R.drop i).foldl (steer1 c r f ins) ⟨A, made, []⟩).l.map Entity.enc) none false]⟩ := by
  intro d
  induction d with
  | zero =>
    intro i A made hi hA hm hP
    rw [drop_end (by omega), List.foldl_nil]
    refine Wp.ev ?_
    refine gg [.b (decide ((↑i : Int) < (↑(List.length R) : Int))) false] ⟨fP, trivial⟩ ?_
    refine rt (a := Res.mk (Ex.exit 0) [V.ptr 0 0 0, V.t (T.sl 3 (List.map Input.enc ins)), V.all 1 none, vi (↑(List.length R) : Int), vi (↑i : Int)] [Ob.one 10 (V.agg [vi c.cols, vi c.rows, vi c.players, vi c.window, V.t (T.int IntKind.u64 c.seed), vi r, vi f, V.all 2 none, vi made, V.fit 15 []]) false, Ob.arr 9 (List.map Entity.enc R) none true, Ob.arr 9 (List.map Entity.enc A) none false]) (by kernel_rfl) ?_
    ((have hq : i = R.length := by omega); subst hq; rfl)
  | succ d ih =>
    intro i A made hi hA hm hP
    have hlt : i < R.length := by omega
    rw [drop_gt hlt, List.foldl_cons]
    obtain ⟨hage, hp⟩ := hP i (Nat.le_refl _) hlt
    by_cases hk : (gt R i).kind = 1
    · obtain ⟨hid, hx⟩ := hp hk
      have hS := f_moving_Steer (gt R i) (inAt ins (gt R i).id) hage
      have hSid := (@steerE_id (gt R i) (inAt ins (gt R i).id)).1
      cases hb : (steerE (gt R i) (inAt ins (gt R i).id)).2 with
      | true =>
        rw [hb] at hS
        cases hroom : Stg.room ⟨A, made, []⟩ with
        | true =>
          obtain ⟨hm1, _⟩ := Stg.room_iff.1 hroom
          simp only at hm1
          have hrm := f_region_room c r f ⟨A, made, []⟩ (by unfold small; simp only; omega)
          rw [hroom] at hrm
          have hnum := f_region_number_a c r f made A [] hr hf (by omega)
          have e1 : steer1 c r f ins ⟨A, made, []⟩ (gt R i) = ⟨setId (put1 A (shootE (steerE (gt R i) (inAt ins (gt R i).id)).1 (inAt ins (gt R i).id) (numI c r f made))) (gt R i).id (steerE (gt R i) (inAt ins (gt R i).id)).1, made + 1, []⟩ := by simp [steer1, hk, hb, hroom]
          rw [e1]
          have hsh := f_moving_Shoot (steerE (gt R i) (inAt ins (gt R i).id)).1 (inAt ins (gt R i).id) (numI c r f made)
          generalize hE : (steerE (gt R i) (inAt ins (gt R i).id)).1 = E at *
          generalize shootE E (inAt ins (gt R i).id) (numI c r f made) = sh at *
          have hput := f_entity_Put A [sh] (by omega) (by simp)
          change Is cx _ ⟨_, _, [.arr 9 ((put1 A sh).map Entity.enc) none false]⟩ at hput
          have hpl := @put1_len A sh
          have hx1 := put1_has (e := sh) hx
          have ih1 := ih (i + 1) (setId (put1 A sh) (gt R i).id E) (made + 1) (by omega) (by rw [setId_len]; omega) (by omega) fun j h1 h2 => by
            obtain ⟨g1, g2⟩ := hP j (by omega) h2
            exact ⟨g1, fun hk => ⟨(g2 hk).1, setId_has hx1 hSid (put1_has (g2 hk).2)⟩⟩
          obtain ⟨k, hk1, hk2, _⟩ := find_lt hx1
          rw [setId_eq hk1] at ih1 ⊢
          have hF := f_entity_Find (put1 A sh) (gt R i).id (by unfold small; omega)
          rw [hk1] at hF
          generalize put1 A sh = B at *
          generalize numI c r f made = nn at *
          clear ih hP e1 hE hroom hx hx1 hk1
          unfold inAt at hS hsh
          refine Wp.ev ?_
          refine gg [.b (decide ((↑i : Int) < (↑(List.length R) : Int))) true, .w ((0 : Int) ≤ (↑i : Int)), .n (Int.toNat (↑i : Int)) i, .w (i < List.length (List.map Entity.enc R)), .g (List.map Entity.enc R) i (Entity.enc (gt R i)), .b ((gt R i).kind != 1) false, .i IntKind.i64 ((gt R i).id - 1) ((gt R i).id - 1), .w ((0 : Int) ≤ (gt R i).id - (1 : Int)), .l (Int.toNat ((gt R i).id - 1)), .g (List.map Input.enc ins) (Int.toNat ((gt R i).id - 1)) (Input.enc (gt ins (Int.toNat ((gt R i).id - 1)))), .a _ _, .tt, .tt, .a _ _, .b (flats [T.bool true]) true, .tt] ⟨tP, oW, o_n (by kernel_rfl), o_w (by (simp; omega)), o_gt rfl (by assumption) (by intro h; cases h), f_brn (by assumption), oI, oW, oT, o_a hS, o_a hrm, o_b (by kernel_rfl), trivial⟩ ?_
          refine gg [.tt] trivial ?_
          refine bo (by kernel_rfl) (bo (by kernel_rfl) (bo (by kernel_rfl) ?_ ?_) (bo (by kernel_rfl) (bo (by kernel_rfl) ?_ ?_) ?_)) (bo (by kernel_rfl) (bo (by kernel_rfl) (bo (by kernel_rfl) ?_ ?_) (bo (by kernel_rfl) (bo (by kernel_rfl) ?_ ?_) ?_)) (bo (by kernel_rfl) (bo (by kernel_rfl) (bo (by kernel_rfl) ?_ ?_) (bo (by kernel_rfl) (bo (by kernel_rfl) ?_ ?_) ?_)) ?_))
          all_goals
            refine gg [.a _ _, .a _ _, .a _ _, .a _ _, .b (flats [ti (↑k : Int)]) true, .w ((0 : Int) ≤ (↑k : Int)), .n (Int.toNat (↑k : Int)) k, .w (k < List.length (List.map Entity.enc B)), .w (k < List.length (List.map Entity.enc B)), .t (T.sl 0 (List.set (List.map Entity.enc B) k (Entity.enc E))) (T.sl 0 (List.map Entity.enc (List.set B k E))), .i IntKind.i64 ((↑i : Int) + 1) ((↑(i + 1) : Int)), .a _ _] ⟨o_a hnum, o_a hsh, o_a hput, o_a hF, o_b (by kernel_rfl), oW, o_n (by kernel_rfl), o_w (by (simp; omega)), o_w (by (simp; omega)), o_l (nm_set rfl rfl), oI, o_a ih1, trivial⟩ ?_
            exact ge
        | false =>
          have hrm := f_region_room c r f ⟨A, made, []⟩ (by unfold small; simp only; omega)
          rw [hroom] at hrm
          have e1 : steer1 c r f ins ⟨A, made, []⟩ (gt R i) = ⟨setId A (gt R i).id { (steerE (gt R i) (inAt ins (gt R i).id)).1 with age := 0 }, made, []⟩ := by simp [steer1, hk, hb, hroom]
          rw [e1]
          generalize hE : (steerE (gt R i) (inAt ins (gt R i).id)).1 = E at *
          have ih1 := ih (i + 1) (setId A (gt R i).id { E with age := 0 }) made (by omega) (by rw [setId_len]; omega) hm fun j h1 h2 => by
            obtain ⟨g1, g2⟩ := hP j (by omega) h2
            exact ⟨g1, fun hk => ⟨(g2 hk).1, setId_has hx hSid (g2 hk).2⟩⟩
          obtain ⟨k, hk1, hk2, _⟩ := find_lt hx
          rw [setId_eq hk1] at ih1 ⊢
          have hF := f_entity_Find A (gt R i).id (by unfold small; omega)
          rw [hk1] at hF
          clear ih hP e1 hE hroom hx hk1
          unfold inAt at hS
          refine Wp.ev ?_
          refine gg [.b (decide ((↑i : Int) < (↑(List.length R) : Int))) true, .w ((0 : Int) ≤ (↑i : Int)), .n (Int.toNat (↑i : Int)) i, .w (i < List.length (List.map Entity.enc R)), .g (List.map Entity.enc R) i (Entity.enc (gt R i)), .b ((gt R i).kind != 1) false, .i IntKind.i64 ((gt R i).id - 1) ((gt R i).id - 1), .w ((0 : Int) ≤ (gt R i).id - (1 : Int)), .l (Int.toNat ((gt R i).id - 1)), .g (List.map Input.enc ins) (Int.toNat ((gt R i).id - 1)) (Input.enc (gt ins (Int.toNat ((gt R i).id - 1)))), .a _ _, .tt, .tt, .a _ _, .b (flats [T.bool false]) true, .tt] ⟨tP, oW, o_n (by kernel_rfl), o_w (by (simp; omega)), o_gt rfl (by assumption) (by intro h; cases h), f_brn (by assumption), oI, oW, oT, o_a hS, o_a hrm, o_b (by kernel_rfl), trivial⟩ ?_
          refine gg [.ff, .tt, .a _ _, .b (flats [ti (↑k : Int)]) true, .w ((0 : Int) ≤ (↑k : Int)), .n (Int.toNat (↑k : Int)) k, .w (k < List.length (List.map Entity.enc A)), .w (k < List.length (List.map Entity.enc A)), .t (T.sl 0 (List.set (List.map Entity.enc A) k (T.agg [ti E.id, ti E.kind, ti E.x, ti E.y, ti E.vx, ti E.vy, ti E.health, ti 0, ti E.owner]))) (T.sl 0 (List.map Entity.enc (List.set A k (Entity.mk E.id E.kind E.x E.y E.vx E.vy E.health 0 E.owner)))), .i IntKind.i64 ((↑i : Int) + 1) ((↑(i + 1) : Int)), .a _ _] ⟨o_a hF, o_b (by kernel_rfl), oW, o_n (by kernel_rfl), o_w (by (simp; omega)), o_w (by (simp; omega)), o_l (nm_set (e := Entity.mk E.id E.kind E.x E.y E.vx E.vy E.health 0 E.owner) rfl rfl), oI, o_a ih1, trivial⟩ ?_
          exact ge
      | false =>
        rw [hb] at hS
        have e1 : steer1 c r f ins ⟨A, made, []⟩ (gt R i) = ⟨setId A (gt R i).id (steerE (gt R i) (inAt ins (gt R i).id)).1, made, []⟩ := by simp [steer1, hk, hb]
        rw [e1]
        generalize hE : (steerE (gt R i) (inAt ins (gt R i).id)).1 = E at *
        have ih1 := ih (i + 1) (setId A (gt R i).id E) made (by omega) (by rw [setId_len]; omega) hm fun j h1 h2 => by
          obtain ⟨g1, g2⟩ := hP j (by omega) h2
          exact ⟨g1, fun hk => ⟨(g2 hk).1, setId_has hx hSid (g2 hk).2⟩⟩
        obtain ⟨k, hk1, hk2, _⟩ := find_lt hx
        rw [setId_eq hk1] at ih1 ⊢
        have hF := f_entity_Find A (gt R i).id (by unfold small; omega)
        rw [hk1] at hF
        clear ih hP e1 hE hx hk1
        unfold inAt at hS
        refine Wp.ev ?_
        refine gg [.b (decide ((↑i : Int) < (↑(List.length R) : Int))) true, .w ((0 : Int) ≤ (↑i : Int)), .n (Int.toNat (↑i : Int)) i, .w (i < List.length (List.map Entity.enc R)), .g (List.map Entity.enc R) i (Entity.enc (gt R i)), .b ((gt R i).kind != 1) false, .i IntKind.i64 ((gt R i).id - 1) ((gt R i).id - 1), .w ((0 : Int) ≤ (gt R i).id - (1 : Int)), .l (Int.toNat ((gt R i).id - 1)), .g (List.map Input.enc ins) (Int.toNat ((gt R i).id - 1)) (Input.enc (gt ins (Int.toNat ((gt R i).id - 1)))), .a _ _, .ff, .ff, .ff, .ff, .ff] ⟨tP, oW, o_n (by kernel_rfl), o_w (by (simp; omega)), o_gt rfl (by assumption) (by intro h; cases h), f_brn (by assumption), oI, oW, oT, o_a hS, trivial⟩ ?_
        refine gg [.a _ _, .b (flats [ti (↑k : Int)]) true, .w ((0 : Int) ≤ (↑k : Int)), .n (Int.toNat (↑k : Int)) k, .w (k < List.length (List.map Entity.enc A)), .w (k < List.length (List.map Entity.enc A)), .t (T.sl 0 (List.set (List.map Entity.enc A) k (Entity.enc E))) (T.sl 0 (List.map Entity.enc (List.set A k E))), .i IntKind.i64 ((↑i : Int) + 1) ((↑(i + 1) : Int)), .a _ _] ⟨o_a hF, o_b (by kernel_rfl), oW, o_n (by kernel_rfl), o_w (by (simp; omega)), o_w (by (simp; omega)), o_l (nm_set rfl rfl), oI, o_a ih1, trivial⟩ ?_
        exact ge
    · have e1 : steer1 c r f ins ⟨A, made, []⟩ (gt R i) = ⟨A, made, []⟩ := by simp [steer1, hk]
      rw [e1]
      have ih1 := ih (i + 1) A made (by omega) (by omega) hm fun j h1 h2 => hP j (by omega) h2
      clear ih hP e1
      refine Wp.ev ?_
      refine gg [.b (decide ((↑i : Int) < (↑(List.length R) : Int))) true, .w ((0 : Int) ≤ (↑i : Int)), .n (Int.toNat (↑i : Int)) i, .w (i < List.length (List.map Entity.enc R)), .g (List.map Entity.enc R) i (Entity.enc (gt R i)), .b ((gt R i).kind != 1) true, .i IntKind.i64 ((↑i : Int) + 1) ((↑(i + 1) : Int)), .a _ _] ⟨tP, oW, o_n (by kernel_rfl), o_w (by (simp; omega)), o_gt rfl (by assumption) (by intro h; cases h), t_brn (by assumption), oI, o_a ih1, trivial⟩ ?_
      exact ge
theorem f_steer_A (c : Config) (r f : Int) (ins : List Input) (hi0 : ins.length ≤ 1000000) (hr : 0 ≤ r ∧ r ≤ 16) (hf : 0 ≤ f ∧ f ≤ 10000) : ∀ (d i : Nat) (A : List Entity) (made : Int), i + d = A.length → A.length ≤ 1000 → 0 ≤ made ∧ made ≤ 8 → (∀ j, i ≤ j → j < A.length → Ready ins A (gt A j)) →
    Is cx (.loop 62 [0, 1] 2 [.ptr 0 0 0, .t (.sl 3 (ins.map Input.enc)), .all 1 none, vi A.length, vi i] [.one 10 (stepV c r f made (.all 1 none) (.fit 15 [])) false, .arr 9 (A.map Entity.enc) none false])
      ⟨.exit 0, [.ptr 0 0 0, .t (.sl 3 (ins.map Input.enc)), .all 1 none, vi A.length, vi A.length], [.one 10 (stepV c r f ((A.drop i).foldl (steer1 c r f ins) ⟨A, made, []⟩).made (.all 1 none) (.fit 15 [])) false, .arr 9 (((A.drop i).foldl (steer1 c r f ins) ⟨A, made, []⟩).l.map Entity.enc) none false]⟩ ∨
    ∃ X : List Entity, Is cx (.loop 62 [0, 1] 2 [.ptr 0 0 0, .t (.sl 3 (ins.map Input.enc)), .all 1 none, vi A.length, vi i] [.one 10 (stepV c r f made (.all 1 none) (.fit 15 [])) false, .arr 9 (A.map Entity.enc) none false])
      ⟨.exit 0, [.ptr 0 0 0, .t (.sl 3 (ins.map Input.enc)), .all 1 none, vi A.length, vi A.length], [.one 10 (stepV c r f ((A.drop i).foldl (steer1 c r f ins) ⟨A, made, []⟩).made (.all 2 none) (.fit 15 [])) false, .arr 9 (X.map Entity.enc) none true, .arr 9 (((A.drop i).foldl (steer1 c r f ins) ⟨A, made, []⟩).l.map Entity.enc) none false]⟩ := by
  intro d
  induction d with
  | zero =>
    intro i A made hi hA hm hP
    left
    rw [drop_end (by omega), List.foldl_nil]
    refine Wp.ev ?_
    refine gg [.b (decide ((↑i : Int) < (↑(List.length A) : Int))) false] ⟨fP, trivial⟩ ?_
    refine rt (a := Res.mk (Ex.exit 0) [V.ptr 0 0 0, V.t (T.sl 3 (List.map Input.enc ins)), V.all 1 none, vi (↑(List.length A) : Int), vi (↑i : Int)] [Ob.one 10 (V.agg [vi c.cols, vi c.rows, vi c.players, vi c.window, V.t (T.int IntKind.u64 c.seed), vi r, vi f, V.all 1 none, vi made, V.fit 15 []]) false, Ob.arr 9 (List.map Entity.enc A) none false]) (by kernel_rfl) ?_
    ((have hq : i = A.length := by omega); subst hq; rfl)
  | succ d ih =>
    intro i A made hi hA hm hP
    have hlt : i < A.length := by omega
    obtain ⟨hage, hp⟩ := hP i (Nat.le_refl _) hlt
    rw [drop_gt hlt, List.foldl_cons]
    have step : ∀ (k : Nat) (E : Entity), find A (gt A i).id = k → (∃ x ∈ A, x.id = (gt A i).id) → E.id = (gt A i).id → (A.set k E).drop (i + 1) = A.drop (i + 1) ∧ (A.set k E).length = A.length ∧ ∀ j, i + 1 ≤ j → j < (A.set k E).length → Ready ins (A.set k E) (gt (A.set k E) j) := by
      intro k E hk hx hE
      have hki := find_le hlt rfl hk
      refine ⟨drop_same (by simp) fun j h1 _ => gt_set_ne (by omega), by simp, fun j h1 h2 => ?_⟩
      rw [gt_set_ne (by omega)]
      obtain ⟨g1, g2⟩ := hP j (by omega) (by simpa using h2)
      refine ⟨g1, fun hk2 => ⟨(g2 hk2).1, ?_⟩⟩
      have := setId_has hx hE (g2 hk2).2
      rwa [setId_eq hk] at this
    by_cases hk : (gt A i).kind = 1
    · obtain ⟨hid, hx⟩ := hp hk
      have hS := f_moving_Steer (gt A i) (inAt ins (gt A i).id) hage
      have hSid := (@steerE_id (gt A i) (inAt ins (gt A i).id)).1
      cases hb : (steerE (gt A i) (inAt ins (gt A i).id)).2 with
      | true =>
        rw [hb] at hS
        cases hroom : Stg.room ⟨A, made, []⟩ with
        | true =>
          right
          refine ⟨A, ?_⟩
          obtain ⟨hm1, _⟩ := Stg.room_iff.1 hroom
          simp only at hm1
          have hrm := f_region_room c r f ⟨A, made, []⟩ (by unfold small; simp only; omega)
          rw [hroom] at hrm
          have hnum := f_region_number_a c r f made A [] hr hf (by omega)
          have e1 : steer1 c r f ins ⟨A, made, []⟩ (gt A i) = ⟨setId (put1 A (shootE (steerE (gt A i) (inAt ins (gt A i).id)).1 (inAt ins (gt A i).id) (numI c r f made))) (gt A i).id (steerE (gt A i) (inAt ins (gt A i).id)).1, made + 1, []⟩ := by simp [steer1, hk, hb, hroom]
          rw [e1]
          have hsh := f_moving_Shoot (steerE (gt A i) (inAt ins (gt A i).id)).1 (inAt ins (gt A i).id) (numI c r f made)
          generalize hE : (steerE (gt A i) (inAt ins (gt A i).id)).1 = E at *
          generalize shootE E (inAt ins (gt A i).id) (numI c r f made) = sh at *
          have hput := f_entity_Put A [sh] (by omega) (by simp)
          change Is cx _ ⟨_, _, [.arr 9 ((put1 A sh).map Entity.enc) none false]⟩ at hput
          have hpl := @put1_len A sh
          have hx1 := put1_has (e := sh) hx
          have ih1 := f_steer_B c r f ins hi0 hr hf A hA d (i + 1) (setId (put1 A sh) (gt A i).id E) (made + 1) (by omega) (by rw [setId_len]; omega) (by omega) fun j h1 h2 => by
            obtain ⟨g1, g2⟩ := hP j (by omega) h2
            exact ⟨g1, fun hk => ⟨(g2 hk).1, setId_has hx1 hSid (put1_has (g2 hk).2)⟩⟩
          obtain ⟨k, hk1, hk2, _⟩ := find_lt hx1
          rw [setId_eq hk1] at ih1 ⊢
          have hF := f_entity_Find (put1 A sh) (gt A i).id (by unfold small; omega)
          rw [hk1] at hF
          generalize put1 A sh = B at *
          generalize numI c r f made = nn at *
          clear ih hP e1 hE hroom hx hx1 hk1 step
          unfold inAt at hS hsh
          refine Wp.ev ?_
          refine gg [.b (decide ((↑i : Int) < (↑(List.length A) : Int))) true, .w ((0 : Int) ≤ (↑i : Int)), .n (Int.toNat (↑i : Int)) i, .w (i < List.length (List.map Entity.enc A)), .g (List.map Entity.enc A) i (Entity.enc (gt A i)), .b ((gt A i).kind != 1) false, .i IntKind.i64 ((gt A i).id - 1) ((gt A i).id - 1), .w ((0 : Int) ≤ (gt A i).id - (1 : Int)), .l (Int.toNat ((gt A i).id - 1)), .g (List.map Input.enc ins) (Int.toNat ((gt A i).id - 1)) (Input.enc (gt ins (Int.toNat ((gt A i).id - 1)))), .a _ _, .tt, .tt, .a _ _, .b (flats [T.bool true]) true, .tt] ⟨tP, oW, o_n (by kernel_rfl), o_w (by (simp; omega)), o_gt rfl (by assumption) (by intro h; cases h), f_brn (by assumption), oI, oW, oT, o_a hS, o_a hrm, o_b (by kernel_rfl), trivial⟩ ?_
          refine gg [.tt] trivial ?_
          refine bo (by kernel_rfl) (bo (by kernel_rfl) (bo (by kernel_rfl) ?_ ?_) (bo (by kernel_rfl) (bo (by kernel_rfl) ?_ ?_) ?_)) (bo (by kernel_rfl) (bo (by kernel_rfl) (bo (by kernel_rfl) ?_ ?_) (bo (by kernel_rfl) (bo (by kernel_rfl) ?_ ?_) ?_)) (bo (by kernel_rfl) (bo (by kernel_rfl) (bo (by kernel_rfl) ?_ ?_) (bo (by kernel_rfl) (bo (by kernel_rfl) ?_ ?_) ?_)) ?_))
          all_goals
            refine gg [.a _ _, .a _ _, .a _ _, .a _ _, .b (flats [ti (↑k : Int)]) true, .w ((0 : Int) ≤ (↑k : Int)), .n (Int.toNat (↑k : Int)) k, .w (k < List.length (List.map Entity.enc B)), .w (k < List.length (List.map Entity.enc B)), .t (T.sl 0 (List.set (List.map Entity.enc B) k (Entity.enc E))) (T.sl 0 (List.map Entity.enc (List.set B k E))), .i IntKind.i64 ((↑i : Int) + 1) ((↑(i + 1) : Int)), .a _ _] ⟨o_a hnum, o_a hsh, o_a hput, o_a hF, o_b (by kernel_rfl), oW, o_n (by kernel_rfl), o_w (by (simp; omega)), o_w (by (simp; omega)), o_l (nm_set rfl rfl), oI, o_a ih1, trivial⟩ ?_
            exact ge
        | false =>
          have hrm := f_region_room c r f ⟨A, made, []⟩ (by unfold small; simp only; omega)
          rw [hroom] at hrm
          have e1 : steer1 c r f ins ⟨A, made, []⟩ (gt A i) = ⟨setId A (gt A i).id { (steerE (gt A i) (inAt ins (gt A i).id)).1 with age := 0 }, made, []⟩ := by simp [steer1, hk, hb, hroom]
          rw [e1]
          generalize hE : (steerE (gt A i) (inAt ins (gt A i).id)).1 = E at *
          obtain ⟨k, hk1, hk2, _⟩ := find_lt hx
          obtain ⟨s1, s2, s3⟩ := step k { E with age := 0 } hk1 hx hSid
          rw [setId_eq hk1]
          have ih1 := ih (i + 1) (A.set k { E with age := 0 }) made (by omega) (by omega) hm s3
          rw [s1, s2] at ih1
          have hF := f_entity_Find A (gt A i).id (by unfold small; omega)
          rw [hk1] at hF
          clear ih hP e1 hE hroom hx hk1 step s1 s2 s3
          unfold inAt at hS
          rcases ih1 with ih1 | ⟨X, ih1⟩
          · left
            refine Wp.ev ?_
            refine gg [.b (decide ((↑i : Int) < (↑(List.length A) : Int))) true, .w ((0 : Int) ≤ (↑i : Int)), .n (Int.toNat (↑i : Int)) i, .w (i < List.length (List.map Entity.enc A)), .g (List.map Entity.enc A) i (Entity.enc (gt A i)), .b ((gt A i).kind != 1) false, .i IntKind.i64 ((gt A i).id - 1) ((gt A i).id - 1), .w ((0 : Int) ≤ (gt A i).id - (1 : Int)), .l (Int.toNat ((gt A i).id - 1)), .g (List.map Input.enc ins) (Int.toNat ((gt A i).id - 1)) (Input.enc (gt ins (Int.toNat ((gt A i).id - 1)))), .a _ _, .tt, .tt, .a _ _, .b (flats [T.bool false]) true, .tt] ⟨tP, oW, o_n (by kernel_rfl), o_w (by (simp; omega)), o_gt rfl (by assumption) (by intro h; cases h), f_brn (by assumption), oI, oW, oT, o_a hS, o_a hrm, o_b (by kernel_rfl), trivial⟩ ?_
            refine gg [.ff, .tt, .a _ _, .b (flats [ti (↑k : Int)]) true, .w ((0 : Int) ≤ (↑k : Int)), .n (Int.toNat (↑k : Int)) k, .w (k < List.length (List.map Entity.enc A)), .w (k < List.length (List.map Entity.enc A)), .t (T.sl 0 (List.set (List.map Entity.enc A) k (T.agg [ti E.id, ti E.kind, ti E.x, ti E.y, ti E.vx, ti E.vy, ti E.health, ti 0, ti E.owner]))) (T.sl 0 (List.map Entity.enc (List.set A k (Entity.mk E.id E.kind E.x E.y E.vx E.vy E.health 0 E.owner)))), .i IntKind.i64 ((↑i : Int) + 1) ((↑(i + 1) : Int)), .a _ _] ⟨o_a hF, o_b (by kernel_rfl), oW, o_n (by kernel_rfl), o_w (by (simp; omega)), o_w (by (simp; omega)), o_l (nm_set (e := Entity.mk E.id E.kind E.x E.y E.vx E.vy E.health 0 E.owner) rfl rfl), oI, o_a ih1, trivial⟩ ?_
            exact ge
          · right
            refine ⟨X, ?_⟩
            refine Wp.ev ?_
            refine gg [.b (decide ((↑i : Int) < (↑(List.length A) : Int))) true, .w ((0 : Int) ≤ (↑i : Int)), .n (Int.toNat (↑i : Int)) i, .w (i < List.length (List.map Entity.enc A)), .g (List.map Entity.enc A) i (Entity.enc (gt A i)), .b ((gt A i).kind != 1) false, .i IntKind.i64 ((gt A i).id - 1) ((gt A i).id - 1), .w ((0 : Int) ≤ (gt A i).id - (1 : Int)), .l (Int.toNat ((gt A i).id - 1)), .g (List.map Input.enc ins) (Int.toNat ((gt A i).id - 1)) (Input.enc (gt ins (Int.toNat ((gt A i).id - 1)))), .a _ _, .tt, .tt, .a _ _, .b (flats [T.bool false]) true, .tt] ⟨tP, oW, o_n (by kernel_rfl), o_w (by (simp; omega)), o_gt rfl (by assumption) (by intro h; cases h), f_brn (by assumption), oI, oW, oT, o_a hS, o_a hrm, o_b (by kernel_rfl), trivial⟩ ?_
            refine gg [.ff, .tt, .a _ _, .b (flats [ti (↑k : Int)]) true, .w ((0 : Int) ≤ (↑k : Int)), .n (Int.toNat (↑k : Int)) k, .w (k < List.length (List.map Entity.enc A)), .w (k < List.length (List.map Entity.enc A)), .t (T.sl 0 (List.set (List.map Entity.enc A) k (T.agg [ti E.id, ti E.kind, ti E.x, ti E.y, ti E.vx, ti E.vy, ti E.health, ti 0, ti E.owner]))) (T.sl 0 (List.map Entity.enc (List.set A k (Entity.mk E.id E.kind E.x E.y E.vx E.vy E.health 0 E.owner)))), .i IntKind.i64 ((↑i : Int) + 1) ((↑(i + 1) : Int)), .a _ _] ⟨o_a hF, o_b (by kernel_rfl), oW, o_n (by kernel_rfl), o_w (by (simp; omega)), o_w (by (simp; omega)), o_l (nm_set (e := Entity.mk E.id E.kind E.x E.y E.vx E.vy E.health 0 E.owner) rfl rfl), oI, o_a ih1, trivial⟩ ?_
            exact ge
      | false =>
        rw [hb] at hS
        have e1 : steer1 c r f ins ⟨A, made, []⟩ (gt A i) = ⟨setId A (gt A i).id (steerE (gt A i) (inAt ins (gt A i).id)).1, made, []⟩ := by simp [steer1, hk, hb]
        rw [e1]
        generalize hE : (steerE (gt A i) (inAt ins (gt A i).id)).1 = E at *
        obtain ⟨k, hk1, hk2, _⟩ := find_lt hx
        obtain ⟨s1, s2, s3⟩ := step k E hk1 hx hSid
        rw [setId_eq hk1]
        have ih1 := ih (i + 1) (A.set k E) made (by omega) (by omega) hm s3
        rw [s1, s2] at ih1
        have hF := f_entity_Find A (gt A i).id (by unfold small; omega)
        rw [hk1] at hF
        clear ih hP e1 hE hx hk1 step s1 s2 s3
        unfold inAt at hS
        rcases ih1 with ih1 | ⟨X, ih1⟩
        · left
          refine Wp.ev ?_
          refine gg [.b (decide ((↑i : Int) < (↑(List.length A) : Int))) true, .w ((0 : Int) ≤ (↑i : Int)), .n (Int.toNat (↑i : Int)) i, .w (i < List.length (List.map Entity.enc A)), .g (List.map Entity.enc A) i (Entity.enc (gt A i)), .b ((gt A i).kind != 1) false, .i IntKind.i64 ((gt A i).id - 1) ((gt A i).id - 1), .w ((0 : Int) ≤ (gt A i).id - (1 : Int)), .l (Int.toNat ((gt A i).id - 1)), .g (List.map Input.enc ins) (Int.toNat ((gt A i).id - 1)) (Input.enc (gt ins (Int.toNat ((gt A i).id - 1)))), .a _ _, .ff, .ff, .ff, .ff, .ff] ⟨tP, oW, o_n (by kernel_rfl), o_w (by (simp; omega)), o_gt rfl (by assumption) (by intro h; cases h), f_brn (by assumption), oI, oW, oT, o_a hS, trivial⟩ ?_
          refine gg [.a _ _, .b (flats [ti (↑k : Int)]) true, .w ((0 : Int) ≤ (↑k : Int)), .n (Int.toNat (↑k : Int)) k, .w (k < List.length (List.map Entity.enc A)), .w (k < List.length (List.map Entity.enc A)), .t (T.sl 0 (List.set (List.map Entity.enc A) k (Entity.enc E))) (T.sl 0 (List.map Entity.enc (List.set A k E))), .i IntKind.i64 ((↑i : Int) + 1) ((↑(i + 1) : Int)), .a _ _] ⟨o_a hF, o_b (by kernel_rfl), oW, o_n (by kernel_rfl), o_w (by (simp; omega)), o_w (by (simp; omega)), o_l (nm_set rfl rfl), oI, o_a ih1, trivial⟩ ?_
          exact ge
        · right
          refine ⟨X, ?_⟩
          refine Wp.ev ?_
          refine gg [.b (decide ((↑i : Int) < (↑(List.length A) : Int))) true, .w ((0 : Int) ≤ (↑i : Int)), .n (Int.toNat (↑i : Int)) i, .w (i < List.length (List.map Entity.enc A)), .g (List.map Entity.enc A) i (Entity.enc (gt A i)), .b ((gt A i).kind != 1) false, .i IntKind.i64 ((gt A i).id - 1) ((gt A i).id - 1), .w ((0 : Int) ≤ (gt A i).id - (1 : Int)), .l (Int.toNat ((gt A i).id - 1)), .g (List.map Input.enc ins) (Int.toNat ((gt A i).id - 1)) (Input.enc (gt ins (Int.toNat ((gt A i).id - 1)))), .a _ _, .ff, .ff, .ff, .ff, .ff] ⟨tP, oW, o_n (by kernel_rfl), o_w (by (simp; omega)), o_gt rfl (by assumption) (by intro h; cases h), f_brn (by assumption), oI, oW, oT, o_a hS, trivial⟩ ?_
          refine gg [.a _ _, .b (flats [ti (↑k : Int)]) true, .w ((0 : Int) ≤ (↑k : Int)), .n (Int.toNat (↑k : Int)) k, .w (k < List.length (List.map Entity.enc A)), .w (k < List.length (List.map Entity.enc A)), .t (T.sl 0 (List.set (List.map Entity.enc A) k (Entity.enc E))) (T.sl 0 (List.map Entity.enc (List.set A k E))), .i IntKind.i64 ((↑i : Int) + 1) ((↑(i + 1) : Int)), .a _ _] ⟨o_a hF, o_b (by kernel_rfl), oW, o_n (by kernel_rfl), o_w (by (simp; omega)), o_w (by (simp; omega)), o_l (nm_set rfl rfl), oI, o_a ih1, trivial⟩ ?_
          exact ge
    · have e1 : steer1 c r f ins ⟨A, made, []⟩ (gt A i) = ⟨A, made, []⟩ := by simp [steer1, hk]
      rw [e1]
      have ih1 := ih (i + 1) A made (by omega) hA hm fun j h1 h2 => hP j (by omega) h2
      clear ih hP e1 step
      rcases ih1 with ih1 | ⟨X, ih1⟩
      · left
        refine Wp.ev ?_
        refine gg [.b (decide ((↑i : Int) < (↑(List.length A) : Int))) true, .w ((0 : Int) ≤ (↑i : Int)), .n (Int.toNat (↑i : Int)) i, .w (i < List.length (List.map Entity.enc A)), .g (List.map Entity.enc A) i (Entity.enc (gt A i)), .b ((gt A i).kind != 1) true, .i IntKind.i64 ((↑i : Int) + 1) ((↑(i + 1) : Int)), .a _ _] ⟨tP, oW, o_n (by kernel_rfl), o_w (by (simp; omega)), o_gt rfl (by assumption) (by intro h; cases h), t_brn (by assumption), oI, o_a ih1, trivial⟩ ?_
        exact ge
      · right
        refine ⟨X, ?_⟩
        refine Wp.ev ?_
        refine gg [.b (decide ((↑i : Int) < (↑(List.length A) : Int))) true, .w ((0 : Int) ≤ (↑i : Int)), .n (Int.toNat (↑i : Int)) i, .w (i < List.length (List.map Entity.enc A)), .g (List.map Entity.enc A) i (Entity.enc (gt A i)), .b ((gt A i).kind != 1) true, .i IntKind.i64 ((↑i : Int) + 1) ((↑(i + 1) : Int)), .a _ _] ⟨tP, oW, o_n (by kernel_rfl), o_w (by (simp; omega)), o_gt rfl (by assumption) (by intro h; cases h), t_brn (by assumption), oI, o_a ih1, trivial⟩ ?_
        exact ge
theorem f_region_steer (c : Config) (r f : Int) (ins : List Input) (L : List Entity) (hi0 : ins.length ≤ 1000000) (hr : 0 ≤ r ∧ r ≤ 16) (hf : 0 ≤ f ∧ f ≤ 10000) (hL : L.length ≤ 1000) (hP : ∀ p ∈ L, (-1000000 ≤ p.age ∧ p.age ≤ 1000000) ∧ (p.kind = 1 → 1 ≤ p.id ∧ p.id ≤ ins.length)) :
    Is cx (.call 62 [.ptr 0 0 0, .t (.sl 3 (ins.map Input.enc))] [.one 10 (stepV c r f 0 (.all 1 none) (.fit 15 [])) false, .arr 9 (L.map Entity.enc) none false])
      ⟨.ret, [], [.one 10 (stepV c r f (steerS c r f ins ⟨L, 0, []⟩).made (.all 1 none) (.fit 15 [])) false, .arr 9 ((steerS c r f ins ⟨L, 0, []⟩).l.map Entity.enc) none false]⟩ ∨
    ∃ X : List Entity, Is cx (.call 62 [.ptr 0 0 0, .t (.sl 3 (ins.map Input.enc))] [.one 10 (stepV c r f 0 (.all 1 none) (.fit 15 [])) false, .arr 9 (L.map Entity.enc) none false])
      ⟨.ret, [], [.one 10 (stepV c r f (steerS c r f ins ⟨L, 0, []⟩).made (.all 2 none) (.fit 15 [])) false, .arr 9 (X.map Entity.enc) none true, .arr 9 ((steerS c r f ins ⟨L, 0, []⟩).l.map Entity.enc) none false]⟩ := by
  have h := f_steer_A c r f ins hi0 hr hf L.length 0 L 0 (by omega) hL (by omega) fun j _ h2 => by
    obtain ⟨g1, g2⟩ := hP _ (gt_mem h2)
    exact ⟨g1, fun hk => ⟨g2 hk, _, gt_mem h2, rfl⟩⟩
  rw [List.drop_zero] at h
  change _ ∨ ∃ X, _ at h
  unfold steerS
  simp only
  generalize L.foldl (steer1 c r f ins) ⟨L, 0, []⟩ = S at *
  obtain ⟨A, made, o⟩ := S
  simp only at h ⊢
  rcases h with h | ⟨X, h⟩
  · left
    refine Wp.ev ?_
    refine gg [.n (List.length (List.map Entity.enc L)) (List.length L), .a _ _] ⟨o_n (by simp), o_a h, trivial⟩ ?_
    exact ge
  · right
    refine ⟨X, ?_⟩
    refine Wp.ev ?_
    refine gg [.n (List.length (List.map Entity.enc L)) (List.length L), .a _ _] ⟨o_n (by simp), o_a h, trivial⟩ ?_
    exact ge
theorem moveL_cons {c : Config} {e : Entity} {l : List Entity} : moveL c (e :: l) = (if (goE c e).2 = true then [(goE c e).1] else []) ++ moveL c l := by
  unfold moveL
  rw [List.filter_cons]
  split <;> simp
theorem f_move_loop (c : Config) (r f made : Int) (L : List Entity) (hn : small L) (ha : ∀ e ∈ L, -1000000 ≤ e.age ∧ e.age ≤ 1000000) : ∀ (d i : Nat) (A : List Entity), i + d = L.length → A.length ≤ i →
    Is cx (.loop 63 [0, 1, 0, 1] 2 [.ptr 0 0 0, .all 2 none, .all 1 none, vi L.length, vi i] [.one 10 (stepV c r f made (.all 1 none) (.fit 15 [])) false, .arr 9 (L.map Entity.enc) none false, .arr 9 (A.map Entity.enc) none false])
      ⟨.exit 0, [.ptr 0 0 0, .all 2 none, .all 1 none, vi L.length, vi L.length], [.one 10 (stepV c r f made (.all 1 none) (.fit 15 [])) false, .arr 9 (L.map Entity.enc) none false, .arr 9 ((A ++ moveL c (L.drop i)).map Entity.enc) none false]⟩ := by
  unfold small at hn
  intro d
  induction d with
  | zero =>
    intro i A hi hA
    rw [drop_end (by omega)]
    refine Wp.ev ?_
    refine gg [.b (decide ((↑i : Int) < (↑(List.length L) : Int))) false] ⟨fP, trivial⟩ ?_
    refine rt (a := Res.mk (Ex.exit 0) [V.ptr 0 0 0, V.all 2 none, V.all 1 none, vi (↑(List.length L) : Int), vi (↑i : Int)] [Ob.one 10 (V.agg [vi c.cols, vi c.rows, vi c.players, vi c.window, V.t (T.int IntKind.u64 c.seed), vi r, vi f, V.all 1 none, vi made, V.fit 15 []]) false, Ob.arr 9 (List.map Entity.enc L) none false, Ob.arr 9 (List.map Entity.enc A) none false]) (by kernel_rfl) ?_
    ((have hq : i = L.length := by omega); subst hq; simp [moveL])
  | succ d ih =>
    intro i A hi hA
    have hlt : i < L.length := by omega
    have hG := f_moving_Go c (gt L i) (ha _ (gt_mem hlt))
    have ih1 := ih (i + 1) A (by omega) (by omega)
    have ih2 := ih (i + 1) (A ++ [(goE c (gt L i)).1]) (by omega) (by simp; omega)
    clear ih
    rw [drop_gt hlt, moveL_cons]
    generalize goE c (gt L i) = eb at *
    obtain ⟨e, b⟩ := eb
    cases b with
    | true =>
      simp only [if_true]
      rw [← List.append_assoc]
      clear ih1
      refine Wp.ev ?_
      refine gg [.b (decide ((↑i : Int) < (↑(List.length L) : Int))) true, .w ((0 : Int) ≤ (↑i : Int)), .n (Int.toNat (↑i : Int)) i, .w (i < List.length (List.map Entity.enc L)), .g (List.map Entity.enc L) i (Entity.enc (gt L i))] ⟨tP, oW, o_n (by kernel_rfl), o_w (by (simp [room, appendMax]; omega)), o_gt rfl (by assumption) (by intro h; cases h), trivial⟩ ?_
      refine bo (by kernel_rfl) ?_ ?_
      all_goals
        refine gg [.a _ _, .tt, .w ((0 : Nat) < (72 : Nat)), .t (T.sl 0 [Entity.enc e]) (T.sl 0 (List.map Entity.enc [e])), .t (T.sl 0 (List.map Entity.enc A ++ List.map Entity.enc [e])) (T.sl 0 (List.map Entity.enc (A ++ [e]))), .w (room (List.length (List.map Entity.enc (A ++ [e]))) (72 : Nat)), .i IntKind.i64 ((↑i : Int) + 1) ((↑(i + 1) : Int)), .a _ _] ⟨o_a hG, oW, o_l (nm_cons rfl nm_nil), o_l (nm_app rfl rfl), o_w (by (simp [room, appendMax]; omega)), o_i (w64 (by (simp [room, appendMax]; omega))), o_a ih2, trivial⟩ ?_
        exact ge
    | false =>
      simp only [Bool.false_eq_true, if_false, List.nil_append]
      clear ih2
      refine Wp.ev ?_
      refine gg [.b (decide ((↑i : Int) < (↑(List.length L) : Int))) true, .w ((0 : Int) ≤ (↑i : Int)), .n (Int.toNat (↑i : Int)) i, .w (i < List.length (List.map Entity.enc L)), .g (List.map Entity.enc L) i (Entity.enc (gt L i))] ⟨tP, oW, o_n (by kernel_rfl), o_w (by (simp; omega)), o_gt rfl (by assumption) (by intro h; cases h), trivial⟩ ?_
      refine bo (by kernel_rfl) ?_ ?_
      all_goals
        refine gg [.a _ _, .ff, .i IntKind.i64 ((↑i : Int) + 1) ((↑(i + 1) : Int)), .a _ _] ⟨o_a hG, oI, o_a ih1, trivial⟩ ?_
        exact ge
theorem f_region_move (c : Config) (r f made : Int) (L : List Entity) (hn : small L) (ha : ∀ e ∈ L, -1000000 ≤ e.age ∧ e.age ≤ 1000000) :
    Is cx (.call 63 [.ptr 0 0 0] [.one 10 (stepV c r f made (.all 1 none) (.fit 15 [])) false, .arr 9 (L.map Entity.enc) none false])
      ⟨.ret, [], [.one 10 (stepV c r f made (.all 2 none) (.fit 15 [])) false, .arr 9 (L.map Entity.enc) none false, .arr 9 ((moveL c L).map Entity.enc) none false]⟩ := by
  have h := f_move_loop c r f made L hn ha L.length 0 [] (by omega) (by simp)
  rw [List.drop_zero, List.nil_append] at h
  generalize moveL c L = X at *
  refine Wp.ev ?_
  refine gg [.n (List.length (List.map Entity.enc L)) (List.length L), .a _ _] ⟨o_n (by simp), o_a h, trivial⟩ ?_
  exact ge
end Go.Eva.S3

/- A region's step: who fell, what grows, who leaves. -/
namespace Go.Eva.S3
def blastAt (r f q : Int) (e : Entity) : Cross := ⟨2, r, q, f, Entity.zero, e.x, e.y⟩
theorem f_fall_inner_b (c : Config) (r f made : Int) (A : List Entity) (k : Nat) (id : Int) (ids near : List Int) (i : Nat) (hk : k < A.length) (hA : A.length ≤ 1000) (hids : ids.length ≤ 1000) (hn : near.length ≤ 9) : ∀ (d j : Nat) (o : List Cross), j + d = near.length → o.length ≤ 50000 + j →
    Is cx (.loop 67 [0, 1, 0, 1, 1, 0, 0, 1, 1, 0, 0, 1] 2 [.ptr 0 0 0, vi id, .ptr 1 k 0, .all 2 none, vi ids.length, vi i, .t (.sl 1 (near.map ti)), vi near.length, vi j] [.one 10 (stepV c r f made (.all 1 none) (.all 3 none)) false, .arr 9 (A.map Entity.enc) none false, .arr 1 (ids.map ti) none false, .arr 15 (o.map Cross.enc) none false])
      ⟨.exit 2, [.ptr 0 0 0, vi id, .ptr 1 k 0, .all 2 none, vi ids.length, vi i, .t (.sl 1 (near.map ti)), vi near.length, vi near.length], [.one 10 (stepV c r f made (.all 1 none) (.all 3 none)) false, .arr 9 (A.map Entity.enc) none false, .arr 1 (ids.map ti) none false, .arr 15 ((o ++ (near.drop j).map fun q => blastAt r f q (gt A k)).map Cross.enc) none false]⟩ := by
  intro d
  induction d with
  | zero =>
    intro j o hj ho
    rw [drop_end (by omega)]
    refine Wp.ev ?_
    refine gg [.b (decide ((↑j : Int) < (↑(List.length near) : Int))) false] ⟨fP, trivial⟩ ?_
    refine rt (a := Res.mk (Ex.exit 2) [V.ptr 0 0 0, vi id, V.ptr 1 k 0, V.all 2 none, vi (↑(List.length ids) : Int), vi (↑i : Int), V.t (T.sl 1 (List.map ti near)), vi (↑(List.length near) : Int), vi (↑j : Int)] [Ob.one 10 (V.agg [vi c.cols, vi c.rows, vi c.players, vi c.window, V.t (T.int IntKind.u64 c.seed), vi r, vi f, V.all 1 none, vi made, V.all 3 none]) false, Ob.arr 9 (List.map Entity.enc A) none false, Ob.arr 1 (List.map ti ids) none false, Ob.arr 15 (List.map Cross.enc o) none false]) (by kernel_rfl) ?_
    ((have hq : j = near.length := by omega); subst hq; simp)
  | succ d ih =>
    intro j o hj ho
    have hlt : j < near.length := by omega
    have ih1 := ih (j + 1) (o ++ [blastAt r f (gt near j) (gt A k)]) (by omega) (by simp; omega)
    clear ih
    rw [drop_gt hlt, List.map_cons, List.append_cons]
    have hs := f_region_send_b c r f made A o ⟨2, 0, gt near j, 0, Entity.zero, (gt A k).x, (gt A k).y⟩ (by omega)
    unfold blastAt at ih1 ⊢
    unfold Entity.zero at *
    refine Wp.ev ?_
    refine gg [.b (decide ((↑j : Int) < (↑(List.length near) : Int))) true, .w ((0 : Int) ≤ (↑j : Int)), .n (Int.toNat (↑j : Int)) j, .g (List.map ti near) j (ti (gt near j)), .g (List.map Entity.enc A) k (Entity.enc (gt A k)), .g (List.map Entity.enc A) k (Entity.enc (gt A k)), .a _ _, .i IntKind.i64 ((↑j : Int) + 1) ((↑(j + 1) : Int)), .a _ _] ⟨tP, oW, o_n (by kernel_rfl), o_gt rfl (by assumption) (by intro h; cases h), o_gt rfl (by assumption) (by intro h; cases h), o_gt rfl (by assumption) (by intro h; cases h), o_a hs, oI, o_a ih1, trivial⟩ ?_
    exact ge
theorem f_fall_inner_a (c : Config) (r f made : Int) (A : List Entity) (k : Nat) (id : Int) (ids near : List Int) (i : Nat) (hk : k < A.length) (hA : A.length ≤ 1000) (hids : ids.length ≤ 1000) (hn : near.length ≤ 9) (h0 : 0 < near.length) :
    Is cx (.loop 67 [0, 1, 0, 1, 1, 0, 0, 1, 1, 0, 0, 1] 2 [.ptr 0 0 0, vi id, .ptr 1 k 0, .all 2 none, vi ids.length, vi i, .t (.sl 1 (near.map ti)), vi near.length, vi 0] [.one 10 (stepV c r f made (.all 1 none) (.fit 15 [])) false, .arr 9 (A.map Entity.enc) none false, .arr 1 (ids.map ti) none false])
      ⟨.exit 2, [.ptr 0 0 0, vi id, .ptr 1 k 0, .all 2 none, vi ids.length, vi i, .t (.sl 1 (near.map ti)), vi near.length, vi near.length], [.one 10 (stepV c r f made (.all 1 none) (.all 3 none)) false, .arr 9 (A.map Entity.enc) none false, .arr 1 (ids.map ti) none false, .arr 15 ((near.map fun q => blastAt r f q (gt A k)).map Cross.enc) none false]⟩ := by
  have hs := f_region_send_a c r f made A ⟨2, 0, gt near 0, 0, Entity.zero, (gt A k).x, (gt A k).y⟩
  have ih1 := f_fall_inner_b c r f made A k id ids near i hk hA hids hn (near.length - 1) 1 [blastAt r f (gt near 0) (gt A k)] (by omega) (by simp)
  have e : near.map (fun q => blastAt r f q (gt A k)) = [blastAt r f (gt near 0) (gt A k)] ++ (near.drop 1).map fun q => blastAt r f q (gt A k) := by
    have := drop_gt h0
    rw [List.drop_zero] at this
    conv => lhs; rw [this, List.map_cons]
    rfl
  rw [e]
  unfold blastAt at ih1 ⊢
  unfold Entity.zero at *
  refine Wp.ev ?_
  refine gg [.b (decide (0 < (↑(List.length near) : Int))) true, .w ((0 : Int) ≤ (0 : Int)), .l 0, .g (List.map ti near) 0 (ti (gt near 0)), .g (List.map Entity.enc A) k (Entity.enc (gt A k)), .g (List.map Entity.enc A) k (Entity.enc (gt A k)), .a _ _, .i IntKind.i64 1 1, .a _ _] ⟨tP, oW, o_gt rfl (by assumption) (by intro h; cases h), o_gt rfl (by assumption) (by intro h; cases h), o_gt rfl (by assumption) (by intro h; cases h), o_a hs, oK, o_a ih1, trivial⟩ ?_
  exact ge
theorem f_fall_outer_b (c : Config) (r f made : Int) (ids : List Int) (hids : ids.length ≤ 1000) : ∀ (d i : Nat) (A : List Entity) (o : List Cross), i + d = ids.length → A.length ≤ 1000 → o.length ≤ 9 * i + 9 → (∀ id ∈ ids.drop i, ∃ x ∈ A, x.id = id) →
    Is cx (.loop 67 [0, 1] 2 [.ptr 0 0 0, .all 2 none, vi ids.length, vi i] [.one 10 (stepV c r f made (.all 1 none) (.all 3 none)) false, .arr 9 (A.map Entity.enc) none false, .arr 1 (ids.map ti) none false, .arr 15 (o.map Cross.enc) none false])
      ⟨.exit 0, [.ptr 0 0 0, .all 2 none, vi ids.length, vi ids.length], [.one 10 (stepV c r f made (.all 1 none) (.all 3 none)) false, .arr 9 (((ids.drop i).foldl (fall1 c r f) ⟨A, made, o⟩).l.map Entity.enc) none false, .arr 1 (ids.map ti) none false, .arr 15 (((ids.drop i).foldl (fall1 c r f) ⟨A, made, o⟩).out.map Cross.enc) none false]⟩ := by
  intro d
  induction d with
  | zero =>
    intro i A o hi hA ho hP
    rw [drop_end (by omega), List.foldl_nil]
    refine Wp.ev ?_
    refine gg [.b (decide ((↑i : Int) < (↑(List.length ids) : Int))) false] ⟨fP, trivial⟩ ?_
    refine rt (a := Res.mk (Ex.exit 0) [V.ptr 0 0 0, V.all 2 none, vi (↑(List.length ids) : Int), vi (↑i : Int)] [Ob.one 10 (V.agg [vi c.cols, vi c.rows, vi c.players, vi c.window, V.t (T.int IntKind.u64 c.seed), vi r, vi f, V.all 1 none, vi made, V.all 3 none]) false, Ob.arr 9 (List.map Entity.enc A) none false, Ob.arr 1 (List.map ti ids) none false, Ob.arr 15 (List.map Cross.enc o) none false]) (by kernel_rfl) ?_
    ((have hq : i = ids.length := by omega); subst hq; rfl)
  | succ d ih =>
    intro i A o hi hA ho hP
    have hlt : i < ids.length := by omega
    have hd := drop_gt hlt
    have hx := hP (gt ids i) (by rw [hd]; exact List.mem_cons_self ..)
    obtain ⟨k, hk1, hk2, _⟩ := find_lt hx
    have hns := @near_small c r
    have hlenb : (o ++ blastsAt c r f (gt A k)).length ≤ 9 * (i + 1) + 9 := by simp [blastsAt]; omega
    have ih1 := ih (i + 1) (A.set k (anewE c r f (gt ids i) (gt A k))) (o ++ blastsAt c r f (gt A k)) (by omega) (by simpa using hA) hlenb fun id hid => by
      have := hP id (by rw [hd]; exact List.mem_cons_of_mem _ hid)
      exact mem_ids (map_id_set (e := anewE c r f (gt ids i) (gt A k)) hk2 rfl).symm this
    rw [hd, List.foldl_cons]
    have e1 : fall1 c r f ⟨A, made, o⟩ (gt ids i) = ⟨A.set k (anewE c r f (gt ids i) (gt A k)), made, o ++ blastsAt c r f (gt A k)⟩ := by simp [fall1, hk1]
    rw [e1]
    have hF := f_entity_Find A (gt ids i) (by unfold small; omega)
    rw [hk1] at hF
    have hN := f_grid_Near c r
    have hB := f_fall_inner_b c r f made A k (gt ids i) ids (c.near r) i hk2 hA hids hns (c.near r).length 0 o (by omega) (by omega)
    rw [List.drop_zero] at hB
    change Is cx _ ⟨_, _, [_, _, _, .arr 15 ((o ++ blastsAt c r f (gt A k)).map Cross.enc) none false]⟩ at hB
    generalize blastsAt c r f (gt A k) = bl at *
    have hpl := f_region_place c r f 1 2 (gt ids i) ⟨A.set k { gt A k with health := 100, vx := 0, vy := 0, age := 0 }, made, o ++ bl⟩
    clear ih hP e1 hx hk1 hd hlenb
    unfold anewE at ih1 ⊢
    refine Wp.ev ?_
    refine gg [.b (decide ((↑i : Int) < (↑(List.length ids) : Int))) true, .w ((0 : Int) ≤ (↑i : Int)), .n (Int.toNat (↑i : Int)) i, .w (i < List.length (List.map ti ids)), .g (List.map ti ids) i (ti (gt ids i)), .a _ _, .b (flats [ti (↑k : Int)]) true, .w ((0 : Int) ≤ (↑k : Int)), .n (Int.toNat (↑k : Int)) k, .w (k < List.length (List.map Entity.enc A)), .a _ _, .n (List.length (List.map ti (Config.near c r))) (List.length (Config.near c r)), .a _ _, .g (List.map Entity.enc A) k (Entity.enc (gt A k)), .t (T.sl 0 (List.set (List.map Entity.enc A) k (T.agg [ti (gt A k).id, ti (gt A k).kind, ti (gt A k).x, ti (gt A k).y, ti (gt A k).vx, ti (gt A k).vy, ti 100, ti (gt A k).age, ti (gt A k).owner]))) (T.sl 0 (List.map Entity.enc (List.set A k (Entity.mk (gt A k).id (gt A k).kind (gt A k).x (gt A k).y (gt A k).vx (gt A k).vy 100 (gt A k).age (gt A k).owner)))), .g (List.map Entity.enc (List.set A k (Entity.mk (gt A k).id (gt A k).kind (gt A k).x (gt A k).y (gt A k).vx (gt A k).vy 100 (gt A k).age (gt A k).owner))) k (Entity.enc (Entity.mk (gt A k).id (gt A k).kind (gt A k).x (gt A k).y (gt A k).vx (gt A k).vy 100 (gt A k).age (gt A k).owner))] ⟨tP, oW, o_n (by kernel_rfl), o_w (by (simp; omega)), o_gt rfl (by assumption) (by intro h; cases h), o_a hF, o_b (by kernel_rfl), oW, o_n (by kernel_rfl), o_w (by (simp; omega)), o_a hN, o_n (by simp), o_a hB, o_gt rfl (by assumption) (by intro h; cases h), o_l (nm_set (e := Entity.mk (gt A k).id (gt A k).kind (gt A k).x (gt A k).y (gt A k).vx (gt A k).vy 100 (gt A k).age (gt A k).owner) rfl rfl), o_gm rfl (get_set (by omega)) (by intro h; cases h), trivial⟩ ?_
    refine gg [.t (T.sl 0 (List.set (List.map Entity.enc (List.set A k (Entity.mk (gt A k).id (gt A k).kind (gt A k).x (gt A k).y (gt A k).vx (gt A k).vy 100 (gt A k).age (gt A k).owner))) k (T.agg [ti (gt A k).id, ti (gt A k).kind, ti (gt A k).x, ti (gt A k).y, ti 0, ti (gt A k).vy, ti 100, ti (gt A k).age, ti (gt A k).owner]))) (T.sl 0 (List.map Entity.enc (List.set A k (Entity.mk (gt A k).id (gt A k).kind (gt A k).x (gt A k).y 0 (gt A k).vy 100 (gt A k).age (gt A k).owner)))), .g (List.map Entity.enc (List.set A k (Entity.mk (gt A k).id (gt A k).kind (gt A k).x (gt A k).y 0 (gt A k).vy 100 (gt A k).age (gt A k).owner))) k (Entity.enc (Entity.mk (gt A k).id (gt A k).kind (gt A k).x (gt A k).y 0 (gt A k).vy 100 (gt A k).age (gt A k).owner)), .t (T.sl 0 (List.set (List.map Entity.enc (List.set A k (Entity.mk (gt A k).id (gt A k).kind (gt A k).x (gt A k).y 0 (gt A k).vy 100 (gt A k).age (gt A k).owner))) k (T.agg [ti (gt A k).id, ti (gt A k).kind, ti (gt A k).x, ti (gt A k).y, ti 0, ti 0, ti 100, ti (gt A k).age, ti (gt A k).owner]))) (T.sl 0 (List.map Entity.enc (List.set A k (Entity.mk (gt A k).id (gt A k).kind (gt A k).x (gt A k).y 0 0 100 (gt A k).age (gt A k).owner)))), .g (List.map Entity.enc (List.set A k (Entity.mk (gt A k).id (gt A k).kind (gt A k).x (gt A k).y 0 0 100 (gt A k).age (gt A k).owner))) k (Entity.enc (Entity.mk (gt A k).id (gt A k).kind (gt A k).x (gt A k).y 0 0 100 (gt A k).age (gt A k).owner)), .t (T.sl 0 (List.set (List.map Entity.enc (List.set A k (Entity.mk (gt A k).id (gt A k).kind (gt A k).x (gt A k).y 0 0 100 (gt A k).age (gt A k).owner))) k (T.agg [ti (gt A k).id, ti (gt A k).kind, ti (gt A k).x, ti (gt A k).y, ti 0, ti 0, ti 100, ti 0, ti (gt A k).owner]))) (T.sl 0 (List.map Entity.enc (List.set A k (Entity.mk (gt A k).id (gt A k).kind (gt A k).x (gt A k).y 0 0 100 0 (gt A k).owner)))), .a _ _, .b (flats [ti (placeX c r f 1 (gt ids i)), ti (placeY c r f 2 (gt ids i))]) true, .g (List.map Entity.enc (List.set A k (Entity.mk (gt A k).id (gt A k).kind (gt A k).x (gt A k).y 0 0 100 0 (gt A k).owner))) k (Entity.enc (Entity.mk (gt A k).id (gt A k).kind (gt A k).x (gt A k).y 0 0 100 0 (gt A k).owner)), .t (T.sl 0 (List.set (List.map Entity.enc (List.set A k (Entity.mk (gt A k).id (gt A k).kind (gt A k).x (gt A k).y 0 0 100 0 (gt A k).owner))) k (T.agg [ti (gt A k).id, ti (gt A k).kind, ti (placeX c r f 1 (gt ids i)), ti (gt A k).y, ti 0, ti 0, ti 100, ti 0, ti (gt A k).owner]))) (T.sl 0 (List.map Entity.enc (List.set A k (Entity.mk (gt A k).id (gt A k).kind (placeX c r f 1 (gt ids i)) (gt A k).y 0 0 100 0 (gt A k).owner)))), .g (List.map Entity.enc (List.set A k (Entity.mk (gt A k).id (gt A k).kind (placeX c r f 1 (gt ids i)) (gt A k).y 0 0 100 0 (gt A k).owner))) k (Entity.enc (Entity.mk (gt A k).id (gt A k).kind (placeX c r f 1 (gt ids i)) (gt A k).y 0 0 100 0 (gt A k).owner))] ⟨o_l (nm_eq (nm_set (e := Entity.mk (gt A k).id (gt A k).kind (gt A k).x (gt A k).y 0 (gt A k).vy 100 (gt A k).age (gt A k).owner) rfl rfl) (by simp)), o_gm rfl (get_set (by omega)) (by intro h; cases h), o_l (nm_eq (nm_set (e := Entity.mk (gt A k).id (gt A k).kind (gt A k).x (gt A k).y 0 0 100 (gt A k).age (gt A k).owner) rfl rfl) (by simp)), o_gm rfl (get_set (by omega)) (by intro h; cases h), o_l (nm_eq (nm_set (e := Entity.mk (gt A k).id (gt A k).kind (gt A k).x (gt A k).y 0 0 100 0 (gt A k).owner) rfl rfl) (by simp)), o_a hpl, o_b (by kernel_rfl), o_gm rfl (get_set (by omega)) (by intro h; cases h), o_l (nm_eq (nm_set (e := Entity.mk (gt A k).id (gt A k).kind (placeX c r f 1 (gt ids i)) (gt A k).y 0 0 100 0 (gt A k).owner) rfl rfl) (by simp)), o_gm rfl (get_set (by omega)) (by intro h; cases h), trivial⟩ ?_
    refine gg [.t (T.sl 0 (List.set (List.map Entity.enc (List.set A k (Entity.mk (gt A k).id (gt A k).kind (placeX c r f 1 (gt ids i)) (gt A k).y 0 0 100 0 (gt A k).owner))) k (T.agg [ti (gt A k).id, ti (gt A k).kind, ti (placeX c r f 1 (gt ids i)), ti (placeY c r f 2 (gt ids i)), ti 0, ti 0, ti 100, ti 0, ti (gt A k).owner]))) (T.sl 0 (List.map Entity.enc (List.set A k (Entity.mk (gt A k).id (gt A k).kind (placeX c r f 1 (gt ids i)) (placeY c r f 2 (gt ids i)) 0 0 100 0 (gt A k).owner)))), .i IntKind.i64 ((↑i : Int) + 1) ((↑(i + 1) : Int)), .a _ _] ⟨o_l (nm_eq (nm_set (e := Entity.mk (gt A k).id (gt A k).kind (placeX c r f 1 (gt ids i)) (placeY c r f 2 (gt ids i)) 0 0 100 0 (gt A k).owner) rfl rfl) (by simp)), oI, o_a ih1, trivial⟩ ?_
    exact ge
theorem f_fall_outer_a (c : Config) (r f made : Int) (ids : List Int) (hids : ids.length ≤ 1000) (A : List Entity) (hA : A.length ≤ 1000) (h0 : 0 < ids.length) (hnr : 0 < (c.near r).length) (hP : ∀ id ∈ ids, ∃ x ∈ A, x.id = id) :
    Is cx (.loop 67 [0, 1] 2 [.ptr 0 0 0, .all 2 none, vi ids.length, vi 0] [.one 10 (stepV c r f made (.all 1 none) (.fit 15 [])) false, .arr 9 (A.map Entity.enc) none false, .arr 1 (ids.map ti) none false])
      ⟨.exit 0, [.ptr 0 0 0, .all 2 none, vi ids.length, vi ids.length], [.one 10 (stepV c r f made (.all 1 none) (.all 3 none)) false, .arr 9 ((ids.foldl (fall1 c r f) ⟨A, made, []⟩).l.map Entity.enc) none false, .arr 1 (ids.map ti) none false, .arr 15 ((ids.foldl (fall1 c r f) ⟨A, made, []⟩).out.map Cross.enc) none false]⟩ := by
  have hd := drop_gt h0
  rw [List.drop_zero] at hd
  have hx := hP (gt ids 0) (gt_mem h0)
  obtain ⟨k, hk1, hk2, _⟩ := find_lt hx
  have hns := @near_small c r
  have hlenb : (blastsAt c r f (gt A k)).length ≤ 9 * 1 + 9 := by simp [blastsAt]; omega
  have ih1 := f_fall_outer_b c r f made ids hids (ids.length - 1) 1 (A.set k (anewE c r f (gt ids 0) (gt A k))) (blastsAt c r f (gt A k)) (by omega) (by simpa using hA) hlenb fun id hid => by
    have := hP id (by rw [hd]; exact List.mem_cons_of_mem _ hid)
    exact mem_ids (map_id_set (e := anewE c r f (gt ids 0) (gt A k)) hk2 rfl).symm this
  have e0 : ids.foldl (fall1 c r f) ⟨A, made, []⟩ = (ids.drop 1).foldl (fall1 c r f) (fall1 c r f ⟨A, made, []⟩ (gt ids 0)) := by
    conv => lhs; rw [hd]
    rfl
  rw [e0]
  have e1 : fall1 c r f ⟨A, made, []⟩ (gt ids 0) = ⟨A.set k (anewE c r f (gt ids 0) (gt A k)), made, blastsAt c r f (gt A k)⟩ := by simp [fall1, hk1]
  rw [e1]
  have hF := f_entity_Find A (gt ids 0) (by unfold small; omega)
  rw [hk1] at hF
  have hN := f_grid_Near c r
  have hB := f_fall_inner_a c r f made A k (gt ids 0) ids (c.near r) 0 hk2 hA hids hns hnr
  change Is cx _ ⟨_, _, [_, _, _, .arr 15 ((blastsAt c r f (gt A k)).map Cross.enc) none false]⟩ at hB
  generalize blastsAt c r f (gt A k) = bl at *
  have hpl := f_region_place c r f 1 2 (gt ids 0) ⟨A.set k { gt A k with health := 100, vx := 0, vy := 0, age := 0 }, made, bl⟩
  clear hP e1 hx hk1 hd hlenb e0
  unfold anewE at ih1 ⊢
  refine Wp.ev ?_
  refine gg [.b (decide (0 < (↑(List.length ids) : Int))) true, .w ((0 : Int) ≤ (0 : Int)), .l 0, .w ((0 : Nat) < List.length (List.map ti ids)), .g (List.map ti ids) 0 (ti (gt ids 0)), .a _ _, .b (flats [ti (↑k : Int)]) true, .w ((0 : Int) ≤ (↑k : Int)), .n (Int.toNat (↑k : Int)) k, .w (k < List.length (List.map Entity.enc A)), .a _ _, .n (List.length (List.map ti (Config.near c r))) (List.length (Config.near c r)), .a _ _, .g (List.map Entity.enc A) k (Entity.enc (gt A k)), .t (T.sl 0 (List.set (List.map Entity.enc A) k (T.agg [ti (gt A k).id, ti (gt A k).kind, ti (gt A k).x, ti (gt A k).y, ti (gt A k).vx, ti (gt A k).vy, ti 100, ti (gt A k).age, ti (gt A k).owner]))) (T.sl 0 (List.map Entity.enc (List.set A k (Entity.mk (gt A k).id (gt A k).kind (gt A k).x (gt A k).y (gt A k).vx (gt A k).vy 100 (gt A k).age (gt A k).owner)))), .g (List.map Entity.enc (List.set A k (Entity.mk (gt A k).id (gt A k).kind (gt A k).x (gt A k).y (gt A k).vx (gt A k).vy 100 (gt A k).age (gt A k).owner))) k (Entity.enc (Entity.mk (gt A k).id (gt A k).kind (gt A k).x (gt A k).y (gt A k).vx (gt A k).vy 100 (gt A k).age (gt A k).owner))] ⟨tP, oW, o_w (by (simp; omega)), o_gt rfl (by assumption) (by intro h; cases h), o_a hF, o_b (by kernel_rfl), oW, o_n (by kernel_rfl), o_w (by (simp; omega)), o_a hN, o_n (by simp), o_a hB, o_gt rfl (by assumption) (by intro h; cases h), o_l (nm_set (e := Entity.mk (gt A k).id (gt A k).kind (gt A k).x (gt A k).y (gt A k).vx (gt A k).vy 100 (gt A k).age (gt A k).owner) rfl rfl), o_gm rfl (get_set (by omega)) (by intro h; cases h), trivial⟩ ?_
  refine gg [.t (T.sl 0 (List.set (List.map Entity.enc (List.set A k (Entity.mk (gt A k).id (gt A k).kind (gt A k).x (gt A k).y (gt A k).vx (gt A k).vy 100 (gt A k).age (gt A k).owner))) k (T.agg [ti (gt A k).id, ti (gt A k).kind, ti (gt A k).x, ti (gt A k).y, ti 0, ti (gt A k).vy, ti 100, ti (gt A k).age, ti (gt A k).owner]))) (T.sl 0 (List.map Entity.enc (List.set A k (Entity.mk (gt A k).id (gt A k).kind (gt A k).x (gt A k).y 0 (gt A k).vy 100 (gt A k).age (gt A k).owner)))), .g (List.map Entity.enc (List.set A k (Entity.mk (gt A k).id (gt A k).kind (gt A k).x (gt A k).y 0 (gt A k).vy 100 (gt A k).age (gt A k).owner))) k (Entity.enc (Entity.mk (gt A k).id (gt A k).kind (gt A k).x (gt A k).y 0 (gt A k).vy 100 (gt A k).age (gt A k).owner)), .t (T.sl 0 (List.set (List.map Entity.enc (List.set A k (Entity.mk (gt A k).id (gt A k).kind (gt A k).x (gt A k).y 0 (gt A k).vy 100 (gt A k).age (gt A k).owner))) k (T.agg [ti (gt A k).id, ti (gt A k).kind, ti (gt A k).x, ti (gt A k).y, ti 0, ti 0, ti 100, ti (gt A k).age, ti (gt A k).owner]))) (T.sl 0 (List.map Entity.enc (List.set A k (Entity.mk (gt A k).id (gt A k).kind (gt A k).x (gt A k).y 0 0 100 (gt A k).age (gt A k).owner)))), .g (List.map Entity.enc (List.set A k (Entity.mk (gt A k).id (gt A k).kind (gt A k).x (gt A k).y 0 0 100 (gt A k).age (gt A k).owner))) k (Entity.enc (Entity.mk (gt A k).id (gt A k).kind (gt A k).x (gt A k).y 0 0 100 (gt A k).age (gt A k).owner)), .t (T.sl 0 (List.set (List.map Entity.enc (List.set A k (Entity.mk (gt A k).id (gt A k).kind (gt A k).x (gt A k).y 0 0 100 (gt A k).age (gt A k).owner))) k (T.agg [ti (gt A k).id, ti (gt A k).kind, ti (gt A k).x, ti (gt A k).y, ti 0, ti 0, ti 100, ti 0, ti (gt A k).owner]))) (T.sl 0 (List.map Entity.enc (List.set A k (Entity.mk (gt A k).id (gt A k).kind (gt A k).x (gt A k).y 0 0 100 0 (gt A k).owner)))), .a _ _, .b (flats [ti (placeX c r f 1 (gt ids 0)), ti (placeY c r f 2 (gt ids 0))]) true, .g (List.map Entity.enc (List.set A k (Entity.mk (gt A k).id (gt A k).kind (gt A k).x (gt A k).y 0 0 100 0 (gt A k).owner))) k (Entity.enc (Entity.mk (gt A k).id (gt A k).kind (gt A k).x (gt A k).y 0 0 100 0 (gt A k).owner)), .t (T.sl 0 (List.set (List.map Entity.enc (List.set A k (Entity.mk (gt A k).id (gt A k).kind (gt A k).x (gt A k).y 0 0 100 0 (gt A k).owner))) k (T.agg [ti (gt A k).id, ti (gt A k).kind, ti (placeX c r f 1 (gt ids 0)), ti (gt A k).y, ti 0, ti 0, ti 100, ti 0, ti (gt A k).owner]))) (T.sl 0 (List.map Entity.enc (List.set A k (Entity.mk (gt A k).id (gt A k).kind (placeX c r f 1 (gt ids 0)) (gt A k).y 0 0 100 0 (gt A k).owner)))), .g (List.map Entity.enc (List.set A k (Entity.mk (gt A k).id (gt A k).kind (placeX c r f 1 (gt ids 0)) (gt A k).y 0 0 100 0 (gt A k).owner))) k (Entity.enc (Entity.mk (gt A k).id (gt A k).kind (placeX c r f 1 (gt ids 0)) (gt A k).y 0 0 100 0 (gt A k).owner))] ⟨o_l (nm_eq (nm_set (e := Entity.mk (gt A k).id (gt A k).kind (gt A k).x (gt A k).y 0 (gt A k).vy 100 (gt A k).age (gt A k).owner) rfl rfl) (by simp)), o_gm rfl (get_set (by omega)) (by intro h; cases h), o_l (nm_eq (nm_set (e := Entity.mk (gt A k).id (gt A k).kind (gt A k).x (gt A k).y 0 0 100 (gt A k).age (gt A k).owner) rfl rfl) (by simp)), o_gm rfl (get_set (by omega)) (by intro h; cases h), o_l (nm_eq (nm_set (e := Entity.mk (gt A k).id (gt A k).kind (gt A k).x (gt A k).y 0 0 100 0 (gt A k).owner) rfl rfl) (by simp)), o_a hpl, o_b (by kernel_rfl), o_gm rfl (get_set (by omega)) (by intro h; cases h), o_l (nm_eq (nm_set (e := Entity.mk (gt A k).id (gt A k).kind (placeX c r f 1 (gt ids 0)) (gt A k).y 0 0 100 0 (gt A k).owner) rfl rfl) (by simp)), o_gm rfl (get_set (by omega)) (by intro h; cases h), trivial⟩ ?_
  refine gg [.t (T.sl 0 (List.set (List.map Entity.enc (List.set A k (Entity.mk (gt A k).id (gt A k).kind (placeX c r f 1 (gt ids 0)) (gt A k).y 0 0 100 0 (gt A k).owner))) k (T.agg [ti (gt A k).id, ti (gt A k).kind, ti (placeX c r f 1 (gt ids 0)), ti (placeY c r f 2 (gt ids 0)), ti 0, ti 0, ti 100, ti 0, ti (gt A k).owner]))) (T.sl 0 (List.map Entity.enc (List.set A k (Entity.mk (gt A k).id (gt A k).kind (placeX c r f 1 (gt ids 0)) (placeY c r f 2 (gt ids 0)) 0 0 100 0 (gt A k).owner)))), .i IntKind.i64 1 1, .a _ _] ⟨o_l (nm_eq (nm_set (e := Entity.mk (gt A k).id (gt A k).kind (placeX c r f 1 (gt ids 0)) (placeY c r f 2 (gt ids 0)) 0 0 100 0 (gt A k).owner) rfl rfl) (by simp)), oK, o_a ih1, trivial⟩ ?_
  exact ge
theorem fallen_has {L : List Entity} : ∀ id ∈ fallenL L, ∃ x ∈ L, x.id = id := by
  intro id h
  obtain ⟨x, h1, h2⟩ := List.mem_map.1 h
  exact ⟨x, (List.mem_filter.1 h1).1, h2⟩
theorem fallen_len {L : List Entity} : (fallenL L).length ≤ L.length := by
  unfold fallenL; rw [List.length_map]; exact List.length_filter_le ..
theorem f_region_fall_a (c : Config) (r f made : Int) (L : List Entity) (hL : L.length ≤ 1000) (h : fallenL L = []) :
    Is cx (.call 67 [.ptr 0 0 0] [.one 10 (stepV c r f made (.all 1 none) (.fit 15 [])) false, .arr 9 (L.map Entity.enc) none false])
      ⟨.ret, [], [.one 10 (stepV c r f made (.all 1 none) (.fit 15 [])) false, .arr 9 (L.map Entity.enc) none false]⟩ := by
  have hF := f_hitting_Fallen L (by unfold small; omega)
  rw [h] at hF
  have hl : Is cx (.loop 67 [0, 1] 2 [.ptr 0 0 0, .all 2 none, vi 0, vi 0] [.one 10 (stepV c r f made (.all 1 none) (.fit 15 [])) false, .arr 9 (L.map Entity.enc) none false, .arr 1 [] none false])
      ⟨.exit 0, [.ptr 0 0 0, .all 2 none, vi 0, vi 0], [.one 10 (stepV c r f made (.all 1 none) (.fit 15 [])) false, .arr 9 (L.map Entity.enc) none false, .arr 1 [] none false]⟩ := by
    refine Wp.ev ?_
    refine gg [.b (decide (0 < 0)) false] ⟨o_b (by kernel_rfl), trivial⟩ ?_
    exact ge
  refine Wp.ev ?_
  refine gg [.a _ _, .l 0, .a _ _] ⟨o_a hF, o_a hl, trivial⟩ ?_
  exact ge
theorem f_region_fall_b (c : Config) (r f made : Int) (L : List Entity) (hL : L.length ≤ 1000) (hnr : 0 < (c.near r).length) (h : fallenL L ≠ []) :
    Is cx (.call 67 [.ptr 0 0 0] [.one 10 (stepV c r f made (.all 1 none) (.fit 15 [])) false, .arr 9 (L.map Entity.enc) none false])
      ⟨.ret, [], [.one 10 (stepV c r f made (.all 1 none) (.all 2 none)) false, .arr 9 ((fallS c r f ⟨L, made, []⟩).l.map Entity.enc) none false, .arr 15 ((fallS c r f ⟨L, made, []⟩).out.map Cross.enc) none false]⟩ := by
  have hF := f_hitting_Fallen L (by unfold small; omega)
  have hlen := @fallen_len L
  have hP := @fallen_has L
  unfold fallS
  simp only
  have h0 : 0 < (fallenL L).length := List.length_pos_iff.2 h
  generalize fallenL L = ids at *
  have hl := f_fall_outer_a c r f made ids (by omega) L hL h0 hnr hP
  clear hP h
  generalize ids.foldl (fall1 c r f) ⟨L, made, []⟩ = S at *
  obtain ⟨A, m2, o⟩ := S
  simp only at hl ⊢
  refine Wp.ev ?_
  refine gg [.a _ _, .n (List.length (List.map ti ids)) (List.length ids), .a _ _] ⟨o_a hF, o_n (by simp), o_a hl, trivial⟩ ?_
  exact ge
theorem f_grow_loop_a (c : Config) (r f made : Int) (L : List Entity) (o : List Cross) (hL : L.length ≤ 1000) : ∀ (d i n : Nat), i + d = L.length → n ≤ i →
    Is cx (.loop 68 [0, 1, 0, 1] 2 [.ptr 0 0 0, vi n, .all 1 none, vi L.length, vi i] [.one 10 (stepV c r f made (.all 1 none) (.fit 15 [])) false, .arr 9 (L.map Entity.enc) none false])
      ⟨.exit 0, [.ptr 0 0 0, vi (n + (L.drop i).countP fun e => e.kind == 3 : Nat), .all 1 none, vi L.length, vi L.length], [.one 10 (stepV c r f made (.all 1 none) (.fit 15 [])) false, .arr 9 (L.map Entity.enc) none false]⟩ := by
  intro d
  induction d with
  | zero =>
    intro i n hi hm
    rw [drop_end (by omega)]
    refine Wp.ev ?_
    refine gg [.b (decide ((↑i : Int) < (↑(List.length L) : Int))) false] ⟨fP, trivial⟩ ?_
    refine rt (a := Res.mk (Ex.exit 0) [V.ptr 0 0 0, vi (↑n : Int), V.all 1 none, vi (↑(List.length L) : Int), vi (↑i : Int)] [Ob.one 10 (V.agg [vi c.cols, vi c.rows, vi c.players, vi c.window, V.t (T.int IntKind.u64 c.seed), vi r, vi f, V.all 1 none, vi made, V.fit 15 []]) false, Ob.arr 9 (List.map Entity.enc L) none false]) (by kernel_rfl) ?_
    ((have hq : i = L.length := by omega); subst hq; rfl)
  | succ d ih =>
    intro i n hi hm
    have hlt : i < L.length := by omega
    have ih1 := ih (i + 1) n (by omega) (by omega)
    have ih2 := ih (i + 1) (n + 1) (by omega) (by omega)
    clear ih
    rw [countP_gt _ hlt]
    refine Wp.ev ?_
    refine gg [.b (decide ((↑i : Int) < (↑(List.length L) : Int))) true, .w ((0 : Int) ≤ (↑i : Int)), .n (Int.toNat (↑i : Int)) i, .w (i < List.length (List.map Entity.enc L)), .g (List.map Entity.enc L) i (Entity.enc (gt L i))] ⟨tP, oW, o_n (by kernel_rfl), o_w (by (simp; omega)), o_gt rfl (by assumption) (by intro h; cases h), trivial⟩ ?_
    refine bre (x := (gt L i).kind) (y := 3) (by kernel_rfl) (fun h1 => ?_) (fun h1 => ?_)
    · refine gg [.i IntKind.i64 ((↑n : Int) + 1) ((↑(n + 1) : Int)), .i IntKind.i64 ((↑i : Int) + 1) ((↑(i + 1) : Int)), .a _ _] ⟨oI, oI, o_a ih2, trivial⟩ ?_
      refine rt (a := Res.mk (Ex.exit 0) [V.ptr 0 0 0, vi (↑(n + 1 + List.countP (fun (e : Entity) ↦ e.kind == 3) (List.drop (i + 1) L)) : Int), V.all 1 none, vi (↑(List.length L) : Int), vi (↑(List.length L) : Int)] [Ob.one 10 (V.agg [vi c.cols, vi c.rows, vi c.players, vi c.window, V.t (T.int IntKind.u64 c.seed), vi r, vi f, V.all 1 none, vi made, V.fit 15 []]) false, Ob.arr 9 (List.map Entity.enc L) none false]) (by kernel_rfl) ?_
      (simp_all; try omega)
    · refine gg [.i IntKind.i64 ((↑i : Int) + 1) ((↑(i + 1) : Int)), .a _ _] ⟨oI, o_a ih1, trivial⟩ ?_
      refine rt (a := Res.mk (Ex.exit 0) [V.ptr 0 0 0, vi (↑(n + List.countP (fun (e : Entity) ↦ e.kind == 3) (List.drop (i + 1) L)) : Int), V.all 1 none, vi (↑(List.length L) : Int), vi (↑(List.length L) : Int)] [Ob.one 10 (V.agg [vi c.cols, vi c.rows, vi c.players, vi c.window, V.t (T.int IntKind.u64 c.seed), vi r, vi f, V.all 1 none, vi made, V.fit 15 []]) false, Ob.arr 9 (List.map Entity.enc L) none false]) (by kernel_rfl) ?_
      (simp_all; try omega)
theorem f_region_grow_no_a (c : Config) (r f made : Int) (L : List Entity) (o : List Cross) (hL : L.length ≤ 1000) (h : below 8 c.seed [3, f, r] ≠ 0 ∨ 3 ≤ (L.countP fun e => e.kind == 3) ∨ Stg.room ⟨L, made, []⟩ = false) :
    Is cx (.call 68 [.ptr 0 0 0] [.one 10 (stepV c r f made (.all 1 none) (.fit 15 [])) false, .arr 9 (L.map Entity.enc) none false])
      ⟨.ret, [], [.one 10 (stepV c r f made (.all 1 none) (.fit 15 [])) false, .arr 9 (L.map Entity.enc) none false]⟩ := by
  have hl := f_grow_loop_a c r f made L o hL L.length 0 0 (by omega) (by omega)
  rw [List.drop_zero, Nat.zero_add] at hl
  have hb := f_chance_Below 8 c.seed [3, f, r] (by decide) (by simp [small])
  have hrm := f_region_room c r f ⟨L, made, []⟩ (by unfold small; simp only; omega)
  have hc : (L.countP fun e => e.kind == 3) ≤ L.length := List.countP_le_length
  generalize (L.countP fun e => e.kind == 3) = n at *
  generalize below 8 c.seed [3, f, r] = b at *
  generalize Stg.room ⟨L, made, []⟩ = rm at *
  by_cases h1 : b = 0
  · by_cases h2 : 3 ≤ n
    · refine Wp.ev ?_
      refine gg [.n (List.length (List.map Entity.enc L)) (List.length L), .a _ _, .a _ _, .b (b != 0) false, .ff, .ff, .b (decide ((↑n : Int) ≥ 3)) true, .tt, .tt, .tt, .tt] ⟨o_n (by simp), o_a hl, o_a hb, f_brn (by assumption), tP, trivial⟩ ?_
      exact ge
    · have h3 : rm = false := by rcases h with h | h | h; exact absurd h1 h; exact absurd h h2; exact h
      subst h3
      refine Wp.ev ?_
      refine gg [.n (List.length (List.map Entity.enc L)) (List.length L), .a _ _, .a _ _, .b (b != 0) false, .ff, .ff, .b (decide ((↑n : Int) ≥ 3)) false, .ff, .a _ _, .b (flats [T.bool false]) true, .ff, .ff, .b (!false) true] ⟨o_n (by simp), o_a hl, o_a hb, f_brn (by assumption), fP, o_a hrm, o_b (by kernel_rfl), o_b (by kernel_rfl), trivial⟩ ?_
      exact ge
  · refine Wp.ev ?_
    refine gg [.n (List.length (List.map Entity.enc L)) (List.length L), .a _ _, .a _ _, .b (b != 0) true, .tt, .tt, .tt, .tt, .tt, .tt, .tt] ⟨o_n (by simp), o_a hl, o_a hb, t_brn (by assumption), trivial⟩ ?_
    exact ge
theorem f_grow_loop_b (c : Config) (r f made : Int) (L : List Entity) (o : List Cross) (hL : L.length ≤ 1000) : ∀ (d i n : Nat), i + d = L.length → n ≤ i →
    Is cx (.loop 68 [0, 1, 0, 1] 3 [.ptr 0 0 0, vi n, .all 1 none, vi L.length, vi i] [.one 10 (stepV c r f made (.all 1 none) (.all 2 none)) false, .arr 9 (L.map Entity.enc) none false, .arr 15 (o.map Cross.enc) none false])
      ⟨.exit 0, [.ptr 0 0 0, vi (n + (L.drop i).countP fun e => e.kind == 3 : Nat), .all 1 none, vi L.length, vi L.length], [.one 10 (stepV c r f made (.all 1 none) (.all 2 none)) false, .arr 9 (L.map Entity.enc) none false, .arr 15 (o.map Cross.enc) none false]⟩ := by
  intro d
  induction d with
  | zero =>
    intro i n hi hm
    rw [drop_end (by omega)]
    refine Wp.ev ?_
    refine gg [.b (decide ((↑i : Int) < (↑(List.length L) : Int))) false] ⟨fP, trivial⟩ ?_
    refine rt (a := Res.mk (Ex.exit 0) [V.ptr 0 0 0, vi (↑n : Int), V.all 1 none, vi (↑(List.length L) : Int), vi (↑i : Int)] [Ob.one 10 (V.agg [vi c.cols, vi c.rows, vi c.players, vi c.window, V.t (T.int IntKind.u64 c.seed), vi r, vi f, V.all 1 none, vi made, V.all 2 none]) false, Ob.arr 9 (List.map Entity.enc L) none false, Ob.arr 15 (List.map Cross.enc o) none false]) (by kernel_rfl) ?_
    ((have hq : i = L.length := by omega); subst hq; rfl)
  | succ d ih =>
    intro i n hi hm
    have hlt : i < L.length := by omega
    have ih1 := ih (i + 1) n (by omega) (by omega)
    have ih2 := ih (i + 1) (n + 1) (by omega) (by omega)
    clear ih
    rw [countP_gt _ hlt]
    refine Wp.ev ?_
    refine gg [.b (decide ((↑i : Int) < (↑(List.length L) : Int))) true, .w ((0 : Int) ≤ (↑i : Int)), .n (Int.toNat (↑i : Int)) i, .w (i < List.length (List.map Entity.enc L)), .g (List.map Entity.enc L) i (Entity.enc (gt L i))] ⟨tP, oW, o_n (by kernel_rfl), o_w (by (simp; omega)), o_gt rfl (by assumption) (by intro h; cases h), trivial⟩ ?_
    refine bre (x := (gt L i).kind) (y := 3) (by kernel_rfl) (fun h1 => ?_) (fun h1 => ?_)
    · refine gg [.i IntKind.i64 ((↑n : Int) + 1) ((↑(n + 1) : Int)), .i IntKind.i64 ((↑i : Int) + 1) ((↑(i + 1) : Int)), .a _ _] ⟨oI, oI, o_a ih2, trivial⟩ ?_
      refine rt (a := Res.mk (Ex.exit 0) [V.ptr 0 0 0, vi (↑(n + 1 + List.countP (fun (e : Entity) ↦ e.kind == 3) (List.drop (i + 1) L)) : Int), V.all 1 none, vi (↑(List.length L) : Int), vi (↑(List.length L) : Int)] [Ob.one 10 (V.agg [vi c.cols, vi c.rows, vi c.players, vi c.window, V.t (T.int IntKind.u64 c.seed), vi r, vi f, V.all 1 none, vi made, V.all 2 none]) false, Ob.arr 9 (List.map Entity.enc L) none false, Ob.arr 15 (List.map Cross.enc o) none false]) (by kernel_rfl) ?_
      (simp_all; try omega)
    · refine gg [.i IntKind.i64 ((↑i : Int) + 1) ((↑(i + 1) : Int)), .a _ _] ⟨oI, o_a ih1, trivial⟩ ?_
      refine rt (a := Res.mk (Ex.exit 0) [V.ptr 0 0 0, vi (↑(n + List.countP (fun (e : Entity) ↦ e.kind == 3) (List.drop (i + 1) L)) : Int), V.all 1 none, vi (↑(List.length L) : Int), vi (↑(List.length L) : Int)] [Ob.one 10 (V.agg [vi c.cols, vi c.rows, vi c.players, vi c.window, V.t (T.int IntKind.u64 c.seed), vi r, vi f, V.all 1 none, vi made, V.all 2 none]) false, Ob.arr 9 (List.map Entity.enc L) none false, Ob.arr 15 (List.map Cross.enc o) none false]) (by kernel_rfl) ?_
      (simp_all; try omega)
theorem f_region_grow_no_b (c : Config) (r f made : Int) (L : List Entity) (o : List Cross) (hL : L.length ≤ 1000) (h : below 8 c.seed [3, f, r] ≠ 0 ∨ 3 ≤ (L.countP fun e => e.kind == 3) ∨ Stg.room ⟨L, made, o⟩ = false) :
    Is cx (.call 68 [.ptr 0 0 0] [.one 10 (stepV c r f made (.all 1 none) (.all 2 none)) false, .arr 9 (L.map Entity.enc) none false, .arr 15 (o.map Cross.enc) none false])
      ⟨.ret, [], [.one 10 (stepV c r f made (.all 1 none) (.all 2 none)) false, .arr 9 (L.map Entity.enc) none false, .arr 15 (o.map Cross.enc) none false]⟩ := by
  have hl := f_grow_loop_b c r f made L o hL L.length 0 0 (by omega) (by omega)
  rw [List.drop_zero, Nat.zero_add] at hl
  have hb := f_chance_Below 8 c.seed [3, f, r] (by decide) (by simp [small])
  have hrm := f_region_room c r f ⟨L, made, o⟩ (by unfold small; simp only; omega)
  have hc : (L.countP fun e => e.kind == 3) ≤ L.length := List.countP_le_length
  generalize (L.countP fun e => e.kind == 3) = n at *
  generalize below 8 c.seed [3, f, r] = b at *
  generalize Stg.room ⟨L, made, o⟩ = rm at *
  by_cases h1 : b = 0
  · by_cases h2 : 3 ≤ n
    · refine Wp.ev ?_
      refine gg [.n (List.length (List.map Entity.enc L)) (List.length L), .a _ _, .a _ _, .b (b != 0) false, .ff, .ff, .b (decide ((↑n : Int) ≥ 3)) true, .tt, .tt, .tt, .tt] ⟨o_n (by simp), o_a hl, o_a hb, f_brn (by assumption), tP, trivial⟩ ?_
      exact ge
    · have h3 : rm = false := by rcases h with h | h | h; exact absurd h1 h; exact absurd h h2; exact h
      subst h3
      refine Wp.ev ?_
      refine gg [.n (List.length (List.map Entity.enc L)) (List.length L), .a _ _, .a _ _, .b (b != 0) false, .ff, .ff, .b (decide ((↑n : Int) ≥ 3)) false, .ff, .a _ _, .b (flats [T.bool false]) true, .ff, .ff, .b (!false) true] ⟨o_n (by simp), o_a hl, o_a hb, f_brn (by assumption), fP, o_a hrm, o_b (by kernel_rfl), o_b (by kernel_rfl), trivial⟩ ?_
      exact ge
  · refine Wp.ev ?_
    refine gg [.n (List.length (List.map Entity.enc L)) (List.length L), .a _ _, .a _ _, .b (b != 0) true, .tt, .tt, .tt, .tt, .tt, .tt, .tt] ⟨o_n (by simp), o_a hl, o_a hb, t_brn (by assumption), trivial⟩ ?_
    exact ge
theorem f_region_grow_yes_a (c : Config) (r f made : Int) (L : List Entity) (hL : L.length ≤ 1000) (hr : 0 ≤ r ∧ r ≤ 16) (hf : 0 ≤ f ∧ f ≤ 10000) (hm : 0 ≤ made ∧ made ≤ 1000) (h : ¬ (below 8 c.seed [3, f, r] ≠ 0 ∨ 3 ≤ (L.countP fun e => e.kind == 3) ∨ Stg.room ⟨L, made, []⟩ = false)) :
    Is cx (.call 68 [.ptr 0 0 0] [.one 10 (stepV c r f made (.all 1 none) (.fit 15 [])) false, .arr 9 (L.map Entity.enc) none false])
      ⟨.ret, [], [.one 10 (stepV c r f (made + 1) (.all 2 none) (.fit 15 [])) false, .arr 9 (L.map Entity.enc) none true, .arr 9 ((put1 L (gemE c r f made)).map Entity.enc) none false]⟩ := by
  have hl := f_grow_loop_a c r f made L [] hL L.length 0 0 (by omega) (by omega)
  rw [List.drop_zero, Nat.zero_add] at hl
  have hb := f_chance_Below 8 c.seed [3, f, r] (by decide) (by simp [small])
  have hrm := f_region_room c r f ⟨L, made, []⟩ (by unfold small; simp only; omega)
  have hc : (L.countP fun e => e.kind == 3) ≤ L.length := List.countP_le_length
  have hpl := f_region_place c r f 4 5 r ⟨L, made, []⟩
  have hnum := f_region_number_a c r f made L [] hr hf hm
  have hput := f_entity_Put L [gemE c r f made] (by omega) (by simp)
  change Is cx _ ⟨_, _, [.arr 9 ((put1 L (gemE c r f made)).map Entity.enc) none false]⟩ at hput
  unfold gemE at *
  generalize (L.countP fun e => e.kind == 3) = n at *
  generalize below 8 c.seed [3, f, r] = b at *
  generalize Stg.room ⟨L, made, []⟩ = rm at *
  generalize numI c r f made = nn at *
  have h1 : b = 0 := by
    by_cases q : b = 0
    · exact q
    · exact absurd (Or.inl q) h
  have h2 : ¬ 3 ≤ n := fun q => h (.inr (.inl q))
  have h3 : rm = true := by
    cases rm with
    | true => rfl
    | false => exact absurd (Or.inr (Or.inr rfl)) h
  subst h1 h3
  clear h
  refine Wp.ev ?_
  refine gg [.n (List.length (List.map Entity.enc L)) (List.length L), .a _ _, .a _ _, .b (0 != 0) false, .ff, .ff, .b (decide ((↑n : Int) ≥ 3)) false, .ff, .a _ _, .b (flats [T.bool true]) true, .ff, .ff, .b (!true) false, .a _ _, .b (flats [ti (placeX c r f 4 r), ti (placeY c r f 5 r)]) true] ⟨o_n (by simp), o_a hl, o_a hb, o_b (by kernel_rfl), fP, o_a hrm, o_b (by kernel_rfl), o_b (by kernel_rfl), o_a hpl, o_b (by kernel_rfl), trivial⟩ ?_
  refine bo (by kernel_rfl) ?_ ?_
  all_goals
    refine gg [.a _ _, .a _ _] ⟨o_a hnum, o_a hput, trivial⟩ ?_
    exact ge
theorem f_region_grow_yes_b (c : Config) (r f made : Int) (L : List Entity) (o : List Cross) (hL : L.length ≤ 1000) (hr : 0 ≤ r ∧ r ≤ 16) (hf : 0 ≤ f ∧ f ≤ 10000) (hm : 0 ≤ made ∧ made ≤ 1000) (h : ¬ (below 8 c.seed [3, f, r] ≠ 0 ∨ 3 ≤ (L.countP fun e => e.kind == 3) ∨ Stg.room ⟨L, made, o⟩ = false)) :
    Is cx (.call 68 [.ptr 0 0 0] [.one 10 (stepV c r f made (.all 1 none) (.all 2 none)) false, .arr 9 (L.map Entity.enc) none false, .arr 15 (o.map Cross.enc) none false])
      ⟨.ret, [], [.one 10 (stepV c r f (made + 1) (.all 3 none) (.all 2 none)) false, .arr 9 (L.map Entity.enc) none true, .arr 15 (o.map Cross.enc) none false, .arr 9 ((put1 L (gemE c r f made)).map Entity.enc) none false]⟩ := by
  have hl := f_grow_loop_b c r f made L o hL L.length 0 0 (by omega) (by omega)
  rw [List.drop_zero, Nat.zero_add] at hl
  have hb := f_chance_Below 8 c.seed [3, f, r] (by decide) (by simp [small])
  have hrm := f_region_room c r f ⟨L, made, o⟩ (by unfold small; simp only; omega)
  have hc : (L.countP fun e => e.kind == 3) ≤ L.length := List.countP_le_length
  have hpl := f_region_place c r f 4 5 r ⟨L, made, o⟩
  have hnum := f_region_number_b c r f made L o hr hf hm
  have hput := f_entity_Put L [gemE c r f made] (by omega) (by simp)
  change Is cx _ ⟨_, _, [.arr 9 ((put1 L (gemE c r f made)).map Entity.enc) none false]⟩ at hput
  unfold gemE at *
  generalize (L.countP fun e => e.kind == 3) = n at *
  generalize below 8 c.seed [3, f, r] = b at *
  generalize Stg.room ⟨L, made, o⟩ = rm at *
  generalize numI c r f made = nn at *
  have h1 : b = 0 := by
    by_cases q : b = 0
    · exact q
    · exact absurd (Or.inl q) h
  have h2 : ¬ 3 ≤ n := fun q => h (.inr (.inl q))
  have h3 : rm = true := by
    cases rm with
    | true => rfl
    | false => exact absurd (Or.inr (Or.inr rfl)) h
  subst h1 h3
  clear h
  refine Wp.ev ?_
  refine gg [.n (List.length (List.map Entity.enc L)) (List.length L), .a _ _, .a _ _, .b (0 != 0) false, .ff, .ff, .b (decide ((↑n : Int) ≥ 3)) false, .ff, .a _ _, .b (flats [T.bool true]) true, .ff, .ff, .b (!true) false, .a _ _, .b (flats [ti (placeX c r f 4 r), ti (placeY c r f 5 r)]) true] ⟨o_n (by simp), o_a hl, o_a hb, o_b (by kernel_rfl), fP, o_a hrm, o_b (by kernel_rfl), o_b (by kernel_rfl), o_a hpl, o_b (by kernel_rfl), trivial⟩ ?_
  refine bo (by kernel_rfl) ?_ ?_
  all_goals
    refine gg [.a _ _, .a _ _] ⟨o_a hnum, o_a hput, trivial⟩ ?_
    exact ge
theorem f_leave_loop_a1 (c : Config) (r f made : Int) (L : List Entity) (hL : L.length ≤ 1000) : ∀ (d i : Nat) (A : List Entity) (o : List Cross), i + d = L.length → A.length ≤ i → o.length ≤ 50000 + i →
    Is cx (.loop 69 [0, 1, 0, 1] 2 [.ptr 0 0 0, .all 2 none, .all 1 none, vi L.length, vi i] [.one 10 (stepV c r f made (.all 1 none) (.all 3 none)) false, .arr 9 (L.map Entity.enc) none false, .arr 9 (A.map Entity.enc) none false, .arr 15 (o.map Cross.enc) none false])
      ⟨.exit 0, [.ptr 0 0 0, .all 2 none, .all 1 none, vi L.length, vi L.length], [.one 10 (stepV c r f made (.all 1 none) (.all 3 none)) false, .arr 9 (L.map Entity.enc) none false, .arr 9 ((A ++ (L.drop i).filter fun e => decide (c.of e.x e.y = r)).map Entity.enc) none false, .arr 15 ((o ++ ((L.drop i).filter fun e => !decide (c.of e.x e.y = r)).map (handE c r f)).map Cross.enc) none false]⟩ := by
  intro d
  induction d with
  | zero =>
    intro i A o hi hA ho
    rw [drop_end (by omega)]
    refine Wp.ev ?_
    refine gg [.b (decide ((↑i : Int) < (↑(List.length L) : Int))) false] ⟨fP, trivial⟩ ?_
    refine rt (a := Res.mk (Ex.exit 0) [V.ptr 0 0 0, V.all 2 none, V.all 1 none, vi (↑(List.length L) : Int), vi (↑i : Int)] [Ob.one 10 (V.agg [vi c.cols, vi c.rows, vi c.players, vi c.window, V.t (T.int IntKind.u64 c.seed), vi r, vi f, V.all 1 none, vi made, V.all 3 none]) false, Ob.arr 9 (List.map Entity.enc L) none false, Ob.arr 9 (List.map Entity.enc A) none false, Ob.arr 15 (List.map Cross.enc o) none false]) (by kernel_rfl) ?_
    ((have hq : i = L.length := by omega); subst hq; simp)
  | succ d ih =>
    intro i A o hi hA ho
    have hlt : i < L.length := by omega
    have hO := f_grid_Of c (gt L i).x (gt L i).y
    rw [drop_gt hlt, List.filter_cons, List.filter_cons]
    by_cases h : c.of (gt L i).x (gt L i).y = r
    · rw [if_pos (by simpa using h), if_neg (by simpa using h), List.append_cons]
      have ih1 := ih (i + 1) (A ++ [gt L i]) o (by omega) (by simp; omega) (by omega)
      clear ih
      refine Wp.ev ?_
      refine gg [.b (decide ((↑i : Int) < (↑(List.length L) : Int))) true, .w ((0 : Int) ≤ (↑i : Int)), .n (Int.toNat (↑i : Int)) i, .w (i < List.length (List.map Entity.enc L)), .g (List.map Entity.enc L) i (Entity.enc (gt L i)), .a _ _, .b (Config.of c (gt L i).x (gt L i).y != r) false, .w ((0 : Nat) < (72 : Nat)), .t (T.sl 0 [Entity.enc (gt L i)]) (T.sl 0 (List.map Entity.enc [gt L i])), .t (T.sl 0 (List.map Entity.enc A ++ List.map Entity.enc [gt L i])) (T.sl 0 (List.map Entity.enc (A ++ [gt L i]))), .w (room (List.length (List.map Entity.enc (A ++ [gt L i]))) (72 : Nat)), .i IntKind.i64 ((↑i : Int) + 1) ((↑(i + 1) : Int)), .a _ _] ⟨tP, oW, o_n (by kernel_rfl), o_w (by (simp [room, appendMax]; omega)), o_gt rfl (by assumption) (by intro h; cases h), o_a hO, f_brn (by assumption), oW, o_l (nm_cons rfl nm_nil), o_l (nm_app rfl rfl), o_w (by (simp [room, appendMax]; omega)), o_i (w64 (by (simp [room, appendMax]; omega))), o_a ih1, trivial⟩ ?_
      exact ge
    · rw [if_neg (by simpa using h), if_pos (by simpa using h), List.map_cons, List.append_cons]
      have ih1 := ih (i + 1) A (o ++ [handE c r f (gt L i)]) (by omega) (by omega) (by simp; omega)
      have hs := f_region_send_b c r f made L o ⟨1, 0, c.of (gt L i).x (gt L i).y, 0, gt L i, 0, 0⟩ (by omega)
      clear ih
      unfold handE at ih1 ⊢
      refine Wp.ev ?_
      refine gg [.b (decide ((↑i : Int) < (↑(List.length L) : Int))) true, .w ((0 : Int) ≤ (↑i : Int)), .n (Int.toNat (↑i : Int)) i, .w (i < List.length (List.map Entity.enc L)), .g (List.map Entity.enc L) i (Entity.enc (gt L i)), .a _ _, .b (Config.of c (gt L i).x (gt L i).y != r) true, .a _ _, .i IntKind.i64 ((↑i : Int) + 1) ((↑(i + 1) : Int)), .a _ _] ⟨tP, oW, o_n (by kernel_rfl), o_w (by (simp; omega)), o_gt rfl (by assumption) (by intro h; cases h), o_a hO, t_brn (by assumption), o_a hs, oI, o_a ih1, trivial⟩ ?_
      exact ge
theorem f_leave_loop_b1 (c : Config) (r f made : Int) (L : List Entity) (hL : L.length ≤ 1000) : ∀ (d i : Nat) (A : List Entity) (o : List Cross), i + d = L.length → A.length ≤ i → o.length ≤ 50000 + i →
    Is cx (.loop 69 [0, 1, 0, 1] 3 [.ptr 0 0 0, .all 3 none, .all 1 none, vi L.length, vi i] [.one 10 (stepV c r f made (.all 1 none) (.all 4 none)) false, .arr 9 (L.map Entity.enc) none false, .dead, .arr 9 (A.map Entity.enc) none false, .arr 15 (o.map Cross.enc) none false])
      ⟨.exit 0, [.ptr 0 0 0, .all 3 none, .all 1 none, vi L.length, vi L.length], [.one 10 (stepV c r f made (.all 1 none) (.all 4 none)) false, .arr 9 (L.map Entity.enc) none false, .dead, .arr 9 ((A ++ (L.drop i).filter fun e => decide (c.of e.x e.y = r)).map Entity.enc) none false, .arr 15 ((o ++ ((L.drop i).filter fun e => !decide (c.of e.x e.y = r)).map (handE c r f)).map Cross.enc) none false]⟩ := by
  intro d
  induction d with
  | zero =>
    intro i A o hi hA ho
    rw [drop_end (by omega)]
    refine Wp.ev ?_
    refine gg [.b (decide ((↑i : Int) < (↑(List.length L) : Int))) false] ⟨fP, trivial⟩ ?_
    refine rt (a := Res.mk (Ex.exit 0) [V.ptr 0 0 0, V.all 3 none, V.all 1 none, vi (↑(List.length L) : Int), vi (↑i : Int)] [Ob.one 10 (V.agg [vi c.cols, vi c.rows, vi c.players, vi c.window, V.t (T.int IntKind.u64 c.seed), vi r, vi f, V.all 1 none, vi made, V.all 4 none]) false, Ob.arr 9 (List.map Entity.enc L) none false, Ob.dead, Ob.arr 9 (List.map Entity.enc A) none false, Ob.arr 15 (List.map Cross.enc o) none false]) (by kernel_rfl) ?_
    ((have hq : i = L.length := by omega); subst hq; simp)
  | succ d ih =>
    intro i A o hi hA ho
    have hlt : i < L.length := by omega
    have hO := f_grid_Of c (gt L i).x (gt L i).y
    rw [drop_gt hlt, List.filter_cons, List.filter_cons]
    by_cases h : c.of (gt L i).x (gt L i).y = r
    · rw [if_pos (by simpa using h), if_neg (by simpa using h), List.append_cons]
      have ih1 := ih (i + 1) (A ++ [gt L i]) o (by omega) (by simp; omega) (by omega)
      clear ih
      refine Wp.ev ?_
      refine gg [.b (decide ((↑i : Int) < (↑(List.length L) : Int))) true, .w ((0 : Int) ≤ (↑i : Int)), .n (Int.toNat (↑i : Int)) i, .w (i < List.length (List.map Entity.enc L)), .g (List.map Entity.enc L) i (Entity.enc (gt L i)), .a _ _, .b (Config.of c (gt L i).x (gt L i).y != r) false, .w ((0 : Nat) < (72 : Nat)), .t (T.sl 0 [Entity.enc (gt L i)]) (T.sl 0 (List.map Entity.enc [gt L i])), .t (T.sl 0 (List.map Entity.enc A ++ List.map Entity.enc [gt L i])) (T.sl 0 (List.map Entity.enc (A ++ [gt L i]))), .w (room (List.length (List.map Entity.enc (A ++ [gt L i]))) (72 : Nat)), .i IntKind.i64 ((↑i : Int) + 1) ((↑(i + 1) : Int)), .a _ _] ⟨tP, oW, o_n (by kernel_rfl), o_w (by (simp [room, appendMax]; omega)), o_gt rfl (by assumption) (by intro h; cases h), o_a hO, f_brn (by assumption), oW, o_l (nm_cons rfl nm_nil), o_l (nm_app rfl rfl), o_w (by (simp [room, appendMax]; omega)), o_i (w64 (by (simp [room, appendMax]; omega))), o_a ih1, trivial⟩ ?_
      exact ge
    · rw [if_neg (by simpa using h), if_pos (by simpa using h), List.map_cons, List.append_cons]
      have ih1 := ih (i + 1) A (o ++ [handE c r f (gt L i)]) (by omega) (by omega) (by simp; omega)
      have hs := f_region_send_b c r f made L o ⟨1, 0, c.of (gt L i).x (gt L i).y, 0, gt L i, 0, 0⟩ (by omega)
      clear ih
      unfold handE at ih1 ⊢
      refine Wp.ev ?_
      refine gg [.b (decide ((↑i : Int) < (↑(List.length L) : Int))) true, .w ((0 : Int) ≤ (↑i : Int)), .n (Int.toNat (↑i : Int)) i, .w (i < List.length (List.map Entity.enc L)), .g (List.map Entity.enc L) i (Entity.enc (gt L i)), .a _ _, .b (Config.of c (gt L i).x (gt L i).y != r) true, .a _ _, .i IntKind.i64 ((↑i : Int) + 1) ((↑(i + 1) : Int)), .a _ _] ⟨tP, oW, o_n (by kernel_rfl), o_w (by (simp; omega)), o_gt rfl (by assumption) (by intro h; cases h), o_a hO, t_brn (by assumption), o_a hs, oI, o_a ih1, trivial⟩ ?_
      exact ge
theorem f_leave_loop_a0 (c : Config) (r f made : Int) (L : List Entity) (hL : L.length ≤ 1000) : ∀ (d i : Nat) (A : List Entity), i + d = L.length → A.length ≤ i →
    Is cx (.loop 69 [0, 1, 0, 1] 2 [.ptr 0 0 0, .all 2 none, .all 1 none, vi L.length, vi i] [.one 10 (stepV c r f made (.all 1 none) (.fit 15 [])) false, .arr 9 (L.map Entity.enc) none false, .arr 9 (A.map Entity.enc) none false])
      (if ((L.drop i).filter fun e => !decide (c.of e.x e.y = r)) = [] then
       ⟨.exit 0, [.ptr 0 0 0, .all 2 none, .all 1 none, vi L.length, vi L.length], [.one 10 (stepV c r f made (.all 1 none) (.fit 15 [])) false, .arr 9 (L.map Entity.enc) none false, .arr 9 ((A ++ (L.drop i).filter fun e => decide (c.of e.x e.y = r)).map Entity.enc) none false]⟩
      else ⟨.exit 0, [.ptr 0 0 0, .all 2 none, .all 1 none, vi L.length, vi L.length], [.one 10 (stepV c r f made (.all 1 none) (.all 3 none)) false, .arr 9 (L.map Entity.enc) none false, .arr 9 ((A ++ (L.drop i).filter fun e => decide (c.of e.x e.y = r)).map Entity.enc) none false, .arr 15 ((((L.drop i).filter fun e => !decide (c.of e.x e.y = r)).map (handE c r f)).map Cross.enc) none false]⟩) := by
  intro d
  induction d with
  | zero =>
    intro i A hi hA
    rw [drop_end (by omega), List.filter_nil, List.filter_nil, if_pos rfl]
    refine Wp.ev ?_
    refine gg [.b (decide ((↑i : Int) < (↑(List.length L) : Int))) false] ⟨fP, trivial⟩ ?_
    refine rt (a := Res.mk (Ex.exit 0) [V.ptr 0 0 0, V.all 2 none, V.all 1 none, vi (↑(List.length L) : Int), vi (↑i : Int)] [Ob.one 10 (V.agg [vi c.cols, vi c.rows, vi c.players, vi c.window, V.t (T.int IntKind.u64 c.seed), vi r, vi f, V.all 1 none, vi made, V.fit 15 []]) false, Ob.arr 9 (List.map Entity.enc L) none false, Ob.arr 9 (List.map Entity.enc A) none false]) (by kernel_rfl) ?_
    ((have hq : i = L.length := by omega); subst hq; simp)
  | succ d ih =>
    intro i A hi hA
    have hlt : i < L.length := by omega
    have hO := f_grid_Of c (gt L i).x (gt L i).y
    rw [drop_gt hlt, List.filter_cons, List.filter_cons]
    by_cases h : c.of (gt L i).x (gt L i).y = r
    · rw [if_pos (c := decide (c.of (gt L i).x (gt L i).y = r) = true) (by simpa using h), if_neg (c := (!decide (c.of (gt L i).x (gt L i).y = r)) = true) (by simpa using h), List.append_cons]
      have ih1 := ih (i + 1) (A ++ [gt L i]) (by omega) (by simp; omega)
      clear ih
      split at ih1
      · rename_i hq
        rw [if_pos hq]
        refine Wp.ev ?_
        refine gg [.b (decide ((↑i : Int) < (↑(List.length L) : Int))) true, .w ((0 : Int) ≤ (↑i : Int)), .n (Int.toNat (↑i : Int)) i, .w (i < List.length (List.map Entity.enc L)), .g (List.map Entity.enc L) i (Entity.enc (gt L i)), .a _ _, .b (Config.of c (gt L i).x (gt L i).y != r) false, .w ((0 : Nat) < (72 : Nat)), .t (T.sl 0 [Entity.enc (gt L i)]) (T.sl 0 (List.map Entity.enc [gt L i])), .t (T.sl 0 (List.map Entity.enc A ++ List.map Entity.enc [gt L i])) (T.sl 0 (List.map Entity.enc (A ++ [gt L i]))), .w (room (List.length (List.map Entity.enc (A ++ [gt L i]))) (72 : Nat)), .i IntKind.i64 ((↑i : Int) + 1) ((↑(i + 1) : Int)), .a _ _] ⟨tP, oW, o_n (by kernel_rfl), o_w (by (simp [room, appendMax]; omega)), o_gt rfl (by assumption) (by intro h; cases h), o_a hO, f_brn (by assumption), oW, o_l (nm_cons rfl nm_nil), o_l (nm_app rfl rfl), o_w (by (simp [room, appendMax]; omega)), o_i (w64 (by (simp [room, appendMax]; omega))), o_a ih1, trivial⟩ ?_
        exact ge
      · rename_i hq
        rw [if_neg hq]
        refine Wp.ev ?_
        refine gg [.b (decide ((↑i : Int) < (↑(List.length L) : Int))) true, .w ((0 : Int) ≤ (↑i : Int)), .n (Int.toNat (↑i : Int)) i, .w (i < List.length (List.map Entity.enc L)), .g (List.map Entity.enc L) i (Entity.enc (gt L i)), .a _ _, .b (Config.of c (gt L i).x (gt L i).y != r) false, .w ((0 : Nat) < (72 : Nat)), .t (T.sl 0 [Entity.enc (gt L i)]) (T.sl 0 (List.map Entity.enc [gt L i])), .t (T.sl 0 (List.map Entity.enc A ++ List.map Entity.enc [gt L i])) (T.sl 0 (List.map Entity.enc (A ++ [gt L i]))), .w (room (List.length (List.map Entity.enc (A ++ [gt L i]))) (72 : Nat)), .i IntKind.i64 ((↑i : Int) + 1) ((↑(i + 1) : Int)), .a _ _] ⟨tP, oW, o_n (by kernel_rfl), o_w (by (simp [room, appendMax]; omega)), o_gt rfl (by assumption) (by intro h; cases h), o_a hO, f_brn (by assumption), oW, o_l (nm_cons rfl nm_nil), o_l (nm_app rfl rfl), o_w (by (simp [room, appendMax]; omega)), o_i (w64 (by (simp [room, appendMax]; omega))), o_a ih1, trivial⟩ ?_
        exact ge
    · rw [if_neg (c := decide (c.of (gt L i).x (gt L i).y = r) = true) (by simpa using h), if_pos (c := (!decide (c.of (gt L i).x (gt L i).y = r)) = true) (by simpa using h), if_neg (by simp), List.map_cons]
      have ih1 := f_leave_loop_a1 c r f made L hL d (i + 1) A [handE c r f (gt L i)] (by omega) (by omega) (by simp; omega)
      have hs := f_region_send_a c r f made L ⟨1, 0, c.of (gt L i).x (gt L i).y, 0, gt L i, 0, 0⟩
      clear ih
      unfold handE at ih1 ⊢
      refine Wp.ev ?_
      refine gg [.b (decide ((↑i : Int) < (↑(List.length L) : Int))) true, .w ((0 : Int) ≤ (↑i : Int)), .n (Int.toNat (↑i : Int)) i, .w (i < List.length (List.map Entity.enc L)), .g (List.map Entity.enc L) i (Entity.enc (gt L i)), .a _ _, .b (Config.of c (gt L i).x (gt L i).y != r) true, .a _ _, .i IntKind.i64 ((↑i : Int) + 1) ((↑(i + 1) : Int)), .a _ _] ⟨tP, oW, o_n (by kernel_rfl), o_w (by (simp; omega)), o_gt rfl (by assumption) (by intro h; cases h), o_a hO, t_brn (by assumption), o_a hs, oI, o_a ih1, trivial⟩ ?_
      exact ge
theorem f_leave_loop_b0 (c : Config) (r f made : Int) (L : List Entity) (hL : L.length ≤ 1000) (o : List Cross) (ho : o.length ≤ 50000) : ∀ (d i : Nat) (A : List Entity), i + d = L.length → A.length ≤ i →
    Is cx (.loop 69 [0, 1, 0, 1] 3 [.ptr 0 0 0, .all 3 none, .all 1 none, vi L.length, vi i] [.one 10 (stepV c r f made (.all 1 none) (.all 2 none)) false, .arr 9 (L.map Entity.enc) none false, .arr 15 (o.map Cross.enc) none false, .arr 9 (A.map Entity.enc) none false])
      (if ((L.drop i).filter fun e => !decide (c.of e.x e.y = r)) = [] then
       ⟨.exit 0, [.ptr 0 0 0, .all 3 none, .all 1 none, vi L.length, vi L.length], [.one 10 (stepV c r f made (.all 1 none) (.all 2 none)) false, .arr 9 (L.map Entity.enc) none false, .arr 15 (o.map Cross.enc) none false, .arr 9 ((A ++ (L.drop i).filter fun e => decide (c.of e.x e.y = r)).map Entity.enc) none false]⟩
      else ⟨.exit 0, [.ptr 0 0 0, .all 3 none, .all 1 none, vi L.length, vi L.length], [.one 10 (stepV c r f made (.all 1 none) (.all 4 none)) false, .arr 9 (L.map Entity.enc) none false, .dead, .arr 9 ((A ++ (L.drop i).filter fun e => decide (c.of e.x e.y = r)).map Entity.enc) none false, .arr 15 ((o ++ ((L.drop i).filter fun e => !decide (c.of e.x e.y = r)).map (handE c r f)).map Cross.enc) none false]⟩) := by
  intro d
  induction d with
  | zero =>
    intro i A hi hA
    rw [drop_end (by omega), List.filter_nil, List.filter_nil, if_pos rfl]
    refine Wp.ev ?_
    refine gg [.b (decide ((↑i : Int) < (↑(List.length L) : Int))) false] ⟨fP, trivial⟩ ?_
    refine rt (a := Res.mk (Ex.exit 0) [V.ptr 0 0 0, V.all 3 none, V.all 1 none, vi (↑(List.length L) : Int), vi (↑i : Int)] [Ob.one 10 (V.agg [vi c.cols, vi c.rows, vi c.players, vi c.window, V.t (T.int IntKind.u64 c.seed), vi r, vi f, V.all 1 none, vi made, V.all 2 none]) false, Ob.arr 9 (List.map Entity.enc L) none false, Ob.arr 15 (List.map Cross.enc o) none false, Ob.arr 9 (List.map Entity.enc A) none false]) (by kernel_rfl) ?_
    ((have hq : i = L.length := by omega); subst hq; simp)
  | succ d ih =>
    intro i A hi hA
    have hlt : i < L.length := by omega
    have hO := f_grid_Of c (gt L i).x (gt L i).y
    rw [drop_gt hlt, List.filter_cons, List.filter_cons]
    by_cases h : c.of (gt L i).x (gt L i).y = r
    · rw [if_pos (c := decide (c.of (gt L i).x (gt L i).y = r) = true) (by simpa using h), if_neg (c := (!decide (c.of (gt L i).x (gt L i).y = r)) = true) (by simpa using h), List.append_cons]
      have ih1 := ih (i + 1) (A ++ [gt L i]) (by omega) (by simp; omega)
      clear ih
      split at ih1
      · rename_i hq
        rw [if_pos hq]
        refine Wp.ev ?_
        refine gg [.b (decide ((↑i : Int) < (↑(List.length L) : Int))) true, .w ((0 : Int) ≤ (↑i : Int)), .n (Int.toNat (↑i : Int)) i, .w (i < List.length (List.map Entity.enc L)), .g (List.map Entity.enc L) i (Entity.enc (gt L i)), .a _ _, .b (Config.of c (gt L i).x (gt L i).y != r) false, .w ((0 : Nat) < (72 : Nat)), .t (T.sl 0 [Entity.enc (gt L i)]) (T.sl 0 (List.map Entity.enc [gt L i])), .t (T.sl 0 (List.map Entity.enc A ++ List.map Entity.enc [gt L i])) (T.sl 0 (List.map Entity.enc (A ++ [gt L i]))), .w (room (List.length (List.map Entity.enc (A ++ [gt L i]))) (72 : Nat)), .i IntKind.i64 ((↑i : Int) + 1) ((↑(i + 1) : Int)), .a _ _] ⟨tP, oW, o_n (by kernel_rfl), o_w (by (simp [room, appendMax]; omega)), o_gt rfl (by assumption) (by intro h; cases h), o_a hO, f_brn (by assumption), oW, o_l (nm_cons rfl nm_nil), o_l (nm_app rfl rfl), o_w (by (simp [room, appendMax]; omega)), o_i (w64 (by (simp [room, appendMax]; omega))), o_a ih1, trivial⟩ ?_
        exact ge
      · rename_i hq
        rw [if_neg hq]
        refine Wp.ev ?_
        refine gg [.b (decide ((↑i : Int) < (↑(List.length L) : Int))) true, .w ((0 : Int) ≤ (↑i : Int)), .n (Int.toNat (↑i : Int)) i, .w (i < List.length (List.map Entity.enc L)), .g (List.map Entity.enc L) i (Entity.enc (gt L i)), .a _ _, .b (Config.of c (gt L i).x (gt L i).y != r) false, .w ((0 : Nat) < (72 : Nat)), .t (T.sl 0 [Entity.enc (gt L i)]) (T.sl 0 (List.map Entity.enc [gt L i])), .t (T.sl 0 (List.map Entity.enc A ++ List.map Entity.enc [gt L i])) (T.sl 0 (List.map Entity.enc (A ++ [gt L i]))), .w (room (List.length (List.map Entity.enc (A ++ [gt L i]))) (72 : Nat)), .i IntKind.i64 ((↑i : Int) + 1) ((↑(i + 1) : Int)), .a _ _] ⟨tP, oW, o_n (by kernel_rfl), o_w (by (simp [room, appendMax]; omega)), o_gt rfl (by assumption) (by intro h; cases h), o_a hO, f_brn (by assumption), oW, o_l (nm_cons rfl nm_nil), o_l (nm_app rfl rfl), o_w (by (simp [room, appendMax]; omega)), o_i (w64 (by (simp [room, appendMax]; omega))), o_a ih1, trivial⟩ ?_
        exact ge
    · rw [if_neg (c := decide (c.of (gt L i).x (gt L i).y = r) = true) (by simpa using h), if_pos (c := (!decide (c.of (gt L i).x (gt L i).y = r)) = true) (by simpa using h), if_neg (by simp), List.map_cons, List.append_cons]
      have ih1 := f_leave_loop_b1 c r f made L hL d (i + 1) A (o ++ [handE c r f (gt L i)]) (by omega) (by omega) (by simp; omega)
      have hs := f_region_send_b c r f made L o ⟨1, 0, c.of (gt L i).x (gt L i).y, 0, gt L i, 0, 0⟩ (by omega)
      clear ih
      unfold handE at ih1 ⊢
      refine Wp.ev ?_
      refine gg [.b (decide ((↑i : Int) < (↑(List.length L) : Int))) true, .w ((0 : Int) ≤ (↑i : Int)), .n (Int.toNat (↑i : Int)) i, .w (i < List.length (List.map Entity.enc L)), .g (List.map Entity.enc L) i (Entity.enc (gt L i)), .a _ _, .b (Config.of c (gt L i).x (gt L i).y != r) true, .a _ _, .i IntKind.i64 ((↑i : Int) + 1) ((↑(i + 1) : Int)), .a _ _] ⟨tP, oW, o_n (by kernel_rfl), o_w (by (simp; omega)), o_gt rfl (by assumption) (by intro h; cases h), o_a hO, t_brn (by assumption), o_a hs, oI, o_a ih1, trivial⟩ ?_
      exact ge
theorem f_region_leave_a (c : Config) (r f made : Int) (L : List Entity) (hL : L.length ≤ 1000) :
    Is cx (.call 69 [.ptr 0 0 0] [.one 10 (stepV c r f made (.all 1 none) (.fit 15 [])) false, .arr 9 (L.map Entity.enc) none false])
      (if (leaveS c r f ⟨L, made, []⟩).out = [] then ⟨.ret, [], [.one 10 (stepV c r f made (.all 2 none) (.fit 15 [])) false, .arr 9 (L.map Entity.enc) none false, .arr 9 ((leaveS c r f ⟨L, made, []⟩).l.map Entity.enc) none false]⟩
       else ⟨.ret, [], [.one 10 (stepV c r f made (.all 2 none) (.all 3 none)) false, .arr 9 (L.map Entity.enc) none false, .arr 9 ((leaveS c r f ⟨L, made, []⟩).l.map Entity.enc) none false, .arr 15 ((leaveS c r f ⟨L, made, []⟩).out.map Cross.enc) none false]⟩) := by
  have h := f_leave_loop_a0 c r f made L hL L.length 0 [] (by omega) (by simp)
  simp only [List.drop_zero, List.nil_append] at h
  unfold leaveS
  simp only [List.nil_append, List.map_eq_nil_iff]
  generalize (L.filter fun e => decide (c.of e.x e.y = r)) = X at *
  generalize (L.filter fun e => !decide (c.of e.x e.y = r)) = Y at *
  generalize Y.map (handE c r f) = Z at *
  split at h
  · rename_i hq
    rw [if_pos hq]
    refine Wp.ev ?_
    refine gg [.n (List.length (List.map Entity.enc L)) (List.length L), .a _ _] ⟨o_n (by simp), o_a h, trivial⟩ ?_
    exact ge
  · rename_i hq
    rw [if_neg hq]
    refine Wp.ev ?_
    refine gg [.n (List.length (List.map Entity.enc L)) (List.length L), .a _ _] ⟨o_n (by simp), o_a h, trivial⟩ ?_
    exact ge
theorem f_region_leave_b (c : Config) (r f made : Int) (L : List Entity) (o : List Cross) (hL : L.length ≤ 1000) (ho : o.length ≤ 50000) :
    Is cx (.call 69 [.ptr 0 0 0] [.one 10 (stepV c r f made (.all 1 none) (.all 2 none)) false, .arr 9 (L.map Entity.enc) none false, .arr 15 (o.map Cross.enc) none false])
      (if (L.filter fun e => !decide (c.of e.x e.y = r)) = [] then ⟨.ret, [], [.one 10 (stepV c r f made (.all 3 none) (.all 2 none)) false, .arr 9 (L.map Entity.enc) none false, .arr 15 (o.map Cross.enc) none false, .arr 9 ((leaveS c r f ⟨L, made, o⟩).l.map Entity.enc) none false]⟩
       else ⟨.ret, [], [.one 10 (stepV c r f made (.all 3 none) (.all 4 none)) false, .arr 9 (L.map Entity.enc) none false, .dead, .arr 9 ((leaveS c r f ⟨L, made, o⟩).l.map Entity.enc) none false, .arr 15 ((leaveS c r f ⟨L, made, o⟩).out.map Cross.enc) none false]⟩) := by
  have h := f_leave_loop_b0 c r f made L hL o ho L.length 0 [] (by omega) (by simp)
  simp only [List.drop_zero, List.nil_append] at h
  unfold leaveS
  simp only
  generalize (L.filter fun e => decide (c.of e.x e.y = r)) = X at *
  generalize (L.filter fun e => !decide (c.of e.x e.y = r)) = Y at *
  generalize o ++ Y.map (handE c r f) = Z at *
  split at h
  · rename_i hq
    rw [if_pos hq]
    refine Wp.ev ?_
    refine gg [.n (List.length (List.map Entity.enc L)) (List.length L), .a _ _] ⟨o_n (by simp), o_a h, trivial⟩ ?_
    exact ge
  · rename_i hq
    rw [if_neg hq]
    refine Wp.ev ?_
    refine gg [.n (List.length (List.map Entity.enc L)) (List.length L), .a _ _] ⟨o_n (by simp), o_a h, trivial⟩ ?_
    exact ge
end Go.Eva.S3

/- Messages: members change places; put in from the left. -/
namespace Go.Eva.S3
theorem f_swapRange_loop_Cross (a b n : Nat) (h1 : a + n ≤ b) : ∀ (d i : Nat) (A : List Cross), i + d = n → b + n ≤ A.length → small A →
    Is cx (.loop 197 [0, 1] 1 [.all 0 none, vi a, vi b, vi n, vi i] [.arr 15 (A.map Cross.enc) none false])
      ⟨.exit 0, [.all 0 none, vi a, vi b, vi n, vi n], [.arr 15 ((swR d A (a + i) (b + i)).map Cross.enc) none false]⟩ := by
  intro d
  induction d with
  | zero =>
    intro i A hi h2 hn
    unfold small at hn
    refine Wp.ev ?_
    refine gg [.b (decide ((↑i : Int) < (↑n : Int))) false] ⟨fP, trivial⟩ ?_
    refine rt (a := Res.mk (Ex.exit 0) [V.all 0 none, vi (↑a : Int), vi (↑b : Int), vi (↑n : Int), vi (↑i : Int)] [Ob.arr 15 (List.map Cross.enc A) none false]) (by kernel_rfl) ?_
    ((have hq : i = n := by omega); subst hq; rfl)
  | succ d ih =>
    intro i A hi h2 hn
    have ih1 := ih (i + 1) (sw A (a + i) (b + i)) (by omega) (by rw [sw_len]; omega) (by unfold small; rw [sw_len]; exact hn)
    unfold small at hn
    clear ih
    unfold sw at ih1
    refine Wp.ev ?_
    refine gg [.b (decide ((↑i : Int) < (↑n : Int))) true, .i IntKind.i64 ((↑a : Int) + (↑i : Int)) ((↑(a + i) : Int)), .i IntKind.i64 ((↑b : Int) + (↑i : Int)) ((↑(b + i) : Int)), .i IntKind.i64 ((↑b : Int) + (↑i : Int)) ((↑(b + i) : Int)), .w ((0 : Int) ≤ (↑(b + i) : Int)), .n (Int.toNat (↑(b + i) : Int)) (b + i), .w (b + i < List.length (List.map Cross.enc A)), .i IntKind.i64 ((↑a : Int) + (↑i : Int)) ((↑(a + i) : Int)), .w ((0 : Int) ≤ (↑(a + i) : Int)), .n (Int.toNat (↑(a + i) : Int)) (a + i), .w (a + i < List.length (List.map Cross.enc A)), .g (List.map Cross.enc A) (b + i) (Cross.enc (gt A (b + i))), .g (List.map Cross.enc A) (a + i) (Cross.enc (gt A (a + i))), .w ((0 : Int) ≤ (↑(a + i) : Int)), .n (Int.toNat (↑(a + i) : Int)) (a + i), .w (a + i < List.length (List.map Cross.enc A))] ⟨tP, oI, oI, oI, oW, o_n (by kernel_rfl), o_w (by (simp; omega)), oI, oW, o_n (by kernel_rfl), o_w (by (simp; omega)), oT, oT, oW, o_n (by kernel_rfl), o_w (by (simp; omega)), trivial⟩ ?_
    refine gg [.w (a + i < List.length (List.map Cross.enc A)), .t (T.sl 0 (List.set (List.map Cross.enc A) (a + i) (Cross.enc (gt A (b + i))))) (T.sl 0 (List.map Cross.enc (List.set A (a + i) (gt A (b + i))))), .w ((0 : Int) ≤ (↑(b + i) : Int)), .n (Int.toNat (↑(b + i) : Int)) (b + i), .w (b + i < List.length (List.map Cross.enc (List.set A (a + i) (gt A (b + i))))), .w (b + i < List.length (List.map Cross.enc (List.set A (a + i) (gt A (b + i))))), .t (T.sl 0 (List.set (List.map Cross.enc (List.set A (a + i) (gt A (b + i)))) (b + i) (Cross.enc (gt A (a + i))))) (T.sl 0 (List.map Cross.enc (List.set (List.set A (a + i) (gt A (b + i))) (b + i) (gt A (a + i))))), .i IntKind.i64 ((↑i : Int) + 1) ((↑(i + 1) : Int)), .a _ _] ⟨o_w (by (simp; omega)), o_l (nm_set rfl rfl), oW, o_n (by kernel_rfl), o_w (by (simp; omega)), o_w (by (simp; omega)), o_l (nm_set rfl rfl), oI, o_a ih1, trivial⟩ ?_
    refine rt (a := Res.mk (Ex.exit 0) [V.all 0 none, vi (↑a : Int), vi (↑b : Int), vi (↑n : Int), vi (↑n : Int)] [Ob.arr 15 (List.map Cross.enc (swR d (List.set (List.set A (a + i) (gt A (b + i))) (b + i) (gt A (a + i))) (a + (i + 1)) (b + (i + 1)))) none false]) (by kernel_rfl) ?_
    (simp_all [swR, sw, Nat.add_assoc]; try omega)
theorem f_swapRange_Cross (A : List Cross) (a b n : Nat) (h1 : a + n ≤ b) (h2 : b + n ≤ A.length) (hn : small A) : Is cx (.call 197 [.all 0 none, vi a, vi b, vi n, .t (.clo 129 [])] [.arr 15 (A.map Cross.enc) none false])
   ⟨.ret, [], [.arr 15 ((swR n A a b).map Cross.enc) none false]⟩ := by
  have h := f_swapRange_loop_Cross a b n h1 n 0 A (by omega) h2 hn
  rw [Nat.add_zero, Nat.add_zero] at h
  unfold small at hn
  refine Wp.ev ?_
  refine gg [.a _ _] ⟨o_a h, trivial⟩ ?_
  exact ge
theorem f_insertion_inner_Cross (a b i : Nat) : ∀ (j : Nat) (A : List Cross), a ≤ j → j < A.length → small A → ∃ k : Nat,
    Is cx (.loop 186 [0, 1, 0, 0, 1, 0, 0, 1] 1 [.all 0 none, vi a, vi b, .t (.clo 129 []), vi i, vi j] [.arr 15 (A.map Cross.enc) none false])
      ⟨.exit 2, [.all 0 none, vi a, vi b, .t (.clo 129 []), vi i, vi k], [.arr 15 ((insIn Cross.less a j A).map Cross.enc) none false]⟩ := by
  intro j
  induction j with
  | zero =>
    intro A h1 h2 hn
    unfold small at hn
    refine ⟨0, ?_⟩
    refine Wp.ev ?_
    refine gg [.b (decide (0 > (↑a : Int))) false, .ff, .ff, .ff, .ff, .ff, .ff, .ff, .ff, .ff, .ff, .ff, .ff, .ff] ⟨o_b (by kernel_rfl), trivial⟩ ?_
    exact ge
  | succ j ih =>
    intro A h1 h2 hn
    by_cases hj : a < j + 1
    · cases hl : Cross.less (gt A (j + 1)) (gt A j) with
      | true =>
        obtain ⟨k, ih1⟩ := ih (sw A (j + 1) j) (by omega) (by rw [sw_len]; omega) (by unfold small; rw [sw_len]; exact hn)
        unfold small at hn
        clear ih
        refine ⟨k, ?_⟩
        have e : insIn Cross.less a (j + 1) A = insIn Cross.less a j (sw A (j + 1) j) := by rw [insIn, if_pos hj, hl]
        rw [e]
        unfold sw at *
        have ej : ((j + 1 : Nat) : Int) - 1 = (j : Nat) := by omega
        have hl : (gt A (j + 1)).cmp (gt A j) < 0 := by simpa [Cross.less] using hl
        refine Wp.ev ?_
        refine gg [.b (decide ((↑(j + 1) : Int) > (↑a : Int))) true, .tt, .tt, .tt, .w ((0 : Int) ≤ (↑(j + (1 : Nat)) : Int)), .n (Int.toNat (↑(j + 1) : Int)) (j + 1), .w (j + (1 : Nat) < List.length (List.map Cross.enc A)), .tt, .tt, .tt, .i IntKind.i64 ((↑(j + 1) : Int) - 1) (↑j : Int), .tt, .w ((0 : Int) ≤ (↑j : Int)), .n (Int.toNat (↑j : Int)) j, .w (j < List.length (List.map Cross.enc A)), .tt] ⟨tP, oW, o_n (by kernel_rfl), o_w (by (simp; omega)), oI, oW, o_n (by kernel_rfl), o_w (by (simp; omega)), trivial⟩ ?_
        refine gg [.g (List.map Cross.enc A) (j + 1) (Cross.enc (gt A (j + 1))), .tt, .g (List.map Cross.enc A) j (Cross.enc (gt A j)), .tt, .w (isFnB cx (129 : Nat) = true), .a _ _, .tt, .tt, .b (decide (Cross.cmp (gt A (j + 1)) (gt A j) < 0)) true, .i IntKind.i64 ((↑(j + 1) : Int) - 1) (↑j : Int), .i IntKind.i64 ((↑(j + 1) : Int) - 1) (↑j : Int), .w ((0 : Int) ≤ (↑j : Int)), .n (Int.toNat (↑j : Int)) j, .w (j < List.length (List.map Cross.enc A)), .w ((0 : Int) ≤ (↑(j + (1 : Nat)) : Int)), .n (Int.toNat (↑(j + 1) : Int)) (j + 1)] ⟨o_gt rfl (by assumption) (by intro h; cases h), oT, o_w (by kernel_rfl), o_a (f_cross_compare (gt A (j + 1)) (gt A j)), t_brp (by assumption), oI, oI, oW, o_n (by kernel_rfl), o_w (by (simp; omega)), oW, o_n (by kernel_rfl), trivial⟩ ?_
        refine gg [.w (j + (1 : Nat) < List.length (List.map Cross.enc A)), .g (List.map Cross.enc A) j (Cross.enc (gt A j)), .g (List.map Cross.enc A) (j + 1) (Cross.enc (gt A (j + 1))), .w ((0 : Int) ≤ (↑(j + (1 : Nat)) : Int)), .n (Int.toNat (↑(j + 1) : Int)) (j + 1), .w (j + (1 : Nat) < List.length (List.map Cross.enc A)), .w (j + (1 : Nat) < List.length (List.map Cross.enc A)), .t (T.sl 0 (List.set (List.map Cross.enc A) (j + 1) (Cross.enc (gt A j)))) (T.sl 0 (List.map Cross.enc (List.set A (j + 1) (gt A j)))), .w ((0 : Int) ≤ (↑j : Int)), .n (Int.toNat (↑j : Int)) j, .w (j < List.length (List.map Cross.enc (List.set A (j + (1 : Nat)) (gt A j)))), .w (j < List.length (List.map Cross.enc (List.set A (j + (1 : Nat)) (gt A j)))), .t (T.sl 0 (List.set (List.map Cross.enc (List.set A (j + 1) (gt A j))) j (Cross.enc (gt A (j + 1))))) (T.sl 0 (List.map Cross.enc (List.set (List.set A (j + 1) (gt A j)) j (gt A (j + 1))))), .i IntKind.i64 ((↑(j + 1) : Int) - 1) (↑j : Int), .a _ _] ⟨o_w (by (simp; omega)), oT, o_gt rfl (by assumption) (by intro h; cases h), oW, o_n (by kernel_rfl), o_w (by (simp; omega)), o_w (by (simp; omega)), o_l (nm_set rfl rfl), oW, o_n (by kernel_rfl), o_w (by (simp; omega)), o_w (by (simp; omega)), o_l (nm_set rfl rfl), oI, o_a ih1, trivial⟩ ?_
        refine rt (a := Res.mk (Ex.exit 2) [V.all 0 none, vi (↑a : Int), vi (↑b : Int), V.t (T.clo 129 []), vi (↑i : Int), vi (↑k : Int)] [Ob.arr 15 (List.map Cross.enc (insIn Cross.less a j (List.set (List.set A (j + 1) (gt A j)) j (gt A (j + 1))))) none false]) (by kernel_rfl) ?_
        simp_all
      | false =>
        unfold small at hn
        clear ih
        refine ⟨j + 1, ?_⟩
        have e : insIn Cross.less a (j + 1) A = A := by rw [insIn, if_pos hj, hl]
        rw [e]
        have hl : ¬ (gt A (j + 1)).cmp (gt A j) < 0 := by simpa [Cross.less] using hl
        refine Wp.ev ?_
        refine gg [.b (decide ((↑(j + 1) : Int) > (↑a : Int))) true, .tt, .tt, .tt, .w ((0 : Int) ≤ (↑(j + (1 : Nat)) : Int)), .n (Int.toNat (↑(j + 1) : Int)) (j + 1), .w (j + (1 : Nat) < List.length (List.map Cross.enc A)), .tt, .tt, .tt, .i IntKind.i64 ((↑(j + 1) : Int) - 1) ((↑(j + 1) : Int) - 1), .tt, .w ((0 : Int) ≤ (↑(j + (1 : Nat)) : Int) - (1 : Int)), .n (Int.toNat ((↑(j + 1) : Int) - 1)) j, .w (j < List.length (List.map Cross.enc A)), .tt] ⟨tP, oW, o_n (by kernel_rfl), o_w (by (simp; omega)), oI, oW, oN, o_w (by (simp; omega)), trivial⟩ ?_
        refine gg [.g (List.map Cross.enc A) (j + 1) (Cross.enc (gt A (j + 1))), .tt, .g (List.map Cross.enc A) j (Cross.enc (gt A j)), .tt, .w (isFnB cx (129 : Nat) = true), .a _ _, .tt, .tt, .b (decide (Cross.cmp (gt A (j + 1)) (gt A j) < 0)) false] ⟨o_gt rfl (by assumption) (by intro h; cases h), oT, o_w (by kernel_rfl), o_a (f_cross_compare (gt A (j + 1)) (gt A j)), f_brp (by assumption), trivial⟩ ?_
        refine rt (a := Res.mk (Ex.exit 2) [V.all 0 none, vi (↑a : Int), vi (↑b : Int), V.t (T.clo 129 []), vi (↑i : Int), vi (↑(j + 1) : Int)] [Ob.arr 15 (List.map Cross.enc A) none false]) (by kernel_rfl) ?_
        simp_all
    · unfold small at hn
      clear ih
      refine ⟨j + 1, ?_⟩
      have e : insIn Cross.less a (j + 1) A = A := by rw [insIn, if_neg hj]
      rw [e]
      refine Wp.ev ?_
      refine gg [.b (decide ((↑(j + 1) : Int) > (↑a : Int))) false, .ff, .ff, .ff, .ff, .ff, .ff, .ff, .ff, .ff, .ff, .ff, .ff, .ff] ⟨fP, trivial⟩ ?_
      refine rt (a := Res.mk (Ex.exit 2) [V.all 0 none, vi (↑a : Int), vi (↑b : Int), V.t (T.clo 129 []), vi (↑i : Int), vi (↑(j + 1) : Int)] [Ob.arr 15 (List.map Cross.enc A) none false]) (by kernel_rfl) ?_
      simp_all
theorem f_insertion_outer_Cross (a b : Nat) : ∀ (d i : Nat) (A : List Cross), i + d = b → a ≤ i → b ≤ A.length → small A → ∃ k : Nat,
    Is cx (.loop 186 [0, 1] 1 [.all 0 none, vi a, vi b, .t (.clo 129 []), vi i] [.arr 15 (A.map Cross.enc) none false])
      ⟨.exit 0, [.all 0 none, vi a, vi b, .t (.clo 129 []), vi k], [.arr 15 ((insOut Cross.less a d i A).map Cross.enc) none false]⟩ := by
  intro d
  induction d with
  | zero =>
    intro i A hi h1 h2 hn
    unfold small at hn
    refine ⟨i, ?_⟩
    refine Wp.ev ?_
    refine gg [.b (decide ((↑i : Int) < (↑b : Int))) false] ⟨fP, trivial⟩ ?_
    exact ge
  | succ d ih =>
    intro i A hi h1 h2 hn
    obtain ⟨k0, h0⟩ := f_insertion_inner_Cross a b i i A h1 (by omega) hn
    obtain ⟨k, ih1⟩ := ih (i + 1) (insIn Cross.less a i A) (by omega) (by omega) (by rw [insIn_len]; omega) (by unfold small; rw [insIn_len]; exact hn)
    unfold small at hn
    clear ih
    refine ⟨k, ?_⟩
    have hlen : (insIn Cross.less a i A).length = A.length := insIn_len ..
    rw [insOut]
    refine Wp.ev ?_
    refine gg [.b (decide ((↑i : Int) < (↑b : Int))) true, .a _ _, .i IntKind.i64 ((↑i : Int) + 1) ((↑(i + 1) : Int)), .a _ _] ⟨tP, o_a h0, oI, o_a ih1, trivial⟩ ?_
    exact ge
theorem f_insertionSort_Cross (A : List Cross) (a b : Nat) (h1 : a ≤ b) (h2 : b ≤ A.length) (hn : small A) : Is cx (.call 186 [.all 0 none, vi a, vi b, .t (.clo 129 [])] [.arr 15 (A.map Cross.enc) none false])
   ⟨.ret, [], [.arr 15 ((srt Cross.less A a b).map Cross.enc) none false]⟩ := by
  by_cases hab : a < b
  · rw [← insOut_srt Cross_swo hab h2]
    obtain ⟨k, h⟩ := f_insertion_outer_Cross a b (b - a - 1) (a + 1) A (by omega) (by omega) h2 hn
    unfold small at hn
    refine Wp.ev ?_
    refine gg [.i IntKind.i64 ((↑a : Int) + 1) ((↑(a + 1) : Int)), .a _ _] ⟨oI, o_a h, trivial⟩ ?_
    exact ge
  · obtain rfl : a = b := by omega
    rw [srt_small Cross_swo (by omega) (by omega)]
    unfold small at hn
    have h : Is cx (.loop 186 [0, 1] 1 [.all 0 none, vi a, vi a, .t (.clo 129 []), vi (a + 1 : Nat)] [.arr 15 (A.map Cross.enc) none false])
      ⟨.exit 0, [.all 0 none, vi a, vi a, .t (.clo 129 []), vi (a + 1 : Nat)], [.arr 15 (A.map Cross.enc) none false]⟩ := by
      refine Wp.ev ?_
      refine gg [.b (decide ((↑(a + 1) : Int) < (↑a : Int))) false] ⟨fP, trivial⟩ ?_
      exact ge
    refine Wp.ev ?_
    refine gg [.i IntKind.i64 ((↑a : Int) + 1) ((↑(a + 1) : Int)), .a _ _] ⟨oI, o_a h, trivial⟩ ?_
    exact ge
theorem f_rotate_loop_Cross (m : Nat) : ∀ (d i j : Nat) (A : List Cross), i + j ≤ d → 0 < i → 0 < j → i ≤ m → m + j ≤ A.length → small A → ∃ (k : Nat) (B : List Cross),
    Is cx (.loop 194 [0, 0, 1, 1] 1 [.all 0 none, vi m, .t (.clo 129 []), vi i, vi j] [.arr 15 (A.map Cross.enc) none false])
      ⟨.exit 0, [.all 0 none, vi m, .t (.clo 129 []), vi k, vi k], [.arr 15 (B.map Cross.enc) none false]⟩ ∧ k ≤ m ∧ m + k ≤ A.length ∧ B.length = A.length ∧ swR k B (m - k) m = rotL d A m i j := by
  intro d
  induction d with
  | zero => intros; omega
  | succ d ih =>
    intro i j A hd h1 h2 h3 h4 hn
    by_cases hij : i = j
    · subst hij
      refine ⟨i, A, ?_, h3, h4, rfl, by rw [rotL, if_pos rfl]⟩
      unfold small at hn
      refine Wp.ev ?_
      refine gg [.b ((↑i : Int) != (↑i : Int)) false] ⟨f_brn rfl, trivial⟩ ?_
      exact ge
    · by_cases hj : j < i
      · obtain ⟨k, B, ih1, k1, k2, k3, k4⟩ := ih (i - j) j (swR j A (m - i) m) (by omega) (by omega) h2 (by omega) (by rw [swR_len]; omega) (by unfold small; rw [swR_len]; exact hn)
        rw [swR_len] at k2 k3
        refine ⟨k, B, ?_, k1, k2, k3, by rw [rotL, if_neg hij, if_pos hj, k4]⟩
        have h0 := f_swapRange_Cross A (m - i) m j (by omega) (by omega) hn
        have hlen : (swR j A (m - i) m).length = A.length := swR_len ..
        unfold small at hn
        clear ih
        have e1 : (m : Int) - i = (m - i : Nat) := by omega
        have e2 : (i : Int) - j = (i - j : Nat) := by omega
        refine Wp.ev ?_
        refine gg [.b ((↑i : Int) != (↑j : Int)) true, .b (decide ((↑i : Int) > (↑j : Int))) true, .i IntKind.i64 ((↑m : Int) - (↑i : Int)) ((↑(m - i) : Int)), .a _ _, .i IntKind.i64 ((↑i : Int) - (↑j : Int)) ((↑(i - j) : Int)), .a _ _] ⟨tN, tP, oI, o_a h0, oI, o_a ih1, trivial⟩ ?_
        exact ge
      · obtain ⟨k, B, ih1, k1, k2, k3, k4⟩ := ih i (j - i) (swR i A (m - i) (m + j - i)) (by omega) h1 (by omega) h3 (by rw [swR_len]; omega) (by unfold small; rw [swR_len]; exact hn)
        rw [swR_len] at k2 k3
        refine ⟨k, B, ?_, k1, k2, k3, by rw [rotL, if_neg hij, if_neg hj, k4]⟩
        have h0 := f_swapRange_Cross A (m - i) (m + j - i) i (by omega) (by omega) hn
        have hlen : (swR i A (m - i) (m + j - i)).length = A.length := swR_len ..
        unfold small at hn
        clear ih
        have e1 : (m : Int) - i = (m - i : Nat) := by omega
        have e2 : (j : Int) - i = (j - i : Nat) := by omega
        have e3 : (m + j : Nat) - (i : Int) = (m + j - i : Nat) := by omega
        refine Wp.ev ?_
        refine gg [.b ((↑i : Int) != (↑j : Int)) true, .b (decide ((↑i : Int) > (↑j : Int))) false, .i IntKind.i64 ((↑m : Int) - (↑i : Int)) ((↑(m - i) : Int)), .i IntKind.i64 ((↑m : Int) + (↑j : Int)) ((↑(m + j) : Int)), .i IntKind.i64 ((↑(m + j) : Int) - (↑i : Int)) ((↑(m + j - i) : Int)), .a _ _, .i IntKind.i64 ((↑j : Int) - (↑i : Int)) ((↑(j - i) : Int)), .a _ _] ⟨tN, fP, oI, oI, oI, o_a h0, oI, o_a ih1, trivial⟩ ?_
        exact ge
theorem f_rotate_Cross (A : List Cross) (a m b : Nat) (h1 : a < m) (h2 : m < b) (h3 : b ≤ A.length) (hn : small A) : Is cx (.call 194 [.all 0 none, vi a, vi m, vi b, .t (.clo 129 [])] [.arr 15 (A.map Cross.enc) none false])
   ⟨.ret, [], [.arr 15 ((A.take a ++ seg A m b ++ seg A a m ++ A.drop b).map Cross.enc) none false]⟩ := by
  rw [← rotL_seg h1 h2 h3 (Nat.le_refl _)]
  obtain ⟨k, B, h, k1, k2, k3, k4⟩ := f_rotate_loop_Cross m (b - a) (m - a) (b - m) A (by omega) (by omega) (by omega) (by omega) (by omega) hn
  rw [← k4]
  have h0 := f_swapRange_Cross B (m - k) m k (by omega) (by omega) (by unfold small; rw [k3]; exact hn)
  unfold small at hn
  have e1 : (m : Int) - a = (m - a : Nat) := by omega
  have e2 : (b : Int) - m = (b - m : Nat) := by omega
  have e3 : (m : Int) - k = (m - k : Nat) := by omega
  refine Wp.ev ?_
  refine gg [.i IntKind.i64 ((↑m : Int) - (↑a : Int)) ((↑(m - a) : Int)), .i IntKind.i64 ((↑b : Int) - (↑m : Int)) ((↑(b - m) : Int)), .a _ _, .i IntKind.i64 ((↑m : Int) - (↑k : Int)) ((↑(m - k) : Int)), .a _ _] ⟨oI, oI, o_a h, oI, o_a h0, trivial⟩ ?_
  exact ge
theorem f_swapRange_loop_Entity (a b n : Nat) (h1 : a + n ≤ b) : ∀ (d i : Nat) (A : List Entity), i + d = n → b + n ≤ A.length → small A →
    Is cx (.loop 196 [0, 1] 1 [.all 0 none, vi a, vi b, vi n, vi i] [.arr 9 (A.map Entity.enc) none false])
      ⟨.exit 0, [.all 0 none, vi a, vi b, vi n, vi n], [.arr 9 ((swR d A (a + i) (b + i)).map Entity.enc) none false]⟩ := by
  intro d
  induction d with
  | zero =>
    intro i A hi h2 hn
    unfold small at hn
    refine Wp.ev ?_
    refine gg [.b (decide ((↑i : Int) < (↑n : Int))) false] ⟨fP, trivial⟩ ?_
    refine rt (a := Res.mk (Ex.exit 0) [V.all 0 none, vi (↑a : Int), vi (↑b : Int), vi (↑n : Int), vi (↑i : Int)] [Ob.arr 9 (List.map Entity.enc A) none false]) (by kernel_rfl) ?_
    ((have hq : i = n := by omega); subst hq; rfl)
  | succ d ih =>
    intro i A hi h2 hn
    have ih1 := ih (i + 1) (sw A (a + i) (b + i)) (by omega) (by rw [sw_len]; omega) (by unfold small; rw [sw_len]; exact hn)
    unfold small at hn
    clear ih
    unfold sw at ih1
    refine Wp.ev ?_
    refine gg [.b (decide ((↑i : Int) < (↑n : Int))) true, .i IntKind.i64 ((↑a : Int) + (↑i : Int)) ((↑(a + i) : Int)), .i IntKind.i64 ((↑b : Int) + (↑i : Int)) ((↑(b + i) : Int)), .i IntKind.i64 ((↑b : Int) + (↑i : Int)) ((↑(b + i) : Int)), .w ((0 : Int) ≤ (↑(b + i) : Int)), .n (Int.toNat (↑(b + i) : Int)) (b + i), .w (b + i < List.length (List.map Entity.enc A)), .i IntKind.i64 ((↑a : Int) + (↑i : Int)) ((↑(a + i) : Int)), .w ((0 : Int) ≤ (↑(a + i) : Int)), .n (Int.toNat (↑(a + i) : Int)) (a + i), .w (a + i < List.length (List.map Entity.enc A)), .g (List.map Entity.enc A) (b + i) (Entity.enc (gt A (b + i))), .g (List.map Entity.enc A) (a + i) (Entity.enc (gt A (a + i))), .w ((0 : Int) ≤ (↑(a + i) : Int)), .n (Int.toNat (↑(a + i) : Int)) (a + i), .w (a + i < List.length (List.map Entity.enc A))] ⟨tP, oI, oI, oI, oW, o_n (by kernel_rfl), o_w (by (simp; omega)), oI, oW, o_n (by kernel_rfl), o_w (by (simp; omega)), oT, oT, oW, o_n (by kernel_rfl), o_w (by (simp; omega)), trivial⟩ ?_
    refine gg [.w (a + i < List.length (List.map Entity.enc A)), .t (T.sl 0 (List.set (List.map Entity.enc A) (a + i) (Entity.enc (gt A (b + i))))) (T.sl 0 (List.map Entity.enc (List.set A (a + i) (gt A (b + i))))), .w ((0 : Int) ≤ (↑(b + i) : Int)), .n (Int.toNat (↑(b + i) : Int)) (b + i), .w (b + i < List.length (List.map Entity.enc (List.set A (a + i) (gt A (b + i))))), .w (b + i < List.length (List.map Entity.enc (List.set A (a + i) (gt A (b + i))))), .t (T.sl 0 (List.set (List.map Entity.enc (List.set A (a + i) (gt A (b + i)))) (b + i) (Entity.enc (gt A (a + i))))) (T.sl 0 (List.map Entity.enc (List.set (List.set A (a + i) (gt A (b + i))) (b + i) (gt A (a + i))))), .i IntKind.i64 ((↑i : Int) + 1) ((↑(i + 1) : Int)), .a _ _] ⟨o_w (by (simp; omega)), o_l (nm_set rfl rfl), oW, o_n (by kernel_rfl), o_w (by (simp; omega)), o_w (by (simp; omega)), o_l (nm_set rfl rfl), oI, o_a ih1, trivial⟩ ?_
    refine rt (a := Res.mk (Ex.exit 0) [V.all 0 none, vi (↑a : Int), vi (↑b : Int), vi (↑n : Int), vi (↑n : Int)] [Ob.arr 9 (List.map Entity.enc (swR d (List.set (List.set A (a + i) (gt A (b + i))) (b + i) (gt A (a + i))) (a + (i + 1)) (b + (i + 1)))) none false]) (by kernel_rfl) ?_
    (simp_all [swR, sw, Nat.add_assoc]; try omega)
theorem f_swapRange_Entity (A : List Entity) (a b n : Nat) (h1 : a + n ≤ b) (h2 : b + n ≤ A.length) (hn : small A) : Is cx (.call 196 [.all 0 none, vi a, vi b, vi n, .t (.clo 88 [])] [.arr 9 (A.map Entity.enc) none false])
   ⟨.ret, [], [.arr 9 ((swR n A a b).map Entity.enc) none false]⟩ := by
  have h := f_swapRange_loop_Entity a b n h1 n 0 A (by omega) h2 hn
  rw [Nat.add_zero, Nat.add_zero] at h
  unfold small at hn
  refine Wp.ev ?_
  refine gg [.a _ _] ⟨o_a h, trivial⟩ ?_
  exact ge
theorem f_insertion_inner_Entity (a b i : Nat) : ∀ (j : Nat) (A : List Entity), a ≤ j → j < A.length → small A → ∃ k : Nat,
    Is cx (.loop 181 [0, 1, 0, 0, 1, 0, 0, 1] 1 [.all 0 none, vi a, vi b, .t (.clo 88 []), vi i, vi j] [.arr 9 (A.map Entity.enc) none false])
      ⟨.exit 2, [.all 0 none, vi a, vi b, .t (.clo 88 []), vi i, vi k], [.arr 9 ((insIn Entity.less a j A).map Entity.enc) none false]⟩ := by
  intro j
  induction j with
  | zero =>
    intro A h1 h2 hn
    unfold small at hn
    refine ⟨0, ?_⟩
    refine Wp.ev ?_
    refine gg [.b (decide (0 > (↑a : Int))) false, .ff, .ff, .ff, .ff, .ff, .ff, .ff, .ff, .ff, .ff, .ff, .ff, .ff] ⟨o_b (by kernel_rfl), trivial⟩ ?_
    exact ge
  | succ j ih =>
    intro A h1 h2 hn
    by_cases hj : a < j + 1
    · cases hl : Entity.less (gt A (j + 1)) (gt A j) with
      | true =>
        obtain ⟨k, ih1⟩ := ih (sw A (j + 1) j) (by omega) (by rw [sw_len]; omega) (by unfold small; rw [sw_len]; exact hn)
        unfold small at hn
        clear ih
        refine ⟨k, ?_⟩
        have e : insIn Entity.less a (j + 1) A = insIn Entity.less a j (sw A (j + 1) j) := by rw [insIn, if_pos hj, hl]
        rw [e]
        unfold sw at *
        have ej : ((j + 1 : Nat) : Int) - 1 = (j : Nat) := by omega
        have hl : (gt A (j + 1)).cmp (gt A j) < 0 := by simpa [Entity.less] using hl
        refine Wp.ev ?_
        refine gg [.b (decide ((↑(j + 1) : Int) > (↑a : Int))) true, .tt, .tt, .tt, .w ((0 : Int) ≤ (↑(j + (1 : Nat)) : Int)), .n (Int.toNat (↑(j + 1) : Int)) (j + 1), .w (j + (1 : Nat) < List.length (List.map Entity.enc A)), .tt, .tt, .tt, .i IntKind.i64 ((↑(j + 1) : Int) - 1) (↑j : Int), .tt, .w ((0 : Int) ≤ (↑j : Int)), .n (Int.toNat (↑j : Int)) j, .w (j < List.length (List.map Entity.enc A)), .tt] ⟨tP, oW, o_n (by kernel_rfl), o_w (by (simp; omega)), oI, oW, o_n (by kernel_rfl), o_w (by (simp; omega)), trivial⟩ ?_
        refine gg [.g (List.map Entity.enc A) (j + 1) (Entity.enc (gt A (j + 1))), .tt, .g (List.map Entity.enc A) j (Entity.enc (gt A j)), .tt, .w (isFnB cx (88 : Nat) = true), .a _ _, .tt, .tt, .b (decide (Entity.cmp (gt A (j + 1)) (gt A j) < 0)) true, .i IntKind.i64 ((↑(j + 1) : Int) - 1) (↑j : Int), .i IntKind.i64 ((↑(j + 1) : Int) - 1) (↑j : Int), .w ((0 : Int) ≤ (↑j : Int)), .n (Int.toNat (↑j : Int)) j, .w (j < List.length (List.map Entity.enc A)), .w ((0 : Int) ≤ (↑(j + (1 : Nat)) : Int)), .n (Int.toNat (↑(j + 1) : Int)) (j + 1)] ⟨o_gt rfl (by assumption) (by intro h; cases h), oT, o_w (by kernel_rfl), o_a (f_arena_All_1 (gt A (j + 1)) (gt A j)), t_brp (by assumption), oI, oI, oW, o_n (by kernel_rfl), o_w (by (simp; omega)), oW, o_n (by kernel_rfl), trivial⟩ ?_
        refine gg [.w (j + (1 : Nat) < List.length (List.map Entity.enc A)), .g (List.map Entity.enc A) j (Entity.enc (gt A j)), .g (List.map Entity.enc A) (j + 1) (Entity.enc (gt A (j + 1))), .w ((0 : Int) ≤ (↑(j + (1 : Nat)) : Int)), .n (Int.toNat (↑(j + 1) : Int)) (j + 1), .w (j + (1 : Nat) < List.length (List.map Entity.enc A)), .w (j + (1 : Nat) < List.length (List.map Entity.enc A)), .t (T.sl 0 (List.set (List.map Entity.enc A) (j + 1) (Entity.enc (gt A j)))) (T.sl 0 (List.map Entity.enc (List.set A (j + 1) (gt A j)))), .w ((0 : Int) ≤ (↑j : Int)), .n (Int.toNat (↑j : Int)) j, .w (j < List.length (List.map Entity.enc (List.set A (j + (1 : Nat)) (gt A j)))), .w (j < List.length (List.map Entity.enc (List.set A (j + (1 : Nat)) (gt A j)))), .t (T.sl 0 (List.set (List.map Entity.enc (List.set A (j + 1) (gt A j))) j (Entity.enc (gt A (j + 1))))) (T.sl 0 (List.map Entity.enc (List.set (List.set A (j + 1) (gt A j)) j (gt A (j + 1))))), .i IntKind.i64 ((↑(j + 1) : Int) - 1) (↑j : Int), .a _ _] ⟨o_w (by (simp; omega)), oT, o_gt rfl (by assumption) (by intro h; cases h), oW, o_n (by kernel_rfl), o_w (by (simp; omega)), o_w (by (simp; omega)), o_l (nm_set rfl rfl), oW, o_n (by kernel_rfl), o_w (by (simp; omega)), o_w (by (simp; omega)), o_l (nm_set rfl rfl), oI, o_a ih1, trivial⟩ ?_
        refine rt (a := Res.mk (Ex.exit 2) [V.all 0 none, vi (↑a : Int), vi (↑b : Int), V.t (T.clo 88 []), vi (↑i : Int), vi (↑k : Int)] [Ob.arr 9 (List.map Entity.enc (insIn Entity.less a j (List.set (List.set A (j + 1) (gt A j)) j (gt A (j + 1))))) none false]) (by kernel_rfl) ?_
        simp_all
      | false =>
        unfold small at hn
        clear ih
        refine ⟨j + 1, ?_⟩
        have e : insIn Entity.less a (j + 1) A = A := by rw [insIn, if_pos hj, hl]
        rw [e]
        have hl : ¬ (gt A (j + 1)).cmp (gt A j) < 0 := by simpa [Entity.less] using hl
        refine Wp.ev ?_
        refine gg [.b (decide ((↑(j + 1) : Int) > (↑a : Int))) true, .tt, .tt, .tt, .w ((0 : Int) ≤ (↑(j + (1 : Nat)) : Int)), .n (Int.toNat (↑(j + 1) : Int)) (j + 1), .w (j + (1 : Nat) < List.length (List.map Entity.enc A)), .tt, .tt, .tt, .i IntKind.i64 ((↑(j + 1) : Int) - 1) ((↑(j + 1) : Int) - 1), .tt, .w ((0 : Int) ≤ (↑(j + (1 : Nat)) : Int) - (1 : Int)), .n (Int.toNat ((↑(j + 1) : Int) - 1)) j, .w (j < List.length (List.map Entity.enc A)), .tt] ⟨tP, oW, o_n (by kernel_rfl), o_w (by (simp; omega)), oI, oW, oN, o_w (by (simp; omega)), trivial⟩ ?_
        refine gg [.g (List.map Entity.enc A) (j + 1) (Entity.enc (gt A (j + 1))), .tt, .g (List.map Entity.enc A) j (Entity.enc (gt A j)), .tt, .w (isFnB cx (88 : Nat) = true), .a _ _, .tt, .tt, .b (decide (Entity.cmp (gt A (j + 1)) (gt A j) < 0)) false] ⟨o_gt rfl (by assumption) (by intro h; cases h), oT, o_w (by kernel_rfl), o_a (f_arena_All_1 (gt A (j + 1)) (gt A j)), f_brp (by assumption), trivial⟩ ?_
        refine rt (a := Res.mk (Ex.exit 2) [V.all 0 none, vi (↑a : Int), vi (↑b : Int), V.t (T.clo 88 []), vi (↑i : Int), vi (↑(j + 1) : Int)] [Ob.arr 9 (List.map Entity.enc A) none false]) (by kernel_rfl) ?_
        simp_all
    · unfold small at hn
      clear ih
      refine ⟨j + 1, ?_⟩
      have e : insIn Entity.less a (j + 1) A = A := by rw [insIn, if_neg hj]
      rw [e]
      refine Wp.ev ?_
      refine gg [.b (decide ((↑(j + 1) : Int) > (↑a : Int))) false, .ff, .ff, .ff, .ff, .ff, .ff, .ff, .ff, .ff, .ff, .ff, .ff, .ff] ⟨fP, trivial⟩ ?_
      refine rt (a := Res.mk (Ex.exit 2) [V.all 0 none, vi (↑a : Int), vi (↑b : Int), V.t (T.clo 88 []), vi (↑i : Int), vi (↑(j + 1) : Int)] [Ob.arr 9 (List.map Entity.enc A) none false]) (by kernel_rfl) ?_
      simp_all
theorem f_insertion_outer_Entity (a b : Nat) : ∀ (d i : Nat) (A : List Entity), i + d = b → a ≤ i → b ≤ A.length → small A → ∃ k : Nat,
    Is cx (.loop 181 [0, 1] 1 [.all 0 none, vi a, vi b, .t (.clo 88 []), vi i] [.arr 9 (A.map Entity.enc) none false])
      ⟨.exit 0, [.all 0 none, vi a, vi b, .t (.clo 88 []), vi k], [.arr 9 ((insOut Entity.less a d i A).map Entity.enc) none false]⟩ := by
  intro d
  induction d with
  | zero =>
    intro i A hi h1 h2 hn
    unfold small at hn
    refine ⟨i, ?_⟩
    refine Wp.ev ?_
    refine gg [.b (decide ((↑i : Int) < (↑b : Int))) false] ⟨fP, trivial⟩ ?_
    exact ge
  | succ d ih =>
    intro i A hi h1 h2 hn
    obtain ⟨k0, h0⟩ := f_insertion_inner_Entity a b i i A h1 (by omega) hn
    obtain ⟨k, ih1⟩ := ih (i + 1) (insIn Entity.less a i A) (by omega) (by omega) (by rw [insIn_len]; omega) (by unfold small; rw [insIn_len]; exact hn)
    unfold small at hn
    clear ih
    refine ⟨k, ?_⟩
    have hlen : (insIn Entity.less a i A).length = A.length := insIn_len ..
    rw [insOut]
    refine Wp.ev ?_
    refine gg [.b (decide ((↑i : Int) < (↑b : Int))) true, .a _ _, .i IntKind.i64 ((↑i : Int) + 1) ((↑(i + 1) : Int)), .a _ _] ⟨tP, o_a h0, oI, o_a ih1, trivial⟩ ?_
    exact ge
theorem f_insertionSort_Entity (A : List Entity) (a b : Nat) (h1 : a ≤ b) (h2 : b ≤ A.length) (hn : small A) : Is cx (.call 181 [.all 0 none, vi a, vi b, .t (.clo 88 [])] [.arr 9 (A.map Entity.enc) none false])
   ⟨.ret, [], [.arr 9 ((srt Entity.less A a b).map Entity.enc) none false]⟩ := by
  by_cases hab : a < b
  · rw [← insOut_srt Entity_swo hab h2]
    obtain ⟨k, h⟩ := f_insertion_outer_Entity a b (b - a - 1) (a + 1) A (by omega) (by omega) h2 hn
    unfold small at hn
    refine Wp.ev ?_
    refine gg [.i IntKind.i64 ((↑a : Int) + 1) ((↑(a + 1) : Int)), .a _ _] ⟨oI, o_a h, trivial⟩ ?_
    exact ge
  · obtain rfl : a = b := by omega
    rw [srt_small Entity_swo (by omega) (by omega)]
    unfold small at hn
    have h : Is cx (.loop 181 [0, 1] 1 [.all 0 none, vi a, vi a, .t (.clo 88 []), vi (a + 1 : Nat)] [.arr 9 (A.map Entity.enc) none false])
      ⟨.exit 0, [.all 0 none, vi a, vi a, .t (.clo 88 []), vi (a + 1 : Nat)], [.arr 9 (A.map Entity.enc) none false]⟩ := by
      refine Wp.ev ?_
      refine gg [.b (decide ((↑(a + 1) : Int) < (↑a : Int))) false] ⟨fP, trivial⟩ ?_
      exact ge
    refine Wp.ev ?_
    refine gg [.i IntKind.i64 ((↑a : Int) + 1) ((↑(a + 1) : Int)), .a _ _] ⟨oI, o_a h, trivial⟩ ?_
    exact ge
theorem f_rotate_loop_Entity (m : Nat) : ∀ (d i j : Nat) (A : List Entity), i + j ≤ d → 0 < i → 0 < j → i ≤ m → m + j ≤ A.length → small A → ∃ (k : Nat) (B : List Entity),
    Is cx (.loop 193 [0, 0, 1, 1] 1 [.all 0 none, vi m, .t (.clo 88 []), vi i, vi j] [.arr 9 (A.map Entity.enc) none false])
      ⟨.exit 0, [.all 0 none, vi m, .t (.clo 88 []), vi k, vi k], [.arr 9 (B.map Entity.enc) none false]⟩ ∧ k ≤ m ∧ m + k ≤ A.length ∧ B.length = A.length ∧ swR k B (m - k) m = rotL d A m i j := by
  intro d
  induction d with
  | zero => intros; omega
  | succ d ih =>
    intro i j A hd h1 h2 h3 h4 hn
    by_cases hij : i = j
    · subst hij
      refine ⟨i, A, ?_, h3, h4, rfl, by rw [rotL, if_pos rfl]⟩
      unfold small at hn
      refine Wp.ev ?_
      refine gg [.b ((↑i : Int) != (↑i : Int)) false] ⟨f_brn rfl, trivial⟩ ?_
      exact ge
    · by_cases hj : j < i
      · obtain ⟨k, B, ih1, k1, k2, k3, k4⟩ := ih (i - j) j (swR j A (m - i) m) (by omega) (by omega) h2 (by omega) (by rw [swR_len]; omega) (by unfold small; rw [swR_len]; exact hn)
        rw [swR_len] at k2 k3
        refine ⟨k, B, ?_, k1, k2, k3, by rw [rotL, if_neg hij, if_pos hj, k4]⟩
        have h0 := f_swapRange_Entity A (m - i) m j (by omega) (by omega) hn
        have hlen : (swR j A (m - i) m).length = A.length := swR_len ..
        unfold small at hn
        clear ih
        have e1 : (m : Int) - i = (m - i : Nat) := by omega
        have e2 : (i : Int) - j = (i - j : Nat) := by omega
        refine Wp.ev ?_
        refine gg [.b ((↑i : Int) != (↑j : Int)) true, .b (decide ((↑i : Int) > (↑j : Int))) true, .i IntKind.i64 ((↑m : Int) - (↑i : Int)) ((↑(m - i) : Int)), .a _ _, .i IntKind.i64 ((↑i : Int) - (↑j : Int)) ((↑(i - j) : Int)), .a _ _] ⟨tN, tP, oI, o_a h0, oI, o_a ih1, trivial⟩ ?_
        exact ge
      · obtain ⟨k, B, ih1, k1, k2, k3, k4⟩ := ih i (j - i) (swR i A (m - i) (m + j - i)) (by omega) h1 (by omega) h3 (by rw [swR_len]; omega) (by unfold small; rw [swR_len]; exact hn)
        rw [swR_len] at k2 k3
        refine ⟨k, B, ?_, k1, k2, k3, by rw [rotL, if_neg hij, if_neg hj, k4]⟩
        have h0 := f_swapRange_Entity A (m - i) (m + j - i) i (by omega) (by omega) hn
        have hlen : (swR i A (m - i) (m + j - i)).length = A.length := swR_len ..
        unfold small at hn
        clear ih
        have e1 : (m : Int) - i = (m - i : Nat) := by omega
        have e2 : (j : Int) - i = (j - i : Nat) := by omega
        have e3 : (m + j : Nat) - (i : Int) = (m + j - i : Nat) := by omega
        refine Wp.ev ?_
        refine gg [.b ((↑i : Int) != (↑j : Int)) true, .b (decide ((↑i : Int) > (↑j : Int))) false, .i IntKind.i64 ((↑m : Int) - (↑i : Int)) ((↑(m - i) : Int)), .i IntKind.i64 ((↑m : Int) + (↑j : Int)) ((↑(m + j) : Int)), .i IntKind.i64 ((↑(m + j) : Int) - (↑i : Int)) ((↑(m + j - i) : Int)), .a _ _, .i IntKind.i64 ((↑j : Int) - (↑i : Int)) ((↑(j - i) : Int)), .a _ _] ⟨tN, fP, oI, oI, oI, o_a h0, oI, o_a ih1, trivial⟩ ?_
        exact ge
theorem f_rotate_Entity (A : List Entity) (a m b : Nat) (h1 : a < m) (h2 : m < b) (h3 : b ≤ A.length) (hn : small A) : Is cx (.call 193 [.all 0 none, vi a, vi m, vi b, .t (.clo 88 [])] [.arr 9 (A.map Entity.enc) none false])
   ⟨.ret, [], [.arr 9 ((A.take a ++ seg A m b ++ seg A a m ++ A.drop b).map Entity.enc) none false]⟩ := by
  rw [← rotL_seg h1 h2 h3 (Nat.le_refl _)]
  obtain ⟨k, B, h, k1, k2, k3, k4⟩ := f_rotate_loop_Entity m (b - a) (m - a) (b - m) A (by omega) (by omega) (by omega) (by omega) (by omega) hn
  rw [← k4]
  have h0 := f_swapRange_Entity B (m - k) m k (by omega) (by omega) (by unfold small; rw [k3]; exact hn)
  unfold small at hn
  have e1 : (m : Int) - a = (m - a : Nat) := by omega
  have e2 : (b : Int) - m = (b - m : Nat) := by omega
  have e3 : (m : Int) - k = (m - k : Nat) := by omega
  refine Wp.ev ?_
  refine gg [.i IntKind.i64 ((↑m : Int) - (↑a : Int)) ((↑(m - a) : Int)), .i IntKind.i64 ((↑b : Int) - (↑m : Int)) ((↑(b - m) : Int)), .a _ _, .i IntKind.i64 ((↑m : Int) - (↑k : Int)) ((↑(m - k) : Int)), .a _ _] ⟨oI, oI, o_a h, oI, o_a h0, trivial⟩ ?_
  exact ge
end Go.Eva.S3
