/- A reading of the program, proved sound against the model, and what its functions answer by it: part 5. -/
import Derived.Test.YtdlmgaiiheeigaaGreatEva4
set_option linter.unusedSimpArgs false
set_option linter.unusedVariables false
/- Eva, part 75: everybody is there once, over frames; in plain words. -/
namespace Go.Eva

theorem plI_append {l m : List Entity} : plI (l ++ m) = plI l ++ plI m := by simp [plI]
theorem plI_perm {l m : List Entity} (h : l.Perm m) : (plI l).Perm (plI m) := (h.filter _).map _
theorem handed_append {l m : List Cross} : handed (l ++ m) = handed l ++ handed m := by simp [handed]
theorem handed_perm {l m : List Cross} (h : l.Perm m) : (handed l).Perm (handed m) := (h.filter _).map _
theorem handed_cat {g : Nat → List Cross} : ∀ {n : Nat}, handed (cat n g) = cat n fun r => handed (g r)
  | 0 => rfl
  | n + 1 => by rw [cat, cat, handed_append, handed_cat]
theorem plI_cat {g : Nat → List Entity} : ∀ {n : Nat}, plI (cat n g) = cat n fun r => plI (g r)
  | 0 => rfl
  | n + 1 => by rw [cat, cat, plI_append, plI_cat]
theorem ins_perm {l : List Entity} {e : Entity} : (ins l e).Perm (e :: l) := by
  unfold ins
  split
  · rename_i k hk
    have := @List.perm_middle _ e (l.take k) (l.drop k)
    rwa [List.take_append_drop] at this
  · exact List.perm_append_singleton e l
theorem put1_new {l : List Entity} {e : Entity} (h : e.id ∉ l.map Entity.id) : put1 l e = ins l e := by
  unfold put1
  split
  · rename_i k hk
    exfalso
    obtain ⟨hk1, hk2, _⟩ := List.findIdx?_eq_some_iff_getElem.1 hk
    exact h (List.mem_map.2 ⟨l[k], List.getElem_mem .., by simpa using hk2⟩)
  · rfl
theorem handed_cons {m : Cross} {l : List Cross} : handed (m :: l) = if m.kind = 1 then m.ent :: handed l else handed l := by
  unfold handed
  rw [List.filter_cons]
  by_cases h : m.kind = 1 <;> simp [h]
/-- Who arrives, where nobody is twice. -/
theorem arrive_players : ∀ {inbox : List Cross} {l : List Entity}, (l.map Entity.id ++ (handed inbox).map Entity.id).Nodup → (plI (arriveL l inbox)).Perm (plI l ++ plI (handed inbox))
  | [], l, _ => by
    show (plI l).Perm (plI l ++ [])
    rw [List.append_nil]
  | m :: inbox, l, h => by
    have e : arriveL l (m :: inbox) = arriveL (arrive1 l m) inbox := rfl
    rw [e]
    rw [handed_cons] at h ⊢
    by_cases hk : m.kind = 1
    · rw [if_pos hk] at h ⊢
      rw [List.map_cons] at h
      have hmid := (List.perm_middle (a := m.ent.id) (l₁ := l.map Entity.id) (l₂ := (handed inbox).map Entity.id)).nodup_iff.1 h
      obtain ⟨n1, n2⟩ := List.nodup_cons.1 hmid
      by_cases hroom : m.ent.kind = 1 ∨ things l < 24
      · have e2 : arrive1 l m = ins l m.ent := by
          unfold arrive1
          rw [if_pos ⟨hk, hroom⟩]
          exact put1_new fun q => n1 (List.mem_append_left _ q)
        rw [e2]
        have hp := @ins_perm l m.ent
        have hn : ((ins l m.ent).map Entity.id ++ (handed inbox).map Entity.id).Nodup := ((hp.map Entity.id).append_right _).nodup_iff.2 hmid
        refine (arrive_players hn).trans ?_
        refine ((plI_perm hp).append_right _).trans ?_
        rw [← plI_append, ← plI_append]
        exact plI_perm List.perm_middle.symm
      · have e2 : arrive1 l m = l := by
          unfold arrive1
          rw [if_neg fun q => hroom q.2]
        rw [e2]
        have hnk : m.ent.kind ≠ 1 := fun q => hroom (.inl q)
        have e3 : plI (m.ent :: handed inbox) = plI (handed inbox) := by simp [plI, hnk]
        rw [e3]
        exact arrive_players n2
    · rw [if_neg hk] at h ⊢
      have e2 : arrive1 l m = l := by
        unfold arrive1
        rw [if_neg fun q => hk q.1]
      rw [e2]
      exact arrive_players h
theorem arrive_from : ∀ {inbox : List Cross} {l : List Entity}, ∀ e ∈ arriveL l inbox, e ∈ l ∨ e ∈ handed inbox
  | [], _, e, h => .inl h
  | m :: inbox, l, e, h => by
    rw [handed_cons]
    rcases arrive_from (inbox := inbox) (l := arrive1 l m) e h with h | h
    · unfold arrive1 at h
      split at h
      · rename_i hk
        rw [if_pos hk.1]
        rcases put1_mem_iff h with rfl | h
        · exact .inr (List.mem_cons_self ..)
        · exact .inl h
      · exact .inl h
    · right
      split
      · exact List.mem_cons_of_mem _ h
      · exact h
/-- Everybody is there once; numbers of things are of frames that were. -/
structure Once (c : Config) (w : World) (f : Int) : Prop where
  nodup : (cat w.regions.length fun r => (gt w.regions r).ents.map Entity.id ++ (handed (gt w.outs r)).map Entity.id).Nodup
  pl : (cat w.regions.length fun r => plI (gt w.regions r).ents ++ plI (handed (gt w.outs r))).Perm ((List.range c.players.toNat).map fun k : Nat => (k : Int) + 1)
  low : ∀ r, r < w.regions.length → ∀ i ∈ (gt w.regions r).ents.map Entity.id ++ (handed (gt w.outs r)).map Entity.id, i < 1000 + f * c.regions * 8
theorem once_next {c : Config} {w : World} {f : Int} (h : WFine c w f) (ho : Once c w f) (hf : 0 ≤ f ∧ f < 10000) {ins : List Input} (hl : (ins.length : Int) = c.players) (hi : ∀ i ∈ ins, i.right = true) : Once c (nextW c w ins) (f + 1) := by
  have hreg := h.regs
  have hlen := h.outs
  have hgl := @Config.regions_le c
  have hn : (nextW c w ins).regions.length = w.regions.length := by simp [nextW]
  have hFr : ∀ r, r < w.regions.length → (gt w.regions r).frame = f := fun r hr => (h.sane r hr).2.1
  -- all that is there, by the regions that it comes into
  have hbox := inbox_all h
  have hU : (cat w.regions.length fun r => (gt w.regions r).ents.map Entity.id ++ (handed (inboxL c w.outs r)).map Entity.id).Perm (cat w.regions.length fun r => (gt w.regions r).ents.map Entity.id ++ (handed (gt w.outs r)).map Entity.id) := by
    refine cat_append.trans (.trans ?_ cat_append.symm)
    refine List.Perm.append_left _ ?_
    have := (handed_perm hbox).map Entity.id
    rwa [handed_cat, handed_cat, cat_map, cat_map] at this
  obtain ⟨u1, u2⟩ := cat_nodup_at (hU.nodup_iff.2 ho.nodup)
  have hlow : ∀ r, r < w.regions.length → ∀ i ∈ (gt w.regions r).ents.map Entity.id ++ (handed (inboxL c w.outs r)).map Entity.id, i < 1000 + f * c.regions * 8 := fun r hr i hi => by
    obtain ⟨q, hq, hiq⟩ := cat_mem.1 (hU.mem_iff.1 (cat_mem.2 ⟨r, hr, hi⟩))
    exact ho.low q hq i hiq
  have hstep : ∀ r, r < w.regions.length → ((stgW c w ins r).l.map Entity.id ++ (handed (stgW c w ins r).out).map Entity.id).Nodup ∧ ∀ i ∈ (stgW c w ins r).l.map Entity.id ++ (handed (stgW c w ins r).out).map Entity.id, i ∈ (gt w.regions r).ents.map Entity.id ++ (handed (inboxL c w.outs r)).map Entity.id ∨ (1000 + (f * c.regions + r) * 8 ≤ i ∧ i < 1000 + (f * c.regions + r) * 8 + 8) := fun r hr => by
    refine stepS_ids (world_fine h hf hl hi hr) (P := fun i => i ∈ (gt w.regions r).ents.map Entity.id ++ (handed (inboxL c w.outs r)).map Entity.id ∨ (1000 + (f * c.regions + r) * 8 ≤ i ∧ i < 1000 + (f * c.regions + r) * 8 + 8)) (fun e he => ?_) (fun k hk => ?_)
    · left
      rcases arrive_from e he with h | h
      · exact List.mem_append_left _ (List.mem_map.2 ⟨e, h, rfl⟩)
      · exact List.mem_append_right _ (List.mem_map.2 ⟨e, h, rfl⟩)
    · right
      rw [hFr r hr]
      unfold numI
      omega
  have hV : ∀ r, r < w.regions.length → ((gt (nextW c w ins).regions r).ents.map Entity.id ++ (handed (gt (nextW c w ins).outs r)).map Entity.id).Perm ((stgW c w ins r).l.map Entity.id ++ (handed (stgW c w ins r).out).map Entity.id) := fun r hr => by
    have e1 : gt (nextW c w ins).regions r = nextR c w ins r := gt_range hr
    have e2 : gt (nextW c w ins).outs r = nextO c w ins r := gt_range hr
    rw [e1, e2]
    exact List.Perm.append_left _ ((handed_perm sort_perm).map _)
  have hV2 := cat_perm (n := w.regions.length) hV
  refine ⟨?_, ?_, fun r hr i hx => ?_⟩
  · rw [hn]
    refine hV2.nodup_iff.2 (cat_nodup (fun r hr => (hstep r hr).1) fun r q hr hq hne x hx hx2 => ?_)
    have l1 := (hstep r hr).2 x hx
    have l2 := (hstep q hq).2 x hx2
    generalize f * c.regions = t at *
    rcases l1 with l1 | l1
    · rcases l2 with l2 | l2
      · exact u2 r q hr hq hne x l1 l2
      · have := hlow r hr x l1
        omega
    · rcases l2 with l2 | l2
      · have := hlow q hq x l2
        omega
      · omega
  · rw [hn]
    have hk : ∀ r, r < w.regions.length → (plI (gt (nextW c w ins).regions r).ents ++ plI (handed (gt (nextW c w ins).outs r))).Perm (plI (gt w.regions r).ents ++ plI (handed (inboxL c w.outs r))) := fun r hr => by
      have e1 : gt (nextW c w ins).regions r = nextR c w ins r := gt_range hr
      have e2 : gt (nextW c w ins).outs r = nextO c w ins r := gt_range hr
      rw [e1, e2]
      exact (stepS_keeps (world_fine h hf hl hi hr)).trans (arrive_players (u1 r hr))
    refine (cat_perm hk).trans (.trans ?_ ho.pl)
    refine cat_append.trans (.trans ?_ cat_append.symm)
    refine List.Perm.append_left _ ?_
    have := plI_perm (handed_perm hbox)
    rwa [handed_cat, handed_cat, plI_cat, plI_cat] at this
  · rw [hn] at hr
    have l1 := (hstep r hr).2 i ((hV r hr).mem_iff.1 hx)
    have e : (f + 1) * c.regions = f * c.regions + c.regions := by rw [Int.add_mul, Int.one_mul]
    rw [e]
    rcases l1 with l1 | l1
    · have := hlow r hr i l1
      omega
    · omega
theorem once_run {c : Config} : ∀ {rows : List InputL} {w : World} {f : Int}, WFine c w f → Once c w f → 0 ≤ f → f + rows.length ≤ 10000 → (∀ i ∈ rows, (i.length : Int) = c.players ∧ ∀ x ∈ i, x.right = true) → Once c (runW c w rows) (f + rows.length)
  | [], w, f, _, h, _, _, _ => by simpa [runW] using h
  | i :: rows, w, f, hw, h, h0, hf, hi => by
    have h1 := hi i (List.mem_cons_self ..)
    rw [List.length_cons] at hf ⊢
    have := once_run (rows := rows) (next_fine hw (by omega) h1.1 h1.2) (once_next hw h (by omega) h1.1 h1.2) (by omega) (by omega) fun j hj => hi j (List.mem_cons_of_mem _ hj)
    rw [show f + ((rows.length + 1 : Nat) : Int) = f + 1 + rows.length by omega]
    exact this
theorem list_range {α : Type} [Inhabited α] (l : List α) : (List.range l.length).map (gt l) = l := by
  apply List.ext_getElem
  · simp
  · intro i h1 h2
    simp [gt, h2]
theorem cat_list {α β : Type} [Inhabited α] {g : α → List β} (l : List α) : (l.map g).flatten = cat l.length fun r => g (gt l r) := by
  conv => lhs; rw [← list_range l, List.map_map]
  exact cat_range
theorem all_cat {w : World} (h : w.outs.length = w.regions.length) : (allL w).Perm (cat w.regions.length fun r => (gt w.regions r).ents ++ handed (gt w.outs r)) := by
  unfold allL
  refine sort_perm.trans (.trans ?_ cat_append.symm)
  unfold entsAll handedAll
  rw [cat_list w.regions, cat_list w.outs, h]
theorem playersP_ids {cols n : Int} : ∀ {d : Nat} {i : Int}, (playersP cols n d i).map Entity.id = (List.range d).map fun k : Nat => i + (k : Int)
  | 0, _ => rfl
  | d + 1, i => by
    rw [playersP, List.map_cons, playersP_ids, List.range_succ_eq_map, List.map_cons, List.map_map]
    congr 1
    · show i = i + (0 : Nat); omega
    · refine List.map_congr_left fun k _ => ?_
      simp only [Function.comp, Nat.succ_eq_add_one]
      omega
theorem playersP_kind {cols n : Int} : ∀ {d : Nat} {i : Int}, ∀ e ∈ playersP cols n d i, e.kind = 1
  | 0, _, e, h => by simp [playersP] at h
  | d + 1, i, e, h => by
    rw [playersP] at h
    rcases List.mem_cons.1 h with rfl | h
    · rfl
    · exact playersP_kind e h
theorem once_begin {c : Config} (hr : c.right = true) (h1 : c.cols ≤ 3) (h2 : c.rows ≤ 3) (h3 : c.players ≤ 4) : Once c (beginW c.cols c.regions c.players.toNat) 0 := by
  have hcr := Config.right_iff.1 hr
  have hre : c.regions = c.cols * c.rows := by simp [Config.regions, hr]
  have hW := begin_fine hr
  have hA := begin_all (a := c.cols) (b := c.rows) (p := c.players) (by omega) (by omega) (by omega)
  rw [← hre] at hA
  have hc := all_cat hW.outs
  rw [hA] at hc
  generalize beginW c.cols c.regions c.players.toNat = w at *
  have hids : (cat w.regions.length fun r => (gt w.regions r).ents.map Entity.id ++ (handed (gt w.outs r)).map Entity.id).Perm ((List.range c.players.toNat).map fun k : Nat => (1 : Int) + k) := by
    have := (hc.map Entity.id).symm
    rw [cat_map, playersP_ids] at this
    rwa [show (fun r => ((gt w.regions r).ents ++ handed (gt w.outs r)).map Entity.id) = fun r => (gt w.regions r).ents.map Entity.id ++ (handed (gt w.outs r)).map Entity.id from funext fun r => List.map_append ..] at this
  refine ⟨hids.nodup_iff.2 ?_, ?_, fun r hr i hi => ?_⟩
  · rw [List.Nodup, List.pairwise_map]
    exact List.Pairwise.imp (fun h => by omega) List.pairwise_lt_range
  · have := (plI_perm hc).symm
    rw [plI_cat] at this
    rw [show (fun r => plI ((gt w.regions r).ents ++ handed (gt w.outs r))) = fun r => plI (gt w.regions r).ents ++ plI (handed (gt w.outs r)) from funext fun r => plI_append] at this
    refine this.trans ?_
    have e : plI (playersP c.cols c.regions c.players.toNat 1) = (playersP c.cols c.regions c.players.toNat 1).map Entity.id := by
      unfold plI
      rw [List.filter_eq_self.2 fun e he => by simp [playersP_kind e he]]
    rw [e, playersP_ids]
    exact .of_eq (List.map_congr_left fun k _ => Int.add_comm 1 (k : Int))
  · obtain ⟨k, hk, rfl⟩ := List.mem_map.1 (hids.mem_iff.1 (cat_mem.2 ⟨r, hr, hi⟩))
    have := List.mem_range.1 hk
    omega
theorem rise_eq : ∀ {a b : List Int}, a.Pairwise (· < ·) → b.Pairwise (· < ·) → (∀ x, x ∈ a ↔ x ∈ b) → a = b
  | [], [], _, _, _ => rfl
  | [], y :: b, _, _, h => absurd ((h y).2 (List.mem_cons_self ..)) (by simp)
  | x :: a, [], _, _, h => absurd ((h x).1 (List.mem_cons_self ..)) (by simp)
  | x :: a, y :: b, h1, h2, h => by
    obtain ⟨p1, p2⟩ := List.pairwise_cons.1 h1
    obtain ⟨q1, q2⟩ := List.pairwise_cons.1 h2
    have e : x = y := by
      rcases List.mem_cons.1 ((h x).1 (List.mem_cons_self ..)) with e | hx
      · exact e
      · rcases List.mem_cons.1 ((h y).2 (List.mem_cons_self ..)) with e | hy
        · exact e.symm
        · have := q1 x hx
          have := p1 y hy
          omega
    subst e
    rw [rise_eq p2 q2 fun z => ⟨fun hz => ?_, fun hz => ?_⟩]
    · rcases List.mem_cons.1 ((h z).1 (List.mem_cons_of_mem _ hz)) with e | hz2
      · have := p1 z hz; omega
      · exact hz2
    · rcases List.mem_cons.1 ((h z).2 (List.mem_cons_of_mem _ hz)) with e | hz2
      · have := q1 z hz; omega
      · exact hz2
theorem right_thing {c : Config} {e : Entity} (h : e.right c = true) (hk : e.kind ≠ 1) : 1000 ≤ e.id := by
  simp only [Entity.right, Bool.and_eq_true] at h
  have h2 := h.2
  rw [if_neg hk] at h2
  by_cases k2 : e.kind = 2
  · rw [if_pos k2] at h2
    simp only [Bool.and_eq_true, within_iff] at h2
    omega
  · rw [if_neg k2] at h2
    by_cases k3 : e.kind = 3
    · rw [if_pos k3] at h2
      simp only [Bool.and_eq_true, within_iff] at h2
      omega
    · rw [if_neg k3] at h2; contradiction
theorem players_first : ∀ {l : List Entity}, Srt l → (∀ e ∈ l, e.kind = 1 → e.id < 1000) → (∀ e ∈ l, e.kind ≠ 1 → 1000 ≤ e.id) → l = (l.filter fun e => decide (e.kind = 1)) ++ l.filter fun e => !decide (e.kind = 1)
  | [], _, _, _ => rfl
  | e :: l, h, h1, h2 => by
    obtain ⟨p1, p2⟩ := List.pairwise_cons.1 h
    by_cases hk : e.kind = 1
    · rw [List.filter_cons, List.filter_cons, if_pos (by simp [hk]), if_neg (by simp [hk]), List.cons_append, ← players_first p2 (fun x hx => h1 x (List.mem_cons_of_mem _ hx)) fun x hx => h2 x (List.mem_cons_of_mem _ hx)]
    · have hn : ((e :: l).filter fun e => decide (e.kind = 1)) = [] := by
        rw [List.filter_eq_nil_iff]
        intro x hx
        rcases List.mem_cons.1 hx with rfl | hx
        · simpa using hk
        · have q1 := p1 x hx
          have q2 := h2 e (List.mem_cons_self ..) hk
          intro q
          have := h1 x (List.mem_cons_of_mem _ hx) (by simpa using q)
          omega
      rw [hn, List.nil_append, List.filter_eq_self.2]
      intro x hx
      have := List.filter_eq_nil_iff.1 hn x hx
      simpa using this
/-- All that there is: players first, each once; no number twice. -/
theorem all_once {c : Config} {w : World} {f : Int} (hW : WFine c w f) (ho : Once c w f) : Srt (allL w) ∧ (c.players ≤ (allL w).length) ∧ ∀ i : Nat, i < (allL w).length → ((gt (allL w) i).kind = 1 ↔ (i : Int) < c.players) ∧ ((i : Int) < c.players → (gt (allL w) i).id = i + 1) := by
  have hcr := Config.right_iff.1 hW.right
  have hc := all_cat hW.outs
  have hR : ∀ e ∈ allL w, e.right c = true := fun e he => by
    obtain ⟨r, hr, h⟩ := cat_mem.1 (hc.mem_iff.1 he)
    rcases List.mem_append.1 h with h | h
    · exact ((hW.sane r hr).1.ents e h).1
    · obtain ⟨m, hm, rfl⟩ := List.mem_map.1 h
      obtain ⟨m1, m2⟩ := List.mem_filter.1 hm
      have hm2 : m.kind = 1 := by simpa using m2
      have := ((hW.sent r (by rw [hW.outs]; exact hr)).1 m m1).1
      simp only [Cross.right, hm2, if_true, Bool.and_eq_true] at this
      exact this.2.1.1.1.1
  have hnd : ((allL w).map Entity.id).Nodup := by
    refine (hc.map Entity.id).nodup_iff.2 ?_
    rw [cat_map, show (fun r => ((gt w.regions r).ents ++ handed (gt w.outs r)).map Entity.id) = fun r => (gt w.regions r).ents.map Entity.id ++ (handed (gt w.outs r)).map Entity.id from funext fun r => List.map_append ..]
    exact ho.nodup
  have hS : Srt (allL w) := by
    have h1 : Sd Entity.less (allL w) := sortS_sd Entity_swo _
    rw [List.Nodup, List.pairwise_map] at hnd
    refine List.Pairwise.imp₂ (fun a b q1 q2 => ?_) h1 hnd
    have : ¬ (b.id < a.id) := by rw [← eless_iff, q1]; simp
    omega
  have hpl : plI (allL w) = (List.range c.players.toNat).map fun k : Nat => (k : Int) + 1 := by
    have hp : (plI (allL w)).Perm ((List.range c.players.toNat).map fun k : Nat => (k : Int) + 1) := by
      refine (plI_perm hc).trans (.trans ?_ ho.pl)
      rw [plI_cat, show (fun r => plI ((gt w.regions r).ents ++ handed (gt w.outs r))) = fun r => plI (gt w.regions r).ents ++ plI (handed (gt w.outs r)) from funext fun r => plI_append]
    refine rise_eq ?_ ?_ fun x => hp.mem_iff
    · unfold plI
      rw [List.pairwise_map]
      exact List.Pairwise.filter _ hS
    · rw [List.pairwise_map]
      exact List.Pairwise.imp (fun h => by omega) List.pairwise_lt_range
  have hsp := players_first hS (fun e he hk => by have := Entity.right_player (hR e he) hk; omega) fun e he hk => right_thing (hR e he) hk
  have hl : ((allL w).filter fun e => decide (e.kind = 1)).length = c.players.toNat := by
    have := congrArg List.length hpl
    unfold plI at this
    simpa using this
  refine ⟨hS, ?_, fun i hi => ?_⟩
  · have := List.length_filter_le (fun e : Entity => decide (e.kind = 1)) (allL w)
    omega
  · by_cases hip : i < c.players.toNat
    · have hg : gt (allL w) i = gt ((allL w).filter fun e => decide (e.kind = 1)) i := by
        conv => lhs; rw [hsp]
        unfold gt
        rw [List.getElem?_append_left (by omega)]
      have hm := gt_mem (l := (allL w).filter fun e => decide (e.kind = 1)) (i := i) (by omega)
      have hk : (gt (allL w) i).kind = 1 := by
        rw [hg]
        simpa using (List.mem_filter.1 hm).2
      refine ⟨⟨fun _ => by omega, fun _ => hk⟩, fun _ => ?_⟩
      rw [hg]
      have e := congrArg (fun l : List Int => l[i]?) hpl
      unfold plI at e
      simp only [List.getElem?_map] at e
      rw [get_gt (by omega), List.getElem?_range hip] at e
      simpa using e
    · have hg : gt (allL w) i = gt ((allL w).filter fun e => !decide (e.kind = 1)) (i - c.players.toNat) := by
        conv => lhs; rw [hsp]
        unfold gt
        rw [List.getElem?_append_right (by omega), hl]
      have hlen := congrArg List.length hsp
      rw [List.length_append, hl] at hlen
      have hm := gt_mem (l := (allL w).filter fun e => !decide (e.kind = 1)) (i := i - c.players.toNat) (by omega)
      have hk : (gt (allL w) i).kind ≠ 1 := by
        rw [hg]
        simpa using (List.mem_filter.1 hm).2
      exact ⟨⟨fun q => absurd q hk, fun q => by omega⟩, fun q => by omega⟩
end Go.Eva

/- The statements of arenas: each player is there just once. -/
namespace Go.Eva.S3
theorem f_joustlaw10_ArenaPlayers_loop (c : Config) (L : List Entity) (hs : Srt L) (hn : L.length ≤ 100000) (hp : 1 ≤ c.players ∧ c.players ≤ 6) (hk : ∀ i : Nat, i < L.length → ((gt L i).kind = 1 ↔ (i : Int) < c.players) ∧ ((i : Int) < c.players → (gt L i).id = i + 1)) : ∀ d i, i + d = L.length →
    Is cx (.loop 10 [0, 1, 0, 1, 1, 1, 1, 1, 1] 0 [.ptr 0 0 0, vb false, .t (.sl 9 (L.map Entity.enc)), vi i] [.one 5 (.t c.enc) false])
      ⟨.exit 0, [.ptr 0 0 0, vb false, .t (.sl 9 (L.map Entity.enc)), vi L.length], [.one 5 (.t c.enc) false]⟩ := by
  intro d
  induction d with
  | zero =>
    intro i hi
    refine Wp.ev ?_
    refine gg [.n (List.length (List.map Entity.enc L)) (List.length L), .b (decide ((↑i : Int) < (↑(List.length L) : Int))) false] ⟨o_n (by simp), fP, trivial⟩ ?_
    refine rt (a := Res.mk (Ex.exit 0) [V.ptr 0 0 0, vb false, V.t (T.sl 9 (List.map Entity.enc L)), vi (↑i : Int)] [Ob.one 5 (V.t (Config.enc c)) false]) (by kernel_rfl) ?_
    ((have : i = L.length := by omega); subst this; rfl)
  | succ d ih =>
    intro i hi
    have hlt : i < L.length := by omega
    have ih1 := ih (i + 1) (by omega)
    obtain ⟨k1, k2⟩ := hk i hlt
    by_cases h0 : i = 0
    · subst h0
      have kk : (gt L 0).kind = 1 := k1.2 (by omega)
      have ki : (gt L 0).id = 1 := k2 (by omega)
      have hz : (((gt L 0).kind == 1) == decide (0 < c.players)) = true := by rw [kk, decide_eq_true (by omega)]; rfl
      clear ih hs hk k1 k2
      refine Wp.ev ?_
      refine gg [.n (List.length (List.map Entity.enc L)) (List.length L), .b (decide (0 < (↑(List.length L) : Int))) true, .b (decide (0 > 0)) false, .ff, .ff, .ff, .ff, .ff, .ff, .ff, .ff, .ff, .ff, .ff, .ff, .ff] ⟨o_n (by simp), tP, o_b (by kernel_rfl), trivial⟩ ?_
      refine gg [.ff, .ff, .w ((0 : Int) ≤ (0 : Int)), .l 0, .g (List.map Entity.enc L) 0 (Entity.enc (gt L 0)), .ff, .ff, .ff, .ff, .ff, .ff, .ff, .ff, .w (isBool cx (4 : Nat) = true), .ff, .b (!((gt L 0).kind == 1) == decide (0 < c.players)) false] ⟨oW, o_gt rfl (by assumption) (by intro h; cases h), o_w (by kernel_rfl), f_brnot (by assumption), trivial⟩ ?_
      refine gg [.ff, .ff, .ff, .ff, .b (decide (0 < c.players)) true, .tt, .tt, .w ((0 : Int) ≤ (0 : Int)), .l 0, .g (List.map Entity.enc L) 0 (Entity.enc (gt L 0)), .tt, .tt, .tt, .i IntKind.i64 1 1, .tt, .tt] ⟨tP, oW, o_gt rfl (by assumption) (by intro h; cases h), oK, trivial⟩ ?_
      refine gg [.ff, .tt, .ff, .b ((gt L 0).id != 1) false, .i IntKind.i64 1 1, .a _ _] ⟨f_brn (by assumption), oK, o_a ih1, trivial⟩ ?_
      refine rt (a := Res.mk (Ex.exit 0) [V.ptr 0 0 0, vb false, V.t (T.sl 9 (List.map Entity.enc L)), vi (↑(List.length L) : Int)] [Ob.one 5 (V.t (Config.enc c)) false]) (by kernel_rfl) ?_
      (first | rfl | (exfalso; rw [hz] at h1; simp at h1; done) | (exfalso; simp_all; done) | (exfalso; simp_all; omega))
    · obtain ⟨j, rfl⟩ : ∃ j, i = j + 1 := ⟨i - 1, by omega⟩
      have hj : j < L.length := by omega
      have hid : (gt L j).id < (gt L (j + 1)).id := by
        have e1 : gt L j = L[j] := by simp [gt, hj]
        have e2 : gt L (j + 1) = L[j + 1] := by simp [gt, hlt]
        rw [e1, e2]
        exact List.pairwise_iff_getElem.1 hs j (j + 1) hj hlt (by omega)
      have ej : ((j + 1 : Nat) : Int) - 1 = (j : Nat) := by omega
      by_cases hc : ((j + 1 : Nat) : Int) < c.players
      · have kk := k1.2 hc
        have ki := k2 hc
        have hz : (((gt L (j + 1)).kind == 1) == decide (((j + 1 : Nat) : Int) < c.players)) = true := by rw [kk, decide_eq_true hc]; rfl
        clear ih hs hk k1 k2
        refine Wp.ev ?_
        refine gg [.n (List.length (List.map Entity.enc L)) (List.length L), .b (decide ((↑(j + 1) : Int) < (↑(List.length L) : Int))) true, .b (decide ((↑(j + 1) : Int) > 0)) true, .tt, .tt, .w ((0 : Int) ≤ (↑(j + (1 : Nat)) : Int)), .n (Int.toNat (↑(j + 1) : Int)) (j + 1), .g (List.map Entity.enc L) (j + 1) (Entity.enc (gt L (j + 1))), .tt, .tt, .tt, .tt, .i IntKind.i64 ((↑(j + 1) : Int) - 1) (↑j : Int), .tt, .w ((0 : Int) ≤ (↑j : Int)), .n (Int.toNat (↑j : Int)) j] ⟨o_n (by simp), tP, tP, oW, o_n (by kernel_rfl), o_gt rfl (by assumption) (by intro h; cases h), oI, oW, o_n (by kernel_rfl), trivial⟩ ?_
        refine gg [.g (List.map Entity.enc L) j (Entity.enc (gt L j)), .tt, .tt, .tt, .tt, .tt, .b (decide ((gt L (j + 1)).id ≤ (gt L j).id)) false, .ff, .ff, .w ((0 : Int) ≤ (↑(j + (1 : Nat)) : Int)), .n (Int.toNat (↑(j + 1) : Int)) (j + 1), .g (List.map Entity.enc L) (j + 1) (Entity.enc (gt L (j + 1))), .ff, .ff, .ff, .ff] ⟨o_gt rfl (by assumption) (by intro h; cases h), fP, oW, o_n (by kernel_rfl), o_gt rfl (by assumption) (by intro h; cases h), trivial⟩ ?_
        refine gg [.ff, .ff, .ff, .ff, .w (isBool cx (4 : Nat) = true), .ff, .b (!((gt L (j + 1)).kind == 1) == decide ((↑(j + 1) : Int) < c.players)) false, .ff, .ff, .ff, .ff, .b (decide ((↑(j + 1) : Int) < c.players)) true, .tt, .tt, .w ((0 : Int) ≤ (↑(j + (1 : Nat)) : Int)), .n (Int.toNat (↑(j + 1) : Int)) (j + 1)] ⟨o_w (by kernel_rfl), f_brnot (by assumption), t_brp (by assumption), oW, o_n (by kernel_rfl), trivial⟩ ?_
        refine gg [.g (List.map Entity.enc L) (j + 1) (Entity.enc (gt L (j + 1))), .tt, .tt, .tt, .i IntKind.i64 ((↑(j + 1) : Int) + 1) ((↑(j + 1 + 1) : Int)), .tt, .tt, .ff, .tt, .ff, .b ((gt L (j + 1)).id != (↑(j + 1 + 1) : Int)) false, .i IntKind.i64 ((↑(j + 1) : Int) + 1) ((↑(j + 1 + 1) : Int)), .a _ _] ⟨o_gt rfl (by assumption) (by intro h; cases h), oI, f_brn (by assumption), oI, o_a ih1, trivial⟩ ?_
        refine rt (a := Res.mk (Ex.exit 0) [V.ptr 0 0 0, vb false, V.t (T.sl 9 (List.map Entity.enc L)), vi (↑(List.length L) : Int)] [Ob.one 5 (V.t (Config.enc c)) false]) (by kernel_rfl) ?_
        (first | rfl | (exfalso; rw [hz] at h1; simp at h1; done) | (exfalso; simp_all; done) | (exfalso; simp_all; omega))
      · have kk : ¬ (gt L (j + 1)).kind = 1 := fun q => hc (k1.1 q)
        have hz : (((gt L (j + 1)).kind == 1) == decide (((j + 1 : Nat) : Int) < c.players)) = true := by rw [decide_eq_false hc, show ((gt L (j + 1)).kind == 1) = false by simpa using kk]; rfl
        clear ih hs hk k1 k2
        refine Wp.ev ?_
        refine gg [.n (List.length (List.map Entity.enc L)) (List.length L), .b (decide ((↑(j + 1) : Int) < (↑(List.length L) : Int))) true, .b (decide ((↑(j + 1) : Int) > 0)) true, .tt, .tt, .w ((0 : Int) ≤ (↑(j + (1 : Nat)) : Int)), .n (Int.toNat (↑(j + 1) : Int)) (j + 1), .g (List.map Entity.enc L) (j + 1) (Entity.enc (gt L (j + 1))), .tt, .tt, .tt, .tt, .i IntKind.i64 ((↑(j + 1) : Int) - 1) (↑j : Int), .tt, .w ((0 : Int) ≤ (↑j : Int)), .n (Int.toNat (↑j : Int)) j] ⟨o_n (by simp), tP, tP, oW, o_n (by kernel_rfl), o_gt rfl (by assumption) (by intro h; cases h), oI, oW, o_n (by kernel_rfl), trivial⟩ ?_
        refine gg [.g (List.map Entity.enc L) j (Entity.enc (gt L j)), .tt, .tt, .tt, .tt, .tt, .b (decide ((gt L (j + 1)).id ≤ (gt L j).id)) false, .ff, .ff, .w ((0 : Int) ≤ (↑(j + (1 : Nat)) : Int)), .n (Int.toNat (↑(j + 1) : Int)) (j + 1), .g (List.map Entity.enc L) (j + 1) (Entity.enc (gt L (j + 1))), .ff, .ff, .ff, .ff] ⟨o_gt rfl (by assumption) (by intro h; cases h), fP, oW, o_n (by kernel_rfl), o_gt rfl (by assumption) (by intro h; cases h), trivial⟩ ?_
        refine gg [.ff, .ff, .ff, .ff, .w (isBool cx (4 : Nat) = true), .ff, .b (!((gt L (j + 1)).kind == 1) == decide ((↑(j + 1) : Int) < c.players)) false, .ff, .ff, .ff, .ff, .b (decide ((↑(j + 1) : Int) < c.players)) false, .ff, .ff, .ff, .ff] ⟨o_w (by kernel_rfl), f_brnot (by assumption), f_brp (by assumption), trivial⟩ ?_
        refine gg [.ff, .ff, .ff, .ff, .ff, .ff, .ff, .i IntKind.i64 ((↑(j + 1) : Int) + 1) ((↑(j + 1 + 1) : Int)), .a _ _] ⟨oI, o_a ih1, trivial⟩ ?_
        refine rt (a := Res.mk (Ex.exit 0) [V.ptr 0 0 0, vb false, V.t (T.sl 9 (List.map Entity.enc L)), vi (↑(List.length L) : Int)] [Ob.one 5 (V.t (Config.enc c)) false]) (by kernel_rfl) ?_
        (first | rfl | (exfalso; rw [hz] at h1; simp at h1; done) | (exfalso; simp_all; done) | (exfalso; simp_all; omega))
theorem f_joustlaw10_ArenaPlayers (c : Config) (l : List InputL) (hl : long l) (hr : ∀ x ∈ l, long x) : Fn cx 10 [c.enc, .sl 1 (l.map encI)] (.bool true) := by
  have ha := f_joustlaw10_awake
  obtain ⟨hrt, h1, h2, h3, h4⟩ := @Config.play_ok c
  have hC := f_joustplay_Config c
  generalize c.play = g at *
  have hF := f_joustplay_Frames g l 30 g.players.toNat (by omega) (by omega) hl (by decide) hr
  have hro : ∀ i ∈ playFrames g.players.toNat l 30, (i.length : Int) = g.players ∧ ∀ x ∈ i, x.right = true := fun i hi => by
    obtain ⟨x, _, rfl⟩ := List.mem_map.1 hi
    exact ⟨by rw [playRow_len]; omega, playRow_right⟩
  have hrl : (playFrames g.players.toNat l 30).length ≤ 30 := by simp [playFrames]; omega
  generalize playFrames g.players.toNat l 30 = rows at *
  have hR := f_arena_Run g rows hrt hro (by omega)
  have hw := run_fine (begin_fine hrt) (by omega) (by omega) hro
  have ho := once_run (begin_fine hrt) (once_begin hrt (by omega) (by omega) (by omega)) (by omega) (by omega) hro
  change WFine g (worldAt g rows) _ at hw
  change Once g (worldAt g rows) _ at ho
  obtain ⟨a1, a2, a3⟩ := all_once hw ho
  have hgl := @Config.regions_le g
  have hreg := hw.regs
  have hout := hw.outs
  have hE : (entsAll (worldAt g rows).regions).length ≤ 16 * 31 := by
    unfold entsAll
    have := flat_le (g := Region.ents) (n := 31) (l := (worldAt g rows).regions) fun s hs => by
      obtain ⟨j, hj, rfl⟩ := List.mem_iff_getElem.1 hs
      have := (hw.sane j hj).2.2
      have e : gt (worldAt g rows).regions j = (worldAt g rows).regions[j] := by simp [gt, hj]
      rwa [e] at this
    have h2 : (worldAt g rows).regions.length * 31 ≤ 16 * 31 := Nat.mul_le_mul_right _ (by omega)
    exact Nat.le_trans this h2
  have hOl : ∀ l ∈ (worldAt g rows).outs, l.length ≤ 400 := fun s hs => by
    obtain ⟨j, hj, rfl⟩ := List.mem_iff_getElem.1 hs
    have := (hw.sent j hj).2
    have e : gt (worldAt g rows).outs j = (worldAt g rows).outs[j] := by simp [gt, hj]
    rwa [e] at this
  have hH : (handedAll (worldAt g rows).outs).length ≤ 16 * 400 := by
    unfold handedAll
    have := flat_le (g := handed) (n := 400) (l := (worldAt g rows).outs) fun s hs => by
      unfold handed
      rw [List.length_map]
      exact Nat.le_trans (List.length_filter_le ..) (hOl s hs)
    have h2 : (worldAt g rows).outs.length * 400 ≤ 16 * 400 := Nat.mul_le_mul_right _ (by omega)
    exact Nat.le_trans this h2
  have hA := f_arena_All (worldAt g rows) (by omega) (by omega) (by omega) fun l hl => Nat.le_trans (hOl l hl) (by decide)
  have hLl : (allL (worldAt g rows)).length ≤ 100000 := by
    unfold allL
    rw [sort_perm.length_eq, List.length_append]
    omega
  have hL := f_joustlaw10_ArenaPlayers_loop g (allL (worldAt g rows)) a1 hLl (by omega) a3 (allL (worldAt g rows)).length 0 (by omega)
  clear hro hw ho a1 a3 hE hH hOl hreg hout hr
  generalize allL (worldAt g rows) = L at *
  generalize worldAt g rows = W at *
  refine Wp.ev ?_
  refine gg [.a _ _] ⟨o_a hC, trivial⟩ ?_
  refine bo (by kernel_rfl) ?_ ?_
  · refine gg [.a _ _] ⟨o_a hF, trivial⟩ ?_
    refine bo (by kernel_rfl) ?_ ?_
    all_goals
      refine gg [.a _ _, .a _ _, .b (!true) false, .ff, .ff, .b (0 != 0) false, .a _ _, .n (List.length (List.map Entity.enc L)) (List.length L), .b (decide ((↑(List.length L) : Int) < g.players)) false, .a _ _] ⟨o_a hR, o_a ha, o_b (by kernel_rfl), o_b (by kernel_rfl), o_a hA, o_n (by simp), fP, o_a hL, trivial⟩ ?_
      exact ge
  · refine gg [.a _ _, .a _ _, .a _ _, .b (!true) false, .ff, .ff, .b (0 != 0) false, .a _ _, .n (List.length (List.map Entity.enc L)) (List.length L), .b (decide ((↑(List.length L) : Int) < g.players)) false, .a _ _] ⟨o_a hF, o_a hR, o_a ha, o_b (by kernel_rfl), o_b (by kernel_rfl), o_a hA, o_n (by simp), fP, o_a hL, trivial⟩ ?_
    exact ge
end Go.Eva.S3

namespace Go.Eva.S3
open Go.Proofs
theorem cxTy : CxTy Tryz.prog cx := cxTy_of (by decide +kernel) (by decide +kernel) (⟨⟨Tryz.f179, by kernel_rfl, by decide +kernel, by kernel_rfl, by kernel_rfl, by kernel_rfl, by kernel_rfl, 48, by kernel_rfl⟩, trivial⟩)
theorem ok3 : FnOK Tryz.prog cx 3 fi3 Tryz.f3 := ⟨by kernel_rfl, by decide +kernel, by kernel_rfl, by kernel_rfl, by kernel_rfl, by decide +kernel⟩
theorem ok4 : FnOK Tryz.prog cx 4 fi4 Tryz.f4 := ⟨by kernel_rfl, by decide +kernel, by kernel_rfl, by kernel_rfl, by kernel_rfl, by decide +kernel⟩
theorem ok5 : FnOK Tryz.prog cx 5 fi5 Tryz.f5 := ⟨by kernel_rfl, by decide +kernel, by kernel_rfl, by kernel_rfl, by kernel_rfl, by decide +kernel⟩
theorem ok6 : FnOK Tryz.prog cx 6 fi6 Tryz.f6 := ⟨by kernel_rfl, by decide +kernel, by kernel_rfl, by kernel_rfl, by kernel_rfl, by decide +kernel⟩
theorem ok7 : FnOK Tryz.prog cx 7 fi7 Tryz.f7 := ⟨by kernel_rfl, by decide +kernel, by kernel_rfl, by kernel_rfl, by kernel_rfl, by decide +kernel⟩
theorem ok8 : FnOK Tryz.prog cx 8 fi8 Tryz.f8 := ⟨by kernel_rfl, by decide +kernel, by kernel_rfl, by kernel_rfl, by kernel_rfl, by decide +kernel⟩
theorem ok9 : FnOK Tryz.prog cx 9 fi9 Tryz.f9 := ⟨by kernel_rfl, by decide +kernel, by kernel_rfl, by kernel_rfl, by kernel_rfl, by decide +kernel⟩
theorem ok10 : FnOK Tryz.prog cx 10 fi10 Tryz.f10 := ⟨by kernel_rfl, by decide +kernel, by kernel_rfl, by kernel_rfl, by kernel_rfl, by decide +kernel⟩
theorem ok11 : FnOK Tryz.prog cx 11 fi11 Tryz.f11 := ⟨by kernel_rfl, by decide +kernel, by kernel_rfl, by kernel_rfl, by kernel_rfl, by decide +kernel⟩
theorem ok12 : FnOK Tryz.prog cx 12 fi12 Tryz.f12 := ⟨by kernel_rfl, by decide +kernel, by kernel_rfl, by kernel_rfl, by kernel_rfl, by decide +kernel⟩
theorem ok13 : FnOK Tryz.prog cx 13 fi13 Tryz.f13 := ⟨by kernel_rfl, by decide +kernel, by kernel_rfl, by kernel_rfl, by kernel_rfl, by decide +kernel⟩
theorem ok14 : FnOK Tryz.prog cx 14 fi14 Tryz.f14 := ⟨by kernel_rfl, by decide +kernel, by kernel_rfl, by kernel_rfl, by kernel_rfl, by decide +kernel⟩
theorem ok15 : FnOK Tryz.prog cx 15 fi15 Tryz.f15 := ⟨by kernel_rfl, by decide +kernel, by kernel_rfl, by kernel_rfl, by kernel_rfl, by decide +kernel⟩
theorem ok16 : FnOK Tryz.prog cx 16 fi16 Tryz.f16 := ⟨by kernel_rfl, by decide +kernel, by kernel_rfl, by kernel_rfl, by kernel_rfl, by decide +kernel⟩
theorem ok17 : FnOK Tryz.prog cx 17 fi17 Tryz.f17 := ⟨by kernel_rfl, by decide +kernel, by kernel_rfl, by kernel_rfl, by kernel_rfl, by decide +kernel⟩
theorem ok18 : FnOK Tryz.prog cx 18 fi18 Tryz.f18 := ⟨by kernel_rfl, by decide +kernel, by kernel_rfl, by kernel_rfl, by kernel_rfl, by decide +kernel⟩
theorem ok19 : FnOK Tryz.prog cx 19 fi19 Tryz.f19 := ⟨by kernel_rfl, by decide +kernel, by kernel_rfl, by kernel_rfl, by kernel_rfl, by decide +kernel⟩
theorem ok20 : FnOK Tryz.prog cx 20 fi20 Tryz.f20 := ⟨by kernel_rfl, by decide +kernel, by kernel_rfl, by kernel_rfl, by kernel_rfl, by decide +kernel⟩
theorem ok21 : FnOK Tryz.prog cx 21 fi21 Tryz.f21 := ⟨by kernel_rfl, by decide +kernel, by kernel_rfl, by kernel_rfl, by kernel_rfl, by decide +kernel⟩
theorem ok22 : FnOK Tryz.prog cx 22 fi22 Tryz.f22 := ⟨by kernel_rfl, by decide +kernel, by kernel_rfl, by kernel_rfl, by kernel_rfl, by decide +kernel⟩
theorem ok23 : FnOK Tryz.prog cx 23 fi23 Tryz.f23 := ⟨by kernel_rfl, by decide +kernel, by kernel_rfl, by kernel_rfl, by kernel_rfl, by decide +kernel⟩
theorem ok24 : FnOK Tryz.prog cx 24 fi24 Tryz.f24 := ⟨by kernel_rfl, by decide +kernel, by kernel_rfl, by kernel_rfl, by kernel_rfl, by decide +kernel⟩
theorem ok25 : FnOK Tryz.prog cx 25 fi25 Tryz.f25 := ⟨by kernel_rfl, by decide +kernel, by kernel_rfl, by kernel_rfl, by kernel_rfl, by decide +kernel⟩
theorem ok26 : FnOK Tryz.prog cx 26 fi26 Tryz.f26 := ⟨by kernel_rfl, by decide +kernel, by kernel_rfl, by kernel_rfl, by kernel_rfl, by decide +kernel⟩
theorem ok27 : FnOK Tryz.prog cx 27 fi27 Tryz.f27 := ⟨by kernel_rfl, by decide +kernel, by kernel_rfl, by kernel_rfl, by kernel_rfl, by decide +kernel⟩
theorem ok28 : FnOK Tryz.prog cx 28 fi28 Tryz.f28 := ⟨by kernel_rfl, by decide +kernel, by kernel_rfl, by kernel_rfl, by kernel_rfl, by decide +kernel⟩
theorem ok29 : FnOK Tryz.prog cx 29 fi29 Tryz.f29 := ⟨by kernel_rfl, by decide +kernel, by kernel_rfl, by kernel_rfl, by kernel_rfl, by decide +kernel⟩
theorem ok30 : FnOK Tryz.prog cx 30 fi30 Tryz.f30 := ⟨by kernel_rfl, by decide +kernel, by kernel_rfl, by kernel_rfl, by kernel_rfl, by decide +kernel⟩
theorem ok31 : FnOK Tryz.prog cx 31 fi31 Tryz.f31 := ⟨by kernel_rfl, by decide +kernel, by kernel_rfl, by kernel_rfl, by kernel_rfl, by decide +kernel⟩
theorem ok32 : FnOK Tryz.prog cx 32 fi32 Tryz.f32 := ⟨by kernel_rfl, by decide +kernel, by kernel_rfl, by kernel_rfl, by kernel_rfl, by decide +kernel⟩
theorem ok33 : FnOK Tryz.prog cx 33 fi33 Tryz.f33 := ⟨by kernel_rfl, by decide +kernel, by kernel_rfl, by kernel_rfl, by kernel_rfl, by decide +kernel⟩
theorem ok34 : FnOK Tryz.prog cx 34 fi34 Tryz.f34 := ⟨by kernel_rfl, by decide +kernel, by kernel_rfl, by kernel_rfl, by kernel_rfl, by decide +kernel⟩
theorem ok35 : FnOK Tryz.prog cx 35 fi35 Tryz.f35 := ⟨by kernel_rfl, by decide +kernel, by kernel_rfl, by kernel_rfl, by kernel_rfl, by decide +kernel⟩
theorem ok36 : FnOK Tryz.prog cx 36 fi36 Tryz.f36 := ⟨by kernel_rfl, by decide +kernel, by kernel_rfl, by kernel_rfl, by kernel_rfl, by decide +kernel⟩
theorem ok37 : FnOK Tryz.prog cx 37 fi37 Tryz.f37 := ⟨by kernel_rfl, by decide +kernel, by kernel_rfl, by kernel_rfl, by kernel_rfl, by decide +kernel⟩
theorem ok38 : FnOK Tryz.prog cx 38 fi38 Tryz.f38 := ⟨by kernel_rfl, by decide +kernel, by kernel_rfl, by kernel_rfl, by kernel_rfl, by decide +kernel⟩
theorem ok39 : FnOK Tryz.prog cx 39 fi39 Tryz.f39 := ⟨by kernel_rfl, by decide +kernel, by kernel_rfl, by kernel_rfl, by kernel_rfl, by decide +kernel⟩
theorem ok40 : FnOK Tryz.prog cx 40 fi40 Tryz.f40 := ⟨by kernel_rfl, by decide +kernel, by kernel_rfl, by kernel_rfl, by kernel_rfl, by decide +kernel⟩
theorem ok41 : FnOK Tryz.prog cx 41 fi41 Tryz.f41 := ⟨by kernel_rfl, by decide +kernel, by kernel_rfl, by kernel_rfl, by kernel_rfl, by decide +kernel⟩
theorem ok42 : FnOK Tryz.prog cx 42 fi42 Tryz.f42 := ⟨by kernel_rfl, by decide +kernel, by kernel_rfl, by kernel_rfl, by kernel_rfl, by decide +kernel⟩
theorem ok43 : FnOK Tryz.prog cx 43 fi43 Tryz.f43 := ⟨by kernel_rfl, by decide +kernel, by kernel_rfl, by kernel_rfl, by kernel_rfl, by decide +kernel⟩
theorem ok44 : FnOK Tryz.prog cx 44 fi44 Tryz.f44 := ⟨by kernel_rfl, by decide +kernel, by kernel_rfl, by kernel_rfl, by kernel_rfl, by decide +kernel⟩
theorem ok45 : FnOK Tryz.prog cx 45 fi45 Tryz.f45 := ⟨by kernel_rfl, by decide +kernel, by kernel_rfl, by kernel_rfl, by kernel_rfl, by decide +kernel⟩
theorem ok46 : FnOK Tryz.prog cx 46 fi46 Tryz.f46 := ⟨by kernel_rfl, by decide +kernel, by kernel_rfl, by kernel_rfl, by kernel_rfl, by decide +kernel⟩
theorem ok47 : FnOK Tryz.prog cx 47 fi47 Tryz.f47 := ⟨by kernel_rfl, by decide +kernel, by kernel_rfl, by kernel_rfl, by kernel_rfl, by decide +kernel⟩
theorem ok48 : FnOK Tryz.prog cx 48 fi48 Tryz.f48 := ⟨by kernel_rfl, by decide +kernel, by kernel_rfl, by kernel_rfl, by kernel_rfl, by decide +kernel⟩
theorem ok49 : FnOK Tryz.prog cx 49 fi49 Tryz.f49 := ⟨by kernel_rfl, by decide +kernel, by kernel_rfl, by kernel_rfl, by kernel_rfl, by decide +kernel⟩
theorem ok50 : FnOK Tryz.prog cx 50 fi50 Tryz.f50 := ⟨by kernel_rfl, by decide +kernel, by kernel_rfl, by kernel_rfl, by kernel_rfl, by decide +kernel⟩
theorem ok51 : FnOK Tryz.prog cx 51 fi51 Tryz.f51 := ⟨by kernel_rfl, by decide +kernel, by kernel_rfl, by kernel_rfl, by kernel_rfl, by decide +kernel⟩
theorem ok52 : FnOK Tryz.prog cx 52 fi52 Tryz.f52 := ⟨by kernel_rfl, by decide +kernel, by kernel_rfl, by kernel_rfl, by kernel_rfl, by decide +kernel⟩
theorem ok53 : FnOK Tryz.prog cx 53 fi53 Tryz.f53 := ⟨by kernel_rfl, by decide +kernel, by kernel_rfl, by kernel_rfl, by kernel_rfl, by decide +kernel⟩
theorem ok54 : FnOK Tryz.prog cx 54 fi54 Tryz.f54 := ⟨by kernel_rfl, by decide +kernel, by kernel_rfl, by kernel_rfl, by kernel_rfl, by decide +kernel⟩
theorem ok55 : FnOK Tryz.prog cx 55 fi55 Tryz.f55 := ⟨by kernel_rfl, by decide +kernel, by kernel_rfl, by kernel_rfl, by kernel_rfl, by decide +kernel⟩
theorem ok56 : FnOK Tryz.prog cx 56 fi56 Tryz.f56 := ⟨by kernel_rfl, by decide +kernel, by kernel_rfl, by kernel_rfl, by kernel_rfl, by decide +kernel⟩
theorem ok57 : FnOK Tryz.prog cx 57 fi57 Tryz.f57 := ⟨by kernel_rfl, by decide +kernel, by kernel_rfl, by kernel_rfl, by kernel_rfl, by decide +kernel⟩
theorem ok58 : FnOK Tryz.prog cx 58 fi58 Tryz.f58 := ⟨by kernel_rfl, by decide +kernel, by kernel_rfl, by kernel_rfl, by kernel_rfl, by decide +kernel⟩
theorem ok59 : FnOK Tryz.prog cx 59 fi59 Tryz.f59 := ⟨by kernel_rfl, by decide +kernel, by kernel_rfl, by kernel_rfl, by kernel_rfl, by decide +kernel⟩
theorem ok60 : FnOK Tryz.prog cx 60 fi60 Tryz.f60 := ⟨by kernel_rfl, by decide +kernel, by kernel_rfl, by kernel_rfl, by kernel_rfl, by decide +kernel⟩
theorem ok61 : FnOK Tryz.prog cx 61 fi61 Tryz.f61 := ⟨by kernel_rfl, by decide +kernel, by kernel_rfl, by kernel_rfl, by kernel_rfl, by decide +kernel⟩
theorem ok62 : FnOK Tryz.prog cx 62 fi62 Tryz.f62 := ⟨by kernel_rfl, by decide +kernel, by kernel_rfl, by kernel_rfl, by kernel_rfl, by decide +kernel⟩
theorem ok63 : FnOK Tryz.prog cx 63 fi63 Tryz.f63 := ⟨by kernel_rfl, by decide +kernel, by kernel_rfl, by kernel_rfl, by kernel_rfl, by decide +kernel⟩
theorem ok64 : FnOK Tryz.prog cx 64 fi64 Tryz.f64 := ⟨by kernel_rfl, by decide +kernel, by kernel_rfl, by kernel_rfl, by kernel_rfl, by decide +kernel⟩
theorem ok65 : FnOK Tryz.prog cx 65 fi65 Tryz.f65 := ⟨by kernel_rfl, by decide +kernel, by kernel_rfl, by kernel_rfl, by kernel_rfl, by decide +kernel⟩
theorem ok66 : FnOK Tryz.prog cx 66 fi66 Tryz.f66 := ⟨by kernel_rfl, by decide +kernel, by kernel_rfl, by kernel_rfl, by kernel_rfl, by decide +kernel⟩
theorem ok67 : FnOK Tryz.prog cx 67 fi67 Tryz.f67 := ⟨by kernel_rfl, by decide +kernel, by kernel_rfl, by kernel_rfl, by kernel_rfl, by decide +kernel⟩
theorem ok68 : FnOK Tryz.prog cx 68 fi68 Tryz.f68 := ⟨by kernel_rfl, by decide +kernel, by kernel_rfl, by kernel_rfl, by kernel_rfl, by decide +kernel⟩
theorem ok69 : FnOK Tryz.prog cx 69 fi69 Tryz.f69 := ⟨by kernel_rfl, by decide +kernel, by kernel_rfl, by kernel_rfl, by kernel_rfl, by decide +kernel⟩
theorem ok70 : FnOK Tryz.prog cx 70 fi70 Tryz.f70 := ⟨by kernel_rfl, by decide +kernel, by kernel_rfl, by kernel_rfl, by kernel_rfl, by decide +kernel⟩
theorem ok71 : FnOK Tryz.prog cx 71 fi71 Tryz.f71 := ⟨by kernel_rfl, by decide +kernel, by kernel_rfl, by kernel_rfl, by kernel_rfl, by decide +kernel⟩
theorem ok72 : FnOK Tryz.prog cx 72 fi72 Tryz.f72 := ⟨by kernel_rfl, by decide +kernel, by kernel_rfl, by kernel_rfl, by kernel_rfl, by decide +kernel⟩
theorem ok73 : FnOK Tryz.prog cx 73 fi73 Tryz.f73 := ⟨by kernel_rfl, by decide +kernel, by kernel_rfl, by kernel_rfl, by kernel_rfl, by decide +kernel⟩
theorem ok74 : FnOK Tryz.prog cx 74 fi74 Tryz.f74 := ⟨by kernel_rfl, by decide +kernel, by kernel_rfl, by kernel_rfl, by kernel_rfl, by decide +kernel⟩
theorem ok75 : FnOK Tryz.prog cx 75 fi75 Tryz.f75 := ⟨by kernel_rfl, by decide +kernel, by kernel_rfl, by kernel_rfl, by kernel_rfl, by decide +kernel⟩
theorem ok76 : FnOK Tryz.prog cx 76 fi76 Tryz.f76 := ⟨by kernel_rfl, by decide +kernel, by kernel_rfl, by kernel_rfl, by kernel_rfl, by decide +kernel⟩
theorem ok77 : FnOK Tryz.prog cx 77 fi77 Tryz.f77 := ⟨by kernel_rfl, by decide +kernel, by kernel_rfl, by kernel_rfl, by kernel_rfl, by decide +kernel⟩
theorem ok78 : FnOK Tryz.prog cx 78 fi78 Tryz.f78 := ⟨by kernel_rfl, by decide +kernel, by kernel_rfl, by kernel_rfl, by kernel_rfl, by decide +kernel⟩
theorem ok79 : FnOK Tryz.prog cx 79 fi79 Tryz.f79 := ⟨by kernel_rfl, by decide +kernel, by kernel_rfl, by kernel_rfl, by kernel_rfl, by decide +kernel⟩
theorem ok80 : FnOK Tryz.prog cx 80 fi80 Tryz.f80 := ⟨by kernel_rfl, by decide +kernel, by kernel_rfl, by kernel_rfl, by kernel_rfl, by decide +kernel⟩
theorem ok81 : FnOK Tryz.prog cx 81 fi81 Tryz.f81 := ⟨by kernel_rfl, by decide +kernel, by kernel_rfl, by kernel_rfl, by kernel_rfl, by decide +kernel⟩
theorem ok82 : FnOK Tryz.prog cx 82 fi82 Tryz.f82 := ⟨by kernel_rfl, by decide +kernel, by kernel_rfl, by kernel_rfl, by kernel_rfl, by decide +kernel⟩
theorem ok83 : FnOK Tryz.prog cx 83 fi83 Tryz.f83 := ⟨by kernel_rfl, by decide +kernel, by kernel_rfl, by kernel_rfl, by kernel_rfl, by decide +kernel⟩
theorem ok84 : FnOK Tryz.prog cx 84 fi84 Tryz.f84 := ⟨by kernel_rfl, by decide +kernel, by kernel_rfl, by kernel_rfl, by kernel_rfl, by decide +kernel⟩
theorem ok85 : FnOK Tryz.prog cx 85 fi85 Tryz.f85 := ⟨by kernel_rfl, by decide +kernel, by kernel_rfl, by kernel_rfl, by kernel_rfl, by decide +kernel⟩
theorem ok86 : FnOK Tryz.prog cx 86 fi86 Tryz.f86 := ⟨by kernel_rfl, by decide +kernel, by kernel_rfl, by kernel_rfl, by kernel_rfl, by decide +kernel⟩
theorem ok87 : FnOK Tryz.prog cx 87 fi87 Tryz.f87 := ⟨by kernel_rfl, by decide +kernel, by kernel_rfl, by kernel_rfl, by kernel_rfl, by decide +kernel⟩
theorem ok88 : FnOK Tryz.prog cx 88 fi88 Tryz.f88 := ⟨by kernel_rfl, by decide +kernel, by kernel_rfl, by kernel_rfl, by kernel_rfl, by decide +kernel⟩
theorem ok89 : FnOK Tryz.prog cx 89 fi89 Tryz.f89 := ⟨by kernel_rfl, by decide +kernel, by kernel_rfl, by kernel_rfl, by kernel_rfl, by decide +kernel⟩
theorem ok90 : FnOK Tryz.prog cx 90 fi90 Tryz.f90 := ⟨by kernel_rfl, by decide +kernel, by kernel_rfl, by kernel_rfl, by kernel_rfl, by decide +kernel⟩
theorem ok91 : FnOK Tryz.prog cx 91 fi91 Tryz.f91 := ⟨by kernel_rfl, by decide +kernel, by kernel_rfl, by kernel_rfl, by kernel_rfl, by decide +kernel⟩
theorem ok92 : FnOK Tryz.prog cx 92 fi92 Tryz.f92 := ⟨by kernel_rfl, by decide +kernel, by kernel_rfl, by kernel_rfl, by kernel_rfl, by decide +kernel⟩
theorem ok93 : FnOK Tryz.prog cx 93 fi93 Tryz.f93 := ⟨by kernel_rfl, by decide +kernel, by kernel_rfl, by kernel_rfl, by kernel_rfl, by decide +kernel⟩
theorem ok94 : FnOK Tryz.prog cx 94 fi94 Tryz.f94 := ⟨by kernel_rfl, by decide +kernel, by kernel_rfl, by kernel_rfl, by kernel_rfl, by decide +kernel⟩
theorem ok95 : FnOK Tryz.prog cx 95 fi95 Tryz.f95 := ⟨by kernel_rfl, by decide +kernel, by kernel_rfl, by kernel_rfl, by kernel_rfl, by decide +kernel⟩
theorem ok96 : FnOK Tryz.prog cx 96 fi96 Tryz.f96 := ⟨by kernel_rfl, by decide +kernel, by kernel_rfl, by kernel_rfl, by kernel_rfl, by decide +kernel⟩
theorem ok97 : FnOK Tryz.prog cx 97 fi97 Tryz.f97 := ⟨by kernel_rfl, by decide +kernel, by kernel_rfl, by kernel_rfl, by kernel_rfl, by decide +kernel⟩
theorem ok98 : FnOK Tryz.prog cx 98 fi98 Tryz.f98 := ⟨by kernel_rfl, by decide +kernel, by kernel_rfl, by kernel_rfl, by kernel_rfl, by decide +kernel⟩
theorem ok99 : FnOK Tryz.prog cx 99 fi99 Tryz.f99 := ⟨by kernel_rfl, by decide +kernel, by kernel_rfl, by kernel_rfl, by kernel_rfl, by decide +kernel⟩
theorem ok100 : FnOK Tryz.prog cx 100 fi100 Tryz.f100 := ⟨by kernel_rfl, by decide +kernel, by kernel_rfl, by kernel_rfl, by kernel_rfl, by decide +kernel⟩
theorem ok101 : FnOK Tryz.prog cx 101 fi101 Tryz.f101 := ⟨by kernel_rfl, by decide +kernel, by kernel_rfl, by kernel_rfl, by kernel_rfl, by decide +kernel⟩
theorem ok102 : FnOK Tryz.prog cx 102 fi102 Tryz.f102 := ⟨by kernel_rfl, by decide +kernel, by kernel_rfl, by kernel_rfl, by kernel_rfl, by decide +kernel⟩
theorem ok103 : FnOK Tryz.prog cx 103 fi103 Tryz.f103 := ⟨by kernel_rfl, by decide +kernel, by kernel_rfl, by kernel_rfl, by kernel_rfl, by decide +kernel⟩
theorem ok104 : FnOK Tryz.prog cx 104 fi104 Tryz.f104 := ⟨by kernel_rfl, by decide +kernel, by kernel_rfl, by kernel_rfl, by kernel_rfl, by decide +kernel⟩
theorem ok105 : FnOK Tryz.prog cx 105 fi105 Tryz.f105 := ⟨by kernel_rfl, by decide +kernel, by kernel_rfl, by kernel_rfl, by kernel_rfl, by decide +kernel⟩
theorem ok106 : FnOK Tryz.prog cx 106 fi106 Tryz.f106 := ⟨by kernel_rfl, by decide +kernel, by kernel_rfl, by kernel_rfl, by kernel_rfl, by decide +kernel⟩
theorem ok107 : FnOK Tryz.prog cx 107 fi107 Tryz.f107 := ⟨by kernel_rfl, by decide +kernel, by kernel_rfl, by kernel_rfl, by kernel_rfl, by decide +kernel⟩
theorem ok108 : FnOK Tryz.prog cx 108 fi108 Tryz.f108 := ⟨by kernel_rfl, by decide +kernel, by kernel_rfl, by kernel_rfl, by kernel_rfl, by decide +kernel⟩
theorem ok109 : FnOK Tryz.prog cx 109 fi109 Tryz.f109 := ⟨by kernel_rfl, by decide +kernel, by kernel_rfl, by kernel_rfl, by kernel_rfl, by decide +kernel⟩
theorem ok110 : FnOK Tryz.prog cx 110 fi110 Tryz.f110 := ⟨by kernel_rfl, by decide +kernel, by kernel_rfl, by kernel_rfl, by kernel_rfl, by decide +kernel⟩
theorem ok111 : FnOK Tryz.prog cx 111 fi111 Tryz.f111 := ⟨by kernel_rfl, by decide +kernel, by kernel_rfl, by kernel_rfl, by kernel_rfl, by decide +kernel⟩
theorem ok112 : FnOK Tryz.prog cx 112 fi112 Tryz.f112 := ⟨by kernel_rfl, by decide +kernel, by kernel_rfl, by kernel_rfl, by kernel_rfl, by decide +kernel⟩
theorem ok113 : FnOK Tryz.prog cx 113 fi113 Tryz.f113 := ⟨by kernel_rfl, by decide +kernel, by kernel_rfl, by kernel_rfl, by kernel_rfl, by decide +kernel⟩
theorem ok114 : FnOK Tryz.prog cx 114 fi114 Tryz.f114 := ⟨by kernel_rfl, by decide +kernel, by kernel_rfl, by kernel_rfl, by kernel_rfl, by decide +kernel⟩
theorem ok115 : FnOK Tryz.prog cx 115 fi115 Tryz.f115 := ⟨by kernel_rfl, by decide +kernel, by kernel_rfl, by kernel_rfl, by kernel_rfl, by decide +kernel⟩
theorem ok116 : FnOK Tryz.prog cx 116 fi116 Tryz.f116 := ⟨by kernel_rfl, by decide +kernel, by kernel_rfl, by kernel_rfl, by kernel_rfl, by decide +kernel⟩
theorem ok117 : FnOK Tryz.prog cx 117 fi117 Tryz.f117 := ⟨by kernel_rfl, by decide +kernel, by kernel_rfl, by kernel_rfl, by kernel_rfl, by decide +kernel⟩
theorem ok118 : FnOK Tryz.prog cx 118 fi118 Tryz.f118 := ⟨by kernel_rfl, by decide +kernel, by kernel_rfl, by kernel_rfl, by kernel_rfl, by decide +kernel⟩
theorem ok119 : FnOK Tryz.prog cx 119 fi119 Tryz.f119 := ⟨by kernel_rfl, by decide +kernel, by kernel_rfl, by kernel_rfl, by kernel_rfl, by decide +kernel⟩
theorem ok120 : FnOK Tryz.prog cx 120 fi120 Tryz.f120 := ⟨by kernel_rfl, by decide +kernel, by kernel_rfl, by kernel_rfl, by kernel_rfl, by decide +kernel⟩
theorem ok121 : FnOK Tryz.prog cx 121 fi121 Tryz.f121 := ⟨by kernel_rfl, by decide +kernel, by kernel_rfl, by kernel_rfl, by kernel_rfl, by decide +kernel⟩
theorem ok122 : FnOK Tryz.prog cx 122 fi122 Tryz.f122 := ⟨by kernel_rfl, by decide +kernel, by kernel_rfl, by kernel_rfl, by kernel_rfl, by decide +kernel⟩
theorem ok123 : FnOK Tryz.prog cx 123 fi123 Tryz.f123 := ⟨by kernel_rfl, by decide +kernel, by kernel_rfl, by kernel_rfl, by kernel_rfl, by decide +kernel⟩
theorem ok124 : FnOK Tryz.prog cx 124 fi124 Tryz.f124 := ⟨by kernel_rfl, by decide +kernel, by kernel_rfl, by kernel_rfl, by kernel_rfl, by decide +kernel⟩
theorem ok125 : FnOK Tryz.prog cx 125 fi125 Tryz.f125 := ⟨by kernel_rfl, by decide +kernel, by kernel_rfl, by kernel_rfl, by kernel_rfl, by decide +kernel⟩
theorem ok126 : FnOK Tryz.prog cx 126 fi126 Tryz.f126 := ⟨by kernel_rfl, by decide +kernel, by kernel_rfl, by kernel_rfl, by kernel_rfl, by decide +kernel⟩
theorem ok127 : FnOK Tryz.prog cx 127 fi127 Tryz.f127 := ⟨by kernel_rfl, by decide +kernel, by kernel_rfl, by kernel_rfl, by kernel_rfl, by decide +kernel⟩
theorem ok128 : FnOK Tryz.prog cx 128 fi128 Tryz.f128 := ⟨by kernel_rfl, by decide +kernel, by kernel_rfl, by kernel_rfl, by kernel_rfl, by decide +kernel⟩
theorem ok129 : FnOK Tryz.prog cx 129 fi129 Tryz.f129 := ⟨by kernel_rfl, by decide +kernel, by kernel_rfl, by kernel_rfl, by kernel_rfl, by decide +kernel⟩
theorem ok130 : FnOK Tryz.prog cx 130 fi130 Tryz.f130 := ⟨by kernel_rfl, by decide +kernel, by kernel_rfl, by kernel_rfl, by kernel_rfl, by decide +kernel⟩
theorem ok131 : FnOK Tryz.prog cx 131 fi131 Tryz.f131 := ⟨by kernel_rfl, by decide +kernel, by kernel_rfl, by kernel_rfl, by kernel_rfl, by decide +kernel⟩
theorem ok132 : FnOK Tryz.prog cx 132 fi132 Tryz.f132 := ⟨by kernel_rfl, by decide +kernel, by kernel_rfl, by kernel_rfl, by kernel_rfl, by decide +kernel⟩
theorem ok133 : FnOK Tryz.prog cx 133 fi133 Tryz.f133 := ⟨by kernel_rfl, by decide +kernel, by kernel_rfl, by kernel_rfl, by kernel_rfl, by decide +kernel⟩
theorem ok134 : FnOK Tryz.prog cx 134 fi134 Tryz.f134 := ⟨by kernel_rfl, by decide +kernel, by kernel_rfl, by kernel_rfl, by kernel_rfl, by decide +kernel⟩
theorem ok135 : FnOK Tryz.prog cx 135 fi135 Tryz.f135 := ⟨by kernel_rfl, by decide +kernel, by kernel_rfl, by kernel_rfl, by kernel_rfl, by decide +kernel⟩
theorem ok136 : FnOK Tryz.prog cx 136 fi136 Tryz.f136 := ⟨by kernel_rfl, by decide +kernel, by kernel_rfl, by kernel_rfl, by kernel_rfl, by decide +kernel⟩
theorem ok137 : FnOK Tryz.prog cx 137 fi137 Tryz.f137 := ⟨by kernel_rfl, by decide +kernel, by kernel_rfl, by kernel_rfl, by kernel_rfl, by decide +kernel⟩
theorem ok138 : FnOK Tryz.prog cx 138 fi138 Tryz.f138 := ⟨by kernel_rfl, by decide +kernel, by kernel_rfl, by kernel_rfl, by kernel_rfl, by decide +kernel⟩
theorem ok139 : FnOK Tryz.prog cx 139 fi139 Tryz.f139 := ⟨by kernel_rfl, by decide +kernel, by kernel_rfl, by kernel_rfl, by kernel_rfl, by decide +kernel⟩
theorem ok140 : FnOK Tryz.prog cx 140 fi140 Tryz.f140 := ⟨by kernel_rfl, by decide +kernel, by kernel_rfl, by kernel_rfl, by kernel_rfl, by decide +kernel⟩
theorem ok141 : FnOK Tryz.prog cx 141 fi141 Tryz.f141 := ⟨by kernel_rfl, by decide +kernel, by kernel_rfl, by kernel_rfl, by kernel_rfl, by decide +kernel⟩
theorem ok142 : FnOK Tryz.prog cx 142 fi142 Tryz.f142 := ⟨by kernel_rfl, by decide +kernel, by kernel_rfl, by kernel_rfl, by kernel_rfl, by decide +kernel⟩
theorem ok143 : FnOK Tryz.prog cx 143 fi143 Tryz.f143 := ⟨by kernel_rfl, by decide +kernel, by kernel_rfl, by kernel_rfl, by kernel_rfl, by decide +kernel⟩
theorem ok144 : FnOK Tryz.prog cx 144 fi144 Tryz.f144 := ⟨by kernel_rfl, by decide +kernel, by kernel_rfl, by kernel_rfl, by kernel_rfl, by decide +kernel⟩
theorem ok145 : FnOK Tryz.prog cx 145 fi145 Tryz.f145 := ⟨by kernel_rfl, by decide +kernel, by kernel_rfl, by kernel_rfl, by kernel_rfl, by decide +kernel⟩
theorem ok146 : FnOK Tryz.prog cx 146 fi146 Tryz.f146 := ⟨by kernel_rfl, by decide +kernel, by kernel_rfl, by kernel_rfl, by kernel_rfl, by decide +kernel⟩
theorem ok147 : FnOK Tryz.prog cx 147 fi147 Tryz.f147 := ⟨by kernel_rfl, by decide +kernel, by kernel_rfl, by kernel_rfl, by kernel_rfl, by decide +kernel⟩
theorem ok148 : FnOK Tryz.prog cx 148 fi148 Tryz.f148 := ⟨by kernel_rfl, by decide +kernel, by kernel_rfl, by kernel_rfl, by kernel_rfl, by decide +kernel⟩
theorem ok149 : FnOK Tryz.prog cx 149 fi149 Tryz.f149 := ⟨by kernel_rfl, by decide +kernel, by kernel_rfl, by kernel_rfl, by kernel_rfl, by decide +kernel⟩
theorem ok150 : FnOK Tryz.prog cx 150 fi150 Tryz.f150 := ⟨by kernel_rfl, by decide +kernel, by kernel_rfl, by kernel_rfl, by kernel_rfl, by decide +kernel⟩
theorem ok151 : FnOK Tryz.prog cx 151 fi151 Tryz.f151 := ⟨by kernel_rfl, by decide +kernel, by kernel_rfl, by kernel_rfl, by kernel_rfl, by decide +kernel⟩
theorem ok152 : FnOK Tryz.prog cx 152 fi152 Tryz.f152 := ⟨by kernel_rfl, by decide +kernel, by kernel_rfl, by kernel_rfl, by kernel_rfl, by decide +kernel⟩
theorem ok153 : FnOK Tryz.prog cx 153 fi153 Tryz.f153 := ⟨by kernel_rfl, by decide +kernel, by kernel_rfl, by kernel_rfl, by kernel_rfl, by decide +kernel⟩
theorem ok154 : FnOK Tryz.prog cx 154 fi154 Tryz.f154 := ⟨by kernel_rfl, by decide +kernel, by kernel_rfl, by kernel_rfl, by kernel_rfl, by decide +kernel⟩
theorem ok155 : FnOK Tryz.prog cx 155 fi155 Tryz.f155 := ⟨by kernel_rfl, by decide +kernel, by kernel_rfl, by kernel_rfl, by kernel_rfl, by decide +kernel⟩
theorem ok156 : FnOK Tryz.prog cx 156 fi156 Tryz.f156 := ⟨by kernel_rfl, by decide +kernel, by kernel_rfl, by kernel_rfl, by kernel_rfl, by decide +kernel⟩
theorem ok157 : FnOK Tryz.prog cx 157 fi157 Tryz.f157 := ⟨by kernel_rfl, by decide +kernel, by kernel_rfl, by kernel_rfl, by kernel_rfl, by decide +kernel⟩
theorem ok158 : FnOK Tryz.prog cx 158 fi158 Tryz.f158 := ⟨by kernel_rfl, by decide +kernel, by kernel_rfl, by kernel_rfl, by kernel_rfl, by decide +kernel⟩
theorem ok159 : FnOK Tryz.prog cx 159 fi159 Tryz.f159 := ⟨by kernel_rfl, by decide +kernel, by kernel_rfl, by kernel_rfl, by kernel_rfl, by decide +kernel⟩
theorem ok160 : FnOK Tryz.prog cx 160 fi160 Tryz.f160 := ⟨by kernel_rfl, by decide +kernel, by kernel_rfl, by kernel_rfl, by kernel_rfl, by decide +kernel⟩
theorem ok161 : FnOK Tryz.prog cx 161 fi161 Tryz.f161 := ⟨by kernel_rfl, by decide +kernel, by kernel_rfl, by kernel_rfl, by kernel_rfl, by decide +kernel⟩
theorem ok162 : FnOK Tryz.prog cx 162 fi162 Tryz.f162 := ⟨by kernel_rfl, by decide +kernel, by kernel_rfl, by kernel_rfl, by kernel_rfl, by decide +kernel⟩
theorem ok163 : FnOK Tryz.prog cx 163 fi163 Tryz.f163 := ⟨by kernel_rfl, by decide +kernel, by kernel_rfl, by kernel_rfl, by kernel_rfl, by decide +kernel⟩
theorem ok164 : FnOK Tryz.prog cx 164 fi164 Tryz.f164 := ⟨by kernel_rfl, by decide +kernel, by kernel_rfl, by kernel_rfl, by kernel_rfl, by decide +kernel⟩
theorem ok165 : FnOK Tryz.prog cx 165 fi165 Tryz.f165 := ⟨by kernel_rfl, by decide +kernel, by kernel_rfl, by kernel_rfl, by kernel_rfl, by decide +kernel⟩
theorem ok166 : FnOK Tryz.prog cx 166 fi166 Tryz.f166 := ⟨by kernel_rfl, by decide +kernel, by kernel_rfl, by kernel_rfl, by kernel_rfl, by decide +kernel⟩
theorem ok167 : FnOK Tryz.prog cx 167 fi167 Tryz.f167 := ⟨by kernel_rfl, by decide +kernel, by kernel_rfl, by kernel_rfl, by kernel_rfl, by decide +kernel⟩
theorem ok168 : FnOK Tryz.prog cx 168 fi168 Tryz.f168 := ⟨by kernel_rfl, by decide +kernel, by kernel_rfl, by kernel_rfl, by kernel_rfl, by decide +kernel⟩
theorem ok169 : FnOK Tryz.prog cx 169 fi169 Tryz.f169 := ⟨by kernel_rfl, by decide +kernel, by kernel_rfl, by kernel_rfl, by kernel_rfl, by decide +kernel⟩
theorem ok170 : FnOK Tryz.prog cx 170 fi170 Tryz.f170 := ⟨by kernel_rfl, by decide +kernel, by kernel_rfl, by kernel_rfl, by kernel_rfl, by decide +kernel⟩
theorem ok171 : FnOK Tryz.prog cx 171 fi171 Tryz.f171 := ⟨by kernel_rfl, by decide +kernel, by kernel_rfl, by kernel_rfl, by kernel_rfl, by decide +kernel⟩
theorem ok172 : FnOK Tryz.prog cx 172 fi172 Tryz.f172 := ⟨by kernel_rfl, by decide +kernel, by kernel_rfl, by kernel_rfl, by kernel_rfl, by decide +kernel⟩
theorem ok173 : FnOK Tryz.prog cx 173 fi173 Tryz.f173 := ⟨by kernel_rfl, by decide +kernel, by kernel_rfl, by kernel_rfl, by kernel_rfl, by decide +kernel⟩
theorem ok174 : FnOK Tryz.prog cx 174 fi174 Tryz.f174 := ⟨by kernel_rfl, by decide +kernel, by kernel_rfl, by kernel_rfl, by kernel_rfl, by decide +kernel⟩
theorem ok175 : FnOK Tryz.prog cx 175 fi175 Tryz.f175 := ⟨by kernel_rfl, by decide +kernel, by kernel_rfl, by kernel_rfl, by kernel_rfl, by decide +kernel⟩
theorem ok176 : FnOK Tryz.prog cx 176 fi176 Tryz.f176 := ⟨by kernel_rfl, by decide +kernel, by kernel_rfl, by kernel_rfl, by kernel_rfl, by decide +kernel⟩
theorem ok177 : FnOK Tryz.prog cx 177 fi177 Tryz.f177 := ⟨by kernel_rfl, by decide +kernel, by kernel_rfl, by kernel_rfl, by kernel_rfl, by decide +kernel⟩
theorem ok178 : FnOK Tryz.prog cx 178 fi178 Tryz.f178 := ⟨by kernel_rfl, by decide +kernel, by kernel_rfl, by kernel_rfl, by kernel_rfl, by decide +kernel⟩
theorem ok180 : FnOK Tryz.prog cx 180 fi180 Tryz.f180 := ⟨by kernel_rfl, by decide +kernel, by kernel_rfl, by kernel_rfl, by kernel_rfl, by decide +kernel⟩
theorem ok181 : FnOK Tryz.prog cx 181 fi181 Tryz.f181 := ⟨by kernel_rfl, by decide +kernel, by kernel_rfl, by kernel_rfl, by kernel_rfl, by decide +kernel⟩
theorem ok182 : FnOK Tryz.prog cx 182 fi182 Tryz.f182 := ⟨by kernel_rfl, by decide +kernel, by kernel_rfl, by kernel_rfl, by kernel_rfl, by decide +kernel⟩
theorem ok183 : FnOK Tryz.prog cx 183 fi183 Tryz.f183 := ⟨by kernel_rfl, by decide +kernel, by kernel_rfl, by kernel_rfl, by kernel_rfl, by decide +kernel⟩
theorem ok184 : FnOK Tryz.prog cx 184 fi184 Tryz.f184 := ⟨by kernel_rfl, by decide +kernel, by kernel_rfl, by kernel_rfl, by kernel_rfl, by decide +kernel⟩
theorem ok185 : FnOK Tryz.prog cx 185 fi185 Tryz.f185 := ⟨by kernel_rfl, by decide +kernel, by kernel_rfl, by kernel_rfl, by kernel_rfl, by decide +kernel⟩
theorem ok186 : FnOK Tryz.prog cx 186 fi186 Tryz.f186 := ⟨by kernel_rfl, by decide +kernel, by kernel_rfl, by kernel_rfl, by kernel_rfl, by decide +kernel⟩
theorem ok187 : FnOK Tryz.prog cx 187 fi187 Tryz.f187 := ⟨by kernel_rfl, by decide +kernel, by kernel_rfl, by kernel_rfl, by kernel_rfl, by decide +kernel⟩
theorem ok188 : FnOK Tryz.prog cx 188 fi188 Tryz.f188 := ⟨by kernel_rfl, by decide +kernel, by kernel_rfl, by kernel_rfl, by kernel_rfl, by decide +kernel⟩
theorem ok189 : FnOK Tryz.prog cx 189 fi189 Tryz.f189 := ⟨by kernel_rfl, by decide +kernel, by kernel_rfl, by kernel_rfl, by kernel_rfl, by decide +kernel⟩
theorem ok190 : FnOK Tryz.prog cx 190 fi190 Tryz.f190 := ⟨by kernel_rfl, by decide +kernel, by kernel_rfl, by kernel_rfl, by kernel_rfl, by decide +kernel⟩
theorem ok191 : FnOK Tryz.prog cx 191 fi191 Tryz.f191 := ⟨by kernel_rfl, by decide +kernel, by kernel_rfl, by kernel_rfl, by kernel_rfl, by decide +kernel⟩
theorem ok192 : FnOK Tryz.prog cx 192 fi192 Tryz.f192 := ⟨by kernel_rfl, by decide +kernel, by kernel_rfl, by kernel_rfl, by kernel_rfl, by decide +kernel⟩
theorem ok193 : FnOK Tryz.prog cx 193 fi193 Tryz.f193 := ⟨by kernel_rfl, by decide +kernel, by kernel_rfl, by kernel_rfl, by kernel_rfl, by decide +kernel⟩
theorem ok194 : FnOK Tryz.prog cx 194 fi194 Tryz.f194 := ⟨by kernel_rfl, by decide +kernel, by kernel_rfl, by kernel_rfl, by kernel_rfl, by decide +kernel⟩
theorem ok195 : FnOK Tryz.prog cx 195 fi195 Tryz.f195 := ⟨by kernel_rfl, by decide +kernel, by kernel_rfl, by kernel_rfl, by kernel_rfl, by decide +kernel⟩
theorem ok196 : FnOK Tryz.prog cx 196 fi196 Tryz.f196 := ⟨by kernel_rfl, by decide +kernel, by kernel_rfl, by kernel_rfl, by kernel_rfl, by decide +kernel⟩
theorem ok197 : FnOK Tryz.prog cx 197 fi197 Tryz.f197 := ⟨by kernel_rfl, by decide +kernel, by kernel_rfl, by kernel_rfl, by kernel_rfl, by decide +kernel⟩
theorem fnsOK : FnsOK Tryz.prog cx := fnsOK_of (⟨none_ok _, ⟨none_ok _, ⟨some_ok ok3, ⟨some_ok ok7, ⟨some_ok ok15, ⟨some_ok ok31, ⟨some_ok ok63, ⟨some_ok ok127, trivial, trivial⟩, ⟨some_ok ok191, trivial, trivial⟩⟩, ⟨some_ok ok95, ⟨some_ok ok159, trivial, trivial⟩, trivial⟩⟩, ⟨some_ok ok47, ⟨some_ok ok79, ⟨some_ok ok143, trivial, trivial⟩, ⟨none_ok _, trivial, trivial⟩⟩, ⟨some_ok ok111, ⟨some_ok ok175, trivial, trivial⟩, trivial⟩⟩⟩, ⟨some_ok ok23, ⟨some_ok ok39, ⟨some_ok ok71, ⟨some_ok ok135, trivial, trivial⟩, ⟨none_ok _, trivial, trivial⟩⟩, ⟨some_ok ok103, ⟨some_ok ok167, trivial, trivial⟩, trivial⟩⟩, ⟨some_ok ok55, ⟨some_ok ok87, ⟨some_ok ok151, trivial, trivial⟩, trivial⟩, ⟨some_ok ok119, ⟨some_ok ok183, trivial, trivial⟩, trivial⟩⟩⟩⟩, ⟨some_ok ok11, ⟨some_ok ok19, ⟨some_ok ok35, ⟨some_ok ok67, ⟨some_ok ok131, trivial, trivial⟩, ⟨some_ok ok195, trivial, trivial⟩⟩, ⟨some_ok ok99, ⟨some_ok ok163, trivial, trivial⟩, trivial⟩⟩, ⟨some_ok ok51, ⟨some_ok ok83, ⟨some_ok ok147, trivial, trivial⟩, ⟨none_ok _, trivial, trivial⟩⟩, ⟨some_ok ok115, ⟨none_ok _, trivial, trivial⟩, trivial⟩⟩⟩, ⟨some_ok ok27, ⟨some_ok ok43, ⟨some_ok ok75, ⟨some_ok ok139, trivial, trivial⟩, ⟨none_ok _, trivial, trivial⟩⟩, ⟨some_ok ok107, ⟨some_ok ok171, trivial, trivial⟩, trivial⟩⟩, ⟨some_ok ok59, ⟨some_ok ok91, ⟨some_ok ok155, trivial, trivial⟩, trivial⟩, ⟨some_ok ok123, ⟨some_ok ok187, trivial, trivial⟩, trivial⟩⟩⟩⟩⟩, ⟨some_ok ok5, ⟨some_ok ok9, ⟨some_ok ok17, ⟨some_ok ok33, ⟨some_ok ok65, ⟨some_ok ok129, trivial, trivial⟩, ⟨some_ok ok193, trivial, trivial⟩⟩, ⟨some_ok ok97, ⟨some_ok ok161, trivial, trivial⟩, trivial⟩⟩, ⟨some_ok ok49, ⟨some_ok ok81, ⟨some_ok ok145, trivial, trivial⟩, ⟨none_ok _, trivial, trivial⟩⟩, ⟨some_ok ok113, ⟨some_ok ok177, trivial, trivial⟩, trivial⟩⟩⟩, ⟨some_ok ok25, ⟨some_ok ok41, ⟨some_ok ok73, ⟨some_ok ok137, trivial, trivial⟩, ⟨none_ok _, trivial, trivial⟩⟩, ⟨some_ok ok105, ⟨some_ok ok169, trivial, trivial⟩, trivial⟩⟩, ⟨some_ok ok57, ⟨some_ok ok89, ⟨some_ok ok153, trivial, trivial⟩, trivial⟩, ⟨some_ok ok121, ⟨some_ok ok185, trivial, trivial⟩, trivial⟩⟩⟩⟩, ⟨some_ok ok13, ⟨some_ok ok21, ⟨some_ok ok37, ⟨some_ok ok69, ⟨some_ok ok133, trivial, trivial⟩, ⟨some_ok ok197, trivial, trivial⟩⟩, ⟨some_ok ok101, ⟨some_ok ok165, trivial, trivial⟩, trivial⟩⟩, ⟨some_ok ok53, ⟨some_ok ok85, ⟨some_ok ok149, trivial, trivial⟩, ⟨none_ok _, trivial, trivial⟩⟩, ⟨some_ok ok117, ⟨some_ok ok181, trivial, trivial⟩, trivial⟩⟩⟩, ⟨some_ok ok29, ⟨some_ok ok45, ⟨some_ok ok77, ⟨some_ok ok141, trivial, trivial⟩, ⟨none_ok _, trivial, trivial⟩⟩, ⟨some_ok ok109, ⟨some_ok ok173, trivial, trivial⟩, trivial⟩⟩, ⟨some_ok ok61, ⟨some_ok ok93, ⟨some_ok ok157, trivial, trivial⟩, trivial⟩, ⟨some_ok ok125, ⟨some_ok ok189, trivial, trivial⟩, trivial⟩⟩⟩⟩⟩⟩, ⟨none_ok _, ⟨some_ok ok4, ⟨some_ok ok8, ⟨some_ok ok16, ⟨some_ok ok32, ⟨some_ok ok64, ⟨some_ok ok128, trivial, trivial⟩, ⟨some_ok ok192, trivial, trivial⟩⟩, ⟨some_ok ok96, ⟨some_ok ok160, trivial, trivial⟩, trivial⟩⟩, ⟨some_ok ok48, ⟨some_ok ok80, ⟨some_ok ok144, trivial, trivial⟩, ⟨none_ok _, trivial, trivial⟩⟩, ⟨some_ok ok112, ⟨some_ok ok176, trivial, trivial⟩, trivial⟩⟩⟩, ⟨some_ok ok24, ⟨some_ok ok40, ⟨some_ok ok72, ⟨some_ok ok136, trivial, trivial⟩, ⟨none_ok _, trivial, trivial⟩⟩, ⟨some_ok ok104, ⟨some_ok ok168, trivial, trivial⟩, trivial⟩⟩, ⟨some_ok ok56, ⟨some_ok ok88, ⟨some_ok ok152, trivial, trivial⟩, trivial⟩, ⟨some_ok ok120, ⟨some_ok ok184, trivial, trivial⟩, trivial⟩⟩⟩⟩, ⟨some_ok ok12, ⟨some_ok ok20, ⟨some_ok ok36, ⟨some_ok ok68, ⟨some_ok ok132, trivial, trivial⟩, ⟨some_ok ok196, trivial, trivial⟩⟩, ⟨some_ok ok100, ⟨some_ok ok164, trivial, trivial⟩, trivial⟩⟩, ⟨some_ok ok52, ⟨some_ok ok84, ⟨some_ok ok148, trivial, trivial⟩, ⟨none_ok _, trivial, trivial⟩⟩, ⟨some_ok ok116, ⟨some_ok ok180, trivial, trivial⟩, trivial⟩⟩⟩, ⟨some_ok ok28, ⟨some_ok ok44, ⟨some_ok ok76, ⟨some_ok ok140, trivial, trivial⟩, ⟨none_ok _, trivial, trivial⟩⟩, ⟨some_ok ok108, ⟨some_ok ok172, trivial, trivial⟩, trivial⟩⟩, ⟨some_ok ok60, ⟨some_ok ok92, ⟨some_ok ok156, trivial, trivial⟩, trivial⟩, ⟨some_ok ok124, ⟨some_ok ok188, trivial, trivial⟩, trivial⟩⟩⟩⟩⟩, ⟨some_ok ok6, ⟨some_ok ok10, ⟨some_ok ok18, ⟨some_ok ok34, ⟨some_ok ok66, ⟨some_ok ok130, trivial, trivial⟩, ⟨some_ok ok194, trivial, trivial⟩⟩, ⟨some_ok ok98, ⟨some_ok ok162, trivial, trivial⟩, trivial⟩⟩, ⟨some_ok ok50, ⟨some_ok ok82, ⟨some_ok ok146, trivial, trivial⟩, ⟨none_ok _, trivial, trivial⟩⟩, ⟨some_ok ok114, ⟨some_ok ok178, trivial, trivial⟩, trivial⟩⟩⟩, ⟨some_ok ok26, ⟨some_ok ok42, ⟨some_ok ok74, ⟨some_ok ok138, trivial, trivial⟩, ⟨none_ok _, trivial, trivial⟩⟩, ⟨some_ok ok106, ⟨some_ok ok170, trivial, trivial⟩, trivial⟩⟩, ⟨some_ok ok58, ⟨some_ok ok90, ⟨some_ok ok154, trivial, trivial⟩, trivial⟩, ⟨some_ok ok122, ⟨some_ok ok186, trivial, trivial⟩, trivial⟩⟩⟩⟩, ⟨some_ok ok14, ⟨some_ok ok22, ⟨some_ok ok38, ⟨some_ok ok70, ⟨some_ok ok134, trivial, trivial⟩, ⟨none_ok _, trivial, trivial⟩⟩, ⟨some_ok ok102, ⟨some_ok ok166, trivial, trivial⟩, trivial⟩⟩, ⟨some_ok ok54, ⟨some_ok ok86, ⟨some_ok ok150, trivial, trivial⟩, trivial⟩, ⟨some_ok ok118, ⟨some_ok ok182, trivial, trivial⟩, trivial⟩⟩⟩, ⟨some_ok ok30, ⟨some_ok ok46, ⟨some_ok ok78, ⟨some_ok ok142, trivial, trivial⟩, ⟨none_ok _, trivial, trivial⟩⟩, ⟨some_ok ok110, ⟨some_ok ok174, trivial, trivial⟩, trivial⟩⟩, ⟨some_ok ok62, ⟨some_ok ok94, ⟨some_ok ok158, trivial, trivial⟩, trivial⟩, ⟨some_ok ok126, ⟨some_ok ok190, trivial, trivial⟩, trivial⟩⟩⟩⟩⟩⟩⟩)
end Go.Eva.S3

/- Eva, part 47: what arguments of the program's plain types are. -/
namespace Go.Eva

section
variable {cx : Cx} {t m : Nat} {ts : List T} {i : TI}

theorem conf_int (hti : cx.ti.get t = some i) (hk : i.ty = .int .i64) (h : Conf cx m t ts) : ∃ n, ts = [ti n] ∧ i64 n := by
  cases m with
  | zero => exact h.elim
  | succ m =>
    simp only [Conf, hti, hk] at h
    obtain ⟨n, rfl, hw⟩ := h
    refine ⟨n, rfl, ?_⟩
    simp [Lit.wf, IntKind.min, IntKind.max, IntKind.signed, IntKind.bits] at hw
    exact ⟨by omega, by omega⟩
theorem conf_u64 (hti : cx.ti.get t = some i) (hk : i.ty = .int .u64) (h : Conf cx m t ts) : ∃ n, ts = [.int .u64 n] ∧ 0 ≤ n ∧ n ≤ 18446744073709551615 := by
  cases m with
  | zero => exact h.elim
  | succ m =>
    simp only [Conf, hti, hk] at h
    obtain ⟨n, rfl, hw⟩ := h
    refine ⟨n, rfl, ?_⟩
    simp [Lit.wf, IntKind.min, IntKind.max, IntKind.signed, IntKind.bits] at hw
    exact ⟨by omega, by omega⟩
theorem conf_bool (hti : cx.ti.get t = some i) (hk : i.ty = .bool) (h : Conf cx m t ts) : ∃ b, ts = [.bool b] := by
  cases m with
  | zero => exact h.elim
  | succ m => simpa only [Conf, hti, hk] using h
theorem conf_struct {fs : List (Nat × Nat)} (hti : cx.ti.get t = some i) (hk : i.ty = .struct fs) (h : Conf cx (m + 1) t ts) : ts.length = i.size ∧ ∀ p ∈ fs, Conf cx m p.2 ((ts.drop p.1).take (sizeOf cx p.2)) := by
  simpa only [Conf, hti, hk] using h
theorem conf_slice {e : Nat} (hti : cx.ti.get t = some i) (hk : i.ty = .slice e) (h : Conf cx (m + 1) t ts) :
    ∃ xs, ts = [.sl (sizeOf cx e) xs] ∧ xs.length ≤ maxLen ∧ xs.length * bytesOf cx e ≤ reachBytes ∧ ∀ x ∈ xs, x ≠ .any ∧ (isStruct cx e = true → ∃ l, x = .agg l) ∧ (isStruct cx e = false → x.cells = [x]) ∧ Conf cx m e x.cells := by
  simpa only [Conf, hti, hk] using h

/-- A field that is a whole number. -/
theorem conf_at {j k : Nat} {fs : List (Nat × Nat)} (hi : cx.ti.get k = some i) (hk : i.ty = .int .i64) (hs : sizeOf cx k = 1) (h : ∀ p ∈ fs, Conf cx m p.2 ((ts.drop p.1).take (sizeOf cx p.2))) (hp : (j, k) ∈ fs) : ∃ n, ts[j]? = some (ti n) ∧ i64 n := by
  have := h _ hp
  simp only [hs] at this
  obtain ⟨n, h1, h2⟩ := conf_int hi hk this
  refine ⟨n, ?_, h2⟩
  have h3 := congrArg (fun l => l[0]?) h1
  simpa [List.getElem?_take, List.getElem?_drop] using h3

theorem list_of {α : Type} {f : α → T} {P : α → Prop} : ∀ {xs : List T}, (∀ x ∈ xs, ∃ e, x = f e ∧ P e) → ∃ l : List α, xs = l.map f ∧ ∀ e ∈ l, P e
  | [], _ => ⟨[], rfl, by simp⟩
  | x :: xs, h => by
    obtain ⟨e, rfl, he⟩ := h x (List.mem_cons_self ..)
    obtain ⟨l, rfl, hl⟩ := list_of fun y hy => h y (List.mem_cons_of_mem _ hy)
    exact ⟨e :: l, rfl, fun y hy => by
      rcases List.mem_cons.1 hy with rfl | hy
      · exact he
      · exact hl y hy⟩

def Entity.ok (e : Entity) : Prop := i64 e.id ∧ i64 e.kind ∧ i64 e.x ∧ i64 e.y ∧ i64 e.vx ∧ i64 e.vy ∧ i64 e.health ∧ i64 e.age ∧ i64 e.owner
def Input.ok (e : Input) : Prop := i64 e.dx ∧ i64 e.dy
def Cross.ok (c : Cross) : Prop := i64 c.kind ∧ i64 c.frm ∧ i64 c.to ∧ i64 c.frame ∧ c.ent.ok ∧ i64 c.x ∧ i64 c.y

theorem conf_config {k u : Nat} {j v : TI} (hk : cx.ti.get k = some j) (hkt : j.ty = .int .i64) (hs : sizeOf cx k = 1) (hu : cx.ti.get u = some v) (hut : v.ty = .int .u64) (hus : sizeOf cx u = 1) (hti : cx.ti.get t = some i)
    (hty : i.ty = .struct [(0, k), (1, k), (2, k), (3, k), (4, u)]) (hsz : i.size = 5) (h : Conf cx (m + 1) t ts) : ∃ c : Config, ts = c.enc.cells ∧ c.ok := by
  obtain ⟨h1, h2⟩ := conf_struct hti hty h
  rw [hsz] at h1
  obtain ⟨n0, a0, b0⟩ := conf_at (j := 0) hk hkt hs h2 (by simp)
  obtain ⟨n1, a1, b1⟩ := conf_at (j := 1) hk hkt hs h2 (by simp)
  obtain ⟨n2, a2, b2⟩ := conf_at (j := 2) hk hkt hs h2 (by simp)
  obtain ⟨n3, a3, b3⟩ := conf_at (j := 3) hk hkt hs h2 (by simp)
  have h4 := h2 (4, u) (by simp)
  simp only [hus] at h4
  obtain ⟨n4, a4, b4⟩ := conf_u64 hu hut h4
  refine ⟨⟨n0, n1, n2, n3, n4⟩, ?_, b0, b1, b2, b3, b4⟩
  match ts, h1 with
  | [_, _, _, _, _], _ => simp_all [Config.enc, T.cells]

theorem conf_input {k u : Nat} {j v : TI} (hk : cx.ti.get k = some j) (hkt : j.ty = .int .i64) (hs : sizeOf cx k = 1) (hu : cx.ti.get u = some v) (hut : v.ty = .bool) (hus : sizeOf cx u = 1) (hti : cx.ti.get t = some i)
    (hty : i.ty = .struct [(0, k), (1, k), (2, u)]) (hsz : i.size = 3) (h : Conf cx (m + 1) t ts) : ∃ c : Input, ts = c.enc.cells ∧ c.ok := by
  obtain ⟨h1, h2⟩ := conf_struct hti hty h
  rw [hsz] at h1
  obtain ⟨n0, a0, b0⟩ := conf_at (j := 0) hk hkt hs h2 (by simp)
  obtain ⟨n1, a1, b1⟩ := conf_at (j := 1) hk hkt hs h2 (by simp)
  have h4 := h2 (2, u) (by simp)
  simp only [hus] at h4
  obtain ⟨n2, a2⟩ := conf_bool hu hut h4
  refine ⟨⟨n0, n1, n2⟩, ?_, b0, b1⟩
  match ts, h1 with
  | [_, _, _], _ => simp_all [Input.enc, T.cells]
theorem not_struct (hti : cx.ti.get t = some i) (h : ∀ fs, i.ty ≠ .struct fs) : isStruct cx t = false := by
  unfold isStruct
  rw [hti]
  cases i with
  | mk ty s b q => cases ty <;> simp_all
theorem is_struct {fs : List (Nat × Nat)} (hti : cx.ti.get t = some i) (h : i.ty = .struct fs) : isStruct cx t = true := by
  unfold isStruct
  rw [hti]
  cases i with
  | mk ty s b q => simp only at h; subst h; rfl

/-- A struct, by its cells. -/
theorem arg_of {α : Type} {f : α → T} {P : α → Prop} {fs : List (Nat × Nat)} (hti : cx.ti.get t = some i) (hk : i.ty = .struct fs) (hf : ∀ e, ∃ l, f e = .agg l) (hc : ∀ {ts}, Conf cx m t ts → ∃ e, ts = (f e).cells ∧ P e) {x : T} (h : Arg cx m t x) : ∃ e, x = f e ∧ P e := by
  obtain ⟨h1, h2, h3, h4⟩ := h
  obtain ⟨l, rfl⟩ := h2 (is_struct hti hk)
  obtain ⟨e, h5, h6⟩ := hc h4
  obtain ⟨l', hl⟩ := hf e
  rw [hl] at h5
  simp only [T.cells] at h5
  exact ⟨e, by rw [hl, h5], h6⟩
/-- A slice, by its members. -/
theorem arg_slice {α : Type} {f : α → T} {P : α → Prop} {e s : Nat} (hti : cx.ti.get t = some i) (hk : i.ty = .slice e) (hs : sizeOf cx e = s) (hc : ∀ {x}, Arg cx m e x → ∃ a, x = f a ∧ P a) {x : T} (h : Arg cx (m + 1) t x) :
    ∃ l : List α, x = .sl s (l.map f) ∧ (∀ a ∈ l, P a) ∧ l.length ≤ maxLen ∧ l.length * bytesOf cx e ≤ reachBytes := by
  obtain ⟨h1, h2, h3, h4⟩ := h
  obtain ⟨xs, h5, h6, h7, h8⟩ := conf_slice hti hk h4
  rw [h3 (not_struct hti (by rw [hk]; simp))] at h5
  obtain ⟨l, rfl, hl⟩ := list_of (f := f) (P := P) fun x hx => hc (h8 x hx)
  refine ⟨l, ?_, hl, by simpa using h6, by simpa using h7⟩
  rw [← hs]
  simpa using h5
end
end Go.Eva
