/- A reading of the program, proved sound against the model, and what its functions answer by it: part 5. -/
import Derived.Test.YtdlmgaiiheeigaaGreatEva4
set_option linter.unusedSimpArgs false
set_option linter.unusedVariables false
/- What truly happens. -/
namespace Go.Eva.S3
theorem f_ghost_World_inner (c : Config) (l F : List InputL) (gone en k : Int) (f n : Nat) (hn : l.length = n) (h6 : n ≤ 6) (hf : f ≤ 100) (hF : F.length = f) : ∀ (d p : Nat), p + d = n →
    Is cx (.loop 49 [0, 1, 0, 1, 1, 0, 0, 1, 1, 0, 0, 1, 0, 1, 1, 1, 1] 0 [.t (.sl 1 (l.map encI)), vi gone, vi en, .ptr 0 0 0, .ptr 1 0 0, .ptr 2 0 0, .all 3 none, vi f, .all 4 none, vi k, vi f, vi n, vi p] [.one 5 (.t c.enc) false, .one 2 (.agg [.fit 2 [], .fit 1 []]) false, .one 5 (.t c.enc) false, .arr 1 (F.map encI) none false, .arr 3 ((ghostFill l gone en n f p).map Input.enc) (some 0) false])
      ⟨.exit 3, [.t (.sl 1 (l.map encI)), vi gone, vi en, .ptr 0 0 0, .ptr 1 0 0, .ptr 2 0 0, .all 3 none, vi f, .all 4 none, vi k, vi f, vi n, vi n], [.one 5 (.t c.enc) false, .one 2 (.agg [.fit 2 [], .fit 1 []]) false, .one 5 (.t c.enc) false, .arr 1 (F.map encI) none false, .arr 3 ((ghostRow l gone en n f).map Input.enc) (some 0) false]⟩ := by
  intro d
  induction d with
  | zero =>
    intro p hp
    obtain rfl : p = n := by omega
    rw [ghostFill_all]
    refine Wp.ev ?_
    refine gg [.b (decide ((↑p : Int) < (↑p : Int))) false] ⟨fP, trivial⟩ ?_
    exact ge
  | succ d ih =>
    intro p hp
    have ih1 := ih (p + 1) (by omega)
    have hlt : p < n := by omega
    have hltl : p < l.length := by omega
    have hlen := ghostFill_len (l := l) (gone := gone) (en := en) (n := n) (f := f) (p := p) (by omega)
    have hs := ghostFill_set (l := l) (gone := gone) (en := en) (f := f) hlt
    clear ih
    by_cases h1 : f < (gt l p).length
    · by_cases h2 : (p : Int) = gone
      · by_cases h3 : (f : Int) < en
        · rw [← hs, show ghostAt l gone en f p = gt (gt l p) f by unfold ghostAt; rw [if_pos ⟨by omega, .inr h3⟩]] at ih1
          generalize ghostFill l gone en n f p = R at *
          clear hs
          refine Wp.ev ?_
          refine gg [.b (decide ((↑p : Int) < (↑n : Int))) true, .w ((0 : Int) ≤ (↑p : Int)), .n (Int.toNat (↑p : Int)) p, .g (List.map encI l) p (encI (gt l p)), .n (List.length (List.map Input.enc (gt l p))) (List.length (gt l p)), .b (decide ((↑f : Int) < (↑(List.length (gt l p)) : Int))) true, .tt, .tt, .tt, .b ((↑p : Int) != gone) false, .ff, .ff, .tt, .ff, .tt, .b (decide ((↑f : Int) < en)) true] ⟨tP, oW, o_n (by kernel_rfl), o_gt rfl (by assumption) (by intro h; cases h), o_n (by simp), tP, f_brn (by assumption), t_brp (by assumption), trivial⟩ ?_
          refine gg [.w ((0 : Int) ≤ (↑p : Int)), .n (Int.toNat (↑p : Int)) p, .g (List.map encI l) p (encI (gt l p)), .w ((0 : Int) ≤ (↑f : Int)), .n (Int.toNat (↑f : Int)) f, .g (List.map Input.enc (gt l p)) f (Input.enc (gt (gt l p) f)), .w ((0 : Int) ≤ (↑p : Int)), .n (Int.toNat (↑p : Int)) p, .w (p < List.length (List.map Input.enc R)), .w (p < List.length (List.map Input.enc R)), .t (T.sl 0 (List.set (List.map Input.enc R) p (Input.enc (gt (gt l p) f)))) (T.sl 0 (List.map Input.enc (List.set R p (gt (gt l p) f)))), .i IntKind.i64 ((↑p : Int) + 1) ((↑(p + 1) : Int)), .a _ _] ⟨oW, o_n (by kernel_rfl), o_gt rfl (by assumption) (by intro h; cases h), oW, o_n (by kernel_rfl), o_gt rfl (by assumption) (by intro h; cases h), oW, o_n (by kernel_rfl), o_w (by (simp; omega)), o_w (by (simp; omega)), o_l (nm_set rfl rfl), oI, o_a ih1, trivial⟩ ?_
          exact ge
        · rw [ghostFill_same hlt (by unfold ghostAt; rw [if_neg (by omega)])] at ih1
          generalize ghostFill l gone en n f p = R at *
          clear hs
          refine Wp.ev ?_
          refine gg [.b (decide ((↑p : Int) < (↑n : Int))) true, .w ((0 : Int) ≤ (↑p : Int)), .n (Int.toNat (↑p : Int)) p, .g (List.map encI l) p (encI (gt l p)), .n (List.length (List.map Input.enc (gt l p))) (List.length (gt l p)), .b (decide ((↑f : Int) < (↑(List.length (gt l p)) : Int))) true, .tt, .tt, .tt, .b ((↑p : Int) != gone) false, .ff, .ff, .tt, .ff, .tt, .b (decide ((↑f : Int) < en)) false] ⟨tP, oW, o_n (by kernel_rfl), o_gt rfl (by assumption) (by intro h; cases h), o_n (by simp), tP, f_brn (by assumption), f_brp (by assumption), trivial⟩ ?_
          refine gg [.i IntKind.i64 ((↑p : Int) + 1) ((↑(p + 1) : Int)), .a _ _] ⟨oI, o_a ih1, trivial⟩ ?_
          exact ge
      · rw [← hs, show ghostAt l gone en f p = gt (gt l p) f by unfold ghostAt; rw [if_pos ⟨by omega, .inl h2⟩]] at ih1
        generalize ghostFill l gone en n f p = R at *
        clear hs
        refine Wp.ev ?_
        refine gg [.b (decide ((↑p : Int) < (↑n : Int))) true, .w ((0 : Int) ≤ (↑p : Int)), .n (Int.toNat (↑p : Int)) p, .g (List.map encI l) p (encI (gt l p)), .n (List.length (List.map Input.enc (gt l p))) (List.length (gt l p)), .b (decide ((↑f : Int) < (↑(List.length (gt l p)) : Int))) true, .tt, .tt, .tt, .b ((↑p : Int) != gone) true, .tt, .tt, .tt, .tt, .tt, .tt] ⟨tP, oW, o_n (by kernel_rfl), o_gt rfl (by assumption) (by intro h; cases h), o_n (by simp), tP, t_brn (by assumption), trivial⟩ ?_
        refine gg [.w ((0 : Int) ≤ (↑p : Int)), .n (Int.toNat (↑p : Int)) p, .g (List.map encI l) p (encI (gt l p)), .w ((0 : Int) ≤ (↑f : Int)), .n (Int.toNat (↑f : Int)) f, .g (List.map Input.enc (gt l p)) f (Input.enc (gt (gt l p) f)), .w ((0 : Int) ≤ (↑p : Int)), .n (Int.toNat (↑p : Int)) p, .w (p < List.length (List.map Input.enc R)), .w (p < List.length (List.map Input.enc R)), .t (T.sl 0 (List.set (List.map Input.enc R) p (Input.enc (gt (gt l p) f)))) (T.sl 0 (List.map Input.enc (List.set R p (gt (gt l p) f)))), .i IntKind.i64 ((↑p : Int) + 1) ((↑(p + 1) : Int)), .a _ _] ⟨oW, o_n (by kernel_rfl), o_gt rfl (by assumption) (by intro h; cases h), oW, o_n (by kernel_rfl), o_gt rfl (by assumption) (by intro h; cases h), oW, o_n (by kernel_rfl), o_w (by (simp; omega)), o_w (by (simp; omega)), o_l (nm_set rfl rfl), oI, o_a ih1, trivial⟩ ?_
        exact ge
    · rw [ghostFill_same hlt (by unfold ghostAt; rw [if_neg (by omega)])] at ih1
      generalize ghostFill l gone en n f p = R at *
      clear hs
      refine Wp.ev ?_
      refine gg [.b (decide ((↑p : Int) < (↑n : Int))) true, .w ((0 : Int) ≤ (↑p : Int)), .n (Int.toNat (↑p : Int)) p, .g (List.map encI l) p (encI (gt l p)), .n (List.length (List.map Input.enc (gt l p))) (List.length (gt l p)), .b (decide ((↑f : Int) < (↑(List.length (gt l p)) : Int))) false, .ff, .ff, .ff, .ff, .ff, .ff, .i IntKind.i64 ((↑p : Int) + 1) ((↑(p + 1) : Int)), .a _ _] ⟨tP, oW, o_n (by kernel_rfl), o_gt rfl (by assumption) (by intro h; cases h), o_n (by simp), fP, oI, o_a ih1, trivial⟩ ?_
      exact ge
theorem f_ghost_World_outer (c : Config) (l : List InputL) (gone en : Int) (k n : Nat) (hc : c.players = (n : Int)) (hn : l.length = n) (h6 : n ≤ 6) (hk : k ≤ 100) : ∀ (d f : Nat), f + d = k →
    Is cx (.loop 49 [0, 1, 0, 1, 1, 1, 1] 0 [.t (.sl 1 (l.map encI)), vi gone, vi en, .ptr 0 0 0, .ptr 1 0 0, .ptr 2 0 0, .all 3 none, vi k, vi f] [.one 5 (.t c.enc) false, .one 2 (.agg [.fit 2 [], .fit 1 []]) false, .one 5 (.t c.enc) false, .arr 1 ((ghostRows l gone en n f).map encI) none false])
      ⟨.exit 1, [.t (.sl 1 (l.map encI)), vi gone, vi en, .ptr 0 0 0, .ptr 1 0 0, .ptr 2 0 0, .all 3 none, vi k, vi k], [.one 5 (.t c.enc) false, .one 2 (.agg [.fit 2 [], .fit 1 []]) false, .one 5 (.t c.enc) false, .arr 1 ((ghostRows l gone en n k).map encI) none false]⟩ := by
  obtain rfl : n = c.players.toNat := by omega
  intro d
  induction d with
  | zero =>
    intro f hf
    obtain rfl : f = k := by omega
    generalize ghostRows l gone en c.players.toNat f = R at *
    refine Wp.ev ?_
    refine gg [.b (decide ((↑f : Int) < (↑f : Int))) false] ⟨fP, trivial⟩ ?_
    exact ge
  | succ d ih =>
    intro f hf
    have ih1 := ih (f + 1) (by omega)
    have e : ghostRows l gone en c.players.toNat (f + 1) = ghostRows l gone en c.players.toNat f ++ [ghostRow l gone en c.players.toNat f] := by unfold ghostRows; rw [List.range_succ, List.map_append]; rfl
    rw [e] at ih1
    have hlen : (ghostRows l gone en c.players.toNat f).length = f := by simp [ghostRows]
    have hI := f_ghost_World_inner c l (ghostRows l gone en c.players.toNat f) gone en k f c.players.toNat hn h6 (by omega) hlen c.players.toNat 0 (by omega)
    rw [ghostFill_none, List.map_replicate] at hI
    change Is cx (.loop _ _ _ _ [_, _, _, _, .arr 3 (List.replicate c.players.toNat (.agg [ti 0, ti 0, .bool false])) _ _]) _ at hI
    clear ih e
    generalize ghostRows l gone en c.players.toNat f = R at *
    generalize ghostRows l gone en c.players.toNat k = S at *
    generalize ghostRow l gone en c.players.toNat f = r at *
    refine Wp.ev ?_
    refine gg [.b (decide ((↑f : Int) < (↑k : Int))) true, .w ((0 : Int) ≤ c.players ∧ c.players ≤ c.players ∧ room (Int.toNat c.players) (24 : Nat)), .l (Int.toNat c.players), .n (List.length (List.replicate (Int.toNat c.players) (T.agg [ti 0, ti 0, T.bool false]))) (Int.toNat c.players), .a _ _, .s (T.sl 3 (List.map Input.enc r)), .w ((0 : Nat) < (24 : Nat)), .s (T.sl 0 [T.sl 3 (List.map Input.enc r)]), .t (T.sl 0 (List.map encI R ++ [T.sl 3 (List.map Input.enc r)])) (T.sl 0 (List.map encI (R ++ [r]))), .w (room (List.length (List.map encI (R ++ [r]))) (24 : Nat)), .i IntKind.i64 ((↑f : Int) + 1) ((↑(f + 1) : Int)), .a _ _] ⟨tP, o_w ⟨(by omega), ⟨(by omega), (by (simp [room, appendMax]; omega))⟩⟩, o_n (by simp), o_a hI, oW, o_l (nm_app rfl (nm_cons (e := r) rfl nm_nil)), o_w (by (simp [room, appendMax]; omega)), oI, o_a ih1, trivial⟩ ?_
    exact ge
theorem ghost_ok {l : List InputL} {gone en : Int} {c : Config} {k : Nat} (hc : 1 ≤ c.players) (hi : ∀ x ∈ l, ∀ i ∈ x, i.right = true) (hl : (l.length : Int) = c.players) : ∀ i ∈ ghostRows l gone en c.players.toNat k, (i.length : Int) = c.players ∧ ∀ x ∈ i, x.right = true := fun i h => by
  obtain ⟨f, _, rfl⟩ := List.mem_map.1 h
  refine ⟨by simp [ghostRow]; omega, fun x hx => ?_⟩
  obtain ⟨p, hp, rfl⟩ := List.mem_map.1 hx
  have hp := List.mem_range.1 hp
  unfold ghostAt
  split
  · rename_i h
    exact hi _ (gt_mem (by omega)) _ (gt_mem (by omega))
  · rfl
theorem f_ghost_World_yes (c : Config) (l : List InputL) (gone en : Int) (k : Nat) (hr : c.right = true) (hl : (l.length : Int) = c.players) (hk : k ≤ 100) (hi : ∀ x ∈ l, ∀ i ∈ x, i.right = true) :
    Is cx (.call 49 [.t c.enc, .t (.sl 1 (l.map encI)), vi gone, vi en, vi k] []) ⟨.ret, [.t (worldAt c (ghostRows l gone en c.players.toNat k)).enc, vi 0], []⟩ := by
  have hcr := Config.right_iff.1 hr
  have hN := f_grid_New c
  rw [Config.grid_of hr, Config.err_of hr] at hN
  have hL := f_ghost_World_outer c l gone en k c.players.toNat (by omega) (by omega) (by omega) hk k 0 (by omega)
  have hR := f_arena_Run c (ghostRows l gone en c.players.toNat k) hr (ghost_ok (by omega) hi hl) (by simp [ghostRows]; omega)
  change Is cx (.loop _ _ _ _ [_, _, _, .arr 1 [] _ _]) _ at hL
  have hlen : (ghostRows l gone en c.players.toNat k).length = k := by simp [ghostRows]
  clear hi
  generalize worldAt c (ghostRows l gone en c.players.toNat k) = W at *
  generalize ghostRows l gone en c.players.toNat k = R at *
  refine Wp.ev ?_
  refine gg [.a _ _, .b (0 != 0) false, .n (List.length (List.map encI l)) (List.length l), .b ((↑(List.length l) : Int) != c.players) false, .ff, .ff, .b (decide ((↑k : Int) < 0)) false, .ff, .ff, .b (decide ((↑k : Int) > 10000)) false, .a _ _, .a _ _, .b (flats [World.enc W, ti 0]) false] ⟨o_a hN, o_b (by kernel_rfl), o_n (by simp), f_brn (by assumption), o_b (by kernel_rfl), fP, o_a hL, o_a hR, o_b (by kernel_rfl), trivial⟩ ?_
  exact ge
end Go.Eva.S3

/- What may not be asked of what truly happens. -/
namespace Go.Eva.S3
theorem f_arena_Step_worse_first (c : Config) (w : World) (f : Int) (ins : List Input) (h : WFine c w f) (hf : 0 ≤ f ∧ f < 10000) (hl : (ins.length : Int) ≠ c.players ∨ (ins.any fun i => !i.right) = true) (hs : ins.length ≤ 100) :
    Is cx (.call 38 [.t c.enc, .t (.sl 1 (w.outs.map encL)), vi 0] []) ⟨.ret, [.t (.sl 15 ((inboxL c w.outs 0).map Cross.enc))], []⟩ ∧
    Is cx (.call 23 [.t c.enc, vi 0, .t (gt w.regions 0).enc, .t (.sl 3 (ins.map Input.enc)), .t (.sl 15 ((inboxL c w.outs 0).map Cross.enc))] []) ⟨.ret, [.t (.agg [ti 0, .sl 9 []]), .t (.sl 15 []), vi 11], []⟩ := by
  have hreg := h.regs
  have hout := h.outs
  have hgl := @Config.regions_le c
  have hml := Config.mul_le h.right
  have hgr : c.regions = c.cols * c.rows := by simp [Config.regions, h.right]
  have hlt : 0 < w.regions.length := by omega
  have his : c.is 0 = true := by rw [Config.is_iff h.right]; omega
  have hb := inbox_ok h hlt
  change (∀ m ∈ inboxL c w.outs 0, _) ∧ (inboxL c w.outs 0).length ≤ 3600 at hb
  obtain ⟨s1, s2, s3⟩ := h.sane 0 hlt
  refine ⟨f_arena_Inbox c w.outs 0 his (by omega) (fun l hl => ?_), ?_⟩
  · obtain ⟨k, hk, rfl⟩ := List.mem_iff_getElem.1 hl
    have := (h.sent k hk).2
    have e : gt w.outs k = w.outs[k] := by simp [gt, hk]
    rwa [e] at this
  · have hS := f_region_Step c 0 (gt w.regions 0) ins (inboxL c w.outs 0) (by omega) (by unfold small; omega) (by omega)
    have hR : regionRight c 0 (gt w.regions 0) = true := regionRight_iff.2 ⟨his, by omega, s1.srt, s1.things, s1.ents⟩
    have hA : askedE c 0 (gt w.regions 0) ins (inboxL c w.outs 0) = 11 := by
      unfold askedE
      rw [if_neg (by simp [his]), if_neg (by simp [hR]), if_pos hl]
    have e : stepP c 0 (gt w.regions 0) ins (inboxL c w.outs 0) = (Region.zero, [], 11) := by
      unfold stepP
      rw [hA]
      rfl
    rw [e] at hS
    exact hS
theorem f_arena_Step_worse_loop (c : Config) (w : World) (f : Int) (ins : List Input) (h : WFine c w f) (hf : 0 ≤ f ∧ f < 10000) (hl : (ins.length : Int) ≠ c.players ∨ (ins.any fun i => !i.right) = true) (hs : ins.length ≤ 100) :
    Is cx (.loop 34 [0, 1, 0, 1, 1, 1, 1] 0 [.t (.sl 3 (ins.map Input.enc)), .ptr 0 0 0, .ptr 1 0 0, vi 0, .ptr 2 0 0, .ptr 3 0 0, .t (.sl 2 (w.regions.map Region.enc)), vi w.regions.length, vi 0] [.one 2 (.t w.enc) false, .one 2 (.agg [.fit 2 [], .fit 1 []]) false, .one 5 (.t c.enc) false, .one 2 (.agg [.fit 2 [], .fit 1 []]) false])
      ⟨.ret, [.t (.sl 3 (ins.map Input.enc)), .ptr 0 0 0, .ptr 1 0 0, vi 11, .ptr 2 0 0, .ptr 3 0 0, .t (.sl 2 (w.regions.map Region.enc)), vi w.regions.length, vi 0], [.one 2 (.t w.enc) false, .one 2 (.agg [.fit 2 [], .fit 1 []]) false, .one 5 (.t c.enc) false, .one 2 (.agg [.fit 2 [], .fit 1 []]) false]⟩ := by
  have hreg := h.regs
  have hgl := @Config.regions_le c
  have hml := Config.mul_le h.right
  have hgr : c.regions = c.cols * c.rows := by simp [Config.regions, h.right]
  have hlt : 0 < w.regions.length := by omega
  obtain ⟨hI, hS⟩ := f_arena_Step_worse_first c w f ins h hf hl hs
  clear hgr
  generalize inboxL c w.outs 0 = box at *
  obtain ⟨R, O⟩ := w
  simp only at hreg hlt hI hS ⊢
  clear h hl
  refine Wp.ev ?_
  refine gg [.b (decide (0 < (↑(List.length R) : Int))) true, .w ((0 : Int) ≤ (0 : Int)), .l 0, .g (List.map Region.enc R) 0 (Region.enc (gt R 0))] ⟨tP, oW, o_gt rfl (by assumption) (by intro h; cases h), trivial⟩ ?_
  refine bo (by kernel_rfl) ?_ ?_
  · refine gg [.a _ _] ⟨o_a hI, trivial⟩ ?_
    refine bo (by kernel_rfl) ?_ ?_
    all_goals
      refine gg [.a _ _, .b (11 != 0) true] ⟨o_a hS, o_b (by kernel_rfl), trivial⟩ ?_
      exact ge
  · refine gg [.a _ _, .a _ _, .b (11 != 0) true] ⟨o_a hI, o_a hS, o_b (by kernel_rfl), trivial⟩ ?_
    exact ge
theorem f_arena_Step_worse (c : Config) (w : World) (f : Int) (ins : List Input) (h : WFine c w f) (hf : 0 ≤ f ∧ f < 10000) (hl : (ins.length : Int) ≠ c.players ∨ (ins.any fun i => !i.right) = true) (hs : ins.length ≤ 100) :
    Is cx (.call 34 [.t c.enc, .t w.enc, .t (.sl 3 (ins.map Input.enc))] []) ⟨.ret, [.t (World.enc ⟨[], []⟩), vi 11], []⟩ := by
  have hr := h.right
  have hreg := h.regs
  have hout := h.outs
  have hgl := @Config.regions_le c
  have hN := f_grid_New c
  rw [Config.grid_of hr, Config.err_of hr] at hN
  have hG := f_grid_Regions c
  rw [← hreg] at hG
  have hE := f_arena_Step_worse_loop c w f ins h hf hl hs
  obtain ⟨R, O⟩ := w
  simp only at hreg hout hG hE ⊢
  clear h hl
  refine Wp.ev ?_
  refine gg [.a _ _, .b (0 != 0) false, .n (List.length (List.map Region.enc R)) (List.length R), .a _ _, .b ((↑(List.length R) : Int) != (↑(List.length R) : Int)) false, .ff, .ff, .n (List.length (List.map encL O)) (List.length O), .ff, .ff, .a _ _, .ff, .ff, .b ((↑(List.length O) : Int) != (↑(List.length R) : Int)) false, .n (List.length (List.map Region.enc R)) (List.length R), .a _ _] ⟨o_a hN, o_b (by kernel_rfl), o_n (by simp), o_a hG, f_brn rfl, o_n (by simp), o_a hG, fN, o_n (by simp), o_a hE, trivial⟩ ?_
  exact ge
theorem f_arena_Run_worse_next (c : Config) (rows : List InputL) (hn : rows.length ≤ 100) (h1 : 1 < rows.length) :
    Is cx (.loop 43 [0, 1, 0, 1, 1] 0 [.ptr 0 0 0, .ptr 1 0 0, vi 0, .ptr 2 0 0, vi 11, .t (.sl 1 (rows.map encI)), vi rows.length, vi 1] [.one 5 (.t c.enc) false, .one 2 (.agg [.fit 2 [], .fit 1 []]) false, .one 2 (.t (World.enc ⟨[], []⟩)) false])
      ⟨.ret, [.ptr 0 0 0, .ptr 1 0 0, vi 11, .ptr 2 0 0, vi 11, .t (.sl 1 (rows.map encI)), vi rows.length, vi 1], [.one 5 (.t c.enc) false, .one 2 (.agg [.fit 2 [], .fit 1 []]) false, .one 2 (.t (World.enc ⟨[], []⟩)) false]⟩ := by
  refine Wp.ev ?_
  refine gg [.b (decide (1 < (↑(List.length rows) : Int))) true, .w ((0 : Int) ≤ (1 : Int)), .l 1, .g (List.map encI rows) 1 (encI (gt rows 1)), .b (11 != 0) true] ⟨tP, oW, o_gt rfl (by assumption) (by intro h; cases h), o_b (by kernel_rfl), trivial⟩ ?_
  exact ge
theorem f_arena_Run_worse_loop (c : Config) (w : World) (f : Int) (rows : List InputL) (hn : rows.length ≤ 100) (h1 : 1 < rows.length) (h : WFine c w f) (hf : 0 ≤ f ∧ f < 10000) (hl : ((gt rows 0).length : Int) ≠ c.players ∨ ((gt rows 0).any fun i => !i.right) = true) (hs : (gt rows 0).length ≤ 100) :
    Is cx (.loop 43 [0, 1, 0, 1, 1] 0 [.ptr 0 0 0, .ptr 1 0 0, vi 0, .ptr 2 0 0, vi 0, .t (.sl 1 (rows.map encI)), vi rows.length, vi 0] [.one 5 (.t c.enc) false, .one 2 (.agg [.fit 2 [], .fit 1 []]) false, .one 2 (.t w.enc) false])
      ⟨.ret, [.ptr 0 0 0, .ptr 1 0 0, vi 11, .ptr 2 0 0, vi 11, .t (.sl 1 (rows.map encI)), vi rows.length, vi 1], [.one 5 (.t c.enc) false, .one 2 (.agg [.fit 2 [], .fit 1 []]) false, .one 2 (.t (World.enc ⟨[], []⟩)) false]⟩ := by
  have hS := f_arena_Step_worse c w f (gt rows 0) h hf hl hs
  have hX := f_arena_Run_worse_next c rows hn h1
  clear hl hs h
  refine Wp.ev ?_
  refine gg [.b (decide (0 < (↑(List.length rows) : Int))) true, .w ((0 : Int) ≤ (0 : Int)), .l 0, .g (List.map encI rows) 0 (encI (gt rows 0)), .b (0 != 0) false, .a _ _, .i IntKind.i64 1 1, .a _ _] ⟨tP, oW, oT, o_b (by kernel_rfl), o_a hS, oK, o_a hX, trivial⟩ ?_
  exact ge
theorem f_arena_Run_worse (c : Config) (rows : List InputL) (hr : c.right = true) (hn : rows.length ≤ 100) (h1 : 1 < rows.length) (hl : ((gt rows 0).length : Int) ≠ c.players ∨ ((gt rows 0).any fun i => !i.right) = true) (hs : (gt rows 0).length ≤ 100) :
    Is cx (.call 43 [.t c.enc, .t (.sl 1 (rows.map encI))] []) ⟨.ret, [.t (World.enc ⟨[], []⟩), vi 11], []⟩ := by
  have hB := f_arena_Begin_yes c hr
  rw [show c.cols * c.rows = c.regions by simp [Config.regions, hr]] at hB
  have hL := f_arena_Run_worse_loop c (beginW c.cols c.regions c.players.toNat) 0 rows hn h1 (begin_fine hr) (by omega) hl hs
  generalize beginW c.cols c.regions c.players.toNat = B at *
  clear hl hs
  refine Wp.ev ?_
  refine gg [.a _ _, .n (List.length (List.map encI rows)) (List.length rows), .a _ _] ⟨o_a hB, o_n (by simp), o_a hL, trivial⟩ ?_
  exact ge
theorem f_ghost_World_worse (c : Config) (l : List InputL) (gone en : Int) (k : Nat) (hr : c.right = true) (hl : (l.length : Int) = c.players) (hk : 1 < k ∧ k ≤ 100) (hi : ((ghostRow l gone en c.players.toNat 0).any fun i => !i.right) = true) :
    Is cx (.call 49 [.t c.enc, .t (.sl 1 (l.map encI)), vi gone, vi en, vi k] []) ⟨.ret, [.t (World.enc ⟨[], []⟩), vi 11], []⟩ := by
  have hcr := Config.right_iff.1 hr
  have hN := f_grid_New c
  rw [Config.grid_of hr, Config.err_of hr] at hN
  have hL := f_ghost_World_outer c l gone en k c.players.toNat (by omega) (by omega) (by omega) hk.2 k 0 (by omega)
  have hlen : (ghostRows l gone en c.players.toNat k).length = k := by simp [ghostRows]
  have h0 : gt (ghostRows l gone en c.players.toNat k) 0 = ghostRow l gone en c.players.toNat 0 := gt_range (by omega)
  have hR := f_arena_Run_worse c (ghostRows l gone en c.players.toNat k) hr (by omega) (by omega) (.inr (by rw [h0]; exact hi)) (by rw [h0]; simp [ghostRow]; omega)
  change Is cx (.loop _ _ _ _ [_, _, _, .arr 1 [] _ _]) _ at hL
  clear hi h0
  generalize ghostRows l gone en c.players.toNat k = R at *
  refine Wp.ev ?_
  refine gg [.a _ _, .b (0 != 0) false, .n (List.length (List.map encI l)) (List.length l), .b ((↑(List.length l) : Int) != c.players) false, .ff, .ff, .b (decide ((↑k : Int) < 0)) false, .ff, .ff, .b (decide ((↑k : Int) > 10000)) false, .a _ _, .a _ _, .b (flats [World.enc (World.mk [] []), ti 11]) false] ⟨o_a hN, o_b (by kernel_rfl), o_n (by simp), f_brn (by assumption), o_b (by kernel_rfl), fP, o_a hL, o_a hR, o_b (by kernel_rfl), trivial⟩ ?_
  exact ge
theorem f_ghost_World_config (c : Config) (l : List InputL) (gone en k : Int) (hr : c.right = false) :
    Is cx (.call 49 [.t c.enc, .t (.sl 1 (l.map encI)), vi gone, vi en, vi k] []) ⟨.ret, [.t (World.enc ⟨[], []⟩), vi 10], []⟩ := by
  have hN := f_grid_New c
  rw [show c.err = 10 by simp [Config.err, hr]] at hN
  refine Wp.ev ?_
  refine gg [.a _ _, .b (10 != 0) true] ⟨o_a hN, o_b (by kernel_rfl), trivial⟩ ?_
  exact ge
theorem f_ghost_World_arg (c : Config) (l : List InputL) (gone en k : Int) (hr : c.right = true) (h : (l.length : Int) ≠ c.players ∨ k < 0 ∨ 10000 < k) :
    Is cx (.call 49 [.t c.enc, .t (.sl 1 (l.map encI)), vi gone, vi en, vi k] []) ⟨.ret, [.t (World.enc ⟨[], []⟩), vi 1], []⟩ := by
  have hN := f_grid_New c
  rw [Config.grid_of hr, Config.err_of hr] at hN
  by_cases h1 : (l.length : Int) = c.players
  · by_cases h2 : k < 0
    · refine Wp.ev ?_
      refine gg [.a _ _, .b (0 != 0) false, .n (List.length (List.map encI l)) (List.length l), .b ((↑(List.length l) : Int) != c.players) false, .ff, .ff, .b (decide (k < 0)) true, .tt, .tt, .tt] ⟨o_a hN, o_b (by kernel_rfl), o_n (by simp), f_brn (by assumption), t_brp (by assumption), trivial⟩ ?_
      exact ge
    · have h3 : 10000 < k := by omega
      refine Wp.ev ?_
      refine gg [.a _ _, .b (0 != 0) false, .n (List.length (List.map encI l)) (List.length l), .b ((↑(List.length l) : Int) != c.players) false, .ff, .ff, .b (decide (k < 0)) false, .ff, .ff, .b (decide (k > 10000)) true] ⟨o_a hN, o_b (by kernel_rfl), o_n (by simp), f_brn (by assumption), f_brp (by assumption), t_brp (by assumption), trivial⟩ ?_
      exact ge
  · refine Wp.ev ?_
    refine gg [.a _ _, .b (0 != 0) false, .n (List.length (List.map encI l)) (List.length l), .b ((↑(List.length l) : Int) != c.players) true, .tt, .tt, .tt, .tt, .tt, .tt] ⟨o_a hN, o_b (by kernel_rfl), o_n (by simp), t_brn (by assumption), trivial⟩ ?_
    exact ge
theorem f_joustlaw26_awake : Fn cx 51 [] (.bool true) := by
  have hG := f_ghost_World_yes ⟨1, 1, 1, 1, 0⟩ [[]] (-1) 0 2 (by decide) (by decide) (by decide) (by simp)
  have hw := run_fine (c := ⟨1, 1, 1, 1, 0⟩) (rows := ghostRows [[]] (-1) 0 1 2) (begin_fine (by decide)) (by omega) (by simp [ghostRows]) (ghost_ok (c := ⟨1, 1, 1, 1, 0⟩) (by decide) (by simp) (by decide))
  change WFine _ (worldAt ⟨1, 1, 1, 1, 0⟩ (ghostRows [[]] (-1) 0 (1 : Int).toNat 2)) 2 at hw
  obtain ⟨k, hk⟩ : ∃ k : Nat, k = 2 := ⟨_, rfl⟩
  have hreg := hw.regs
  have hl : (worldAt ⟨1, 1, 1, 1, 0⟩ (ghostRows [[]] (-1) 0 (1 : Int).toNat 2)).regions.length = 1 := by
    have : Config.regions ⟨1, 1, 1, 1, 0⟩ = 1 := by decide
    omega
  have hf := (hw.sane 0 (by omega)).2.1
  clear hw hreg hk
  simp only at hG hl hf
  generalize worldAt ⟨1, 1, 1, 1, 0⟩ (ghostRows [[]] (-1) 0 (1 : Int).toNat 2) = W at *
  obtain ⟨R, O⟩ := W
  simp only at hl hf hG
  match R, hl with
  | [⟨f, E⟩], _ =>
    change f = 2 at hf
    subst hf
    refine Wp.ev ?_
    refine gg [.a _ _, .b (0 == 0) true, .tt, .tt, .n (List.length (List.map Region.enc [Region.mk 2 E])) 1, .tt, .tt, .b (1 == 1) true, .tt, .tt, .w ((0 : Int) ≤ (0 : Int)), .l 0, .g [Region.enc (Region.mk 2 E)] 0 (Region.enc (Region.mk 2 E)), .tt, .tt, .tt] ⟨o_a hG, o_b (by kernel_rfl), o_n (by kernel_rfl), o_b (by kernel_rfl), oW, oG, trivial⟩ ?_
    refine gg [.tt] trivial ?_
    exact ge
end Go.Eva.S3

/- The statements of what truly happens: what may not be asked. -/
namespace Go.Eva.S3
theorem f_joustlaw26_GhostRefuses (c : Config) (what : Int) : Fn cx 14 [c.enc, ti what] (.bool true) := by
  have ha := f_joustlaw26_awake
  obtain ⟨hr, h1, h2, h3, h4⟩ := @Config.play_ok c
  have hC := f_joustplay_Config c
  generalize c.play = g at *
  have hm := u64_tmod (n := what) (k := 6) (by decide)
  have hc : (IntKind.u64.wrap what).tmod 6 = 0 ∨ (IntKind.u64.wrap what).tmod 6 = 1 ∨ (IntKind.u64.wrap what).tmod 6 = 2 ∨ (IntKind.u64.wrap what).tmod 6 = 3 ∨ (IntKind.u64.wrap what).tmod 6 = 4 ∨ (IntKind.u64.wrap what).tmod 6 = 5 := by omega
  have hrep : ∀ n : Nat, (List.replicate n ([] : InputL)).map encI = List.replicate n (.sl 3 []) := fun n => by rw [List.map_replicate]; rfl
  rcases hc with hm | hm | hm | hm | hm | hm
  · have hG := f_ghost_World_config ⟨0, g.rows, g.players, g.window, g.seed⟩ (List.replicate g.players.toNat []) (-1) 0 3 (by
      cases hq : Config.right ⟨0, g.rows, g.players, g.window, g.seed⟩ with
      | false => rfl
      | true => have := (Config.right_iff.1 hq).1; simp only at this; omega)
    rw [hrep] at hG
    obtain ⟨gc, gr, gp, gw, gs⟩ := g
    simp only at h1 h2 h3 h4 hG
    clear hrep hr
    refine Wp.ev ?_
    refine gg [.a _ _, .w ((0 : Int) ≤ gp ∧ gp ≤ gp ∧ room (Int.toNat gp) (24 : Nat)), .l (Int.toNat gp), .i IntKind.u64 what (IntKind.wrap IntKind.u64 what), .w ((6 : Int) ≠ (0 : Int)), .t (T.int IntKind.u64 (Int.tmod (IntKind.wrap IntKind.u64 what) 6)) (T.int IntKind.u64 0), .b (0 == 0) true, .a _ _, .b (flats [World.enc (World.mk [] []), ti 10]) false, .a _ _, .tt, .tt, .tt, .tt, .b (10 == 10) true, .tt] ⟨o_a hC, o_w ⟨(by omega), ⟨(by omega), (by (simp [room, appendMax]; omega))⟩⟩, o_i rfl, o_w (by intro h; cases h), o_t (by rw [hm]), o_b (by kernel_rfl), o_a hG, o_b (by kernel_rfl), o_a ha, o_b (by kernel_rfl), trivial⟩ ?_
    refine gg [.tt, .tt, .tt, .l 0, .tt, .tt, .w (isBool cx (4 : Nat) = true), .tt] ⟨o_w (by kernel_rfl), trivial⟩ ?_
    exact ge
  · have hG := f_ghost_World_arg g (List.replicate (g.players - 1).toNat []) (-1) 0 3 hr (.inl (by simp; omega))
    rw [hrep] at hG
    have ht : ((List.replicate g.players.toNat (T.sl 3 [])).drop 0).take (g.players - 1).toNat = List.replicate (g.players - 1).toNat (.sl 3 []) := by rw [List.drop_zero, List.take_replicate]; congr 1; omega
    rw [← ht] at hG
    clear hrep hr ht
    refine Wp.ev ?_
    refine gg [.a _ _, .w ((0 : Int) ≤ g.players ∧ g.players ≤ g.players ∧ room (Int.toNat g.players) (24 : Nat)), .l (Int.toNat g.players), .i IntKind.u64 what (IntKind.wrap IntKind.u64 what), .w ((6 : Int) ≠ (0 : Int)), .t (T.int IntKind.u64 (Int.tmod (IntKind.wrap IntKind.u64 what) 6)) (T.int IntKind.u64 1), .b (1 == 0) false, .b (1 == 1) true, .i IntKind.i64 (g.players - 1) (g.players - 1), .w ((0 : Int) ≤ g.players - (1 : Int)), .l (Int.toNat (g.players - 1)), .b (decide (0 = 0)) true, .w ((0 : Nat) ≤ Int.toNat (g.players - (1 : Int)) ∧ (0 : Nat) + Int.toNat (g.players - (1 : Int)) ≤ List.length (List.replicate (Int.toNat g.players) (T.sl (3 : Nat) []))), .l 0, .n (Int.toNat (g.players - 1) - 0) (Int.toNat (g.players - 1)), .s (T.sl 1 (List.take (Int.toNat (g.players - 1)) (List.drop 0 (List.replicate (Int.toNat g.players) (T.sl 3 [])))))] ⟨o_a hC, o_w ⟨(by omega), ⟨(by omega), (by (simp [room, appendMax]; omega))⟩⟩, o_i rfl, o_w (by intro h; cases h), o_t (by rw [hm]), o_b (by kernel_rfl), o_b (by kernel_rfl), oI, oW, o_b (by kernel_rfl), o_w ⟨(by omega), (by simp)⟩, o_n (by kernel_rfl), trivial⟩ ?_
    refine gg [.a _ _, .b (flats [World.enc (World.mk [] []), ti 1]) false, .a _ _, .tt, .tt, .tt, .tt, .b (1 == 1) true, .tt, .tt, .tt, .tt, .l 0, .tt, .tt, .w (isBool cx (4 : Nat) = true)] ⟨o_a hG, o_b (by kernel_rfl), o_a ha, o_b (by kernel_rfl), o_w (by kernel_rfl), trivial⟩ ?_
    refine gg [.tt] trivial ?_
    exact ge
  · have hG := f_ghost_World_arg g (List.replicate g.players.toNat []) (-1) 0 (-1) hr (.inr (.inl (by decide)))
    rw [hrep] at hG
    clear hrep hr
    refine Wp.ev ?_
    refine gg [.a _ _, .w ((0 : Int) ≤ g.players ∧ g.players ≤ g.players ∧ room (Int.toNat g.players) (24 : Nat)), .l (Int.toNat g.players), .i IntKind.u64 what (IntKind.wrap IntKind.u64 what), .w ((6 : Int) ≠ (0 : Int)), .t (T.int IntKind.u64 (Int.tmod (IntKind.wrap IntKind.u64 what) 6)) (T.int IntKind.u64 2), .b (2 == 0) false, .b (2 == 1) false, .b (2 == 2) true, .a _ _, .b (flats [World.enc (World.mk [] []), ti 1]) false, .a _ _, .tt, .tt, .tt, .tt] ⟨o_a hC, o_w ⟨(by omega), ⟨(by omega), (by (simp [room, appendMax]; omega))⟩⟩, o_i rfl, o_w (by intro h; cases h), o_t (by rw [hm]), o_b (by kernel_rfl), o_b (by kernel_rfl), o_b (by kernel_rfl), o_a hG, o_b (by kernel_rfl), o_a ha, trivial⟩ ?_
    refine gg [.b (1 == 1) true, .tt, .tt, .tt, .tt, .l 0, .tt, .tt, .w (isBool cx (4 : Nat) = true), .tt] ⟨o_b (by kernel_rfl), o_w (by kernel_rfl), trivial⟩ ?_
    exact ge
  · have hG := f_ghost_World_arg g (List.replicate g.players.toNat []) (-1) 0 10001 hr (.inr (.inr (by decide)))
    rw [hrep] at hG
    clear hrep hr
    refine Wp.ev ?_
    refine gg [.a _ _, .w ((0 : Int) ≤ g.players ∧ g.players ≤ g.players ∧ room (Int.toNat g.players) (24 : Nat)), .l (Int.toNat g.players), .i IntKind.u64 what (IntKind.wrap IntKind.u64 what), .w ((6 : Int) ≠ (0 : Int)), .t (T.int IntKind.u64 (Int.tmod (IntKind.wrap IntKind.u64 what) 6)) (T.int IntKind.u64 3), .b (3 == 0) false, .b (3 == 1) false, .b (3 == 2) false, .b (3 == 3) true, .a _ _, .b (flats [World.enc (World.mk [] []), ti 1]) false, .a _ _, .tt, .tt, .tt] ⟨o_a hC, o_w ⟨(by omega), ⟨(by omega), (by (simp [room, appendMax]; omega))⟩⟩, o_i rfl, o_w (by intro h; cases h), o_t (by rw [hm]), o_b (by kernel_rfl), o_b (by kernel_rfl), o_b (by kernel_rfl), o_b (by kernel_rfl), o_a hG, o_b (by kernel_rfl), o_a ha, trivial⟩ ?_
    refine gg [.tt, .b (1 == 1) true, .tt, .tt, .tt, .tt, .l 0, .tt, .tt, .w (isBool cx (4 : Nat) = true), .tt] ⟨o_b (by kernel_rfl), o_w (by kernel_rfl), trivial⟩ ?_
    exact ge
  · have hG := f_ghost_World_worse g ((List.replicate g.players.toNat []).set 0 [⟨3, 0, false⟩]) (-1) 0 3 hr (by simp; omega) (by omega) (by
      obtain ⟨n, hn⟩ : ∃ n, g.players.toNat = n + 1 := ⟨g.players.toNat - 1, by omega⟩
      rw [hn, show (List.replicate (n + 1) ([] : InputL)).set 0 [⟨3, 0, false⟩] = [⟨3, 0, false⟩] :: List.replicate n [] from rfl]
      refine List.any_eq_true.2 ⟨⟨3, 0, false⟩, List.mem_map.2 ⟨0, by simp, ?_⟩, rfl⟩
      simp [ghostAt, gt])
    rw [List.map_set, hrep] at hG
    change Is cx (.call _ [_, .t (.sl 1 ((List.replicate g.players.toNat (.sl 3 [])).set 0 (.sl 3 [.agg [ti 3, ti 0, .bool false]]))), _, _, vi 3] _) _ at hG
    have hx : (List.replicate g.players.toNat (T.sl 3 []))[0]? = some (T.sl 3 []) := by rw [List.getElem?_replicate, if_pos (by omega)]
    clear hrep hr
    refine Wp.ev ?_
    refine gg [.a _ _, .w ((0 : Int) ≤ g.players ∧ g.players ≤ g.players ∧ room (Int.toNat g.players) (24 : Nat)), .l (Int.toNat g.players), .i IntKind.u64 what (IntKind.wrap IntKind.u64 what), .w ((6 : Int) ≠ (0 : Int)), .t (T.int IntKind.u64 (Int.tmod (IntKind.wrap IntKind.u64 what) 6)) (T.int IntKind.u64 4), .b (4 == 0) false, .b (4 == 1) false, .b (4 == 2) false, .b (4 == 3) false, .b (4 == 4) true, .w ((0 : Int) ≤ (0 : Int)), .l 0, .w ((0 : Nat) < List.length (List.replicate (Int.toNat g.players) (T.sl (3 : Nat) []))), .g (List.replicate (Int.toNat g.players) (T.sl 3 [])) 0 (T.sl 3 []), .s (T.sl 0 (List.set (List.replicate (Int.toNat g.players) (T.sl 3 [])) 0 (T.sl 3 [T.agg [ti 3, ti 0, T.bool false]])))] ⟨o_a hC, o_w ⟨(by omega), ⟨(by omega), (by (simp [room, appendMax]; omega))⟩⟩, o_i rfl, o_w (by intro h; cases h), o_t (by rw [hm]), o_b (by kernel_rfl), o_b (by kernel_rfl), o_b (by kernel_rfl), o_b (by kernel_rfl), o_b (by kernel_rfl), oW, o_w (by (simp; omega)), o_g hx (by intro h; cases h), trivial⟩ ?_
    refine gg [.a _ _, .b (flats [World.enc (World.mk [] []), ti 11]) false, .a _ _, .tt, .tt, .tt, .tt, .b (11 == 11) true, .tt, .tt, .tt, .tt, .l 0, .tt, .tt, .w (isBool cx (4 : Nat) = true)] ⟨o_a hG, o_b (by kernel_rfl), o_a ha, o_b (by kernel_rfl), o_w (by kernel_rfl), trivial⟩ ?_
    refine gg [.tt] trivial ?_
    exact ge
  · have hG := f_ghost_World_yes g (List.replicate g.players.toNat []) (-1) 0 3 hr (by simp; omega) (by omega) (fun x hx => by rw [List.eq_of_mem_replicate hx]; simp)
    have hw := run_fine (begin_fine hr) (by omega) (by simp [ghostRows]) (ghost_ok (l := List.replicate g.players.toNat []) (gone := -1) (en := 0) (k := 3) (c := g) (by omega) (fun x hx => by rw [List.eq_of_mem_replicate hx]; simp) (by simp; omega))
    change WFine _ (worldAt g (ghostRows (List.replicate g.players.toNat []) (-1) 0 g.players.toNat 3)) _ at hw
    have hreg := hw.regs
    have hml := Config.mul_le hr
    have hgr : g.regions = g.cols * g.rows := by simp [Config.regions, hr]
    rw [hrep] at hG
    change Is cx (.call _ [_, _, _, _, vi 3] _) _ at hG
    clear hw hrep
    generalize worldAt g (ghostRows (List.replicate g.players.toNat []) (-1) 0 g.players.toNat 3) = W at *
    obtain ⟨R, O⟩ := W
    simp only at hG hreg
    have hR : 0 < R.length := by omega
    clear hr hgr hml hreg
    refine Wp.ev ?_
    refine gg [.a _ _, .w ((0 : Int) ≤ g.players ∧ g.players ≤ g.players ∧ room (Int.toNat g.players) (24 : Nat)), .l (Int.toNat g.players), .i IntKind.u64 what (IntKind.wrap IntKind.u64 what), .w ((6 : Int) ≠ (0 : Int)), .t (T.int IntKind.u64 (Int.tmod (IntKind.wrap IntKind.u64 what) 6)) (T.int IntKind.u64 5), .b (5 == 0) false, .b (5 == 1) false, .b (5 == 2) false, .b (5 == 3) false, .b (5 == 4) false, .a _ _, .b (flats [World.enc (World.mk R O), ti 0]) false, .a _ _, .tt, .tt] ⟨o_a hC, o_w ⟨(by omega), ⟨(by omega), (by (simp [room, appendMax]; omega))⟩⟩, o_i rfl, o_w (by intro h; cases h), o_t (by rw [hm]), o_b (by kernel_rfl), o_b (by kernel_rfl), o_b (by kernel_rfl), o_b (by kernel_rfl), o_b (by kernel_rfl), o_a hG, o_b (by kernel_rfl), o_a ha, trivial⟩ ?_
    refine gg [.tt, .tt, .b (0 == 0) true, .tt, .tt, .tt, .tt, .n (List.length (List.map Region.enc R)) (List.length R), .tt, .tt, .w (isBool cx (4 : Nat) = true), .tt] ⟨o_b (by kernel_rfl), o_n (by simp), o_w (by kernel_rfl), trivial⟩ ?_
    refine rt (a := Res.mk Ex.ret [vb ((0 == 0) == decide ((↑(List.length R) : Int) > 0))] []) (by kernel_rfl) ?_
    (first | rfl | (simp; omega) | (simp_all; omega))
end Go.Eva.S3

namespace Go.Eva.S3
open Go.Proofs
theorem cxTy : CxTy Tryz.prog cx := cxTy_of (by decide +kernel) (by decide +kernel) (⟨⟨Tryz.f179, by kernel_rfl, by decide +kernel, by kernel_rfl, by kernel_rfl, by kernel_rfl, by kernel_rfl, 48, by kernel_rfl⟩, trivial⟩)
theorem ok3 : FnOK Tryz.prog cx 3 fi3 Tryz.f3 := ⟨by kernel_rfl, by decide +kernel, by kernel_rfl, by kernel_rfl, by kernel_rfl, by decide +kernel⟩
theorem ok4 : FnOK Tryz.prog cx 4 fi4 Tryz.f4 := ⟨by kernel_rfl, by decide +kernel, by kernel_rfl, by kernel_rfl, by kernel_rfl, by decide +kernel⟩
theorem ok5 : FnOK Tryz.prog cx 5 fi5 Tryz.f5 := ⟨by kernel_rfl, by decide +kernel, by kernel_rfl, by kernel_rfl, by kernel_rfl, by decide +kernel⟩
theorem ok6 : FnOK Tryz.prog cx 6 fi6 Tryz.f6 := ⟨by kernel_rfl, by decide +kernel, by kernel_rfl, by kernel_rfl, by kernel_rfl, by decide +kernel⟩
theorem ok7 : FnOK Tryz.prog cx 7 fi7 Tryz.f7 := ⟨by kernel_rfl, by decide +kernel, by kernel_rfl, by kernel_rfl, by kernel_rfl, by decide +kernel⟩
theorem ok8 : FnOK Tryz.prog cx 8 fi8 Tryz.f8 := ⟨by kernel_rfl, by decide +kernel, by kernel_rfl, by kernel_rfl, by kernel_rfl, by decide +kernel⟩
theorem ok9 : FnOK Tryz.prog cx 9 fi9 Tryz.f9 := ⟨by kernel_rfl, by decide +kernel, by kernel_rfl, by kernel_rfl, by kernel_rfl, by decide +kernel⟩
theorem ok10 : FnOK Tryz.prog cx 10 fi10 Tryz.f10 := ⟨by kernel_rfl, by decide +kernel, by kernel_rfl, by kernel_rfl, by kernel_rfl, by decide +kernel⟩
theorem ok11 : FnOK Tryz.prog cx 11 fi11 Tryz.f11 := ⟨by kernel_rfl, by decide +kernel, by kernel_rfl, by kernel_rfl, by kernel_rfl, by decide +kernel⟩
theorem ok12 : FnOK Tryz.prog cx 12 fi12 Tryz.f12 := ⟨by kernel_rfl, by decide +kernel, by kernel_rfl, by kernel_rfl, by kernel_rfl, by decide +kernel⟩
theorem ok13 : FnOK Tryz.prog cx 13 fi13 Tryz.f13 := ⟨by kernel_rfl, by decide +kernel, by kernel_rfl, by kernel_rfl, by kernel_rfl, by decide +kernel⟩
theorem ok14 : FnOK Tryz.prog cx 14 fi14 Tryz.f14 := ⟨by kernel_rfl, by decide +kernel, by kernel_rfl, by kernel_rfl, by kernel_rfl, by decide +kernel⟩
theorem ok15 : FnOK Tryz.prog cx 15 fi15 Tryz.f15 := ⟨by kernel_rfl, by decide +kernel, by kernel_rfl, by kernel_rfl, by kernel_rfl, by decide +kernel⟩
theorem ok16 : FnOK Tryz.prog cx 16 fi16 Tryz.f16 := ⟨by kernel_rfl, by decide +kernel, by kernel_rfl, by kernel_rfl, by kernel_rfl, by decide +kernel⟩
theorem ok17 : FnOK Tryz.prog cx 17 fi17 Tryz.f17 := ⟨by kernel_rfl, by decide +kernel, by kernel_rfl, by kernel_rfl, by kernel_rfl, by decide +kernel⟩
theorem ok18 : FnOK Tryz.prog cx 18 fi18 Tryz.f18 := ⟨by kernel_rfl, by decide +kernel, by kernel_rfl, by kernel_rfl, by kernel_rfl, by decide +kernel⟩
theorem ok19 : FnOK Tryz.prog cx 19 fi19 Tryz.f19 := ⟨by kernel_rfl, by decide +kernel, by kernel_rfl, by kernel_rfl, by kernel_rfl, by decide +kernel⟩
theorem ok20 : FnOK Tryz.prog cx 20 fi20 Tryz.f20 := ⟨by kernel_rfl, by decide +kernel, by kernel_rfl, by kernel_rfl, by kernel_rfl, by decide +kernel⟩
theorem ok21 : FnOK Tryz.prog cx 21 fi21 Tryz.f21 := ⟨by kernel_rfl, by decide +kernel, by kernel_rfl, by kernel_rfl, by kernel_rfl, by decide +kernel⟩
theorem ok22 : FnOK Tryz.prog cx 22 fi22 Tryz.f22 := ⟨by kernel_rfl, by decide +kernel, by kernel_rfl, by kernel_rfl, by kernel_rfl, by decide +kernel⟩
theorem ok23 : FnOK Tryz.prog cx 23 fi23 Tryz.f23 := ⟨by kernel_rfl, by decide +kernel, by kernel_rfl, by kernel_rfl, by kernel_rfl, by decide +kernel⟩
theorem ok24 : FnOK Tryz.prog cx 24 fi24 Tryz.f24 := ⟨by kernel_rfl, by decide +kernel, by kernel_rfl, by kernel_rfl, by kernel_rfl, by decide +kernel⟩
theorem ok25 : FnOK Tryz.prog cx 25 fi25 Tryz.f25 := ⟨by kernel_rfl, by decide +kernel, by kernel_rfl, by kernel_rfl, by kernel_rfl, by decide +kernel⟩
theorem ok26 : FnOK Tryz.prog cx 26 fi26 Tryz.f26 := ⟨by kernel_rfl, by decide +kernel, by kernel_rfl, by kernel_rfl, by kernel_rfl, by decide +kernel⟩
theorem ok27 : FnOK Tryz.prog cx 27 fi27 Tryz.f27 := ⟨by kernel_rfl, by decide +kernel, by kernel_rfl, by kernel_rfl, by kernel_rfl, by decide +kernel⟩
theorem ok28 : FnOK Tryz.prog cx 28 fi28 Tryz.f28 := ⟨by kernel_rfl, by decide +kernel, by kernel_rfl, by kernel_rfl, by kernel_rfl, by decide +kernel⟩
theorem ok29 : FnOK Tryz.prog cx 29 fi29 Tryz.f29 := ⟨by kernel_rfl, by decide +kernel, by kernel_rfl, by kernel_rfl, by kernel_rfl, by decide +kernel⟩
theorem ok30 : FnOK Tryz.prog cx 30 fi30 Tryz.f30 := ⟨by kernel_rfl, by decide +kernel, by kernel_rfl, by kernel_rfl, by kernel_rfl, by decide +kernel⟩
theorem ok31 : FnOK Tryz.prog cx 31 fi31 Tryz.f31 := ⟨by kernel_rfl, by decide +kernel, by kernel_rfl, by kernel_rfl, by kernel_rfl, by decide +kernel⟩
theorem ok32 : FnOK Tryz.prog cx 32 fi32 Tryz.f32 := ⟨by kernel_rfl, by decide +kernel, by kernel_rfl, by kernel_rfl, by kernel_rfl, by decide +kernel⟩
theorem ok33 : FnOK Tryz.prog cx 33 fi33 Tryz.f33 := ⟨by kernel_rfl, by decide +kernel, by kernel_rfl, by kernel_rfl, by kernel_rfl, by decide +kernel⟩
theorem ok34 : FnOK Tryz.prog cx 34 fi34 Tryz.f34 := ⟨by kernel_rfl, by decide +kernel, by kernel_rfl, by kernel_rfl, by kernel_rfl, by decide +kernel⟩
theorem ok35 : FnOK Tryz.prog cx 35 fi35 Tryz.f35 := ⟨by kernel_rfl, by decide +kernel, by kernel_rfl, by kernel_rfl, by kernel_rfl, by decide +kernel⟩
theorem ok36 : FnOK Tryz.prog cx 36 fi36 Tryz.f36 := ⟨by kernel_rfl, by decide +kernel, by kernel_rfl, by kernel_rfl, by kernel_rfl, by decide +kernel⟩
theorem ok37 : FnOK Tryz.prog cx 37 fi37 Tryz.f37 := ⟨by kernel_rfl, by decide +kernel, by kernel_rfl, by kernel_rfl, by kernel_rfl, by decide +kernel⟩
theorem ok38 : FnOK Tryz.prog cx 38 fi38 Tryz.f38 := ⟨by kernel_rfl, by decide +kernel, by kernel_rfl, by kernel_rfl, by kernel_rfl, by decide +kernel⟩
theorem ok39 : FnOK Tryz.prog cx 39 fi39 Tryz.f39 := ⟨by kernel_rfl, by decide +kernel, by kernel_rfl, by kernel_rfl, by kernel_rfl, by decide +kernel⟩
theorem ok40 : FnOK Tryz.prog cx 40 fi40 Tryz.f40 := ⟨by kernel_rfl, by decide +kernel, by kernel_rfl, by kernel_rfl, by kernel_rfl, by decide +kernel⟩
theorem ok41 : FnOK Tryz.prog cx 41 fi41 Tryz.f41 := ⟨by kernel_rfl, by decide +kernel, by kernel_rfl, by kernel_rfl, by kernel_rfl, by decide +kernel⟩
theorem ok42 : FnOK Tryz.prog cx 42 fi42 Tryz.f42 := ⟨by kernel_rfl, by decide +kernel, by kernel_rfl, by kernel_rfl, by kernel_rfl, by decide +kernel⟩
theorem ok43 : FnOK Tryz.prog cx 43 fi43 Tryz.f43 := ⟨by kernel_rfl, by decide +kernel, by kernel_rfl, by kernel_rfl, by kernel_rfl, by decide +kernel⟩
theorem ok44 : FnOK Tryz.prog cx 44 fi44 Tryz.f44 := ⟨by kernel_rfl, by decide +kernel, by kernel_rfl, by kernel_rfl, by kernel_rfl, by decide +kernel⟩
theorem ok45 : FnOK Tryz.prog cx 45 fi45 Tryz.f45 := ⟨by kernel_rfl, by decide +kernel, by kernel_rfl, by kernel_rfl, by kernel_rfl, by decide +kernel⟩
theorem ok46 : FnOK Tryz.prog cx 46 fi46 Tryz.f46 := ⟨by kernel_rfl, by decide +kernel, by kernel_rfl, by kernel_rfl, by kernel_rfl, by decide +kernel⟩
theorem ok47 : FnOK Tryz.prog cx 47 fi47 Tryz.f47 := ⟨by kernel_rfl, by decide +kernel, by kernel_rfl, by kernel_rfl, by kernel_rfl, by decide +kernel⟩
theorem ok48 : FnOK Tryz.prog cx 48 fi48 Tryz.f48 := ⟨by kernel_rfl, by decide +kernel, by kernel_rfl, by kernel_rfl, by kernel_rfl, by decide +kernel⟩
theorem ok49 : FnOK Tryz.prog cx 49 fi49 Tryz.f49 := ⟨by kernel_rfl, by decide +kernel, by kernel_rfl, by kernel_rfl, by kernel_rfl, by decide +kernel⟩
theorem ok50 : FnOK Tryz.prog cx 50 fi50 Tryz.f50 := ⟨by kernel_rfl, by decide +kernel, by kernel_rfl, by kernel_rfl, by kernel_rfl, by decide +kernel⟩
theorem ok51 : FnOK Tryz.prog cx 51 fi51 Tryz.f51 := ⟨by kernel_rfl, by decide +kernel, by kernel_rfl, by kernel_rfl, by kernel_rfl, by decide +kernel⟩
theorem ok52 : FnOK Tryz.prog cx 52 fi52 Tryz.f52 := ⟨by kernel_rfl, by decide +kernel, by kernel_rfl, by kernel_rfl, by kernel_rfl, by decide +kernel⟩
theorem ok53 : FnOK Tryz.prog cx 53 fi53 Tryz.f53 := ⟨by kernel_rfl, by decide +kernel, by kernel_rfl, by kernel_rfl, by kernel_rfl, by decide +kernel⟩
theorem ok54 : FnOK Tryz.prog cx 54 fi54 Tryz.f54 := ⟨by kernel_rfl, by decide +kernel, by kernel_rfl, by kernel_rfl, by kernel_rfl, by decide +kernel⟩
theorem ok55 : FnOK Tryz.prog cx 55 fi55 Tryz.f55 := ⟨by kernel_rfl, by decide +kernel, by kernel_rfl, by kernel_rfl, by kernel_rfl, by decide +kernel⟩
theorem ok56 : FnOK Tryz.prog cx 56 fi56 Tryz.f56 := ⟨by kernel_rfl, by decide +kernel, by kernel_rfl, by kernel_rfl, by kernel_rfl, by decide +kernel⟩
theorem ok57 : FnOK Tryz.prog cx 57 fi57 Tryz.f57 := ⟨by kernel_rfl, by decide +kernel, by kernel_rfl, by kernel_rfl, by kernel_rfl, by decide +kernel⟩
theorem ok58 : FnOK Tryz.prog cx 58 fi58 Tryz.f58 := ⟨by kernel_rfl, by decide +kernel, by kernel_rfl, by kernel_rfl, by kernel_rfl, by decide +kernel⟩
theorem ok59 : FnOK Tryz.prog cx 59 fi59 Tryz.f59 := ⟨by kernel_rfl, by decide +kernel, by kernel_rfl, by kernel_rfl, by kernel_rfl, by decide +kernel⟩
theorem ok60 : FnOK Tryz.prog cx 60 fi60 Tryz.f60 := ⟨by kernel_rfl, by decide +kernel, by kernel_rfl, by kernel_rfl, by kernel_rfl, by decide +kernel⟩
theorem ok61 : FnOK Tryz.prog cx 61 fi61 Tryz.f61 := ⟨by kernel_rfl, by decide +kernel, by kernel_rfl, by kernel_rfl, by kernel_rfl, by decide +kernel⟩
theorem ok62 : FnOK Tryz.prog cx 62 fi62 Tryz.f62 := ⟨by kernel_rfl, by decide +kernel, by kernel_rfl, by kernel_rfl, by kernel_rfl, by decide +kernel⟩
theorem ok63 : FnOK Tryz.prog cx 63 fi63 Tryz.f63 := ⟨by kernel_rfl, by decide +kernel, by kernel_rfl, by kernel_rfl, by kernel_rfl, by decide +kernel⟩
theorem ok64 : FnOK Tryz.prog cx 64 fi64 Tryz.f64 := ⟨by kernel_rfl, by decide +kernel, by kernel_rfl, by kernel_rfl, by kernel_rfl, by decide +kernel⟩
theorem ok65 : FnOK Tryz.prog cx 65 fi65 Tryz.f65 := ⟨by kernel_rfl, by decide +kernel, by kernel_rfl, by kernel_rfl, by kernel_rfl, by decide +kernel⟩
theorem ok66 : FnOK Tryz.prog cx 66 fi66 Tryz.f66 := ⟨by kernel_rfl, by decide +kernel, by kernel_rfl, by kernel_rfl, by kernel_rfl, by decide +kernel⟩
theorem ok67 : FnOK Tryz.prog cx 67 fi67 Tryz.f67 := ⟨by kernel_rfl, by decide +kernel, by kernel_rfl, by kernel_rfl, by kernel_rfl, by decide +kernel⟩
theorem ok68 : FnOK Tryz.prog cx 68 fi68 Tryz.f68 := ⟨by kernel_rfl, by decide +kernel, by kernel_rfl, by kernel_rfl, by kernel_rfl, by decide +kernel⟩
theorem ok69 : FnOK Tryz.prog cx 69 fi69 Tryz.f69 := ⟨by kernel_rfl, by decide +kernel, by kernel_rfl, by kernel_rfl, by kernel_rfl, by decide +kernel⟩
theorem ok70 : FnOK Tryz.prog cx 70 fi70 Tryz.f70 := ⟨by kernel_rfl, by decide +kernel, by kernel_rfl, by kernel_rfl, by kernel_rfl, by decide +kernel⟩
theorem ok71 : FnOK Tryz.prog cx 71 fi71 Tryz.f71 := ⟨by kernel_rfl, by decide +kernel, by kernel_rfl, by kernel_rfl, by kernel_rfl, by decide +kernel⟩
theorem ok72 : FnOK Tryz.prog cx 72 fi72 Tryz.f72 := ⟨by kernel_rfl, by decide +kernel, by kernel_rfl, by kernel_rfl, by kernel_rfl, by decide +kernel⟩
theorem ok73 : FnOK Tryz.prog cx 73 fi73 Tryz.f73 := ⟨by kernel_rfl, by decide +kernel, by kernel_rfl, by kernel_rfl, by kernel_rfl, by decide +kernel⟩
theorem ok74 : FnOK Tryz.prog cx 74 fi74 Tryz.f74 := ⟨by kernel_rfl, by decide +kernel, by kernel_rfl, by kernel_rfl, by kernel_rfl, by decide +kernel⟩
theorem ok75 : FnOK Tryz.prog cx 75 fi75 Tryz.f75 := ⟨by kernel_rfl, by decide +kernel, by kernel_rfl, by kernel_rfl, by kernel_rfl, by decide +kernel⟩
theorem ok76 : FnOK Tryz.prog cx 76 fi76 Tryz.f76 := ⟨by kernel_rfl, by decide +kernel, by kernel_rfl, by kernel_rfl, by kernel_rfl, by decide +kernel⟩
theorem ok77 : FnOK Tryz.prog cx 77 fi77 Tryz.f77 := ⟨by kernel_rfl, by decide +kernel, by kernel_rfl, by kernel_rfl, by kernel_rfl, by decide +kernel⟩
theorem ok78 : FnOK Tryz.prog cx 78 fi78 Tryz.f78 := ⟨by kernel_rfl, by decide +kernel, by kernel_rfl, by kernel_rfl, by kernel_rfl, by decide +kernel⟩
theorem ok79 : FnOK Tryz.prog cx 79 fi79 Tryz.f79 := ⟨by kernel_rfl, by decide +kernel, by kernel_rfl, by kernel_rfl, by kernel_rfl, by decide +kernel⟩
theorem ok80 : FnOK Tryz.prog cx 80 fi80 Tryz.f80 := ⟨by kernel_rfl, by decide +kernel, by kernel_rfl, by kernel_rfl, by kernel_rfl, by decide +kernel⟩
theorem ok81 : FnOK Tryz.prog cx 81 fi81 Tryz.f81 := ⟨by kernel_rfl, by decide +kernel, by kernel_rfl, by kernel_rfl, by kernel_rfl, by decide +kernel⟩
theorem ok82 : FnOK Tryz.prog cx 82 fi82 Tryz.f82 := ⟨by kernel_rfl, by decide +kernel, by kernel_rfl, by kernel_rfl, by kernel_rfl, by decide +kernel⟩
theorem ok83 : FnOK Tryz.prog cx 83 fi83 Tryz.f83 := ⟨by kernel_rfl, by decide +kernel, by kernel_rfl, by kernel_rfl, by kernel_rfl, by decide +kernel⟩
theorem ok84 : FnOK Tryz.prog cx 84 fi84 Tryz.f84 := ⟨by kernel_rfl, by decide +kernel, by kernel_rfl, by kernel_rfl, by kernel_rfl, by decide +kernel⟩
theorem ok85 : FnOK Tryz.prog cx 85 fi85 Tryz.f85 := ⟨by kernel_rfl, by decide +kernel, by kernel_rfl, by kernel_rfl, by kernel_rfl, by decide +kernel⟩
theorem ok86 : FnOK Tryz.prog cx 86 fi86 Tryz.f86 := ⟨by kernel_rfl, by decide +kernel, by kernel_rfl, by kernel_rfl, by kernel_rfl, by decide +kernel⟩
theorem ok87 : FnOK Tryz.prog cx 87 fi87 Tryz.f87 := ⟨by kernel_rfl, by decide +kernel, by kernel_rfl, by kernel_rfl, by kernel_rfl, by decide +kernel⟩
theorem ok88 : FnOK Tryz.prog cx 88 fi88 Tryz.f88 := ⟨by kernel_rfl, by decide +kernel, by kernel_rfl, by kernel_rfl, by kernel_rfl, by decide +kernel⟩
theorem ok89 : FnOK Tryz.prog cx 89 fi89 Tryz.f89 := ⟨by kernel_rfl, by decide +kernel, by kernel_rfl, by kernel_rfl, by kernel_rfl, by decide +kernel⟩
theorem ok90 : FnOK Tryz.prog cx 90 fi90 Tryz.f90 := ⟨by kernel_rfl, by decide +kernel, by kernel_rfl, by kernel_rfl, by kernel_rfl, by decide +kernel⟩
theorem ok91 : FnOK Tryz.prog cx 91 fi91 Tryz.f91 := ⟨by kernel_rfl, by decide +kernel, by kernel_rfl, by kernel_rfl, by kernel_rfl, by decide +kernel⟩
theorem ok92 : FnOK Tryz.prog cx 92 fi92 Tryz.f92 := ⟨by kernel_rfl, by decide +kernel, by kernel_rfl, by kernel_rfl, by kernel_rfl, by decide +kernel⟩
theorem ok93 : FnOK Tryz.prog cx 93 fi93 Tryz.f93 := ⟨by kernel_rfl, by decide +kernel, by kernel_rfl, by kernel_rfl, by kernel_rfl, by decide +kernel⟩
theorem ok94 : FnOK Tryz.prog cx 94 fi94 Tryz.f94 := ⟨by kernel_rfl, by decide +kernel, by kernel_rfl, by kernel_rfl, by kernel_rfl, by decide +kernel⟩
theorem ok95 : FnOK Tryz.prog cx 95 fi95 Tryz.f95 := ⟨by kernel_rfl, by decide +kernel, by kernel_rfl, by kernel_rfl, by kernel_rfl, by decide +kernel⟩
theorem ok96 : FnOK Tryz.prog cx 96 fi96 Tryz.f96 := ⟨by kernel_rfl, by decide +kernel, by kernel_rfl, by kernel_rfl, by kernel_rfl, by decide +kernel⟩
theorem ok97 : FnOK Tryz.prog cx 97 fi97 Tryz.f97 := ⟨by kernel_rfl, by decide +kernel, by kernel_rfl, by kernel_rfl, by kernel_rfl, by decide +kernel⟩
theorem ok98 : FnOK Tryz.prog cx 98 fi98 Tryz.f98 := ⟨by kernel_rfl, by decide +kernel, by kernel_rfl, by kernel_rfl, by kernel_rfl, by decide +kernel⟩
theorem ok99 : FnOK Tryz.prog cx 99 fi99 Tryz.f99 := ⟨by kernel_rfl, by decide +kernel, by kernel_rfl, by kernel_rfl, by kernel_rfl, by decide +kernel⟩
theorem ok100 : FnOK Tryz.prog cx 100 fi100 Tryz.f100 := ⟨by kernel_rfl, by decide +kernel, by kernel_rfl, by kernel_rfl, by kernel_rfl, by decide +kernel⟩
theorem ok101 : FnOK Tryz.prog cx 101 fi101 Tryz.f101 := ⟨by kernel_rfl, by decide +kernel, by kernel_rfl, by kernel_rfl, by kernel_rfl, by decide +kernel⟩
theorem ok102 : FnOK Tryz.prog cx 102 fi102 Tryz.f102 := ⟨by kernel_rfl, by decide +kernel, by kernel_rfl, by kernel_rfl, by kernel_rfl, by decide +kernel⟩
theorem ok103 : FnOK Tryz.prog cx 103 fi103 Tryz.f103 := ⟨by kernel_rfl, by decide +kernel, by kernel_rfl, by kernel_rfl, by kernel_rfl, by decide +kernel⟩
theorem ok104 : FnOK Tryz.prog cx 104 fi104 Tryz.f104 := ⟨by kernel_rfl, by decide +kernel, by kernel_rfl, by kernel_rfl, by kernel_rfl, by decide +kernel⟩
theorem ok105 : FnOK Tryz.prog cx 105 fi105 Tryz.f105 := ⟨by kernel_rfl, by decide +kernel, by kernel_rfl, by kernel_rfl, by kernel_rfl, by decide +kernel⟩
theorem ok106 : FnOK Tryz.prog cx 106 fi106 Tryz.f106 := ⟨by kernel_rfl, by decide +kernel, by kernel_rfl, by kernel_rfl, by kernel_rfl, by decide +kernel⟩
theorem ok107 : FnOK Tryz.prog cx 107 fi107 Tryz.f107 := ⟨by kernel_rfl, by decide +kernel, by kernel_rfl, by kernel_rfl, by kernel_rfl, by decide +kernel⟩
theorem ok108 : FnOK Tryz.prog cx 108 fi108 Tryz.f108 := ⟨by kernel_rfl, by decide +kernel, by kernel_rfl, by kernel_rfl, by kernel_rfl, by decide +kernel⟩
theorem ok109 : FnOK Tryz.prog cx 109 fi109 Tryz.f109 := ⟨by kernel_rfl, by decide +kernel, by kernel_rfl, by kernel_rfl, by kernel_rfl, by decide +kernel⟩
theorem ok110 : FnOK Tryz.prog cx 110 fi110 Tryz.f110 := ⟨by kernel_rfl, by decide +kernel, by kernel_rfl, by kernel_rfl, by kernel_rfl, by decide +kernel⟩
theorem ok111 : FnOK Tryz.prog cx 111 fi111 Tryz.f111 := ⟨by kernel_rfl, by decide +kernel, by kernel_rfl, by kernel_rfl, by kernel_rfl, by decide +kernel⟩
theorem ok112 : FnOK Tryz.prog cx 112 fi112 Tryz.f112 := ⟨by kernel_rfl, by decide +kernel, by kernel_rfl, by kernel_rfl, by kernel_rfl, by decide +kernel⟩
theorem ok113 : FnOK Tryz.prog cx 113 fi113 Tryz.f113 := ⟨by kernel_rfl, by decide +kernel, by kernel_rfl, by kernel_rfl, by kernel_rfl, by decide +kernel⟩
theorem ok114 : FnOK Tryz.prog cx 114 fi114 Tryz.f114 := ⟨by kernel_rfl, by decide +kernel, by kernel_rfl, by kernel_rfl, by kernel_rfl, by decide +kernel⟩
theorem ok115 : FnOK Tryz.prog cx 115 fi115 Tryz.f115 := ⟨by kernel_rfl, by decide +kernel, by kernel_rfl, by kernel_rfl, by kernel_rfl, by decide +kernel⟩
theorem ok116 : FnOK Tryz.prog cx 116 fi116 Tryz.f116 := ⟨by kernel_rfl, by decide +kernel, by kernel_rfl, by kernel_rfl, by kernel_rfl, by decide +kernel⟩
theorem ok117 : FnOK Tryz.prog cx 117 fi117 Tryz.f117 := ⟨by kernel_rfl, by decide +kernel, by kernel_rfl, by kernel_rfl, by kernel_rfl, by decide +kernel⟩
theorem ok118 : FnOK Tryz.prog cx 118 fi118 Tryz.f118 := ⟨by kernel_rfl, by decide +kernel, by kernel_rfl, by kernel_rfl, by kernel_rfl, by decide +kernel⟩
theorem ok119 : FnOK Tryz.prog cx 119 fi119 Tryz.f119 := ⟨by kernel_rfl, by decide +kernel, by kernel_rfl, by kernel_rfl, by kernel_rfl, by decide +kernel⟩
theorem ok120 : FnOK Tryz.prog cx 120 fi120 Tryz.f120 := ⟨by kernel_rfl, by decide +kernel, by kernel_rfl, by kernel_rfl, by kernel_rfl, by decide +kernel⟩
theorem ok121 : FnOK Tryz.prog cx 121 fi121 Tryz.f121 := ⟨by kernel_rfl, by decide +kernel, by kernel_rfl, by kernel_rfl, by kernel_rfl, by decide +kernel⟩
theorem ok122 : FnOK Tryz.prog cx 122 fi122 Tryz.f122 := ⟨by kernel_rfl, by decide +kernel, by kernel_rfl, by kernel_rfl, by kernel_rfl, by decide +kernel⟩
theorem ok123 : FnOK Tryz.prog cx 123 fi123 Tryz.f123 := ⟨by kernel_rfl, by decide +kernel, by kernel_rfl, by kernel_rfl, by kernel_rfl, by decide +kernel⟩
theorem ok124 : FnOK Tryz.prog cx 124 fi124 Tryz.f124 := ⟨by kernel_rfl, by decide +kernel, by kernel_rfl, by kernel_rfl, by kernel_rfl, by decide +kernel⟩
theorem ok125 : FnOK Tryz.prog cx 125 fi125 Tryz.f125 := ⟨by kernel_rfl, by decide +kernel, by kernel_rfl, by kernel_rfl, by kernel_rfl, by decide +kernel⟩
theorem ok126 : FnOK Tryz.prog cx 126 fi126 Tryz.f126 := ⟨by kernel_rfl, by decide +kernel, by kernel_rfl, by kernel_rfl, by kernel_rfl, by decide +kernel⟩
theorem ok127 : FnOK Tryz.prog cx 127 fi127 Tryz.f127 := ⟨by kernel_rfl, by decide +kernel, by kernel_rfl, by kernel_rfl, by kernel_rfl, by decide +kernel⟩
theorem ok128 : FnOK Tryz.prog cx 128 fi128 Tryz.f128 := ⟨by kernel_rfl, by decide +kernel, by kernel_rfl, by kernel_rfl, by kernel_rfl, by decide +kernel⟩
theorem ok129 : FnOK Tryz.prog cx 129 fi129 Tryz.f129 := ⟨by kernel_rfl, by decide +kernel, by kernel_rfl, by kernel_rfl, by kernel_rfl, by decide +kernel⟩
theorem ok130 : FnOK Tryz.prog cx 130 fi130 Tryz.f130 := ⟨by kernel_rfl, by decide +kernel, by kernel_rfl, by kernel_rfl, by kernel_rfl, by decide +kernel⟩
theorem ok131 : FnOK Tryz.prog cx 131 fi131 Tryz.f131 := ⟨by kernel_rfl, by decide +kernel, by kernel_rfl, by kernel_rfl, by kernel_rfl, by decide +kernel⟩
theorem ok132 : FnOK Tryz.prog cx 132 fi132 Tryz.f132 := ⟨by kernel_rfl, by decide +kernel, by kernel_rfl, by kernel_rfl, by kernel_rfl, by decide +kernel⟩
theorem ok133 : FnOK Tryz.prog cx 133 fi133 Tryz.f133 := ⟨by kernel_rfl, by decide +kernel, by kernel_rfl, by kernel_rfl, by kernel_rfl, by decide +kernel⟩
theorem ok134 : FnOK Tryz.prog cx 134 fi134 Tryz.f134 := ⟨by kernel_rfl, by decide +kernel, by kernel_rfl, by kernel_rfl, by kernel_rfl, by decide +kernel⟩
theorem ok135 : FnOK Tryz.prog cx 135 fi135 Tryz.f135 := ⟨by kernel_rfl, by decide +kernel, by kernel_rfl, by kernel_rfl, by kernel_rfl, by decide +kernel⟩
theorem ok136 : FnOK Tryz.prog cx 136 fi136 Tryz.f136 := ⟨by kernel_rfl, by decide +kernel, by kernel_rfl, by kernel_rfl, by kernel_rfl, by decide +kernel⟩
theorem ok137 : FnOK Tryz.prog cx 137 fi137 Tryz.f137 := ⟨by kernel_rfl, by decide +kernel, by kernel_rfl, by kernel_rfl, by kernel_rfl, by decide +kernel⟩
theorem ok138 : FnOK Tryz.prog cx 138 fi138 Tryz.f138 := ⟨by kernel_rfl, by decide +kernel, by kernel_rfl, by kernel_rfl, by kernel_rfl, by decide +kernel⟩
theorem ok139 : FnOK Tryz.prog cx 139 fi139 Tryz.f139 := ⟨by kernel_rfl, by decide +kernel, by kernel_rfl, by kernel_rfl, by kernel_rfl, by decide +kernel⟩
theorem ok140 : FnOK Tryz.prog cx 140 fi140 Tryz.f140 := ⟨by kernel_rfl, by decide +kernel, by kernel_rfl, by kernel_rfl, by kernel_rfl, by decide +kernel⟩
theorem ok141 : FnOK Tryz.prog cx 141 fi141 Tryz.f141 := ⟨by kernel_rfl, by decide +kernel, by kernel_rfl, by kernel_rfl, by kernel_rfl, by decide +kernel⟩
theorem ok142 : FnOK Tryz.prog cx 142 fi142 Tryz.f142 := ⟨by kernel_rfl, by decide +kernel, by kernel_rfl, by kernel_rfl, by kernel_rfl, by decide +kernel⟩
theorem ok143 : FnOK Tryz.prog cx 143 fi143 Tryz.f143 := ⟨by kernel_rfl, by decide +kernel, by kernel_rfl, by kernel_rfl, by kernel_rfl, by decide +kernel⟩
theorem ok144 : FnOK Tryz.prog cx 144 fi144 Tryz.f144 := ⟨by kernel_rfl, by decide +kernel, by kernel_rfl, by kernel_rfl, by kernel_rfl, by decide +kernel⟩
theorem ok145 : FnOK Tryz.prog cx 145 fi145 Tryz.f145 := ⟨by kernel_rfl, by decide +kernel, by kernel_rfl, by kernel_rfl, by kernel_rfl, by decide +kernel⟩
theorem ok146 : FnOK Tryz.prog cx 146 fi146 Tryz.f146 := ⟨by kernel_rfl, by decide +kernel, by kernel_rfl, by kernel_rfl, by kernel_rfl, by decide +kernel⟩
theorem ok147 : FnOK Tryz.prog cx 147 fi147 Tryz.f147 := ⟨by kernel_rfl, by decide +kernel, by kernel_rfl, by kernel_rfl, by kernel_rfl, by decide +kernel⟩
theorem ok148 : FnOK Tryz.prog cx 148 fi148 Tryz.f148 := ⟨by kernel_rfl, by decide +kernel, by kernel_rfl, by kernel_rfl, by kernel_rfl, by decide +kernel⟩
theorem ok149 : FnOK Tryz.prog cx 149 fi149 Tryz.f149 := ⟨by kernel_rfl, by decide +kernel, by kernel_rfl, by kernel_rfl, by kernel_rfl, by decide +kernel⟩
theorem ok150 : FnOK Tryz.prog cx 150 fi150 Tryz.f150 := ⟨by kernel_rfl, by decide +kernel, by kernel_rfl, by kernel_rfl, by kernel_rfl, by decide +kernel⟩
theorem ok151 : FnOK Tryz.prog cx 151 fi151 Tryz.f151 := ⟨by kernel_rfl, by decide +kernel, by kernel_rfl, by kernel_rfl, by kernel_rfl, by decide +kernel⟩
theorem ok152 : FnOK Tryz.prog cx 152 fi152 Tryz.f152 := ⟨by kernel_rfl, by decide +kernel, by kernel_rfl, by kernel_rfl, by kernel_rfl, by decide +kernel⟩
theorem ok153 : FnOK Tryz.prog cx 153 fi153 Tryz.f153 := ⟨by kernel_rfl, by decide +kernel, by kernel_rfl, by kernel_rfl, by kernel_rfl, by decide +kernel⟩
theorem ok154 : FnOK Tryz.prog cx 154 fi154 Tryz.f154 := ⟨by kernel_rfl, by decide +kernel, by kernel_rfl, by kernel_rfl, by kernel_rfl, by decide +kernel⟩
theorem ok155 : FnOK Tryz.prog cx 155 fi155 Tryz.f155 := ⟨by kernel_rfl, by decide +kernel, by kernel_rfl, by kernel_rfl, by kernel_rfl, by decide +kernel⟩
theorem ok156 : FnOK Tryz.prog cx 156 fi156 Tryz.f156 := ⟨by kernel_rfl, by decide +kernel, by kernel_rfl, by kernel_rfl, by kernel_rfl, by decide +kernel⟩
theorem ok157 : FnOK Tryz.prog cx 157 fi157 Tryz.f157 := ⟨by kernel_rfl, by decide +kernel, by kernel_rfl, by kernel_rfl, by kernel_rfl, by decide +kernel⟩
theorem ok158 : FnOK Tryz.prog cx 158 fi158 Tryz.f158 := ⟨by kernel_rfl, by decide +kernel, by kernel_rfl, by kernel_rfl, by kernel_rfl, by decide +kernel⟩
theorem ok159 : FnOK Tryz.prog cx 159 fi159 Tryz.f159 := ⟨by kernel_rfl, by decide +kernel, by kernel_rfl, by kernel_rfl, by kernel_rfl, by decide +kernel⟩
theorem ok160 : FnOK Tryz.prog cx 160 fi160 Tryz.f160 := ⟨by kernel_rfl, by decide +kernel, by kernel_rfl, by kernel_rfl, by kernel_rfl, by decide +kernel⟩
theorem ok161 : FnOK Tryz.prog cx 161 fi161 Tryz.f161 := ⟨by kernel_rfl, by decide +kernel, by kernel_rfl, by kernel_rfl, by kernel_rfl, by decide +kernel⟩
theorem ok162 : FnOK Tryz.prog cx 162 fi162 Tryz.f162 := ⟨by kernel_rfl, by decide +kernel, by kernel_rfl, by kernel_rfl, by kernel_rfl, by decide +kernel⟩
theorem ok163 : FnOK Tryz.prog cx 163 fi163 Tryz.f163 := ⟨by kernel_rfl, by decide +kernel, by kernel_rfl, by kernel_rfl, by kernel_rfl, by decide +kernel⟩
theorem ok164 : FnOK Tryz.prog cx 164 fi164 Tryz.f164 := ⟨by kernel_rfl, by decide +kernel, by kernel_rfl, by kernel_rfl, by kernel_rfl, by decide +kernel⟩
theorem ok165 : FnOK Tryz.prog cx 165 fi165 Tryz.f165 := ⟨by kernel_rfl, by decide +kernel, by kernel_rfl, by kernel_rfl, by kernel_rfl, by decide +kernel⟩
theorem ok166 : FnOK Tryz.prog cx 166 fi166 Tryz.f166 := ⟨by kernel_rfl, by decide +kernel, by kernel_rfl, by kernel_rfl, by kernel_rfl, by decide +kernel⟩
theorem ok167 : FnOK Tryz.prog cx 167 fi167 Tryz.f167 := ⟨by kernel_rfl, by decide +kernel, by kernel_rfl, by kernel_rfl, by kernel_rfl, by decide +kernel⟩
theorem ok168 : FnOK Tryz.prog cx 168 fi168 Tryz.f168 := ⟨by kernel_rfl, by decide +kernel, by kernel_rfl, by kernel_rfl, by kernel_rfl, by decide +kernel⟩
theorem ok169 : FnOK Tryz.prog cx 169 fi169 Tryz.f169 := ⟨by kernel_rfl, by decide +kernel, by kernel_rfl, by kernel_rfl, by kernel_rfl, by decide +kernel⟩
theorem ok170 : FnOK Tryz.prog cx 170 fi170 Tryz.f170 := ⟨by kernel_rfl, by decide +kernel, by kernel_rfl, by kernel_rfl, by kernel_rfl, by decide +kernel⟩
theorem ok171 : FnOK Tryz.prog cx 171 fi171 Tryz.f171 := ⟨by kernel_rfl, by decide +kernel, by kernel_rfl, by kernel_rfl, by kernel_rfl, by decide +kernel⟩
theorem ok172 : FnOK Tryz.prog cx 172 fi172 Tryz.f172 := ⟨by kernel_rfl, by decide +kernel, by kernel_rfl, by kernel_rfl, by kernel_rfl, by decide +kernel⟩
theorem ok173 : FnOK Tryz.prog cx 173 fi173 Tryz.f173 := ⟨by kernel_rfl, by decide +kernel, by kernel_rfl, by kernel_rfl, by kernel_rfl, by decide +kernel⟩
theorem ok174 : FnOK Tryz.prog cx 174 fi174 Tryz.f174 := ⟨by kernel_rfl, by decide +kernel, by kernel_rfl, by kernel_rfl, by kernel_rfl, by decide +kernel⟩
theorem ok175 : FnOK Tryz.prog cx 175 fi175 Tryz.f175 := ⟨by kernel_rfl, by decide +kernel, by kernel_rfl, by kernel_rfl, by kernel_rfl, by decide +kernel⟩
theorem ok176 : FnOK Tryz.prog cx 176 fi176 Tryz.f176 := ⟨by kernel_rfl, by decide +kernel, by kernel_rfl, by kernel_rfl, by kernel_rfl, by decide +kernel⟩
theorem ok177 : FnOK Tryz.prog cx 177 fi177 Tryz.f177 := ⟨by kernel_rfl, by decide +kernel, by kernel_rfl, by kernel_rfl, by kernel_rfl, by decide +kernel⟩
theorem ok178 : FnOK Tryz.prog cx 178 fi178 Tryz.f178 := ⟨by kernel_rfl, by decide +kernel, by kernel_rfl, by kernel_rfl, by kernel_rfl, by decide +kernel⟩
theorem ok180 : FnOK Tryz.prog cx 180 fi180 Tryz.f180 := ⟨by kernel_rfl, by decide +kernel, by kernel_rfl, by kernel_rfl, by kernel_rfl, by decide +kernel⟩
theorem ok181 : FnOK Tryz.prog cx 181 fi181 Tryz.f181 := ⟨by kernel_rfl, by decide +kernel, by kernel_rfl, by kernel_rfl, by kernel_rfl, by decide +kernel⟩
theorem ok182 : FnOK Tryz.prog cx 182 fi182 Tryz.f182 := ⟨by kernel_rfl, by decide +kernel, by kernel_rfl, by kernel_rfl, by kernel_rfl, by decide +kernel⟩
theorem ok183 : FnOK Tryz.prog cx 183 fi183 Tryz.f183 := ⟨by kernel_rfl, by decide +kernel, by kernel_rfl, by kernel_rfl, by kernel_rfl, by decide +kernel⟩
theorem ok184 : FnOK Tryz.prog cx 184 fi184 Tryz.f184 := ⟨by kernel_rfl, by decide +kernel, by kernel_rfl, by kernel_rfl, by kernel_rfl, by decide +kernel⟩
theorem ok185 : FnOK Tryz.prog cx 185 fi185 Tryz.f185 := ⟨by kernel_rfl, by decide +kernel, by kernel_rfl, by kernel_rfl, by kernel_rfl, by decide +kernel⟩
theorem ok186 : FnOK Tryz.prog cx 186 fi186 Tryz.f186 := ⟨by kernel_rfl, by decide +kernel, by kernel_rfl, by kernel_rfl, by kernel_rfl, by decide +kernel⟩
theorem ok187 : FnOK Tryz.prog cx 187 fi187 Tryz.f187 := ⟨by kernel_rfl, by decide +kernel, by kernel_rfl, by kernel_rfl, by kernel_rfl, by decide +kernel⟩
theorem ok188 : FnOK Tryz.prog cx 188 fi188 Tryz.f188 := ⟨by kernel_rfl, by decide +kernel, by kernel_rfl, by kernel_rfl, by kernel_rfl, by decide +kernel⟩
theorem ok189 : FnOK Tryz.prog cx 189 fi189 Tryz.f189 := ⟨by kernel_rfl, by decide +kernel, by kernel_rfl, by kernel_rfl, by kernel_rfl, by decide +kernel⟩
theorem ok190 : FnOK Tryz.prog cx 190 fi190 Tryz.f190 := ⟨by kernel_rfl, by decide +kernel, by kernel_rfl, by kernel_rfl, by kernel_rfl, by decide +kernel⟩
theorem ok191 : FnOK Tryz.prog cx 191 fi191 Tryz.f191 := ⟨by kernel_rfl, by decide +kernel, by kernel_rfl, by kernel_rfl, by kernel_rfl, by decide +kernel⟩
theorem ok192 : FnOK Tryz.prog cx 192 fi192 Tryz.f192 := ⟨by kernel_rfl, by decide +kernel, by kernel_rfl, by kernel_rfl, by kernel_rfl, by decide +kernel⟩
theorem ok193 : FnOK Tryz.prog cx 193 fi193 Tryz.f193 := ⟨by kernel_rfl, by decide +kernel, by kernel_rfl, by kernel_rfl, by kernel_rfl, by decide +kernel⟩
theorem ok194 : FnOK Tryz.prog cx 194 fi194 Tryz.f194 := ⟨by kernel_rfl, by decide +kernel, by kernel_rfl, by kernel_rfl, by kernel_rfl, by decide +kernel⟩
theorem ok195 : FnOK Tryz.prog cx 195 fi195 Tryz.f195 := ⟨by kernel_rfl, by decide +kernel, by kernel_rfl, by kernel_rfl, by kernel_rfl, by decide +kernel⟩
theorem ok196 : FnOK Tryz.prog cx 196 fi196 Tryz.f196 := ⟨by kernel_rfl, by decide +kernel, by kernel_rfl, by kernel_rfl, by kernel_rfl, by decide +kernel⟩
theorem ok197 : FnOK Tryz.prog cx 197 fi197 Tryz.f197 := ⟨by kernel_rfl, by decide +kernel, by kernel_rfl, by kernel_rfl, by kernel_rfl, by decide +kernel⟩
theorem fnsOK : FnsOK Tryz.prog cx := fnsOK_of (⟨none_ok _, ⟨none_ok _, ⟨some_ok ok3, ⟨some_ok ok7, ⟨some_ok ok15, ⟨some_ok ok31, ⟨some_ok ok63, ⟨some_ok ok127, trivial, trivial⟩, ⟨some_ok ok191, trivial, trivial⟩⟩, ⟨some_ok ok95, ⟨some_ok ok159, trivial, trivial⟩, trivial⟩⟩, ⟨some_ok ok47, ⟨some_ok ok79, ⟨some_ok ok143, trivial, trivial⟩, ⟨none_ok _, trivial, trivial⟩⟩, ⟨some_ok ok111, ⟨some_ok ok175, trivial, trivial⟩, trivial⟩⟩⟩, ⟨some_ok ok23, ⟨some_ok ok39, ⟨some_ok ok71, ⟨some_ok ok135, trivial, trivial⟩, ⟨none_ok _, trivial, trivial⟩⟩, ⟨some_ok ok103, ⟨some_ok ok167, trivial, trivial⟩, trivial⟩⟩, ⟨some_ok ok55, ⟨some_ok ok87, ⟨some_ok ok151, trivial, trivial⟩, trivial⟩, ⟨some_ok ok119, ⟨some_ok ok183, trivial, trivial⟩, trivial⟩⟩⟩⟩, ⟨some_ok ok11, ⟨some_ok ok19, ⟨some_ok ok35, ⟨some_ok ok67, ⟨some_ok ok131, trivial, trivial⟩, ⟨some_ok ok195, trivial, trivial⟩⟩, ⟨some_ok ok99, ⟨some_ok ok163, trivial, trivial⟩, trivial⟩⟩, ⟨some_ok ok51, ⟨some_ok ok83, ⟨some_ok ok147, trivial, trivial⟩, ⟨none_ok _, trivial, trivial⟩⟩, ⟨some_ok ok115, ⟨none_ok _, trivial, trivial⟩, trivial⟩⟩⟩, ⟨some_ok ok27, ⟨some_ok ok43, ⟨some_ok ok75, ⟨some_ok ok139, trivial, trivial⟩, ⟨none_ok _, trivial, trivial⟩⟩, ⟨some_ok ok107, ⟨some_ok ok171, trivial, trivial⟩, trivial⟩⟩, ⟨some_ok ok59, ⟨some_ok ok91, ⟨some_ok ok155, trivial, trivial⟩, trivial⟩, ⟨some_ok ok123, ⟨some_ok ok187, trivial, trivial⟩, trivial⟩⟩⟩⟩⟩, ⟨some_ok ok5, ⟨some_ok ok9, ⟨some_ok ok17, ⟨some_ok ok33, ⟨some_ok ok65, ⟨some_ok ok129, trivial, trivial⟩, ⟨some_ok ok193, trivial, trivial⟩⟩, ⟨some_ok ok97, ⟨some_ok ok161, trivial, trivial⟩, trivial⟩⟩, ⟨some_ok ok49, ⟨some_ok ok81, ⟨some_ok ok145, trivial, trivial⟩, ⟨none_ok _, trivial, trivial⟩⟩, ⟨some_ok ok113, ⟨some_ok ok177, trivial, trivial⟩, trivial⟩⟩⟩, ⟨some_ok ok25, ⟨some_ok ok41, ⟨some_ok ok73, ⟨some_ok ok137, trivial, trivial⟩, ⟨none_ok _, trivial, trivial⟩⟩, ⟨some_ok ok105, ⟨some_ok ok169, trivial, trivial⟩, trivial⟩⟩, ⟨some_ok ok57, ⟨some_ok ok89, ⟨some_ok ok153, trivial, trivial⟩, trivial⟩, ⟨some_ok ok121, ⟨some_ok ok185, trivial, trivial⟩, trivial⟩⟩⟩⟩, ⟨some_ok ok13, ⟨some_ok ok21, ⟨some_ok ok37, ⟨some_ok ok69, ⟨some_ok ok133, trivial, trivial⟩, ⟨some_ok ok197, trivial, trivial⟩⟩, ⟨some_ok ok101, ⟨some_ok ok165, trivial, trivial⟩, trivial⟩⟩, ⟨some_ok ok53, ⟨some_ok ok85, ⟨some_ok ok149, trivial, trivial⟩, ⟨none_ok _, trivial, trivial⟩⟩, ⟨some_ok ok117, ⟨some_ok ok181, trivial, trivial⟩, trivial⟩⟩⟩, ⟨some_ok ok29, ⟨some_ok ok45, ⟨some_ok ok77, ⟨some_ok ok141, trivial, trivial⟩, ⟨none_ok _, trivial, trivial⟩⟩, ⟨some_ok ok109, ⟨some_ok ok173, trivial, trivial⟩, trivial⟩⟩, ⟨some_ok ok61, ⟨some_ok ok93, ⟨some_ok ok157, trivial, trivial⟩, trivial⟩, ⟨some_ok ok125, ⟨some_ok ok189, trivial, trivial⟩, trivial⟩⟩⟩⟩⟩⟩, ⟨none_ok _, ⟨some_ok ok4, ⟨some_ok ok8, ⟨some_ok ok16, ⟨some_ok ok32, ⟨some_ok ok64, ⟨some_ok ok128, trivial, trivial⟩, ⟨some_ok ok192, trivial, trivial⟩⟩, ⟨some_ok ok96, ⟨some_ok ok160, trivial, trivial⟩, trivial⟩⟩, ⟨some_ok ok48, ⟨some_ok ok80, ⟨some_ok ok144, trivial, trivial⟩, ⟨none_ok _, trivial, trivial⟩⟩, ⟨some_ok ok112, ⟨some_ok ok176, trivial, trivial⟩, trivial⟩⟩⟩, ⟨some_ok ok24, ⟨some_ok ok40, ⟨some_ok ok72, ⟨some_ok ok136, trivial, trivial⟩, ⟨none_ok _, trivial, trivial⟩⟩, ⟨some_ok ok104, ⟨some_ok ok168, trivial, trivial⟩, trivial⟩⟩, ⟨some_ok ok56, ⟨some_ok ok88, ⟨some_ok ok152, trivial, trivial⟩, trivial⟩, ⟨some_ok ok120, ⟨some_ok ok184, trivial, trivial⟩, trivial⟩⟩⟩⟩, ⟨some_ok ok12, ⟨some_ok ok20, ⟨some_ok ok36, ⟨some_ok ok68, ⟨some_ok ok132, trivial, trivial⟩, ⟨some_ok ok196, trivial, trivial⟩⟩, ⟨some_ok ok100, ⟨some_ok ok164, trivial, trivial⟩, trivial⟩⟩, ⟨some_ok ok52, ⟨some_ok ok84, ⟨some_ok ok148, trivial, trivial⟩, ⟨none_ok _, trivial, trivial⟩⟩, ⟨some_ok ok116, ⟨some_ok ok180, trivial, trivial⟩, trivial⟩⟩⟩, ⟨some_ok ok28, ⟨some_ok ok44, ⟨some_ok ok76, ⟨some_ok ok140, trivial, trivial⟩, ⟨none_ok _, trivial, trivial⟩⟩, ⟨some_ok ok108, ⟨some_ok ok172, trivial, trivial⟩, trivial⟩⟩, ⟨some_ok ok60, ⟨some_ok ok92, ⟨some_ok ok156, trivial, trivial⟩, trivial⟩, ⟨some_ok ok124, ⟨some_ok ok188, trivial, trivial⟩, trivial⟩⟩⟩⟩⟩, ⟨some_ok ok6, ⟨some_ok ok10, ⟨some_ok ok18, ⟨some_ok ok34, ⟨some_ok ok66, ⟨some_ok ok130, trivial, trivial⟩, ⟨some_ok ok194, trivial, trivial⟩⟩, ⟨some_ok ok98, ⟨some_ok ok162, trivial, trivial⟩, trivial⟩⟩, ⟨some_ok ok50, ⟨some_ok ok82, ⟨some_ok ok146, trivial, trivial⟩, ⟨none_ok _, trivial, trivial⟩⟩, ⟨some_ok ok114, ⟨some_ok ok178, trivial, trivial⟩, trivial⟩⟩⟩, ⟨some_ok ok26, ⟨some_ok ok42, ⟨some_ok ok74, ⟨some_ok ok138, trivial, trivial⟩, ⟨none_ok _, trivial, trivial⟩⟩, ⟨some_ok ok106, ⟨some_ok ok170, trivial, trivial⟩, trivial⟩⟩, ⟨some_ok ok58, ⟨some_ok ok90, ⟨some_ok ok154, trivial, trivial⟩, trivial⟩, ⟨some_ok ok122, ⟨some_ok ok186, trivial, trivial⟩, trivial⟩⟩⟩⟩, ⟨some_ok ok14, ⟨some_ok ok22, ⟨some_ok ok38, ⟨some_ok ok70, ⟨some_ok ok134, trivial, trivial⟩, ⟨none_ok _, trivial, trivial⟩⟩, ⟨some_ok ok102, ⟨some_ok ok166, trivial, trivial⟩, trivial⟩⟩, ⟨some_ok ok54, ⟨some_ok ok86, ⟨some_ok ok150, trivial, trivial⟩, trivial⟩, ⟨some_ok ok118, ⟨some_ok ok182, trivial, trivial⟩, trivial⟩⟩⟩, ⟨some_ok ok30, ⟨some_ok ok46, ⟨some_ok ok78, ⟨some_ok ok142, trivial, trivial⟩, ⟨none_ok _, trivial, trivial⟩⟩, ⟨some_ok ok110, ⟨some_ok ok174, trivial, trivial⟩, trivial⟩⟩, ⟨some_ok ok62, ⟨some_ok ok94, ⟨some_ok ok158, trivial, trivial⟩, trivial⟩, ⟨some_ok ok126, ⟨some_ok ok190, trivial, trivial⟩, trivial⟩⟩⟩⟩⟩⟩⟩)
end Go.Eva.S3

/- Eva, part 47: what arguments of the program's plain types are. -/
namespace Go.Eva

section
variable {cx : Cx} {t m : Nat} {ts : List T} {i : TI}

theorem conf_int (hti : cx.ti.get t = some i) (hk : i.ty = .int .i64) (h : Conf cx m t ts) : ∃ n, ts = [ti n] ∧ i64 n := by
  cases m with
  | zero => exact h.elim
  | succ m =>
    simp only [Conf, hti, hk] at h
    obtain ⟨n, rfl, hw⟩ := h
    refine ⟨n, rfl, ?_⟩
    simp [Lit.wf, IntKind.min, IntKind.max, IntKind.signed, IntKind.bits] at hw
    exact ⟨by omega, by omega⟩
theorem conf_u64 (hti : cx.ti.get t = some i) (hk : i.ty = .int .u64) (h : Conf cx m t ts) : ∃ n, ts = [.int .u64 n] ∧ 0 ≤ n ∧ n ≤ 18446744073709551615 := by
  cases m with
  | zero => exact h.elim
  | succ m =>
    simp only [Conf, hti, hk] at h
    obtain ⟨n, rfl, hw⟩ := h
    refine ⟨n, rfl, ?_⟩
    simp [Lit.wf, IntKind.min, IntKind.max, IntKind.signed, IntKind.bits] at hw
    exact ⟨by omega, by omega⟩
theorem conf_bool (hti : cx.ti.get t = some i) (hk : i.ty = .bool) (h : Conf cx m t ts) : ∃ b, ts = [.bool b] := by
  cases m with
  | zero => exact h.elim
  | succ m => simpa only [Conf, hti, hk] using h
theorem conf_struct {fs : List (Nat × Nat)} (hti : cx.ti.get t = some i) (hk : i.ty = .struct fs) (h : Conf cx (m + 1) t ts) : ts.length = i.size ∧ ∀ p ∈ fs, Conf cx m p.2 ((ts.drop p.1).take (sizeOf cx p.2)) := by
  simpa only [Conf, hti, hk] using h
theorem conf_slice {e : Nat} (hti : cx.ti.get t = some i) (hk : i.ty = .slice e) (h : Conf cx (m + 1) t ts) :
    ∃ xs, ts = [.sl (sizeOf cx e) xs] ∧ xs.length ≤ maxLen ∧ xs.length * bytesOf cx e ≤ reachBytes ∧ ∀ x ∈ xs, x ≠ .any ∧ (isStruct cx e = true → ∃ l, x = .agg l) ∧ (isStruct cx e = false → x.cells = [x]) ∧ Conf cx m e x.cells := by
  simpa only [Conf, hti, hk] using h

/-- A field that is a whole number. -/
theorem conf_at {j k : Nat} {fs : List (Nat × Nat)} (hi : cx.ti.get k = some i) (hk : i.ty = .int .i64) (hs : sizeOf cx k = 1) (h : ∀ p ∈ fs, Conf cx m p.2 ((ts.drop p.1).take (sizeOf cx p.2))) (hp : (j, k) ∈ fs) : ∃ n, ts[j]? = some (ti n) ∧ i64 n := by
  have := h _ hp
  simp only [hs] at this
  obtain ⟨n, h1, h2⟩ := conf_int hi hk this
  refine ⟨n, ?_, h2⟩
  have h3 := congrArg (fun l => l[0]?) h1
  simpa [List.getElem?_take, List.getElem?_drop] using h3

theorem list_of {α : Type} {f : α → T} {P : α → Prop} : ∀ {xs : List T}, (∀ x ∈ xs, ∃ e, x = f e ∧ P e) → ∃ l : List α, xs = l.map f ∧ ∀ e ∈ l, P e
  | [], _ => ⟨[], rfl, by simp⟩
  | x :: xs, h => by
    obtain ⟨e, rfl, he⟩ := h x (List.mem_cons_self ..)
    obtain ⟨l, rfl, hl⟩ := list_of fun y hy => h y (List.mem_cons_of_mem _ hy)
    exact ⟨e :: l, rfl, fun y hy => by
      rcases List.mem_cons.1 hy with rfl | hy
      · exact he
      · exact hl y hy⟩

def Entity.ok (e : Entity) : Prop := i64 e.id ∧ i64 e.kind ∧ i64 e.x ∧ i64 e.y ∧ i64 e.vx ∧ i64 e.vy ∧ i64 e.health ∧ i64 e.age ∧ i64 e.owner
def Input.ok (e : Input) : Prop := i64 e.dx ∧ i64 e.dy
def Cross.ok (c : Cross) : Prop := i64 c.kind ∧ i64 c.frm ∧ i64 c.to ∧ i64 c.frame ∧ c.ent.ok ∧ i64 c.x ∧ i64 c.y

theorem conf_config {k u : Nat} {j v : TI} (hk : cx.ti.get k = some j) (hkt : j.ty = .int .i64) (hs : sizeOf cx k = 1) (hu : cx.ti.get u = some v) (hut : v.ty = .int .u64) (hus : sizeOf cx u = 1) (hti : cx.ti.get t = some i)
    (hty : i.ty = .struct [(0, k), (1, k), (2, k), (3, k), (4, u)]) (hsz : i.size = 5) (h : Conf cx (m + 1) t ts) : ∃ c : Config, ts = c.enc.cells ∧ c.ok := by
  obtain ⟨h1, h2⟩ := conf_struct hti hty h
  rw [hsz] at h1
  obtain ⟨n0, a0, b0⟩ := conf_at (j := 0) hk hkt hs h2 (by simp)
  obtain ⟨n1, a1, b1⟩ := conf_at (j := 1) hk hkt hs h2 (by simp)
  obtain ⟨n2, a2, b2⟩ := conf_at (j := 2) hk hkt hs h2 (by simp)
  obtain ⟨n3, a3, b3⟩ := conf_at (j := 3) hk hkt hs h2 (by simp)
  have h4 := h2 (4, u) (by simp)
  simp only [hus] at h4
  obtain ⟨n4, a4, b4⟩ := conf_u64 hu hut h4
  refine ⟨⟨n0, n1, n2, n3, n4⟩, ?_, b0, b1, b2, b3, b4⟩
  match ts, h1 with
  | [_, _, _, _, _], _ => simp_all [Config.enc, T.cells]

theorem conf_input {k u : Nat} {j v : TI} (hk : cx.ti.get k = some j) (hkt : j.ty = .int .i64) (hs : sizeOf cx k = 1) (hu : cx.ti.get u = some v) (hut : v.ty = .bool) (hus : sizeOf cx u = 1) (hti : cx.ti.get t = some i)
    (hty : i.ty = .struct [(0, k), (1, k), (2, u)]) (hsz : i.size = 3) (h : Conf cx (m + 1) t ts) : ∃ c : Input, ts = c.enc.cells ∧ c.ok := by
  obtain ⟨h1, h2⟩ := conf_struct hti hty h
  rw [hsz] at h1
  obtain ⟨n0, a0, b0⟩ := conf_at (j := 0) hk hkt hs h2 (by simp)
  obtain ⟨n1, a1, b1⟩ := conf_at (j := 1) hk hkt hs h2 (by simp)
  have h4 := h2 (2, u) (by simp)
  simp only [hus] at h4
  obtain ⟨n2, a2⟩ := conf_bool hu hut h4
  refine ⟨⟨n0, n1, n2⟩, ?_, b0, b1⟩
  match ts, h1 with
  | [_, _, _], _ => simp_all [Input.enc, T.cells]
theorem not_struct (hti : cx.ti.get t = some i) (h : ∀ fs, i.ty ≠ .struct fs) : isStruct cx t = false := by
  unfold isStruct
  rw [hti]
  cases i with
  | mk ty s b q => cases ty <;> simp_all
theorem is_struct {fs : List (Nat × Nat)} (hti : cx.ti.get t = some i) (h : i.ty = .struct fs) : isStruct cx t = true := by
  unfold isStruct
  rw [hti]
  cases i with
  | mk ty s b q => simp only at h; subst h; rfl

/-- Arguments. -/
theorem arg_int (hti : cx.ti.get t = some i) (hk : i.ty = .int .i64) {x : T} (h : Arg cx m t x) : ∃ n, x = ti n ∧ i64 n := by
  obtain ⟨h1, h2, h3, h4⟩ := h
  obtain ⟨n, h5, h6⟩ := conf_int hti hk h4
  rw [h3 (not_struct hti (by rw [hk]; simp))] at h5
  exact ⟨n, by simpa using h5, h6⟩
/-- A struct, by its cells. -/
theorem arg_of {α : Type} {f : α → T} {P : α → Prop} {fs : List (Nat × Nat)} (hti : cx.ti.get t = some i) (hk : i.ty = .struct fs) (hf : ∀ e, ∃ l, f e = .agg l) (hc : ∀ {ts}, Conf cx m t ts → ∃ e, ts = (f e).cells ∧ P e) {x : T} (h : Arg cx m t x) : ∃ e, x = f e ∧ P e := by
  obtain ⟨h1, h2, h3, h4⟩ := h
  obtain ⟨l, rfl⟩ := h2 (is_struct hti hk)
  obtain ⟨e, h5, h6⟩ := hc h4
  obtain ⟨l', hl⟩ := hf e
  rw [hl] at h5
  simp only [T.cells] at h5
  exact ⟨e, by rw [hl, h5], h6⟩
/-- A slice, by its members. -/
theorem arg_slice {α : Type} {f : α → T} {P : α → Prop} {e s : Nat} (hti : cx.ti.get t = some i) (hk : i.ty = .slice e) (hs : sizeOf cx e = s) (hc : ∀ {x}, Arg cx m e x → ∃ a, x = f a ∧ P a) {x : T} (h : Arg cx (m + 1) t x) :
    ∃ l : List α, x = .sl s (l.map f) ∧ (∀ a ∈ l, P a) ∧ l.length ≤ maxLen ∧ l.length * bytesOf cx e ≤ reachBytes := by
  obtain ⟨h1, h2, h3, h4⟩ := h
  obtain ⟨xs, h5, h6, h7, h8⟩ := conf_slice hti hk h4
  rw [h3 (not_struct hti (by rw [hk]; simp))] at h5
  obtain ⟨l, rfl, hl⟩ := list_of (f := f) (P := P) fun x hx => hc (h8 x hx)
  refine ⟨l, ?_, hl, by simpa using h6, by simpa using h7⟩
  rw [← hs]
  simpa using h5
end
end Go.Eva
