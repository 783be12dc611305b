/- A reading of the program, proved sound against the model, and what its functions answer by it: part 4. -/
import Derived.Test.YtdlmgaiiheeigaaGreatEva3
set_option linter.unusedSimpArgs false
set_option linter.unusedVariables false
/- A region: what may be asked, who arrives, numbers and places. -/
namespace Go.Eva.S3
theorem f_slices_ContainsFunc_Entity (l : List Entity) (g : Nat) (cs : List T) (p : Entity → Bool) (hb : isFnB cx g = true) (hn : small l)
    (hg : ∀ e ∈ l, Fn cx g (e.enc :: cs) (.bool (p e))) : Fn cx 95 [.sl 9 (l.map Entity.enc), .clo g cs] (.bool (l.any p)) := by
  have h := f_slices_IndexFunc_Entity l g cs p hb hn hg
  clear hg
  cases hq : l.findIdx? p with
  | some k =>
    rw [pos_some hq] at h
    have e : l.any p = true := by
      obtain ⟨hk, h1, _⟩ := List.findIdx?_eq_some_iff_getElem.1 hq
      exact List.any_eq_true.2 ⟨_, List.getElem_mem hk, h1⟩
    rw [e]
    refine Wp.ev ?_
    refine gg [.a _ _] ⟨o_a h, trivial⟩ ?_
    exact ge
  | none =>
    rw [pos_none hq] at h
    have e : l.any p = false := by
      rw [List.any_eq_false]
      intro x hx
      simpa using List.findIdx?_eq_none_iff.1 hq x hx
    rw [e]
    refine Wp.ev ?_
    refine gg [.a _ _] ⟨o_a h, trivial⟩ ?_
    exact ge
theorem f_slices_ContainsFunc_Cross (l : List Cross) (g : Nat) (cs : List T) (p : Cross → Bool) (hb : isFnB cx g = true) (hn : small l)
    (hg : ∀ e ∈ l, Fn cx g (e.enc :: cs) (.bool (p e))) : Fn cx 105 [.sl 15 (l.map Cross.enc), .clo g cs] (.bool (l.any p)) := by
  have h := f_slices_IndexFunc_Cross l g cs p hb hn hg
  clear hg
  cases hq : l.findIdx? p with
  | some k =>
    rw [pos_some hq] at h
    have e : l.any p = true := by
      obtain ⟨hk, h1, _⟩ := List.findIdx?_eq_some_iff_getElem.1 hq
      exact List.any_eq_true.2 ⟨_, List.getElem_mem hk, h1⟩
    rw [e]
    refine Wp.ev ?_
    refine gg [.a _ _] ⟨o_a h, trivial⟩ ?_
    exact ge
  | none =>
    rw [pos_none hq] at h
    have e : l.any p = false := by
      rw [List.any_eq_false]
      intro x hx
      simpa using List.findIdx?_eq_none_iff.1 hq x hx
    rw [e]
    refine Wp.ev ?_
    refine gg [.a _ _] ⟨o_a h, trivial⟩ ?_
    exact ge
theorem f_slices_ContainsFunc_Input (l : List Input) (g : Nat) (cs : List T) (p : Input → Bool) (hb : isFnB cx g = true) (hn : small l)
    (hg : ∀ e ∈ l, Fn cx g (e.enc :: cs) (.bool (p e))) : Fn cx 102 [.sl 3 (l.map Input.enc), .clo g cs] (.bool (l.any p)) := by
  have h := f_slices_IndexFunc_Input l g cs p hb hn hg
  clear hg
  cases hq : l.findIdx? p with
  | some k =>
    rw [pos_some hq] at h
    have e : l.any p = true := by
      obtain ⟨hk, h1, _⟩ := List.findIdx?_eq_some_iff_getElem.1 hq
      exact List.any_eq_true.2 ⟨_, List.getElem_mem hk, h1⟩
    rw [e]
    refine Wp.ev ?_
    refine gg [.a _ _] ⟨o_a h, trivial⟩ ?_
    exact ge
  | none =>
    rw [pos_none hq] at h
    have e : l.any p = false := by
      rw [List.any_eq_false]
      intro x hx
      simpa using List.findIdx?_eq_none_iff.1 hq x hx
    rw [e]
    refine Wp.ev ?_
    refine gg [.a _ _] ⟨o_a h, trivial⟩ ?_
    exact ge
theorem f_region_is (c : Config) (r : Int) : Fn cx 92 [c.enc, ti r] (.bool (c.is r)) := by
  have h1 := @Config.regions_le c
  refine Wp.ev ?_
  refine brp (p := r ≥ 0) (by kernel_rfl) (fun h1 => ?_) (fun h1 => ?_)
  · refine gg [.tt, .tt, .a _ _, .tt, .tt] ⟨o_a (f_grid_Regions c), trivial⟩ ?_
    refine rt (a := Res.mk Ex.ret [vb (decide (r < Config.regions c))] []) (by kernel_rfl) ?_
    (simp only [Config.is, within]; first | rfl | (congr 3; rw [Bool.eq_iff_iff]; simp; omega))
  · refine gg [.ff, .ff, .ff, .ff] trivial ?_
    refine rt (a := Res.mk Ex.ret [vb false] []) (by kernel_rfl) ?_
    (simp only [Config.is, within]; first | rfl | (congr 3; rw [Bool.eq_iff_iff]; simp; omega))
theorem f_region_Right_1 (c : Config) (r : Int) (e : Entity) : Fn cx 96 [e.enc, .ip 5 c.enc 0, .ip 1 (ti r) 0] (.bool (!(e.right c && decide (c.of e.x e.y = r)))) := by
  have h1 := f_entity_Right c e
  have h2 := f_grid_Of c e.x e.y
  cases hr : e.right c with
  | true =>
    rw [hr] at h1
    refine Wp.ev ?_
    refine gg [.a _ _, .b (!true) false, .ff, .ff, .ff, .ff, .ff, .ff, .a _ _, .ff, .ff] ⟨o_a h1, o_b (by kernel_rfl), o_a h2, trivial⟩ ?_
    refine rt (a := Res.mk Ex.ret [vb (Config.of c e.x e.y != r)] []) (by kernel_rfl) ?_
    simp [bned]
  | false =>
    rw [hr] at h1
    refine Wp.ev ?_
    refine gg [.a _ _, .b (!false) true, .tt, .tt, .tt, .tt, .tt, .tt, .tt, .tt] ⟨o_a h1, o_b (by kernel_rfl), trivial⟩ ?_
    refine rt (a := Res.mk Ex.ret [vb true] []) (by kernel_rfl) ?_
    simp
theorem f_region_Right (c : Config) (r : Int) (s : Region) (hn : small s.ents) : Fn cx 54 [c.enc, ti r, s.enc] (.bool (regionRight c r s)) := by
  have q1 := f_region_is c r
  have q2 := f_entity_Sorted s.ents hn
  have q3 := f_entity_Things s.ents hn
  have q4 := f_slices_ContainsFunc_Entity s.ents 96 [.ip 5 c.enc 0, .ip 1 (ti r) 0] (fun e => !(e.right c && decide (c.of e.x e.y = r))) (by kernel_rfl) hn (fun e _ => f_region_Right_1 c r e)
  have e4 : (s.ents.any fun e => !(e.right c && decide (c.of e.x e.y = r))) = !(s.ents.all fun e => e.right c && decide (c.of e.x e.y = r)) := by rw [List.any_eq_not_all_not]; simp
  rw [e4] at q4
  unfold regionRight within
  generalize c.is r = b1 at *
  generalize sortedL s.ents = b2 at *
  generalize things s.ents = n3 at *
  generalize (s.ents.all fun e => e.right c && decide (c.of e.x e.y = r)) = b4 at *
  obtain ⟨f, l⟩ := s
  refine Wp.ev ?_
  refine gg [.a _ _] ⟨o_a q1, trivial⟩ ?_
  refine brnot (b := b1) (by kernel_rfl) (fun h1 => ?_) (fun h1 => ?_)
  · refine gg [.tt, .tt, .tt, .tt, .tt, .tt, .tt, .tt, .tt, .tt, .tt, .tt, .tt, .tt, .tt, .tt] trivial ?_
    refine gg [.tt, .tt] trivial ?_
    refine rt (a := Res.mk Ex.ret [vb false] []) (by kernel_rfl) ?_
    (simp_all; try omega)
  · refine gg [.ff, .ff, .ff] trivial ?_
    refine brp (p := f < 0) (by kernel_rfl) (fun h2 => ?_) (fun h2 => ?_)
    · refine gg [.tt, .tt, .tt, .tt, .tt, .tt, .tt, .tt, .tt, .tt, .tt, .tt, .tt, .tt] trivial ?_
      refine rt (a := Res.mk Ex.ret [vb false] []) (by kernel_rfl) ?_
      (simp_all; try omega)
    · refine gg [.ff, .ff, .ff] trivial ?_
      refine brp (p := f > 10000) (by kernel_rfl) (fun h3 => ?_) (fun h3 => ?_)
      · refine gg [.tt, .tt, .tt, .tt, .tt, .tt, .tt, .tt, .tt, .tt] trivial ?_
        refine rt (a := Res.mk Ex.ret [vb false] []) (by kernel_rfl) ?_
        (simp_all; try omega)
      · refine gg [.ff, .ff, .a _ _, .ff, .ff] ⟨o_a q2, trivial⟩ ?_
        refine brnot (b := b2) (by kernel_rfl) (fun h4 => ?_) (fun h4 => ?_)
        · refine gg [.tt, .tt, .tt, .tt, .tt] trivial ?_
          refine rt (a := Res.mk Ex.ret [vb false] []) (by kernel_rfl) ?_
          (simp_all; try omega)
        · refine gg [.ff, .ff, .a _ _, .ff, .ff] ⟨o_a q3, trivial⟩ ?_
          refine brp (p := n3 > 24) (by kernel_rfl) (fun h5 => ?_) (fun h5 => ?_)
          · refine rt (a := Res.mk Ex.ret [vb false] []) (by kernel_rfl) ?_
            (simp_all; try omega)
          · refine gg [.a _ _, .b (flats [T.bool !b4]) true] ⟨o_a q4, o_b (by kernel_rfl), trivial⟩ ?_
            refine rt (a := Res.mk Ex.ret [vb !!b4] []) (by kernel_rfl) ?_
            (simp_all; try omega)
theorem f_region_asked_1 (i : Input) : Fn cx 103 [i.enc] (.bool (!i.right)) := by
  refine Wp.ev ?_
  refine gg [.a _ _] ⟨o_a (f_input_Right i), trivial⟩ ?_
  exact ge
theorem f_region_asked_2 (c : Config) (r : Int) (s : Region) (m : Cross) (hf : 0 ≤ s.frame ∧ s.frame ≤ 10000) : Fn cx 106 [m.enc, .ip 5 c.enc 0, .ip 1 (ti r) 0, .ip 2 s.enc 0] (.bool (!(m.right c && decide (m.to = r) && decide (m.frame = s.frame - 1)))) := by
  have h := f_cross_Right c m
  obtain ⟨f, l⟩ := s
  simp only at hf
  generalize m.right c = b at *
  cases b with
  | true => refine Wp.ev ?_
            refine gg [.a _ _, .b (!true) false, .ff, .ff, .ff, .ff] ⟨o_a h, o_b (by kernel_rfl), trivial⟩ ?_
            refine brn (x := m.to) (y := r) (by kernel_rfl) (fun h1 => ?_) (fun h1 => ?_)
            · refine gg [.tt, .tt, .tt, .tt, .tt, .tt] trivial ?_
              refine rt (a := Res.mk Ex.ret [vb true] []) (by kernel_rfl) ?_
              (simp_all [bned]; try omega)
            · refine gg [.ff, .ff, .ff, .ff, .i IntKind.i64 (f - 1) (f - 1), .ff, .ff] ⟨oI, trivial⟩ ?_
              refine rt (a := Res.mk Ex.ret [vb (m.frame != f - 1)] []) (by kernel_rfl) ?_
              (simp_all [bned]; try omega)
  | false => refine Wp.ev ?_
             refine gg [.a _ _, .b (!false) true, .tt, .tt, .tt, .tt, .tt, .tt, .tt, .tt, .tt, .tt, .tt] ⟨o_a h, o_b (by kernel_rfl), trivial⟩ ?_
             refine rt (a := Res.mk Ex.ret [vb true] []) (by kernel_rfl) ?_
             simp
theorem f_region_asked (c : Config) (r : Int) (s : Region) (ins : List Input) (inbox : List Cross) (hn : small s.ents) (hi : small ins) (hb : small inbox) :
    Fn cx 60 [c.enc, ti r, s.enc, .sl 3 (ins.map Input.enc), .sl 15 (inbox.map Cross.enc)] (ti (askedE c r s ins inbox)) := by
  have h1 := f_region_is c r
  have h2 := f_region_Right c r s hn
  have h3 := f_slices_ContainsFunc_Input ins 103 [] (fun i => !i.right) (by kernel_rfl) hi (fun i _ => f_region_asked_1 i)
  unfold askedE
  cases q1 : c.is r with
  | false =>
    rw [q1] at h1
    clear h2 h3
    rw [if_pos rfl]
    obtain ⟨f, l⟩ := s
    refine Wp.ev ?_
    refine gg [.a _ _, .b (!false) true] ⟨o_a h1, o_b (by kernel_rfl), trivial⟩ ?_
    exact ge
  | true =>
    rw [q1] at h1
    rw [if_neg (by simp)]
    cases q2 : regionRight c r s with
    | false =>
      rw [q2] at h2
      clear h3
      rw [if_pos rfl]
      obtain ⟨f, l⟩ := s
      refine Wp.ev ?_
      refine gg [.a _ _, .b (!true) false, .a _ _, .b (!false) true] ⟨o_a h1, o_b (by kernel_rfl), o_a h2, o_b (by kernel_rfl), trivial⟩ ?_
      exact ge
    | true =>
      rw [q2] at h2
      rw [if_neg (by simp)]
      have hf := (regionRight_iff.1 q2).2.1
      have h4 := f_slices_ContainsFunc_Cross inbox 106 [.ip 5 c.enc 0, .ip 1 (ti r) 0, .ip 2 s.enc 0] (fun m => !(m.right c && decide (m.to = r) && decide (m.frame = s.frame - 1))) (by kernel_rfl) hb (fun m _ => f_region_asked_2 c r s m hf)
      clear q2
      obtain ⟨f, l⟩ := s
      simp only at hf h4 ⊢
      unfold small at hi
      generalize (ins.any fun i => !i.right) = b3 at *
      generalize (inbox.any fun m => !(m.right c && decide (m.to = r) && decide (m.frame = f - 1))) = b4 at *
      refine Wp.ev ?_
      refine gg [.a _ _, .b (!true) false, .a _ _, .b (!true) false, .n (List.length (List.map Input.enc ins)) (List.length ins)] ⟨o_a h1, o_b (by kernel_rfl), o_a h2, o_b (by kernel_rfl), o_n (by simp), trivial⟩ ?_
      refine brn (x := (↑(List.length ins) : Int)) (y := c.players) (by kernel_rfl) (fun h1 => ?_) (fun h1 => ?_)
      · refine gg [.tt, .tt, .tt] trivial ?_
        refine rt (a := Res.mk Ex.ret [vi 11] []) (by kernel_rfl) ?_
        (simp_all; try omega)
      · refine gg [.ff, .a _ _, .ff] ⟨o_a h3, trivial⟩ ?_
        refine br (b := b3) (by kernel_rfl) (fun h2 => ?_) (fun h2 => ?_)
        · refine rt (a := Res.mk Ex.ret [vi 11] []) (by kernel_rfl) ?_
          (simp_all; try omega)
        · refine gg [.a _ _, .b (flats [T.bool b4]) true] ⟨o_a h4, o_b (by kernel_rfl), trivial⟩ ?_
          refine br (b := b4) (by kernel_rfl) (fun h3 => ?_) (fun h3 => ?_)
          · refine rt (a := Res.mk Ex.ret [vi 1] []) (by kernel_rfl) ?_
            (simp_all; try omega)
          · refine bre (x := f) (y := 10000) (by kernel_rfl) (fun h4 => ?_) (fun h4 => ?_)
            · refine rt (a := Res.mk Ex.ret [vi 16] []) (by kernel_rfl) ?_
              (simp_all; try omega)
            · refine rt (a := Res.mk Ex.ret [vi 0] []) (by kernel_rfl) ?_
              (simp_all; try omega)
theorem f_region_Arrive_loop (inbox : List Cross) (hb : inbox.length ≤ 100000) : ∀ (d i : Nat) (A : List Entity), i + d = inbox.length → A.length ≤ 100000 + i →
    Is cx (.loop 61 [0, 1, 0, 1, 1] 0 [.all 0 none, .t (.sl 15 (inbox.map Cross.enc)), vi inbox.length, vi i] [.arr 9 (A.map Entity.enc) none false])
      ⟨.exit 0, [.all 0 none, .t (.sl 15 (inbox.map Cross.enc)), vi inbox.length, vi inbox.length], [.arr 9 ((arriveL A (inbox.drop i)).map Entity.enc) none false]⟩ := by
  intro d
  induction d with
  | zero =>
    intro i A hi hA
    rw [drop_end (by omega)]
    refine Wp.ev ?_
    refine gg [.b (decide ((↑i : Int) < (↑(List.length inbox) : Int))) false] ⟨fP, trivial⟩ ?_
    refine rt (a := Res.mk (Ex.exit 0) [V.all 0 none, V.t (T.sl 15 (List.map Cross.enc inbox)), vi (↑(List.length inbox) : Int), vi (↑i : Int)] [Ob.arr 9 (List.map Entity.enc A) none false]) (by kernel_rfl) ?_
    ((have hq : i = inbox.length := by omega); subst hq; rfl)
  | succ d ih =>
    intro i A hi hA
    have hlt : i < inbox.length := by omega
    rw [drop_gt hlt]
    change Is cx _ ⟨_, _, [.arr 9 ((arriveL (arrive1 A (gt inbox i)) (inbox.drop (i + 1))).map Entity.enc) none false]⟩
    have hT := f_entity_Things A (by unfold small; omega)
    have hP := f_entity_Put A [(gt inbox i).ent] (by omega) (by simp)
    change Is cx _ ⟨_, _, [.arr 9 ((put1 A (gt inbox i).ent).map Entity.enc) none false]⟩ at hP
    have hl := @put1_len A (gt inbox i).ent
    have ih1 := ih (i + 1) A (by omega) (by omega)
    have ih2 := ih (i + 1) (put1 A (gt inbox i).ent) (by omega) (by omega)
    clear ih hl
    by_cases hk : (gt inbox i).kind = 1
    · by_cases he : (gt inbox i).ent.kind = 1
      · have e : arrive1 A (gt inbox i) = put1 A (gt inbox i).ent := by simp [arrive1, hk, he]
        rw [e]
        generalize put1 A (gt inbox i).ent = B at *
        refine Wp.ev ?_
        refine gg [.b (decide ((↑i : Int) < (↑(List.length inbox) : Int))) true, .w ((0 : Int) ≤ (↑i : Int)), .n (Int.toNat (↑i : Int)) i, .g (List.map Cross.enc inbox) i (Cross.enc (gt inbox i)), .b ((gt inbox i).kind == 1) true, .tt, .tt, .tt, .tt, .b ((gt inbox i).ent.kind == 1) true, .tt, .tt, .tt, .tt, .tt, .tt] ⟨tP, oW, o_n (by kernel_rfl), o_gt rfl (by assumption) (by intro h; cases h), t_bre (by assumption), t_bre (by assumption), trivial⟩ ?_
        refine gg [.a _ _, .i IntKind.i64 ((↑i : Int) + 1) ((↑(i + 1) : Int)), .a _ _] ⟨o_a hP, oI, o_a ih2, trivial⟩ ?_
        exact ge
      · by_cases ht : things A < 24
        · have e : arrive1 A (gt inbox i) = put1 A (gt inbox i).ent := by simp [arrive1, hk, ht]
          rw [e]
          generalize put1 A (gt inbox i).ent = B at *
          generalize things A = n at *
          refine Wp.ev ?_
          refine gg [.b (decide ((↑i : Int) < (↑(List.length inbox) : Int))) true, .w ((0 : Int) ≤ (↑i : Int)), .n (Int.toNat (↑i : Int)) i, .g (List.map Cross.enc inbox) i (Cross.enc (gt inbox i)), .b ((gt inbox i).kind == 1) true, .tt, .tt, .tt, .tt, .b ((gt inbox i).ent.kind == 1) false, .ff, .a _ _, .b (flats [ti n]) true, .ff, .tt, .ff] ⟨tP, oW, o_n (by kernel_rfl), o_gt rfl (by assumption) (by intro h; cases h), t_bre (by assumption), f_bre (by assumption), o_a hT, o_b (by kernel_rfl), trivial⟩ ?_
          refine gg [.tt, .b (decide (n < 24)) true, .a _ _, .i IntKind.i64 ((↑i : Int) + 1) ((↑(i + 1) : Int)), .a _ _] ⟨t_brp (by assumption), o_a hP, oI, o_a ih2, trivial⟩ ?_
          exact ge
        · have e : arrive1 A (gt inbox i) = A := by simp [arrive1, hk, he, ht]
          rw [e]
          generalize put1 A (gt inbox i).ent = B at *
          generalize things A = n at *
          refine Wp.ev ?_
          refine gg [.b (decide ((↑i : Int) < (↑(List.length inbox) : Int))) true, .w ((0 : Int) ≤ (↑i : Int)), .n (Int.toNat (↑i : Int)) i, .g (List.map Cross.enc inbox) i (Cross.enc (gt inbox i)), .b ((gt inbox i).kind == 1) true, .tt, .tt, .tt, .tt, .b ((gt inbox i).ent.kind == 1) false, .ff, .a _ _, .b (flats [ti n]) true, .ff, .tt, .ff] ⟨tP, oW, o_n (by kernel_rfl), o_gt rfl (by assumption) (by intro h; cases h), t_bre (by assumption), f_bre (by assumption), o_a hT, o_b (by kernel_rfl), trivial⟩ ?_
          refine gg [.tt, .b (decide (n < 24)) false, .i IntKind.i64 ((↑i : Int) + 1) ((↑(i + 1) : Int)), .a _ _] ⟨f_brp (by assumption), oI, o_a ih1, trivial⟩ ?_
          exact ge
    · have e : arrive1 A (gt inbox i) = A := by simp [arrive1, hk]
      rw [e]
      generalize put1 A (gt inbox i).ent = B at *
      refine Wp.ev ?_
      refine gg [.b (decide ((↑i : Int) < (↑(List.length inbox) : Int))) true, .w ((0 : Int) ≤ (↑i : Int)), .n (Int.toNat (↑i : Int)) i, .g (List.map Cross.enc inbox) i (Cross.enc (gt inbox i)), .b ((gt inbox i).kind == 1) false, .ff, .ff, .ff, .ff, .ff, .ff, .ff, .i IntKind.i64 ((↑i : Int) + 1) ((↑(i + 1) : Int)), .a _ _] ⟨tP, oW, o_n (by kernel_rfl), o_gt rfl (by assumption) (by intro h; cases h), f_bre (by assumption), oI, o_a ih1, trivial⟩ ?_
      exact ge
theorem f_region_Arrive (c : Config) (r : Int) (s : Region) (inbox : List Cross) (hn : s.ents.length ≤ 100000) (hb : inbox.length ≤ 100000) :
    Is cx (.call 61 [.t c.enc, vi r, .t s.enc, .t (.sl 15 (inbox.map Cross.enc))] []) ⟨.ret, [.all 0 none], [.arr 9 ((arriveL s.ents inbox).map Entity.enc) none false]⟩ := by
  have h := f_region_Arrive_loop inbox hb inbox.length 0 s.ents (by omega) (by omega)
  rw [List.drop_zero] at h
  obtain ⟨f, l⟩ := s
  simp only at hn h ⊢
  have hs : small l := by unfold small; omega
  refine Wp.ev ?_
  refine gg [.a _ _, .n (List.length (List.map Cross.enc inbox)) (List.length inbox), .a _ _] ⟨o_a (f_slices_Clone_Entity l (by assumption)), o_n (by simp), o_a h, trivial⟩ ?_
  exact ge
theorem f_region_Present_loop (l : List Entity) (hn : small l) : ∀ (d i : Nat) (A : List Int), i + d = l.length → A.length ≤ i →
    Is cx (.loop 31 [0, 1, 0, 1, 1] 0 [.all 0 none, .all 1 none, vi l.length, vi i] [.arr 1 (A.map ti) none false, .arr 9 (l.map Entity.enc) none false])
      ⟨.exit 0, [.all 0 none, .all 1 none, vi l.length, vi l.length], [.arr 1 ((A ++ ((l.drop i).filter fun e => decide (e.kind = 1)).map Entity.id).map ti) none false, .arr 9 (l.map Entity.enc) none false]⟩ := by
  unfold small at hn
  intro d
  induction d with
  | zero =>
    intro i A hi hA
    rw [drop_end (by omega)]
    refine Wp.ev ?_
    refine gg [.b (decide ((↑i : Int) < (↑(List.length l) : Int))) false] ⟨fP, trivial⟩ ?_
    refine rt (a := Res.mk (Ex.exit 0) [V.all 0 none, V.all 1 none, vi (↑(List.length l) : Int), vi (↑i : Int)] [Ob.arr 1 (List.map ti A) none false, Ob.arr 9 (List.map Entity.enc l) none false]) (by kernel_rfl) ?_
    ((have hq : i = l.length := by omega); subst hq; simp)
  | succ d ih =>
    intro i A hi hA
    have hlt : i < l.length := by omega
    have ih1 := ih (i + 1) A (by omega) (by omega)
    have ih2 := ih (i + 1) (A ++ [(gt l i).id]) (by omega) (by simp; omega)
    clear ih
    rw [filter_gt _ hlt]
    refine Wp.ev ?_
    refine gg [.b (decide ((↑i : Int) < (↑(List.length l) : Int))) true, .w ((0 : Int) ≤ (↑i : Int)), .n (Int.toNat (↑i : Int)) i, .w (i < List.length (List.map Entity.enc l)), .g (List.map Entity.enc l) i (Entity.enc (gt l i))] ⟨tP, oW, o_n (by kernel_rfl), o_w (by (simp [room, appendMax]; omega)), o_gt rfl (by assumption) (by intro h; cases h), trivial⟩ ?_
    refine bre (x := (gt l i).kind) (y := 1) (by kernel_rfl) (fun h1 => ?_) (fun h1 => ?_)
    · refine gg [.w ((0 : Nat) < (8 : Nat)), .t (T.sl 0 [ti (gt l i).id]) (T.sl 0 (List.map (T.int IntKind.i64) [(gt l i).id])), .t (T.sl 0 (List.map ti A ++ List.map (T.int IntKind.i64) [(gt l i).id])) (T.sl 0 (List.map ti (A ++ [(gt l i).id]))), .w (room (List.length (List.map ti (A ++ [(gt l i).id]))) (8 : Nat)), .i IntKind.i64 ((↑i : Int) + 1) ((↑(i + 1) : Int)), .a _ _] ⟨oW, o_l (nm_cons rfl nm_nil), o_l (nm_app rfl rfl), o_w (by (simp [room, appendMax]; omega)), o_i (w64 (by (simp [room, appendMax]; omega))), o_a ih2, trivial⟩ ?_
      refine rt (a := Res.mk (Ex.exit 0) [V.all 0 none, V.all 1 none, vi (↑(List.length l) : Int), vi (↑(List.length l) : Int)] [Ob.arr 1 (List.map ti (A ++ [(gt l i).id] ++ List.map Entity.id (List.filter (fun (e : Entity) ↦ decide (e.kind = 1)) (List.drop (i + 1) l)))) none false, Ob.arr 9 (List.map Entity.enc l) none false]) (by kernel_rfl) ?_
      simp_all
    · refine gg [.i IntKind.i64 ((↑i : Int) + 1) ((↑(i + 1) : Int)), .a _ _] ⟨o_i (w64 (by (simp [room, appendMax]; omega))), o_a ih1, trivial⟩ ?_
      refine rt (a := Res.mk (Ex.exit 0) [V.all 0 none, V.all 1 none, vi (↑(List.length l) : Int), vi (↑(List.length l) : Int)] [Ob.arr 1 (List.map ti (A ++ List.map Entity.id (List.filter (fun (e : Entity) ↦ decide (e.kind = 1)) (List.drop (i + 1) l)))) none false, Ob.arr 9 (List.map Entity.enc l) none false]) (by kernel_rfl) ?_
      simp_all
theorem arrive_len {inbox : List Cross} : ∀ {A : List Entity}, (arriveL A inbox).length ≤ A.length + inbox.length := by
  induction inbox with
  | nil => intro A; simp [arriveL]
  | cons m inbox ih =>
    intro A
    have h1 : (arrive1 A m).length ≤ A.length + 1 := by
      unfold arrive1
      split
      · exact put1_len.2
      · omega
    have := @ih (arrive1 A m)
    change (arriveL (arrive1 A m) inbox).length ≤ _
    simp only [List.length_cons]
    omega
theorem f_region_Present (c : Config) (r : Int) (s : Region) (inbox : List Cross) (hn : s.ents.length ≤ 100000) (hb : inbox.length ≤ 100000) :
    Fn cx 31 [c.enc, ti r, s.enc, .sl 15 (inbox.map Cross.enc)] (.sl 1 ((presentL s.ents inbox).map ti)) := by
  have h1 := f_region_Arrive c r s inbox hn hb
  have hl := @arrive_len inbox s.ents
  unfold presentL
  generalize arriveL s.ents inbox = A at *
  have h := f_region_Present_loop A (by unfold small; omega) A.length 0 [] (by omega) (by simp)
  rw [List.drop_zero, List.nil_append] at h
  obtain ⟨f, l⟩ := s
  simp only at hn h1 ⊢
  generalize ((A.filter fun e => decide (e.kind = 1)).map Entity.id) = X at *
  refine Wp.ev ?_
  refine gg [.a _ _, .n (List.length (List.map Entity.enc A)) (List.length A), .a _ _] ⟨o_a h1, o_n (by simp), o_a h, trivial⟩ ?_
  exact ge
theorem f_grid_Corner (c : Config) (r : Int) : Is cx (.call 81 [.t c.enc, vi r] []) ⟨.ret, [vi (c.cornerX r), vi (c.cornerY r)], []⟩ := by
  have h := f_grid_is c r
  unfold Config.cornerX Config.cornerY
  cases hi : c.is r with
  | false =>
    rw [hi] at h
    refine Wp.ev ?_
    refine gg [.a _ _, .b (!false) true] ⟨o_a h, o_b (by kernel_rfl), trivial⟩ ?_
    exact ge
  | true =>
    rw [hi] at h
    have hr := Config.is_right hi
    have hi2 := (Config.is_iff hr).1 hi
    obtain ⟨hc, hrr, _⟩ := Config.right_iff.1 hr
    have k1 := tdiv_le (v := r) (k := c.cols) (m := c.rows) (by omega) (by omega) (by omega)
    have k2 := tmod_le (v := r) (k := c.cols) (by omega) (by omega)
    refine Wp.ev ?_
    refine gg [.a _ _, .b (!true) false, .w (c.cols ≠ (0 : Int)), .s (ti (Int.tmod r c.cols)), .i IntKind.i64 (Int.tmod r c.cols * 1024) (Int.tmod r c.cols * 1024), .w (c.cols ≠ (0 : Int)), .i IntKind.i64 (Int.tdiv r c.cols) (Int.tdiv r c.cols), .i IntKind.i64 (Int.tdiv r c.cols * 1024) (Int.tdiv r c.cols * 1024)] ⟨o_a h, o_b (by kernel_rfl), oW, oI, oW, oI, oI, trivial⟩ ?_
    exact ge
/-- A step under way, as a tree, and as it lies in a heap. -/
def stepT (c : Config) (r f : Int) (s : Stg) : T := .agg [ti c.cols, ti c.rows, ti c.players, ti c.window, .int .u64 c.seed, ti r, ti f, .sl 9 (s.l.map Entity.enc), ti s.made, .sl 15 (s.out.map Cross.enc)]
abbrev stepV (c : Config) (r f made : Int) (lv ov : V) : V := .agg [vi c.cols, vi c.rows, vi c.players, vi c.window, .t (.int .u64 c.seed), vi r, vi f, lv, vi made, ov]
theorem f_region_room (c : Config) (r f : Int) (s : Stg) (hn : small s.l) : Fn cx 110 [.ip 10 (stepT c r f s) 0] (.bool s.room) := by
  have h := f_entity_Things s.l hn
  unfold Stg.room
  obtain ⟨l, made, out⟩ := s
  simp only at h ⊢
  unfold stepT
  generalize things l = n at *
  by_cases h1 : made < 8
  · refine Wp.ev ?_
    refine gg [.b (decide (made < 8)) true, .tt, .tt, .tt, .tt, .a _ _, .tt, .tt] ⟨t_brp (by assumption), o_a h, trivial⟩ ?_
    refine rt (a := Res.mk Ex.ret [vb (decide (n < 24))] []) (by kernel_rfl) ?_
    simp [h1]
  · refine Wp.ev ?_
    refine gg [.b (decide (made < 8)) false, .ff, .ff, .ff, .ff, .ff, .ff] ⟨f_brp (by assumption), trivial⟩ ?_
    refine rt (a := Res.mk Ex.ret [vb false] []) (by kernel_rfl) ?_
    simp [h1]
theorem corner_le {c : Config} {r : Int} : (0 ≤ c.cornerX r ∧ c.cornerX r ≤ 4096) ∧ 0 ≤ c.cornerY r ∧ c.cornerY r ≤ 4096 := by
  unfold Config.cornerX Config.cornerY
  split
  · rename_i hi
    have hr := Config.is_right hi
    have hi2 := (Config.is_iff hr).1 hi
    obtain ⟨hc, hrr, _⟩ := Config.right_iff.1 hr
    have k1 := tdiv_le (v := r) (k := c.cols) (m := c.rows) (by omega) (by omega) (by omega)
    have k2 := tmod_le (v := r) (k := c.cols) (by omega) (by omega)
    omega
  · omega
theorem f_region_place (c : Config) (r f x y o : Int) (s : Stg) : Is cx (.call 125 [.t (.ip 10 (stepT c r f s) 0), vi x, vi y, vi o] []) ⟨.ret, [vi (placeX c r f x o), vi (placeY c r f y o)], []⟩ := by
  have h0 := f_grid_Corner c r
  have h1 := f_chance_Below 1024 c.seed [x, f, o] (by decide) (by simp [small])
  have h2 := f_chance_Below 1024 c.seed [y, f, o] (by decide) (by simp [small])
  have b1 := below_le (n := 1024) (seed := c.seed) (l := [x, f, o]) (by decide)
  have b2 := below_le (n := 1024) (seed := c.seed) (l := [y, f, o]) (by decide)
  have b3 := @corner_le c r
  unfold placeX placeY
  obtain ⟨l, made, out⟩ := s
  unfold stepT
  generalize below 1024 c.seed [x, f, o] = v1 at *
  generalize below 1024 c.seed [y, f, o] = v2 at *
  generalize c.cornerX r = v3 at *
  generalize c.cornerY r = v4 at *
  refine Wp.ev ?_
  refine gg [.a _ _] ⟨o_a h0, trivial⟩ ?_
  refine bo (by kernel_rfl) ?_ ?_
  · refine bo (by kernel_rfl) ?_ ?_
    · refine gg [.a _ _, .i IntKind.i64 (v3 + v1) (v3 + v1), .a _ _, .i IntKind.i64 (v4 + v2) (v4 + v2)] ⟨o_a h1, oI, o_a h2, oI, trivial⟩ ?_
      exact ge
    · refine gg [.a _ _, .i IntKind.i64 (v3 + v1) (v3 + v1), .a _ _, .i IntKind.i64 (v4 + v2) (v4 + v2)] ⟨o_a h1, oI, o_a h2, oI, trivial⟩ ?_
      exact ge
  · refine gg [.a _ _, .i IntKind.i64 (v3 + v1) (v3 + v1), .a _ _, .i IntKind.i64 (v4 + v2) (v4 + v2)] ⟨o_a h1, oI, o_a h2, oI, trivial⟩ ?_
    exact ge
theorem f_region_number_a (c : Config) (r f made : Int) (l : List Entity) (o : List Cross) (hr : 0 ≤ r ∧ r ≤ 16) (hf : 0 ≤ f ∧ f ≤ 10000) (hm : 0 ≤ made ∧ made ≤ 1000) :
    Is cx (.call 112 [.ptr 0 0 0] [.one 10 (stepV c r f made (.all 1 none) (.fit 15 [])) false, .arr 9 (l.map Entity.enc) none false])
      ⟨.ret, [vi (numI c r f made)], [.one 10 (stepV c r f (made + 1) (.all 1 none) (.fit 15 [])) false, .arr 9 (l.map Entity.enc) none false]⟩ := by
  have h := f_grid_Regions c
  have hl := @Config.regions_le c
  unfold numI
  generalize c.regions = g at *
  have h1 : 0 ≤ f * g ∧ f * g ≤ 160000 := ⟨Int.mul_nonneg hf.1 hl.1, Int.le_trans (Int.mul_le_mul hf.2 hl.2 hl.1 (by omega)) (by omega)⟩
  refine Wp.ev ?_
  refine gg [.i IntKind.i64 (made + 1) (made + 1), .a _ _, .i IntKind.i64 (f * g) (f * g), .i IntKind.i64 (f * g + r) (f * g + r), .i IntKind.i64 ((f * g + r) * 8) ((f * g + r) * 8), .i IntKind.i64 (1000 + (f * g + r) * 8) (1000 + (f * g + r) * 8), .i IntKind.i64 (1000 + (f * g + r) * 8 + (made + 1)) (1000 + (f * g + r) * 8 + (made + 1)), .i IntKind.i64 (1000 + (f * g + r) * 8 + (made + 1) - 1) (1000 + (f * g + r) * 8 + (made + 1) - 1)] ⟨oI, o_a h, oI, oI, oI, oI, oI, oI, trivial⟩ ?_
  exact ge
theorem f_region_number_b (c : Config) (r f made : Int) (l : List Entity) (o : List Cross) (hr : 0 ≤ r ∧ r ≤ 16) (hf : 0 ≤ f ∧ f ≤ 10000) (hm : 0 ≤ made ∧ made ≤ 1000) :
    Is cx (.call 112 [.ptr 0 0 0] [.one 10 (stepV c r f made (.all 1 none) (.all 2 none)) false, .arr 9 (l.map Entity.enc) none false, .arr 15 (o.map Cross.enc) none false])
      ⟨.ret, [vi (numI c r f made)], [.one 10 (stepV c r f (made + 1) (.all 1 none) (.all 2 none)) false, .arr 9 (l.map Entity.enc) none false, .arr 15 (o.map Cross.enc) none false]⟩ := by
  have h := f_grid_Regions c
  have hl := @Config.regions_le c
  unfold numI
  generalize c.regions = g at *
  have h1 : 0 ≤ f * g ∧ f * g ≤ 160000 := ⟨Int.mul_nonneg hf.1 hl.1, Int.le_trans (Int.mul_le_mul hf.2 hl.2 hl.1 (by omega)) (by omega)⟩
  refine Wp.ev ?_
  refine gg [.i IntKind.i64 (made + 1) (made + 1), .a _ _, .i IntKind.i64 (f * g) (f * g), .i IntKind.i64 (f * g + r) (f * g + r), .i IntKind.i64 ((f * g + r) * 8) ((f * g + r) * 8), .i IntKind.i64 (1000 + (f * g + r) * 8) (1000 + (f * g + r) * 8), .i IntKind.i64 (1000 + (f * g + r) * 8 + (made + 1)) (1000 + (f * g + r) * 8 + (made + 1)), .i IntKind.i64 (1000 + (f * g + r) * 8 + (made + 1) - 1) (1000 + (f * g + r) * 8 + (made + 1) - 1)] ⟨oI, o_a h, oI, oI, oI, oI, oI, oI, trivial⟩ ?_
  exact ge
theorem f_region_send_a (c : Config) (r f made : Int) (l : List Entity) (m : Cross) :
    Is cx (.call 124 [.ptr 0 0 0, .t m.enc] [.one 10 (stepV c r f made (.all 1 none) (.fit 15 [])) false, .arr 9 (l.map Entity.enc) none false])
      ⟨.ret, [], [.one 10 (stepV c r f made (.all 1 none) (.all 2 none)) false, .arr 9 (l.map Entity.enc) none false, .arr 15 ([{ m with frm := r, frame := f }].map Cross.enc) none false]⟩ := by
  refine Wp.ev ?_
  refine bo (by kernel_rfl) ?_ ?_
  · refine gg [.w ((0 : Nat) < (120 : Nat)), .s (T.sl 0 [T.agg [ti m.kind, ti r, ti m.to, ti f, ti m.ent.id, ti m.ent.kind, ti m.ent.x, ti m.ent.y, ti m.ent.vx, ti m.ent.vy, ti m.ent.health, ti m.ent.age, ti m.ent.owner, ti m.x, ti m.y]]), .s (T.sl 0 [T.agg [ti m.kind, ti r, ti m.to, ti f, ti m.ent.id, ti m.ent.kind, ti m.ent.x, ti m.ent.y, ti m.ent.vx, ti m.ent.vy, ti m.ent.health, ti m.ent.age, ti m.ent.owner, ti m.x, ti m.y]]), .w (room (List.length [T.agg [ti m.kind, ti r, ti m.to, ti f, ti m.ent.id, ti m.ent.kind, ti m.ent.x, ti m.ent.y, ti m.ent.vx, ti m.ent.vy, ti m.ent.health, ti m.ent.age, ti m.ent.owner, ti m.x, ti m.y]]) (120 : Nat))] ⟨o_w (by (simp [room, appendMax])), o_w (by (simp [room, appendMax])), trivial⟩ ?_
    exact ge
  · refine gg [.w ((0 : Nat) < (120 : Nat)), .s (T.sl 0 [T.agg [ti m.kind, ti r, ti m.to, ti f, ti m.ent.id, ti m.ent.kind, ti m.ent.x, ti m.ent.y, ti m.ent.vx, ti m.ent.vy, ti m.ent.health, ti m.ent.age, ti m.ent.owner, ti m.x, ti m.y]]), .s (T.sl 0 [T.agg [ti m.kind, ti r, ti m.to, ti f, ti m.ent.id, ti m.ent.kind, ti m.ent.x, ti m.ent.y, ti m.ent.vx, ti m.ent.vy, ti m.ent.health, ti m.ent.age, ti m.ent.owner, ti m.x, ti m.y]]), .w (room (List.length [T.agg [ti m.kind, ti r, ti m.to, ti f, ti m.ent.id, ti m.ent.kind, ti m.ent.x, ti m.ent.y, ti m.ent.vx, ti m.ent.vy, ti m.ent.health, ti m.ent.age, ti m.ent.owner, ti m.x, ti m.y]]) (120 : Nat))] ⟨o_w (by (simp [room, appendMax])), o_w (by (simp [room, appendMax])), trivial⟩ ?_
    exact ge
theorem f_region_send_b (c : Config) (r f made : Int) (l : List Entity) (o : List Cross) (m : Cross) (ho : o.length ≤ 100000) :
    Is cx (.call 124 [.ptr 0 0 0, .t m.enc] [.one 10 (stepV c r f made (.all 1 none) (.all 2 none)) false, .arr 9 (l.map Entity.enc) none false, .arr 15 (o.map Cross.enc) none false])
      ⟨.ret, [], [.one 10 (stepV c r f made (.all 1 none) (.all 3 none)) false, .arr 9 (l.map Entity.enc) none false, .dead, .arr 15 ((o ++ [{ m with frm := r, frame := f }]).map Cross.enc) none false]⟩ := by
  refine Wp.ev ?_
  refine bo (by kernel_rfl) ?_ ?_
  · refine gg [.w ((0 : Nat) < (120 : Nat)), .s (T.sl 0 [T.agg [ti m.kind, ti r, ti m.to, ti f, ti m.ent.id, ti m.ent.kind, ti m.ent.x, ti m.ent.y, ti m.ent.vx, ti m.ent.vy, ti m.ent.health, ti m.ent.age, ti m.ent.owner, ti m.x, ti m.y]]), .t (T.sl 0 (List.map Cross.enc o ++ [T.agg [ti m.kind, ti r, ti m.to, ti f, ti m.ent.id, ti m.ent.kind, ti m.ent.x, ti m.ent.y, ti m.ent.vx, ti m.ent.vy, ti m.ent.health, ti m.ent.age, ti m.ent.owner, ti m.x, ti m.y]])) (T.sl 0 (List.map Cross.enc (o ++ [Cross.mk m.kind r m.to f m.ent m.x m.y]))), .w (room (List.length (List.map Cross.enc (o ++ [Cross.mk m.kind r m.to f m.ent m.x m.y]))) (120 : Nat))] ⟨oW, o_l (nm_app rfl (nm_cons (e := Cross.mk m.kind r m.to f m.ent m.x m.y) rfl nm_nil)), o_w (by (simp [room, appendMax]; omega)), trivial⟩ ?_
    exact ge
  · refine gg [.w ((0 : Nat) < (120 : Nat)), .s (T.sl 0 [T.agg [ti m.kind, ti r, ti m.to, ti f, ti m.ent.id, ti m.ent.kind, ti m.ent.x, ti m.ent.y, ti m.ent.vx, ti m.ent.vy, ti m.ent.health, ti m.ent.age, ti m.ent.owner, ti m.x, ti m.y]]), .t (T.sl 0 (List.map Cross.enc o ++ [T.agg [ti m.kind, ti r, ti m.to, ti f, ti m.ent.id, ti m.ent.kind, ti m.ent.x, ti m.ent.y, ti m.ent.vx, ti m.ent.vy, ti m.ent.health, ti m.ent.age, ti m.ent.owner, ti m.x, ti m.y]])) (T.sl 0 (List.map Cross.enc (o ++ [Cross.mk m.kind r m.to f m.ent m.x m.y]))), .w (room (List.length (List.map Cross.enc (o ++ [Cross.mk m.kind r m.to f m.ent m.x m.y]))) (120 : Nat))] ⟨oW, o_l (nm_app rfl (nm_cons (e := Cross.mk m.kind r m.to f m.ent m.x m.y) rfl nm_nil)), o_w (by (simp [room, appendMax]; omega)), trivial⟩ ?_
    exact ge
end Go.Eva.S3

/- A region's step: players steer, and all move. -/
namespace Go.Eva.S3
/-- What is known of one who is still to steer. -/
def Ready (ins : List Input) (A : List Entity) (p : Entity) : Prop := (-1000000 ≤ p.age ∧ p.age ≤ 1000000) ∧ (p.kind = 1 → (1 ≤ p.id ∧ p.id ≤ ins.length) ∧ ∃ x ∈ A, x.id = p.id)
theorem f_steer_B (c : Config) (r f : Int) (ins : List Input) (hi0 : ins.length ≤ 1000000) (hr : 0 ≤ r ∧ r ≤ 16) (hf : 0 ≤ f ∧ f ≤ 10000) (R : List Entity) (hR : R.length ≤ 1000) : ∀ (d i : Nat) (A : List Entity) (made : Int), i + d = R.length → A.length ≤ 1000 + i → 0 ≤ made ∧ made ≤ 8 → (∀ j, i ≤ j → j < R.length → Ready ins A (gt R j)) →
    Is cx (.loop 62 [0, 1] 2 [.ptr 0 0 0, .t (.sl 3 (ins.map Input.enc)), .all 1 none, vi R.length, vi i] [.one 10 (stepV c r f made (.all 2 none) (.fit 15 [])) false, .arr 9 (R.map Entity.enc) none true, .arr 9 (A.map Entity.enc) none false])
      ⟨.exit 0, [.ptr 0 0 0, .t (.sl 3 (ins.map Input.enc)), .all 1 none, vi R.length, vi R.length], [.one 10 (stepV c r f ((R.drop i).foldl (steer1 c r f ins) ⟨A, made, []⟩).made (.all 2 none) (.fit 15 [])) false, .arr 9 (R.map Entity.enc) none true, .arr 9 (((R.drop i).foldl (steer1 c r f ins) ⟨A, made, []⟩).l.map Entity.enc) none false]⟩ := by
  intro d
  induction d with
  | zero =>
    intro i A made hi hA hm hP
    rw [drop_end (by omega), List.foldl_nil]
    refine Wp.ev ?_
    refine gg [.b (decide ((↑i : Int) < (↑(List.length R) : Int))) false] ⟨fP, trivial⟩ ?_
    refine rt (a := Res.mk (Ex.exit 0) [V.ptr 0 0 0, V.t (T.sl 3 (List.map Input.enc ins)), V.all 1 none, vi (↑(List.length R) : Int), vi (↑i : Int)] [Ob.one 10 (V.agg [vi c.cols, vi c.rows, vi c.players, vi c.window, V.t (T.int IntKind.u64 c.seed), vi r, vi f, V.all 2 none, vi made, V.fit 15 []]) false, Ob.arr 9 (List.map Entity.enc R) none true, Ob.arr 9 (List.map Entity.enc A) none false]) (by kernel_rfl) ?_
    ((have hq : i = R.length := by omega); subst hq; rfl)
  | succ d ih =>
    intro i A made hi hA hm hP
    have hlt : i < R.length := by omega
    rw [drop_gt hlt, List.foldl_cons]
    obtain ⟨hage, hp⟩ := hP i (Nat.le_refl _) hlt
    by_cases hk : (gt R i).kind = 1
    · obtain ⟨hid, hx⟩ := hp hk
      have hS := f_moving_Steer (gt R i) (inAt ins (gt R i).id) hage
      have hSid := (@steerE_id (gt R i) (inAt ins (gt R i).id)).1
      cases hb : (steerE (gt R i) (inAt ins (gt R i).id)).2 with
      | true =>
        rw [hb] at hS
        cases hroom : Stg.room ⟨A, made, []⟩ with
        | true =>
          obtain ⟨hm1, _⟩ := Stg.room_iff.1 hroom
          simp only at hm1
          have hrm := f_region_room c r f ⟨A, made, []⟩ (by unfold small; simp only; omega)
          rw [hroom] at hrm
          have hnum := f_region_number_a c r f made A [] hr hf (by omega)
          have e1 : steer1 c r f ins ⟨A, made, []⟩ (gt R i) = ⟨setId (put1 A (shootE (steerE (gt R i) (inAt ins (gt R i).id)).1 (inAt ins (gt R i).id) (numI c r f made))) (gt R i).id (steerE (gt R i) (inAt ins (gt R i).id)).1, made + 1, []⟩ := by simp [steer1, hk, hb, hroom]
          rw [e1]
          have hsh := f_moving_Shoot (steerE (gt R i) (inAt ins (gt R i).id)).1 (inAt ins (gt R i).id) (numI c r f made)
          generalize hE : (steerE (gt R i) (inAt ins (gt R i).id)).1 = E at *
          generalize shootE E (inAt ins (gt R i).id) (numI c r f made) = sh at *
          have hput := f_entity_Put A [sh] (by omega) (by simp)
          change Is cx _ ⟨_, _, [.arr 9 ((put1 A sh).map Entity.enc) none false]⟩ at hput
          have hpl := @put1_len A sh
          have hx1 := put1_has (e := sh) hx
          have ih1 := ih (i + 1) (setId (put1 A sh) (gt R i).id E) (made + 1) (by omega) (by rw [setId_len]; omega) (by omega) fun j h1 h2 => by
            obtain ⟨g1, g2⟩ := hP j (by omega) h2
            exact ⟨g1, fun hk => ⟨(g2 hk).1, setId_has hx1 hSid (put1_has (g2 hk).2)⟩⟩
          obtain ⟨k, hk1, hk2, _⟩ := find_lt hx1
          rw [setId_eq hk1] at ih1 ⊢
          have hF := f_entity_Find (put1 A sh) (gt R i).id (by unfold small; omega)
          rw [hk1] at hF
          generalize put1 A sh = B at *
          generalize numI c r f made = nn at *
          clear ih hP e1 hE hroom hx hx1 hk1
          unfold inAt at hS hsh
          refine Wp.ev ?_
          refine gg [.b (decide ((↑i : Int) < (↑(List.length R) : Int))) true, .w ((0 : Int) ≤ (↑i : Int)), .n (Int.toNat (↑i : Int)) i, .w (i < List.length (List.map Entity.enc R)), .g (List.map Entity.enc R) i (Entity.enc (gt R i)), .b ((gt R i).kind != 1) false, .i IntKind.i64 ((gt R i).id - 1) ((gt R i).id - 1), .w ((0 : Int) ≤ (gt R i).id - (1 : Int)), .l (Int.toNat ((gt R i).id - 1)), .g (List.map Input.enc ins) (Int.toNat ((gt R i).id - 1)) (Input.enc (gt ins (Int.toNat ((gt R i).id - 1)))), .a _ _, .tt, .tt, .a _ _, .b (flats [T.bool true]) true, .tt] ⟨tP, oW, o_n (by kernel_rfl), o_w (by (simp; omega)), o_gt rfl (by assumption) (by intro h; cases h), f_brn (by assumption), oI, oW, oT, o_a hS, o_a hrm, o_b (by kernel_rfl), trivial⟩ ?_
          refine gg [.tt] trivial ?_
          refine bo (by kernel_rfl) ?_ ?_
          · refine bo (by kernel_rfl) ?_ ?_
            · refine bo (by kernel_rfl) ?_ ?_
              · refine gg [.a _ _, .a _ _, .a _ _, .a _ _, .b (flats [ti (↑k : Int)]) true, .w ((0 : Int) ≤ (↑k : Int)), .n (Int.toNat (↑k : Int)) k, .w (k < List.length (List.map Entity.enc B)), .w (k < List.length (List.map Entity.enc B)), .t (T.sl 0 (List.set (List.map Entity.enc B) k (Entity.enc E))) (T.sl 0 (List.map Entity.enc (List.set B k E))), .i IntKind.i64 ((↑i : Int) + 1) ((↑(i + 1) : Int)), .a _ _] ⟨o_a hnum, o_a hsh, o_a hput, o_a hF, o_b (by kernel_rfl), oW, o_n (by kernel_rfl), o_w (by (simp; omega)), o_w (by (simp; omega)), o_l (nm_set rfl rfl), oI, o_a ih1, trivial⟩ ?_
                exact ge
              · refine gg [.a _ _, .a _ _, .a _ _, .a _ _, .b (flats [ti (↑k : Int)]) true, .w ((0 : Int) ≤ (↑k : Int)), .n (Int.toNat (↑k : Int)) k, .w (k < List.length (List.map Entity.enc B)), .w (k < List.length (List.map Entity.enc B)), .t (T.sl 0 (List.set (List.map Entity.enc B) k (Entity.enc E))) (T.sl 0 (List.map Entity.enc (List.set B k E))), .i IntKind.i64 ((↑i : Int) + 1) ((↑(i + 1) : Int)), .a _ _] ⟨o_a hnum, o_a hsh, o_a hput, o_a hF, o_b (by kernel_rfl), oW, o_n (by kernel_rfl), o_w (by (simp; omega)), o_w (by (simp; omega)), o_l (nm_set rfl rfl), oI, o_a ih1, trivial⟩ ?_
                exact ge
            · refine bo (by kernel_rfl) ?_ ?_
              · refine bo (by kernel_rfl) ?_ ?_
                · refine gg [.a _ _, .a _ _, .a _ _, .a _ _, .b (flats [ti (↑k : Int)]) true, .w ((0 : Int) ≤ (↑k : Int)), .n (Int.toNat (↑k : Int)) k, .w (k < List.length (List.map Entity.enc B)), .w (k < List.length (List.map Entity.enc B)), .t (T.sl 0 (List.set (List.map Entity.enc B) k (Entity.enc E))) (T.sl 0 (List.map Entity.enc (List.set B k E))), .i IntKind.i64 ((↑i : Int) + 1) ((↑(i + 1) : Int)), .a _ _] ⟨o_a hnum, o_a hsh, o_a hput, o_a hF, o_b (by kernel_rfl), oW, o_n (by kernel_rfl), o_w (by (simp; omega)), o_w (by (simp; omega)), o_l (nm_set rfl rfl), oI, o_a ih1, trivial⟩ ?_
                  exact ge
                · refine gg [.a _ _, .a _ _, .a _ _, .a _ _, .b (flats [ti (↑k : Int)]) true, .w ((0 : Int) ≤ (↑k : Int)), .n (Int.toNat (↑k : Int)) k, .w (k < List.length (List.map Entity.enc B)), .w (k < List.length (List.map Entity.enc B)), .t (T.sl 0 (List.set (List.map Entity.enc B) k (Entity.enc E))) (T.sl 0 (List.map Entity.enc (List.set B k E))), .i IntKind.i64 ((↑i : Int) + 1) ((↑(i + 1) : Int)), .a _ _] ⟨o_a hnum, o_a hsh, o_a hput, o_a hF, o_b (by kernel_rfl), oW, o_n (by kernel_rfl), o_w (by (simp; omega)), o_w (by (simp; omega)), o_l (nm_set rfl rfl), oI, o_a ih1, trivial⟩ ?_
                  exact ge
              · refine gg [.a _ _, .a _ _, .a _ _, .a _ _, .b (flats [ti (↑k : Int)]) true, .w ((0 : Int) ≤ (↑k : Int)), .n (Int.toNat (↑k : Int)) k, .w (k < List.length (List.map Entity.enc B)), .w (k < List.length (List.map Entity.enc B)), .t (T.sl 0 (List.set (List.map Entity.enc B) k (Entity.enc E))) (T.sl 0 (List.map Entity.enc (List.set B k E))), .i IntKind.i64 ((↑i : Int) + 1) ((↑(i + 1) : Int)), .a _ _] ⟨o_a hnum, o_a hsh, o_a hput, o_a hF, o_b (by kernel_rfl), oW, o_n (by kernel_rfl), o_w (by (simp; omega)), o_w (by (simp; omega)), o_l (nm_set rfl rfl), oI, o_a ih1, trivial⟩ ?_
                exact ge
          · refine bo (by kernel_rfl) ?_ ?_
            · refine bo (by kernel_rfl) ?_ ?_
              · refine bo (by kernel_rfl) ?_ ?_
                · refine gg [.a _ _, .a _ _, .a _ _, .a _ _, .b (flats [ti (↑k : Int)]) true, .w ((0 : Int) ≤ (↑k : Int)), .n (Int.toNat (↑k : Int)) k, .w (k < List.length (List.map Entity.enc B)), .w (k < List.length (List.map Entity.enc B)), .t (T.sl 0 (List.set (List.map Entity.enc B) k (Entity.enc E))) (T.sl 0 (List.map Entity.enc (List.set B k E))), .i IntKind.i64 ((↑i : Int) + 1) ((↑(i + 1) : Int)), .a _ _] ⟨o_a hnum, o_a hsh, o_a hput, o_a hF, o_b (by kernel_rfl), oW, o_n (by kernel_rfl), o_w (by (simp; omega)), o_w (by (simp; omega)), o_l (nm_set rfl rfl), oI, o_a ih1, trivial⟩ ?_
                  exact ge
                · refine gg [.a _ _, .a _ _, .a _ _, .a _ _, .b (flats [ti (↑k : Int)]) true, .w ((0 : Int) ≤ (↑k : Int)), .n (Int.toNat (↑k : Int)) k, .w (k < List.length (List.map Entity.enc B)), .w (k < List.length (List.map Entity.enc B)), .t (T.sl 0 (List.set (List.map Entity.enc B) k (Entity.enc E))) (T.sl 0 (List.map Entity.enc (List.set B k E))), .i IntKind.i64 ((↑i : Int) + 1) ((↑(i + 1) : Int)), .a _ _] ⟨o_a hnum, o_a hsh, o_a hput, o_a hF, o_b (by kernel_rfl), oW, o_n (by kernel_rfl), o_w (by (simp; omega)), o_w (by (simp; omega)), o_l (nm_set rfl rfl), oI, o_a ih1, trivial⟩ ?_
                  exact ge
              · refine bo (by kernel_rfl) ?_ ?_
                · refine bo (by kernel_rfl) ?_ ?_
                  · refine gg [.a _ _, .a _ _, .a _ _, .a _ _, .b (flats [ti (↑k : Int)]) true, .w ((0 : Int) ≤ (↑k : Int)), .n (Int.toNat (↑k : Int)) k, .w (k < List.length (List.map Entity.enc B)), .w (k < List.length (List.map Entity.enc B)), .t (T.sl 0 (List.set (List.map Entity.enc B) k (Entity.enc E))) (T.sl 0 (List.map Entity.enc (List.set B k E))), .i IntKind.i64 ((↑i : Int) + 1) ((↑(i + 1) : Int)), .a _ _] ⟨o_a hnum, o_a hsh, o_a hput, o_a hF, o_b (by kernel_rfl), oW, o_n (by kernel_rfl), o_w (by (simp; omega)), o_w (by (simp; omega)), o_l (nm_set rfl rfl), oI, o_a ih1, trivial⟩ ?_
                    exact ge
                  · refine gg [.a _ _, .a _ _, .a _ _, .a _ _, .b (flats [ti (↑k : Int)]) true, .w ((0 : Int) ≤ (↑k : Int)), .n (Int.toNat (↑k : Int)) k, .w (k < List.length (List.map Entity.enc B)), .w (k < List.length (List.map Entity.enc B)), .t (T.sl 0 (List.set (List.map Entity.enc B) k (Entity.enc E))) (T.sl 0 (List.map Entity.enc (List.set B k E))), .i IntKind.i64 ((↑i : Int) + 1) ((↑(i + 1) : Int)), .a _ _] ⟨o_a hnum, o_a hsh, o_a hput, o_a hF, o_b (by kernel_rfl), oW, o_n (by kernel_rfl), o_w (by (simp; omega)), o_w (by (simp; omega)), o_l (nm_set rfl rfl), oI, o_a ih1, trivial⟩ ?_
                    exact ge
                · refine gg [.a _ _, .a _ _, .a _ _, .a _ _, .b (flats [ti (↑k : Int)]) true, .w ((0 : Int) ≤ (↑k : Int)), .n (Int.toNat (↑k : Int)) k, .w (k < List.length (List.map Entity.enc B)), .w (k < List.length (List.map Entity.enc B)), .t (T.sl 0 (List.set (List.map Entity.enc B) k (Entity.enc E))) (T.sl 0 (List.map Entity.enc (List.set B k E))), .i IntKind.i64 ((↑i : Int) + 1) ((↑(i + 1) : Int)), .a _ _] ⟨o_a hnum, o_a hsh, o_a hput, o_a hF, o_b (by kernel_rfl), oW, o_n (by kernel_rfl), o_w (by (simp; omega)), o_w (by (simp; omega)), o_l (nm_set rfl rfl), oI, o_a ih1, trivial⟩ ?_
                  exact ge
            · refine bo (by kernel_rfl) ?_ ?_
              · refine bo (by kernel_rfl) ?_ ?_
                · refine bo (by kernel_rfl) ?_ ?_
                  · refine gg [.a _ _, .a _ _, .a _ _, .a _ _, .b (flats [ti (↑k : Int)]) true, .w ((0 : Int) ≤ (↑k : Int)), .n (Int.toNat (↑k : Int)) k, .w (k < List.length (List.map Entity.enc B)), .w (k < List.length (List.map Entity.enc B)), .t (T.sl 0 (List.set (List.map Entity.enc B) k (Entity.enc E))) (T.sl 0 (List.map Entity.enc (List.set B k E))), .i IntKind.i64 ((↑i : Int) + 1) ((↑(i + 1) : Int)), .a _ _] ⟨o_a hnum, o_a hsh, o_a hput, o_a hF, o_b (by kernel_rfl), oW, o_n (by kernel_rfl), o_w (by (simp; omega)), o_w (by (simp; omega)), o_l (nm_set rfl rfl), oI, o_a ih1, trivial⟩ ?_
                    exact ge
                  · refine gg [.a _ _, .a _ _, .a _ _, .a _ _, .b (flats [ti (↑k : Int)]) true, .w ((0 : Int) ≤ (↑k : Int)), .n (Int.toNat (↑k : Int)) k, .w (k < List.length (List.map Entity.enc B)), .w (k < List.length (List.map Entity.enc B)), .t (T.sl 0 (List.set (List.map Entity.enc B) k (Entity.enc E))) (T.sl 0 (List.map Entity.enc (List.set B k E))), .i IntKind.i64 ((↑i : Int) + 1) ((↑(i + 1) : Int)), .a _ _] ⟨o_a hnum, o_a hsh, o_a hput, o_a hF, o_b (by kernel_rfl), oW, o_n (by kernel_rfl), o_w (by (simp; omega)), o_w (by (simp; omega)), o_l (nm_set rfl rfl), oI, o_a ih1, trivial⟩ ?_
                    exact ge
                · refine bo (by kernel_rfl) ?_ ?_
                  · refine bo (by kernel_rfl) ?_ ?_
                    · refine gg [.a _ _, .a _ _, .a _ _, .a _ _, .b (flats [ti (↑k : Int)]) true, .w ((0 : Int) ≤ (↑k : Int)), .n (Int.toNat (↑k : Int)) k, .w (k < List.length (List.map Entity.enc B)), .w (k < List.length (List.map Entity.enc B)), .t (T.sl 0 (List.set (List.map Entity.enc B) k (Entity.enc E))) (T.sl 0 (List.map Entity.enc (List.set B k E))), .i IntKind.i64 ((↑i : Int) + 1) ((↑(i + 1) : Int)), .a _ _] ⟨o_a hnum, o_a hsh, o_a hput, o_a hF, o_b (by kernel_rfl), oW, o_n (by kernel_rfl), o_w (by (simp; omega)), o_w (by (simp; omega)), o_l (nm_set rfl rfl), oI, o_a ih1, trivial⟩ ?_
                      exact ge
                    · refine gg [.a _ _, .a _ _, .a _ _, .a _ _, .b (flats [ti (↑k : Int)]) true, .w ((0 : Int) ≤ (↑k : Int)), .n (Int.toNat (↑k : Int)) k, .w (k < List.length (List.map Entity.enc B)), .w (k < List.length (List.map Entity.enc B)), .t (T.sl 0 (List.set (List.map Entity.enc B) k (Entity.enc E))) (T.sl 0 (List.map Entity.enc (List.set B k E))), .i IntKind.i64 ((↑i : Int) + 1) ((↑(i + 1) : Int)), .a _ _] ⟨o_a hnum, o_a hsh, o_a hput, o_a hF, o_b (by kernel_rfl), oW, o_n (by kernel_rfl), o_w (by (simp; omega)), o_w (by (simp; omega)), o_l (nm_set rfl rfl), oI, o_a ih1, trivial⟩ ?_
                      exact ge
                  · refine gg [.a _ _, .a _ _, .a _ _, .a _ _, .b (flats [ti (↑k : Int)]) true, .w ((0 : Int) ≤ (↑k : Int)), .n (Int.toNat (↑k : Int)) k, .w (k < List.length (List.map Entity.enc B)), .w (k < List.length (List.map Entity.enc B)), .t (T.sl 0 (List.set (List.map Entity.enc B) k (Entity.enc E))) (T.sl 0 (List.map Entity.enc (List.set B k E))), .i IntKind.i64 ((↑i : Int) + 1) ((↑(i + 1) : Int)), .a _ _] ⟨o_a hnum, o_a hsh, o_a hput, o_a hF, o_b (by kernel_rfl), oW, o_n (by kernel_rfl), o_w (by (simp; omega)), o_w (by (simp; omega)), o_l (nm_set rfl rfl), oI, o_a ih1, trivial⟩ ?_
                    exact ge
              · refine gg [.a _ _, .a _ _, .a _ _, .a _ _, .b (flats [ti (↑k : Int)]) true, .w ((0 : Int) ≤ (↑k : Int)), .n (Int.toNat (↑k : Int)) k, .w (k < List.length (List.map Entity.enc B)), .w (k < List.length (List.map Entity.enc B)), .t (T.sl 0 (List.set (List.map Entity.enc B) k (Entity.enc E))) (T.sl 0 (List.map Entity.enc (List.set B k E))), .i IntKind.i64 ((↑i : Int) + 1) ((↑(i + 1) : Int)), .a _ _] ⟨o_a hnum, o_a hsh, o_a hput, o_a hF, o_b (by kernel_rfl), oW, o_n (by kernel_rfl), o_w (by (simp; omega)), o_w (by (simp; omega)), o_l (nm_set rfl rfl), oI, o_a ih1, trivial⟩ ?_
                exact ge
        | false =>
          have hrm := f_region_room c r f ⟨A, made, []⟩ (by unfold small; simp only; omega)
          rw [hroom] at hrm
          have e1 : steer1 c r f ins ⟨A, made, []⟩ (gt R i) = ⟨setId A (gt R i).id { (steerE (gt R i) (inAt ins (gt R i).id)).1 with age := 0 }, made, []⟩ := by simp [steer1, hk, hb, hroom]
          rw [e1]
          generalize hE : (steerE (gt R i) (inAt ins (gt R i).id)).1 = E at *
          have ih1 := ih (i + 1) (setId A (gt R i).id { E with age := 0 }) made (by omega) (by rw [setId_len]; omega) hm fun j h1 h2 => by
            obtain ⟨g1, g2⟩ := hP j (by omega) h2
            exact ⟨g1, fun hk => ⟨(g2 hk).1, setId_has hx hSid (g2 hk).2⟩⟩
          obtain ⟨k, hk1, hk2, _⟩ := find_lt hx
          rw [setId_eq hk1] at ih1 ⊢
          have hF := f_entity_Find A (gt R i).id (by unfold small; omega)
          rw [hk1] at hF
          clear ih hP e1 hE hroom hx hk1
          unfold inAt at hS
          refine Wp.ev ?_
          refine gg [.b (decide ((↑i : Int) < (↑(List.length R) : Int))) true, .w ((0 : Int) ≤ (↑i : Int)), .n (Int.toNat (↑i : Int)) i, .w (i < List.length (List.map Entity.enc R)), .g (List.map Entity.enc R) i (Entity.enc (gt R i)), .b ((gt R i).kind != 1) false, .i IntKind.i64 ((gt R i).id - 1) ((gt R i).id - 1), .w ((0 : Int) ≤ (gt R i).id - (1 : Int)), .l (Int.toNat ((gt R i).id - 1)), .g (List.map Input.enc ins) (Int.toNat ((gt R i).id - 1)) (Input.enc (gt ins (Int.toNat ((gt R i).id - 1)))), .a _ _, .tt, .tt, .a _ _, .b (flats [T.bool false]) true, .tt] ⟨tP, oW, o_n (by kernel_rfl), o_w (by (simp; omega)), o_gt rfl (by assumption) (by intro h; cases h), f_brn (by assumption), oI, oW, oT, o_a hS, o_a hrm, o_b (by kernel_rfl), trivial⟩ ?_
          refine gg [.ff, .tt, .a _ _, .b (flats [ti (↑k : Int)]) true, .w ((0 : Int) ≤ (↑k : Int)), .n (Int.toNat (↑k : Int)) k, .w (k < List.length (List.map Entity.enc A)), .w (k < List.length (List.map Entity.enc A)), .t (T.sl 0 (List.set (List.map Entity.enc A) k (T.agg [ti E.id, ti E.kind, ti E.x, ti E.y, ti E.vx, ti E.vy, ti E.health, ti 0, ti E.owner]))) (T.sl 0 (List.map Entity.enc (List.set A k (Entity.mk E.id E.kind E.x E.y E.vx E.vy E.health 0 E.owner)))), .i IntKind.i64 ((↑i : Int) + 1) ((↑(i + 1) : Int)), .a _ _] ⟨o_a hF, o_b (by kernel_rfl), oW, o_n (by kernel_rfl), o_w (by (simp; omega)), o_w (by (simp; omega)), o_l (nm_set (e := Entity.mk E.id E.kind E.x E.y E.vx E.vy E.health 0 E.owner) rfl rfl), oI, o_a ih1, trivial⟩ ?_
          exact ge
      | false =>
        rw [hb] at hS
        have e1 : steer1 c r f ins ⟨A, made, []⟩ (gt R i) = ⟨setId A (gt R i).id (steerE (gt R i) (inAt ins (gt R i).id)).1, made, []⟩ := by simp [steer1, hk, hb]
        rw [e1]
        generalize hE : (steerE (gt R i) (inAt ins (gt R i).id)).1 = E at *
        have ih1 := ih (i + 1) (setId A (gt R i).id E) made (by omega) (by rw [setId_len]; omega) hm fun j h1 h2 => by
          obtain ⟨g1, g2⟩ := hP j (by omega) h2
          exact ⟨g1, fun hk => ⟨(g2 hk).1, setId_has hx hSid (g2 hk).2⟩⟩
        obtain ⟨k, hk1, hk2, _⟩ := find_lt hx
        rw [setId_eq hk1] at ih1 ⊢
        have hF := f_entity_Find A (gt R i).id (by unfold small; omega)
        rw [hk1] at hF
        clear ih hP e1 hE hx hk1
        unfold inAt at hS
        refine Wp.ev ?_
        refine gg [.b (decide ((↑i : Int) < (↑(List.length R) : Int))) true, .w ((0 : Int) ≤ (↑i : Int)), .n (Int.toNat (↑i : Int)) i, .w (i < List.length (List.map Entity.enc R)), .g (List.map Entity.enc R) i (Entity.enc (gt R i)), .b ((gt R i).kind != 1) false, .i IntKind.i64 ((gt R i).id - 1) ((gt R i).id - 1), .w ((0 : Int) ≤ (gt R i).id - (1 : Int)), .l (Int.toNat ((gt R i).id - 1)), .g (List.map Input.enc ins) (Int.toNat ((gt R i).id - 1)) (Input.enc (gt ins (Int.toNat ((gt R i).id - 1)))), .a _ _, .ff, .ff, .ff, .ff, .ff] ⟨tP, oW, o_n (by kernel_rfl), o_w (by (simp; omega)), o_gt rfl (by assumption) (by intro h; cases h), f_brn (by assumption), oI, oW, oT, o_a hS, trivial⟩ ?_
        refine gg [.a _ _, .b (flats [ti (↑k : Int)]) true, .w ((0 : Int) ≤ (↑k : Int)), .n (Int.toNat (↑k : Int)) k, .w (k < List.length (List.map Entity.enc A)), .w (k < List.length (List.map Entity.enc A)), .t (T.sl 0 (List.set (List.map Entity.enc A) k (Entity.enc E))) (T.sl 0 (List.map Entity.enc (List.set A k E))), .i IntKind.i64 ((↑i : Int) + 1) ((↑(i + 1) : Int)), .a _ _] ⟨o_a hF, o_b (by kernel_rfl), oW, o_n (by kernel_rfl), o_w (by (simp; omega)), o_w (by (simp; omega)), o_l (nm_set rfl rfl), oI, o_a ih1, trivial⟩ ?_
        exact ge
    · have e1 : steer1 c r f ins ⟨A, made, []⟩ (gt R i) = ⟨A, made, []⟩ := by simp [steer1, hk]
      rw [e1]
      have ih1 := ih (i + 1) A made (by omega) (by omega) hm fun j h1 h2 => hP j (by omega) h2
      clear ih hP e1
      refine Wp.ev ?_
      refine gg [.b (decide ((↑i : Int) < (↑(List.length R) : Int))) true, .w ((0 : Int) ≤ (↑i : Int)), .n (Int.toNat (↑i : Int)) i, .w (i < List.length (List.map Entity.enc R)), .g (List.map Entity.enc R) i (Entity.enc (gt R i)), .b ((gt R i).kind != 1) true, .i IntKind.i64 ((↑i : Int) + 1) ((↑(i + 1) : Int)), .a _ _] ⟨tP, oW, o_n (by kernel_rfl), o_w (by (simp; omega)), o_gt rfl (by assumption) (by intro h; cases h), t_brn (by assumption), oI, o_a ih1, trivial⟩ ?_
      exact ge
theorem f_steer_A (c : Config) (r f : Int) (ins : List Input) (hi0 : ins.length ≤ 1000000) (hr : 0 ≤ r ∧ r ≤ 16) (hf : 0 ≤ f ∧ f ≤ 10000) : ∀ (d i : Nat) (A : List Entity) (made : Int), i + d = A.length → A.length ≤ 1000 → 0 ≤ made ∧ made ≤ 8 → (∀ j, i ≤ j → j < A.length → Ready ins A (gt A j)) →
    Is cx (.loop 62 [0, 1] 2 [.ptr 0 0 0, .t (.sl 3 (ins.map Input.enc)), .all 1 none, vi A.length, vi i] [.one 10 (stepV c r f made (.all 1 none) (.fit 15 [])) false, .arr 9 (A.map Entity.enc) none false])
      ⟨.exit 0, [.ptr 0 0 0, .t (.sl 3 (ins.map Input.enc)), .all 1 none, vi A.length, vi A.length], [.one 10 (stepV c r f ((A.drop i).foldl (steer1 c r f ins) ⟨A, made, []⟩).made (.all 1 none) (.fit 15 [])) false, .arr 9 (((A.drop i).foldl (steer1 c r f ins) ⟨A, made, []⟩).l.map Entity.enc) none false]⟩ ∨
    ∃ X : List Entity, Is cx (.loop 62 [0, 1] 2 [.ptr 0 0 0, .t (.sl 3 (ins.map Input.enc)), .all 1 none, vi A.length, vi i] [.one 10 (stepV c r f made (.all 1 none) (.fit 15 [])) false, .arr 9 (A.map Entity.enc) none false])
      ⟨.exit 0, [.ptr 0 0 0, .t (.sl 3 (ins.map Input.enc)), .all 1 none, vi A.length, vi A.length], [.one 10 (stepV c r f ((A.drop i).foldl (steer1 c r f ins) ⟨A, made, []⟩).made (.all 2 none) (.fit 15 [])) false, .arr 9 (X.map Entity.enc) none true, .arr 9 (((A.drop i).foldl (steer1 c r f ins) ⟨A, made, []⟩).l.map Entity.enc) none false]⟩ := by
  intro d
  induction d with
  | zero =>
    intro i A made hi hA hm hP
    left
    rw [drop_end (by omega), List.foldl_nil]
    refine Wp.ev ?_
    refine gg [.b (decide ((↑i : Int) < (↑(List.length A) : Int))) false] ⟨fP, trivial⟩ ?_
    refine rt (a := Res.mk (Ex.exit 0) [V.ptr 0 0 0, V.t (T.sl 3 (List.map Input.enc ins)), V.all 1 none, vi (↑(List.length A) : Int), vi (↑i : Int)] [Ob.one 10 (V.agg [vi c.cols, vi c.rows, vi c.players, vi c.window, V.t (T.int IntKind.u64 c.seed), vi r, vi f, V.all 1 none, vi made, V.fit 15 []]) false, Ob.arr 9 (List.map Entity.enc A) none false]) (by kernel_rfl) ?_
    ((have hq : i = A.length := by omega); subst hq; rfl)
  | succ d ih =>
    intro i A made hi hA hm hP
    have hlt : i < A.length := by omega
    obtain ⟨hage, hp⟩ := hP i (Nat.le_refl _) hlt
    rw [drop_gt hlt, List.foldl_cons]
    have step : ∀ (k : Nat) (E : Entity), find A (gt A i).id = k → (∃ x ∈ A, x.id = (gt A i).id) → E.id = (gt A i).id → (A.set k E).drop (i + 1) = A.drop (i + 1) ∧ (A.set k E).length = A.length ∧ ∀ j, i + 1 ≤ j → j < (A.set k E).length → Ready ins (A.set k E) (gt (A.set k E) j) := by
      intro k E hk hx hE
      have hki := find_le hlt rfl hk
      refine ⟨drop_same (by simp) fun j h1 _ => gt_set_ne (by omega), by simp, fun j h1 h2 => ?_⟩
      rw [gt_set_ne (by omega)]
      obtain ⟨g1, g2⟩ := hP j (by omega) (by simpa using h2)
      refine ⟨g1, fun hk2 => ⟨(g2 hk2).1, ?_⟩⟩
      have := setId_has hx hE (g2 hk2).2
      rwa [setId_eq hk] at this
    by_cases hk : (gt A i).kind = 1
    · obtain ⟨hid, hx⟩ := hp hk
      have hS := f_moving_Steer (gt A i) (inAt ins (gt A i).id) hage
      have hSid := (@steerE_id (gt A i) (inAt ins (gt A i).id)).1
      cases hb : (steerE (gt A i) (inAt ins (gt A i).id)).2 with
      | true =>
        rw [hb] at hS
        cases hroom : Stg.room ⟨A, made, []⟩ with
        | true =>
          right
          refine ⟨A, ?_⟩
          obtain ⟨hm1, _⟩ := Stg.room_iff.1 hroom
          simp only at hm1
          have hrm := f_region_room c r f ⟨A, made, []⟩ (by unfold small; simp only; omega)
          rw [hroom] at hrm
          have hnum := f_region_number_a c r f made A [] hr hf (by omega)
          have e1 : steer1 c r f ins ⟨A, made, []⟩ (gt A i) = ⟨setId (put1 A (shootE (steerE (gt A i) (inAt ins (gt A i).id)).1 (inAt ins (gt A i).id) (numI c r f made))) (gt A i).id (steerE (gt A i) (inAt ins (gt A i).id)).1, made + 1, []⟩ := by simp [steer1, hk, hb, hroom]
          rw [e1]
          have hsh := f_moving_Shoot (steerE (gt A i) (inAt ins (gt A i).id)).1 (inAt ins (gt A i).id) (numI c r f made)
          generalize hE : (steerE (gt A i) (inAt ins (gt A i).id)).1 = E at *
          generalize shootE E (inAt ins (gt A i).id) (numI c r f made) = sh at *
          have hput := f_entity_Put A [sh] (by omega) (by simp)
          change Is cx _ ⟨_, _, [.arr 9 ((put1 A sh).map Entity.enc) none false]⟩ at hput
          have hpl := @put1_len A sh
          have hx1 := put1_has (e := sh) hx
          have ih1 := f_steer_B c r f ins hi0 hr hf A hA d (i + 1) (setId (put1 A sh) (gt A i).id E) (made + 1) (by omega) (by rw [setId_len]; omega) (by omega) fun j h1 h2 => by
            obtain ⟨g1, g2⟩ := hP j (by omega) h2
            exact ⟨g1, fun hk => ⟨(g2 hk).1, setId_has hx1 hSid (put1_has (g2 hk).2)⟩⟩
          obtain ⟨k, hk1, hk2, _⟩ := find_lt hx1
          rw [setId_eq hk1] at ih1 ⊢
          have hF := f_entity_Find (put1 A sh) (gt A i).id (by unfold small; omega)
          rw [hk1] at hF
          generalize put1 A sh = B at *
          generalize numI c r f made = nn at *
          clear ih hP e1 hE hroom hx hx1 hk1 step
          unfold inAt at hS hsh
          refine Wp.ev ?_
          refine gg [.b (decide ((↑i : Int) < (↑(List.length A) : Int))) true, .w ((0 : Int) ≤ (↑i : Int)), .n (Int.toNat (↑i : Int)) i, .w (i < List.length (List.map Entity.enc A)), .g (List.map Entity.enc A) i (Entity.enc (gt A i)), .b ((gt A i).kind != 1) false, .i IntKind.i64 ((gt A i).id - 1) ((gt A i).id - 1), .w ((0 : Int) ≤ (gt A i).id - (1 : Int)), .l (Int.toNat ((gt A i).id - 1)), .g (List.map Input.enc ins) (Int.toNat ((gt A i).id - 1)) (Input.enc (gt ins (Int.toNat ((gt A i).id - 1)))), .a _ _, .tt, .tt, .a _ _, .b (flats [T.bool true]) true, .tt] ⟨tP, oW, o_n (by kernel_rfl), o_w (by (simp; omega)), o_gt rfl (by assumption) (by intro h; cases h), f_brn (by assumption), oI, oW, oT, o_a hS, o_a hrm, o_b (by kernel_rfl), trivial⟩ ?_
          refine gg [.tt] trivial ?_
          refine bo (by kernel_rfl) ?_ ?_
          · refine bo (by kernel_rfl) ?_ ?_
            · refine bo (by kernel_rfl) ?_ ?_
              · refine gg [.a _ _, .a _ _, .a _ _, .a _ _, .b (flats [ti (↑k : Int)]) true, .w ((0 : Int) ≤ (↑k : Int)), .n (Int.toNat (↑k : Int)) k, .w (k < List.length (List.map Entity.enc B)), .w (k < List.length (List.map Entity.enc B)), .t (T.sl 0 (List.set (List.map Entity.enc B) k (Entity.enc E))) (T.sl 0 (List.map Entity.enc (List.set B k E))), .i IntKind.i64 ((↑i : Int) + 1) ((↑(i + 1) : Int)), .a _ _] ⟨o_a hnum, o_a hsh, o_a hput, o_a hF, o_b (by kernel_rfl), oW, o_n (by kernel_rfl), o_w (by (simp; omega)), o_w (by (simp; omega)), o_l (nm_set rfl rfl), oI, o_a ih1, trivial⟩ ?_
                exact ge
              · refine gg [.a _ _, .a _ _, .a _ _, .a _ _, .b (flats [ti (↑k : Int)]) true, .w ((0 : Int) ≤ (↑k : Int)), .n (Int.toNat (↑k : Int)) k, .w (k < List.length (List.map Entity.enc B)), .w (k < List.length (List.map Entity.enc B)), .t (T.sl 0 (List.set (List.map Entity.enc B) k (Entity.enc E))) (T.sl 0 (List.map Entity.enc (List.set B k E))), .i IntKind.i64 ((↑i : Int) + 1) ((↑(i + 1) : Int)), .a _ _] ⟨o_a hnum, o_a hsh, o_a hput, o_a hF, o_b (by kernel_rfl), oW, o_n (by kernel_rfl), o_w (by (simp; omega)), o_w (by (simp; omega)), o_l (nm_set rfl rfl), oI, o_a ih1, trivial⟩ ?_
                exact ge
            · refine bo (by kernel_rfl) ?_ ?_
              · refine bo (by kernel_rfl) ?_ ?_
                · refine gg [.a _ _, .a _ _, .a _ _, .a _ _, .b (flats [ti (↑k : Int)]) true, .w ((0 : Int) ≤ (↑k : Int)), .n (Int.toNat (↑k : Int)) k, .w (k < List.length (List.map Entity.enc B)), .w (k < List.length (List.map Entity.enc B)), .t (T.sl 0 (List.set (List.map Entity.enc B) k (Entity.enc E))) (T.sl 0 (List.map Entity.enc (List.set B k E))), .i IntKind.i64 ((↑i : Int) + 1) ((↑(i + 1) : Int)), .a _ _] ⟨o_a hnum, o_a hsh, o_a hput, o_a hF, o_b (by kernel_rfl), oW, o_n (by kernel_rfl), o_w (by (simp; omega)), o_w (by (simp; omega)), o_l (nm_set rfl rfl), oI, o_a ih1, trivial⟩ ?_
                  exact ge
                · refine gg [.a _ _, .a _ _, .a _ _, .a _ _, .b (flats [ti (↑k : Int)]) true, .w ((0 : Int) ≤ (↑k : Int)), .n (Int.toNat (↑k : Int)) k, .w (k < List.length (List.map Entity.enc B)), .w (k < List.length (List.map Entity.enc B)), .t (T.sl 0 (List.set (List.map Entity.enc B) k (Entity.enc E))) (T.sl 0 (List.map Entity.enc (List.set B k E))), .i IntKind.i64 ((↑i : Int) + 1) ((↑(i + 1) : Int)), .a _ _] ⟨o_a hnum, o_a hsh, o_a hput, o_a hF, o_b (by kernel_rfl), oW, o_n (by kernel_rfl), o_w (by (simp; omega)), o_w (by (simp; omega)), o_l (nm_set rfl rfl), oI, o_a ih1, trivial⟩ ?_
                  exact ge
              · refine gg [.a _ _, .a _ _, .a _ _, .a _ _, .b (flats [ti (↑k : Int)]) true, .w ((0 : Int) ≤ (↑k : Int)), .n (Int.toNat (↑k : Int)) k, .w (k < List.length (List.map Entity.enc B)), .w (k < List.length (List.map Entity.enc B)), .t (T.sl 0 (List.set (List.map Entity.enc B) k (Entity.enc E))) (T.sl 0 (List.map Entity.enc (List.set B k E))), .i IntKind.i64 ((↑i : Int) + 1) ((↑(i + 1) : Int)), .a _ _] ⟨o_a hnum, o_a hsh, o_a hput, o_a hF, o_b (by kernel_rfl), oW, o_n (by kernel_rfl), o_w (by (simp; omega)), o_w (by (simp; omega)), o_l (nm_set rfl rfl), oI, o_a ih1, trivial⟩ ?_
                exact ge
          · refine bo (by kernel_rfl) ?_ ?_
            · refine bo (by kernel_rfl) ?_ ?_
              · refine bo (by kernel_rfl) ?_ ?_
                · refine gg [.a _ _, .a _ _, .a _ _, .a _ _, .b (flats [ti (↑k : Int)]) true, .w ((0 : Int) ≤ (↑k : Int)), .n (Int.toNat (↑k : Int)) k, .w (k < List.length (List.map Entity.enc B)), .w (k < List.length (List.map Entity.enc B)), .t (T.sl 0 (List.set (List.map Entity.enc B) k (Entity.enc E))) (T.sl 0 (List.map Entity.enc (List.set B k E))), .i IntKind.i64 ((↑i : Int) + 1) ((↑(i + 1) : Int)), .a _ _] ⟨o_a hnum, o_a hsh, o_a hput, o_a hF, o_b (by kernel_rfl), oW, o_n (by kernel_rfl), o_w (by (simp; omega)), o_w (by (simp; omega)), o_l (nm_set rfl rfl), oI, o_a ih1, trivial⟩ ?_
                  exact ge
                · refine gg [.a _ _, .a _ _, .a _ _, .a _ _, .b (flats [ti (↑k : Int)]) true, .w ((0 : Int) ≤ (↑k : Int)), .n (Int.toNat (↑k : Int)) k, .w (k < List.length (List.map Entity.enc B)), .w (k < List.length (List.map Entity.enc B)), .t (T.sl 0 (List.set (List.map Entity.enc B) k (Entity.enc E))) (T.sl 0 (List.map Entity.enc (List.set B k E))), .i IntKind.i64 ((↑i : Int) + 1) ((↑(i + 1) : Int)), .a _ _] ⟨o_a hnum, o_a hsh, o_a hput, o_a hF, o_b (by kernel_rfl), oW, o_n (by kernel_rfl), o_w (by (simp; omega)), o_w (by (simp; omega)), o_l (nm_set rfl rfl), oI, o_a ih1, trivial⟩ ?_
                  exact ge
              · refine bo (by kernel_rfl) ?_ ?_
                · refine bo (by kernel_rfl) ?_ ?_
                  · refine gg [.a _ _, .a _ _, .a _ _, .a _ _, .b (flats [ti (↑k : Int)]) true, .w ((0 : Int) ≤ (↑k : Int)), .n (Int.toNat (↑k : Int)) k, .w (k < List.length (List.map Entity.enc B)), .w (k < List.length (List.map Entity.enc B)), .t (T.sl 0 (List.set (List.map Entity.enc B) k (Entity.enc E))) (T.sl 0 (List.map Entity.enc (List.set B k E))), .i IntKind.i64 ((↑i : Int) + 1) ((↑(i + 1) : Int)), .a _ _] ⟨o_a hnum, o_a hsh, o_a hput, o_a hF, o_b (by kernel_rfl), oW, o_n (by kernel_rfl), o_w (by (simp; omega)), o_w (by (simp; omega)), o_l (nm_set rfl rfl), oI, o_a ih1, trivial⟩ ?_
                    exact ge
                  · refine gg [.a _ _, .a _ _, .a _ _, .a _ _, .b (flats [ti (↑k : Int)]) true, .w ((0 : Int) ≤ (↑k : Int)), .n (Int.toNat (↑k : Int)) k, .w (k < List.length (List.map Entity.enc B)), .w (k < List.length (List.map Entity.enc B)), .t (T.sl 0 (List.set (List.map Entity.enc B) k (Entity.enc E))) (T.sl 0 (List.map Entity.enc (List.set B k E))), .i IntKind.i64 ((↑i : Int) + 1) ((↑(i + 1) : Int)), .a _ _] ⟨o_a hnum, o_a hsh, o_a hput, o_a hF, o_b (by kernel_rfl), oW, o_n (by kernel_rfl), o_w (by (simp; omega)), o_w (by (simp; omega)), o_l (nm_set rfl rfl), oI, o_a ih1, trivial⟩ ?_
                    exact ge
                · refine gg [.a _ _, .a _ _, .a _ _, .a _ _, .b (flats [ti (↑k : Int)]) true, .w ((0 : Int) ≤ (↑k : Int)), .n (Int.toNat (↑k : Int)) k, .w (k < List.length (List.map Entity.enc B)), .w (k < List.length (List.map Entity.enc B)), .t (T.sl 0 (List.set (List.map Entity.enc B) k (Entity.enc E))) (T.sl 0 (List.map Entity.enc (List.set B k E))), .i IntKind.i64 ((↑i : Int) + 1) ((↑(i + 1) : Int)), .a _ _] ⟨o_a hnum, o_a hsh, o_a hput, o_a hF, o_b (by kernel_rfl), oW, o_n (by kernel_rfl), o_w (by (simp; omega)), o_w (by (simp; omega)), o_l (nm_set rfl rfl), oI, o_a ih1, trivial⟩ ?_
                  exact ge
            · refine bo (by kernel_rfl) ?_ ?_
              · refine bo (by kernel_rfl) ?_ ?_
                · refine bo (by kernel_rfl) ?_ ?_
                  · refine gg [.a _ _, .a _ _, .a _ _, .a _ _, .b (flats [ti (↑k : Int)]) true, .w ((0 : Int) ≤ (↑k : Int)), .n (Int.toNat (↑k : Int)) k, .w (k < List.length (List.map Entity.enc B)), .w (k < List.length (List.map Entity.enc B)), .t (T.sl 0 (List.set (List.map Entity.enc B) k (Entity.enc E))) (T.sl 0 (List.map Entity.enc (List.set B k E))), .i IntKind.i64 ((↑i : Int) + 1) ((↑(i + 1) : Int)), .a _ _] ⟨o_a hnum, o_a hsh, o_a hput, o_a hF, o_b (by kernel_rfl), oW, o_n (by kernel_rfl), o_w (by (simp; omega)), o_w (by (simp; omega)), o_l (nm_set rfl rfl), oI, o_a ih1, trivial⟩ ?_
                    exact ge
                  · refine gg [.a _ _, .a _ _, .a _ _, .a _ _, .b (flats [ti (↑k : Int)]) true, .w ((0 : Int) ≤ (↑k : Int)), .n (Int.toNat (↑k : Int)) k, .w (k < List.length (List.map Entity.enc B)), .w (k < List.length (List.map Entity.enc B)), .t (T.sl 0 (List.set (List.map Entity.enc B) k (Entity.enc E))) (T.sl 0 (List.map Entity.enc (List.set B k E))), .i IntKind.i64 ((↑i : Int) + 1) ((↑(i + 1) : Int)), .a _ _] ⟨o_a hnum, o_a hsh, o_a hput, o_a hF, o_b (by kernel_rfl), oW, o_n (by kernel_rfl), o_w (by (simp; omega)), o_w (by (simp; omega)), o_l (nm_set rfl rfl), oI, o_a ih1, trivial⟩ ?_
                    exact ge
                · refine bo (by kernel_rfl) ?_ ?_
                  · refine bo (by kernel_rfl) ?_ ?_
                    · refine gg [.a _ _, .a _ _, .a _ _, .a _ _, .b (flats [ti (↑k : Int)]) true, .w ((0 : Int) ≤ (↑k : Int)), .n (Int.toNat (↑k : Int)) k, .w (k < List.length (List.map Entity.enc B)), .w (k < List.length (List.map Entity.enc B)), .t (T.sl 0 (List.set (List.map Entity.enc B) k (Entity.enc E))) (T.sl 0 (List.map Entity.enc (List.set B k E))), .i IntKind.i64 ((↑i : Int) + 1) ((↑(i + 1) : Int)), .a _ _] ⟨o_a hnum, o_a hsh, o_a hput, o_a hF, o_b (by kernel_rfl), oW, o_n (by kernel_rfl), o_w (by (simp; omega)), o_w (by (simp; omega)), o_l (nm_set rfl rfl), oI, o_a ih1, trivial⟩ ?_
                      exact ge
                    · refine gg [.a _ _, .a _ _, .a _ _, .a _ _, .b (flats [ti (↑k : Int)]) true, .w ((0 : Int) ≤ (↑k : Int)), .n (Int.toNat (↑k : Int)) k, .w (k < List.length (List.map Entity.enc B)), .w (k < List.length (List.map Entity.enc B)), .t (T.sl 0 (List.set (List.map Entity.enc B) k (Entity.enc E))) (T.sl 0 (List.map Entity.enc (List.set B k E))), .i IntKind.i64 ((↑i : Int) + 1) ((↑(i + 1) : Int)), .a _ _] ⟨o_a hnum, o_a hsh, o_a hput, o_a hF, o_b (by kernel_rfl), oW, o_n (by kernel_rfl), o_w (by (simp; omega)), o_w (by (simp; omega)), o_l (nm_set rfl rfl), oI, o_a ih1, trivial⟩ ?_
                      exact ge
                  · refine gg [.a _ _, .a _ _, .a _ _, .a _ _, .b (flats [ti (↑k : Int)]) true, .w ((0 : Int) ≤ (↑k : Int)), .n (Int.toNat (↑k : Int)) k, .w (k < List.length (List.map Entity.enc B)), .w (k < List.length (List.map Entity.enc B)), .t (T.sl 0 (List.set (List.map Entity.enc B) k (Entity.enc E))) (T.sl 0 (List.map Entity.enc (List.set B k E))), .i IntKind.i64 ((↑i : Int) + 1) ((↑(i + 1) : Int)), .a _ _] ⟨o_a hnum, o_a hsh, o_a hput, o_a hF, o_b (by kernel_rfl), oW, o_n (by kernel_rfl), o_w (by (simp; omega)), o_w (by (simp; omega)), o_l (nm_set rfl rfl), oI, o_a ih1, trivial⟩ ?_
                    exact ge
              · refine gg [.a _ _, .a _ _, .a _ _, .a _ _, .b (flats [ti (↑k : Int)]) true, .w ((0 : Int) ≤ (↑k : Int)), .n (Int.toNat (↑k : Int)) k, .w (k < List.length (List.map Entity.enc B)), .w (k < List.length (List.map Entity.enc B)), .t (T.sl 0 (List.set (List.map Entity.enc B) k (Entity.enc E))) (T.sl 0 (List.map Entity.enc (List.set B k E))), .i IntKind.i64 ((↑i : Int) + 1) ((↑(i + 1) : Int)), .a _ _] ⟨o_a hnum, o_a hsh, o_a hput, o_a hF, o_b (by kernel_rfl), oW, o_n (by kernel_rfl), o_w (by (simp; omega)), o_w (by (simp; omega)), o_l (nm_set rfl rfl), oI, o_a ih1, trivial⟩ ?_
                exact ge
        | false =>
          have hrm := f_region_room c r f ⟨A, made, []⟩ (by unfold small; simp only; omega)
          rw [hroom] at hrm
          have e1 : steer1 c r f ins ⟨A, made, []⟩ (gt A i) = ⟨setId A (gt A i).id { (steerE (gt A i) (inAt ins (gt A i).id)).1 with age := 0 }, made, []⟩ := by simp [steer1, hk, hb, hroom]
          rw [e1]
          generalize hE : (steerE (gt A i) (inAt ins (gt A i).id)).1 = E at *
          obtain ⟨k, hk1, hk2, _⟩ := find_lt hx
          obtain ⟨s1, s2, s3⟩ := step k { E with age := 0 } hk1 hx hSid
          rw [setId_eq hk1]
          have ih1 := ih (i + 1) (A.set k { E with age := 0 }) made (by omega) (by omega) hm s3
          rw [s1, s2] at ih1
          have hF := f_entity_Find A (gt A i).id (by unfold small; omega)
          rw [hk1] at hF
          clear ih hP e1 hE hroom hx hk1 step s1 s2 s3
          unfold inAt at hS
          rcases ih1 with ih1 | ⟨X, ih1⟩
          · left
            refine Wp.ev ?_
            refine gg [.b (decide ((↑i : Int) < (↑(List.length A) : Int))) true, .w ((0 : Int) ≤ (↑i : Int)), .n (Int.toNat (↑i : Int)) i, .w (i < List.length (List.map Entity.enc A)), .g (List.map Entity.enc A) i (Entity.enc (gt A i)), .b ((gt A i).kind != 1) false, .i IntKind.i64 ((gt A i).id - 1) ((gt A i).id - 1), .w ((0 : Int) ≤ (gt A i).id - (1 : Int)), .l (Int.toNat ((gt A i).id - 1)), .g (List.map Input.enc ins) (Int.toNat ((gt A i).id - 1)) (Input.enc (gt ins (Int.toNat ((gt A i).id - 1)))), .a _ _, .tt, .tt, .a _ _, .b (flats [T.bool false]) true, .tt] ⟨tP, oW, o_n (by kernel_rfl), o_w (by (simp; omega)), o_gt rfl (by assumption) (by intro h; cases h), f_brn (by assumption), oI, oW, oT, o_a hS, o_a hrm, o_b (by kernel_rfl), trivial⟩ ?_
            refine gg [.ff, .tt, .a _ _, .b (flats [ti (↑k : Int)]) true, .w ((0 : Int) ≤ (↑k : Int)), .n (Int.toNat (↑k : Int)) k, .w (k < List.length (List.map Entity.enc A)), .w (k < List.length (List.map Entity.enc A)), .t (T.sl 0 (List.set (List.map Entity.enc A) k (T.agg [ti E.id, ti E.kind, ti E.x, ti E.y, ti E.vx, ti E.vy, ti E.health, ti 0, ti E.owner]))) (T.sl 0 (List.map Entity.enc (List.set A k (Entity.mk E.id E.kind E.x E.y E.vx E.vy E.health 0 E.owner)))), .i IntKind.i64 ((↑i : Int) + 1) ((↑(i + 1) : Int)), .a _ _] ⟨o_a hF, o_b (by kernel_rfl), oW, o_n (by kernel_rfl), o_w (by (simp; omega)), o_w (by (simp; omega)), o_l (nm_set (e := Entity.mk E.id E.kind E.x E.y E.vx E.vy E.health 0 E.owner) rfl rfl), oI, o_a ih1, trivial⟩ ?_
            exact ge
          · right
            refine ⟨X, ?_⟩
            refine Wp.ev ?_
            refine gg [.b (decide ((↑i : Int) < (↑(List.length A) : Int))) true, .w ((0 : Int) ≤ (↑i : Int)), .n (Int.toNat (↑i : Int)) i, .w (i < List.length (List.map Entity.enc A)), .g (List.map Entity.enc A) i (Entity.enc (gt A i)), .b ((gt A i).kind != 1) false, .i IntKind.i64 ((gt A i).id - 1) ((gt A i).id - 1), .w ((0 : Int) ≤ (gt A i).id - (1 : Int)), .l (Int.toNat ((gt A i).id - 1)), .g (List.map Input.enc ins) (Int.toNat ((gt A i).id - 1)) (Input.enc (gt ins (Int.toNat ((gt A i).id - 1)))), .a _ _, .tt, .tt, .a _ _, .b (flats [T.bool false]) true, .tt] ⟨tP, oW, o_n (by kernel_rfl), o_w (by (simp; omega)), o_gt rfl (by assumption) (by intro h; cases h), f_brn (by assumption), oI, oW, oT, o_a hS, o_a hrm, o_b (by kernel_rfl), trivial⟩ ?_
            refine gg [.ff, .tt, .a _ _, .b (flats [ti (↑k : Int)]) true, .w ((0 : Int) ≤ (↑k : Int)), .n (Int.toNat (↑k : Int)) k, .w (k < List.length (List.map Entity.enc A)), .w (k < List.length (List.map Entity.enc A)), .t (T.sl 0 (List.set (List.map Entity.enc A) k (T.agg [ti E.id, ti E.kind, ti E.x, ti E.y, ti E.vx, ti E.vy, ti E.health, ti 0, ti E.owner]))) (T.sl 0 (List.map Entity.enc (List.set A k (Entity.mk E.id E.kind E.x E.y E.vx E.vy E.health 0 E.owner)))), .i IntKind.i64 ((↑i : Int) + 1) ((↑(i + 1) : Int)), .a _ _] ⟨o_a hF, o_b (by kernel_rfl), oW, o_n (by kernel_rfl), o_w (by (simp; omega)), o_w (by (simp; omega)), o_l (nm_set (e := Entity.mk E.id E.kind E.x E.y E.vx E.vy E.health 0 E.owner) rfl rfl), oI, o_a ih1, trivial⟩ ?_
            exact ge
      | false =>
        rw [hb] at hS
        have e1 : steer1 c r f ins ⟨A, made, []⟩ (gt A i) = ⟨setId A (gt A i).id (steerE (gt A i) (inAt ins (gt A i).id)).1, made, []⟩ := by simp [steer1, hk, hb]
        rw [e1]
        generalize hE : (steerE (gt A i) (inAt ins (gt A i).id)).1 = E at *
        obtain ⟨k, hk1, hk2, _⟩ := find_lt hx
        obtain ⟨s1, s2, s3⟩ := step k E hk1 hx hSid
        rw [setId_eq hk1]
        have ih1 := ih (i + 1) (A.set k E) made (by omega) (by omega) hm s3
        rw [s1, s2] at ih1
        have hF := f_entity_Find A (gt A i).id (by unfold small; omega)
        rw [hk1] at hF
        clear ih hP e1 hE hx hk1 step s1 s2 s3
        unfold inAt at hS
        rcases ih1 with ih1 | ⟨X, ih1⟩
        · left
          refine Wp.ev ?_
          refine gg [.b (decide ((↑i : Int) < (↑(List.length A) : Int))) true, .w ((0 : Int) ≤ (↑i : Int)), .n (Int.toNat (↑i : Int)) i, .w (i < List.length (List.map Entity.enc A)), .g (List.map Entity.enc A) i (Entity.enc (gt A i)), .b ((gt A i).kind != 1) false, .i IntKind.i64 ((gt A i).id - 1) ((gt A i).id - 1), .w ((0 : Int) ≤ (gt A i).id - (1 : Int)), .l (Int.toNat ((gt A i).id - 1)), .g (List.map Input.enc ins) (Int.toNat ((gt A i).id - 1)) (Input.enc (gt ins (Int.toNat ((gt A i).id - 1)))), .a _ _, .ff, .ff, .ff, .ff, .ff] ⟨tP, oW, o_n (by kernel_rfl), o_w (by (simp; omega)), o_gt rfl (by assumption) (by intro h; cases h), f_brn (by assumption), oI, oW, oT, o_a hS, trivial⟩ ?_
          refine gg [.a _ _, .b (flats [ti (↑k : Int)]) true, .w ((0 : Int) ≤ (↑k : Int)), .n (Int.toNat (↑k : Int)) k, .w (k < List.length (List.map Entity.enc A)), .w (k < List.length (List.map Entity.enc A)), .t (T.sl 0 (List.set (List.map Entity.enc A) k (Entity.enc E))) (T.sl 0 (List.map Entity.enc (List.set A k E))), .i IntKind.i64 ((↑i : Int) + 1) ((↑(i + 1) : Int)), .a _ _] ⟨o_a hF, o_b (by kernel_rfl), oW, o_n (by kernel_rfl), o_w (by (simp; omega)), o_w (by (simp; omega)), o_l (nm_set rfl rfl), oI, o_a ih1, trivial⟩ ?_
          exact ge
        · right
          refine ⟨X, ?_⟩
          refine Wp.ev ?_
          refine gg [.b (decide ((↑i : Int) < (↑(List.length A) : Int))) true, .w ((0 : Int) ≤ (↑i : Int)), .n (Int.toNat (↑i : Int)) i, .w (i < List.length (List.map Entity.enc A)), .g (List.map Entity.enc A) i (Entity.enc (gt A i)), .b ((gt A i).kind != 1) false, .i IntKind.i64 ((gt A i).id - 1) ((gt A i).id - 1), .w ((0 : Int) ≤ (gt A i).id - (1 : Int)), .l (Int.toNat ((gt A i).id - 1)), .g (List.map Input.enc ins) (Int.toNat ((gt A i).id - 1)) (Input.enc (gt ins (Int.toNat ((gt A i).id - 1)))), .a _ _, .ff, .ff, .ff, .ff, .ff] ⟨tP, oW, o_n (by kernel_rfl), o_w (by (simp; omega)), o_gt rfl (by assumption) (by intro h; cases h), f_brn (by assumption), oI, oW, oT, o_a hS, trivial⟩ ?_
          refine gg [.a _ _, .b (flats [ti (↑k : Int)]) true, .w ((0 : Int) ≤ (↑k : Int)), .n (Int.toNat (↑k : Int)) k, .w (k < List.length (List.map Entity.enc A)), .w (k < List.length (List.map Entity.enc A)), .t (T.sl 0 (List.set (List.map Entity.enc A) k (Entity.enc E))) (T.sl 0 (List.map Entity.enc (List.set A k E))), .i IntKind.i64 ((↑i : Int) + 1) ((↑(i + 1) : Int)), .a _ _] ⟨o_a hF, o_b (by kernel_rfl), oW, o_n (by kernel_rfl), o_w (by (simp; omega)), o_w (by (simp; omega)), o_l (nm_set rfl rfl), oI, o_a ih1, trivial⟩ ?_
          exact ge
    · have e1 : steer1 c r f ins ⟨A, made, []⟩ (gt A i) = ⟨A, made, []⟩ := by simp [steer1, hk]
      rw [e1]
      have ih1 := ih (i + 1) A made (by omega) hA hm fun j h1 h2 => hP j (by omega) h2
      clear ih hP e1 step
      rcases ih1 with ih1 | ⟨X, ih1⟩
      · left
        refine Wp.ev ?_
        refine gg [.b (decide ((↑i : Int) < (↑(List.length A) : Int))) true, .w ((0 : Int) ≤ (↑i : Int)), .n (Int.toNat (↑i : Int)) i, .w (i < List.length (List.map Entity.enc A)), .g (List.map Entity.enc A) i (Entity.enc (gt A i)), .b ((gt A i).kind != 1) true, .i IntKind.i64 ((↑i : Int) + 1) ((↑(i + 1) : Int)), .a _ _] ⟨tP, oW, o_n (by kernel_rfl), o_w (by (simp; omega)), o_gt rfl (by assumption) (by intro h; cases h), t_brn (by assumption), oI, o_a ih1, trivial⟩ ?_
        exact ge
      · right
        refine ⟨X, ?_⟩
        refine Wp.ev ?_
        refine gg [.b (decide ((↑i : Int) < (↑(List.length A) : Int))) true, .w ((0 : Int) ≤ (↑i : Int)), .n (Int.toNat (↑i : Int)) i, .w (i < List.length (List.map Entity.enc A)), .g (List.map Entity.enc A) i (Entity.enc (gt A i)), .b ((gt A i).kind != 1) true, .i IntKind.i64 ((↑i : Int) + 1) ((↑(i + 1) : Int)), .a _ _] ⟨tP, oW, o_n (by kernel_rfl), o_w (by (simp; omega)), o_gt rfl (by assumption) (by intro h; cases h), t_brn (by assumption), oI, o_a ih1, trivial⟩ ?_
        exact ge
theorem f_region_steer (c : Config) (r f : Int) (ins : List Input) (L : List Entity) (hi0 : ins.length ≤ 1000000) (hr : 0 ≤ r ∧ r ≤ 16) (hf : 0 ≤ f ∧ f ≤ 10000) (hL : L.length ≤ 1000) (hP : ∀ p ∈ L, (-1000000 ≤ p.age ∧ p.age ≤ 1000000) ∧ (p.kind = 1 → 1 ≤ p.id ∧ p.id ≤ ins.length)) :
    Is cx (.call 62 [.ptr 0 0 0, .t (.sl 3 (ins.map Input.enc))] [.one 10 (stepV c r f 0 (.all 1 none) (.fit 15 [])) false, .arr 9 (L.map Entity.enc) none false])
      ⟨.ret, [], [.one 10 (stepV c r f (steerS c r f ins ⟨L, 0, []⟩).made (.all 1 none) (.fit 15 [])) false, .arr 9 ((steerS c r f ins ⟨L, 0, []⟩).l.map Entity.enc) none false]⟩ ∨
    ∃ X : List Entity, Is cx (.call 62 [.ptr 0 0 0, .t (.sl 3 (ins.map Input.enc))] [.one 10 (stepV c r f 0 (.all 1 none) (.fit 15 [])) false, .arr 9 (L.map Entity.enc) none false])
      ⟨.ret, [], [.one 10 (stepV c r f (steerS c r f ins ⟨L, 0, []⟩).made (.all 2 none) (.fit 15 [])) false, .arr 9 (X.map Entity.enc) none true, .arr 9 ((steerS c r f ins ⟨L, 0, []⟩).l.map Entity.enc) none false]⟩ := by
  have h := f_steer_A c r f ins hi0 hr hf L.length 0 L 0 (by omega) hL (by omega) fun j _ h2 => by
    obtain ⟨g1, g2⟩ := hP _ (gt_mem h2)
    exact ⟨g1, fun hk => ⟨g2 hk, _, gt_mem h2, rfl⟩⟩
  rw [List.drop_zero] at h
  change _ ∨ ∃ X, _ at h
  unfold steerS
  simp only
  generalize L.foldl (steer1 c r f ins) ⟨L, 0, []⟩ = S at *
  obtain ⟨A, made, o⟩ := S
  simp only at h ⊢
  rcases h with h | ⟨X, h⟩
  · left
    refine Wp.ev ?_
    refine gg [.n (List.length (List.map Entity.enc L)) (List.length L), .a _ _] ⟨o_n (by simp), o_a h, trivial⟩ ?_
    exact ge
  · right
    refine ⟨X, ?_⟩
    refine Wp.ev ?_
    refine gg [.n (List.length (List.map Entity.enc L)) (List.length L), .a _ _] ⟨o_n (by simp), o_a h, trivial⟩ ?_
    exact ge
theorem moveL_cons {c : Config} {e : Entity} {l : List Entity} : moveL c (e :: l) = (if (goE c e).2 = true then [(goE c e).1] else []) ++ moveL c l := by
  unfold moveL
  rw [List.filter_cons]
  split <;> simp
theorem f_move_loop (c : Config) (r f made : Int) (L : List Entity) (hn : small L) (ha : ∀ e ∈ L, -1000000 ≤ e.age ∧ e.age ≤ 1000000) : ∀ (d i : Nat) (A : List Entity), i + d = L.length → A.length ≤ i →
    Is cx (.loop 63 [0, 1, 0, 1] 2 [.ptr 0 0 0, .all 2 none, .all 1 none, vi L.length, vi i] [.one 10 (stepV c r f made (.all 1 none) (.fit 15 [])) false, .arr 9 (L.map Entity.enc) none false, .arr 9 (A.map Entity.enc) none false])
      ⟨.exit 0, [.ptr 0 0 0, .all 2 none, .all 1 none, vi L.length, vi L.length], [.one 10 (stepV c r f made (.all 1 none) (.fit 15 [])) false, .arr 9 (L.map Entity.enc) none false, .arr 9 ((A ++ moveL c (L.drop i)).map Entity.enc) none false]⟩ := by
  unfold small at hn
  intro d
  induction d with
  | zero =>
    intro i A hi hA
    rw [drop_end (by omega)]
    refine Wp.ev ?_
    refine gg [.b (decide ((↑i : Int) < (↑(List.length L) : Int))) false] ⟨fP, trivial⟩ ?_
    refine rt (a := Res.mk (Ex.exit 0) [V.ptr 0 0 0, V.all 2 none, V.all 1 none, vi (↑(List.length L) : Int), vi (↑i : Int)] [Ob.one 10 (V.agg [vi c.cols, vi c.rows, vi c.players, vi c.window, V.t (T.int IntKind.u64 c.seed), vi r, vi f, V.all 1 none, vi made, V.fit 15 []]) false, Ob.arr 9 (List.map Entity.enc L) none false, Ob.arr 9 (List.map Entity.enc A) none false]) (by kernel_rfl) ?_
    ((have hq : i = L.length := by omega); subst hq; simp [moveL])
  | succ d ih =>
    intro i A hi hA
    have hlt : i < L.length := by omega
    have hG := f_moving_Go c (gt L i) (ha _ (gt_mem hlt))
    have ih1 := ih (i + 1) A (by omega) (by omega)
    have ih2 := ih (i + 1) (A ++ [(goE c (gt L i)).1]) (by omega) (by simp; omega)
    clear ih
    rw [drop_gt hlt, moveL_cons]
    generalize goE c (gt L i) = eb at *
    obtain ⟨e, b⟩ := eb
    cases b with
    | true =>
      simp only [if_true]
      rw [← List.append_assoc]
      clear ih1
      refine Wp.ev ?_
      refine gg [.b (decide ((↑i : Int) < (↑(List.length L) : Int))) true, .w ((0 : Int) ≤ (↑i : Int)), .n (Int.toNat (↑i : Int)) i, .w (i < List.length (List.map Entity.enc L)), .g (List.map Entity.enc L) i (Entity.enc (gt L i))] ⟨tP, oW, o_n (by kernel_rfl), o_w (by (simp [room, appendMax]; omega)), o_gt rfl (by assumption) (by intro h; cases h), trivial⟩ ?_
      refine bo (by kernel_rfl) ?_ ?_
      · refine gg [.a _ _, .tt, .w ((0 : Nat) < (72 : Nat)), .t (T.sl 0 [Entity.enc e]) (T.sl 0 (List.map Entity.enc [e])), .t (T.sl 0 (List.map Entity.enc A ++ List.map Entity.enc [e])) (T.sl 0 (List.map Entity.enc (A ++ [e]))), .w (room (List.length (List.map Entity.enc (A ++ [e]))) (72 : Nat)), .i IntKind.i64 ((↑i : Int) + 1) ((↑(i + 1) : Int)), .a _ _] ⟨o_a hG, oW, o_l (nm_cons rfl nm_nil), o_l (nm_app rfl rfl), o_w (by (simp [room, appendMax]; omega)), o_i (w64 (by (simp [room, appendMax]; omega))), o_a ih2, trivial⟩ ?_
        exact ge
      · refine gg [.a _ _, .tt, .w ((0 : Nat) < (72 : Nat)), .t (T.sl 0 [Entity.enc e]) (T.sl 0 (List.map Entity.enc [e])), .t (T.sl 0 (List.map Entity.enc A ++ List.map Entity.enc [e])) (T.sl 0 (List.map Entity.enc (A ++ [e]))), .w (room (List.length (List.map Entity.enc (A ++ [e]))) (72 : Nat)), .i IntKind.i64 ((↑i : Int) + 1) ((↑(i + 1) : Int)), .a _ _] ⟨o_a hG, oW, o_l (nm_cons rfl nm_nil), o_l (nm_app rfl rfl), o_w (by (simp [room, appendMax]; omega)), o_i (w64 (by (simp [room, appendMax]; omega))), o_a ih2, trivial⟩ ?_
        exact ge
    | false =>
      simp only [Bool.false_eq_true, if_false, List.nil_append]
      clear ih2
      refine Wp.ev ?_
      refine gg [.b (decide ((↑i : Int) < (↑(List.length L) : Int))) true, .w ((0 : Int) ≤ (↑i : Int)), .n (Int.toNat (↑i : Int)) i, .w (i < List.length (List.map Entity.enc L)), .g (List.map Entity.enc L) i (Entity.enc (gt L i))] ⟨tP, oW, o_n (by kernel_rfl), o_w (by (simp; omega)), o_gt rfl (by assumption) (by intro h; cases h), trivial⟩ ?_
      refine bo (by kernel_rfl) ?_ ?_
      · refine gg [.a _ _, .ff, .i IntKind.i64 ((↑i : Int) + 1) ((↑(i + 1) : Int)), .a _ _] ⟨o_a hG, oI, o_a ih1, trivial⟩ ?_
        exact ge
      · refine gg [.a _ _, .ff, .i IntKind.i64 ((↑i : Int) + 1) ((↑(i + 1) : Int)), .a _ _] ⟨o_a hG, oI, o_a ih1, trivial⟩ ?_
        exact ge
theorem f_region_move (c : Config) (r f made : Int) (L : List Entity) (hn : small L) (ha : ∀ e ∈ L, -1000000 ≤ e.age ∧ e.age ≤ 1000000) :
    Is cx (.call 63 [.ptr 0 0 0] [.one 10 (stepV c r f made (.all 1 none) (.fit 15 [])) false, .arr 9 (L.map Entity.enc) none false])
      ⟨.ret, [], [.one 10 (stepV c r f made (.all 2 none) (.fit 15 [])) false, .arr 9 (L.map Entity.enc) none false, .arr 9 ((moveL c L).map Entity.enc) none false]⟩ := by
  have h := f_move_loop c r f made L hn ha L.length 0 [] (by omega) (by simp)
  rw [List.drop_zero, List.nil_append] at h
  generalize moveL c L = X at *
  refine Wp.ev ?_
  refine gg [.n (List.length (List.map Entity.enc L)) (List.length L), .a _ _] ⟨o_n (by simp), o_a h, trivial⟩ ?_
  exact ge
end Go.Eva.S3

/- A region's step: who fell, what grows, who leaves. -/
namespace Go.Eva.S3
def blastAt (r f q : Int) (e : Entity) : Cross := ⟨2, r, q, f, Entity.zero, e.x, e.y⟩
theorem f_fall_inner_b (c : Config) (r f made : Int) (A : List Entity) (k : Nat) (id : Int) (ids near : List Int) (i : Nat) (hk : k < A.length) (hA : A.length ≤ 1000) (hids : ids.length ≤ 1000) (hn : near.length ≤ 9) : ∀ (d j : Nat) (o : List Cross), j + d = near.length → o.length ≤ 50000 + j →
    Is cx (.loop 67 [0, 1, 0, 1, 1, 0, 0, 1, 1, 0, 0, 1] 2 [.ptr 0 0 0, vi id, .ptr 1 k 0, .all 2 none, vi ids.length, vi i, .t (.sl 1 (near.map ti)), vi near.length, vi j] [.one 10 (stepV c r f made (.all 1 none) (.all 3 none)) false, .arr 9 (A.map Entity.enc) none false, .arr 1 (ids.map ti) none false, .arr 15 (o.map Cross.enc) none false])
      ⟨.exit 2, [.ptr 0 0 0, vi id, .ptr 1 k 0, .all 2 none, vi ids.length, vi i, .t (.sl 1 (near.map ti)), vi near.length, vi near.length], [.one 10 (stepV c r f made (.all 1 none) (.all 3 none)) false, .arr 9 (A.map Entity.enc) none false, .arr 1 (ids.map ti) none false, .arr 15 ((o ++ (near.drop j).map fun q => blastAt r f q (gt A k)).map Cross.enc) none false]⟩ := by
  intro d
  induction d with
  | zero =>
    intro j o hj ho
    rw [drop_end (by omega)]
    refine Wp.ev ?_
    refine gg [.b (decide ((↑j : Int) < (↑(List.length near) : Int))) false] ⟨fP, trivial⟩ ?_
    refine rt (a := Res.mk (Ex.exit 2) [V.ptr 0 0 0, vi id, V.ptr 1 k 0, V.all 2 none, vi (↑(List.length ids) : Int), vi (↑i : Int), V.t (T.sl 1 (List.map ti near)), vi (↑(List.length near) : Int), vi (↑j : Int)] [Ob.one 10 (V.agg [vi c.cols, vi c.rows, vi c.players, vi c.window, V.t (T.int IntKind.u64 c.seed), vi r, vi f, V.all 1 none, vi made, V.all 3 none]) false, Ob.arr 9 (List.map Entity.enc A) none false, Ob.arr 1 (List.map ti ids) none false, Ob.arr 15 (List.map Cross.enc o) none false]) (by kernel_rfl) ?_
    ((have hq : j = near.length := by omega); subst hq; simp)
  | succ d ih =>
    intro j o hj ho
    have hlt : j < near.length := by omega
    have ih1 := ih (j + 1) (o ++ [blastAt r f (gt near j) (gt A k)]) (by omega) (by simp; omega)
    clear ih
    rw [drop_gt hlt, List.map_cons, List.append_cons]
    have hs := f_region_send_b c r f made A o ⟨2, 0, gt near j, 0, Entity.zero, (gt A k).x, (gt A k).y⟩ (by omega)
    unfold blastAt at ih1 ⊢
    unfold Entity.zero at *
    refine Wp.ev ?_
    refine gg [.b (decide ((↑j : Int) < (↑(List.length near) : Int))) true, .w ((0 : Int) ≤ (↑j : Int)), .n (Int.toNat (↑j : Int)) j, .g (List.map ti near) j (ti (gt near j)), .g (List.map Entity.enc A) k (Entity.enc (gt A k)), .g (List.map Entity.enc A) k (Entity.enc (gt A k)), .a _ _, .i IntKind.i64 ((↑j : Int) + 1) ((↑(j + 1) : Int)), .a _ _] ⟨tP, oW, o_n (by kernel_rfl), o_gt rfl (by assumption) (by intro h; cases h), o_gt rfl (by assumption) (by intro h; cases h), o_gt rfl (by assumption) (by intro h; cases h), o_a hs, oI, o_a ih1, trivial⟩ ?_
    exact ge
theorem f_fall_inner_a (c : Config) (r f made : Int) (A : List Entity) (k : Nat) (id : Int) (ids near : List Int) (i : Nat) (hk : k < A.length) (hA : A.length ≤ 1000) (hids : ids.length ≤ 1000) (hn : near.length ≤ 9) (h0 : 0 < near.length) :
    Is cx (.loop 67 [0, 1, 0, 1, 1, 0, 0, 1, 1, 0, 0, 1] 2 [.ptr 0 0 0, vi id, .ptr 1 k 0, .all 2 none, vi ids.length, vi i, .t (.sl 1 (near.map ti)), vi near.length, vi 0] [.one 10 (stepV c r f made (.all 1 none) (.fit 15 [])) false, .arr 9 (A.map Entity.enc) none false, .arr 1 (ids.map ti) none false])
      ⟨.exit 2, [.ptr 0 0 0, vi id, .ptr 1 k 0, .all 2 none, vi ids.length, vi i, .t (.sl 1 (near.map ti)), vi near.length, vi near.length], [.one 10 (stepV c r f made (.all 1 none) (.all 3 none)) false, .arr 9 (A.map Entity.enc) none false, .arr 1 (ids.map ti) none false, .arr 15 ((near.map fun q => blastAt r f q (gt A k)).map Cross.enc) none false]⟩ := by
  have hs := f_region_send_a c r f made A ⟨2, 0, gt near 0, 0, Entity.zero, (gt A k).x, (gt A k).y⟩
  have ih1 := f_fall_inner_b c r f made A k id ids near i hk hA hids hn (near.length - 1) 1 [blastAt r f (gt near 0) (gt A k)] (by omega) (by simp)
  have e : near.map (fun q => blastAt r f q (gt A k)) = [blastAt r f (gt near 0) (gt A k)] ++ (near.drop 1).map fun q => blastAt r f q (gt A k) := by
    have := drop_gt h0
    rw [List.drop_zero] at this
    conv => lhs; rw [this, List.map_cons]
    rfl
  rw [e]
  unfold blastAt at ih1 ⊢
  unfold Entity.zero at *
  refine Wp.ev ?_
  refine gg [.b (decide (0 < (↑(List.length near) : Int))) true, .w ((0 : Int) ≤ (0 : Int)), .l 0, .g (List.map ti near) 0 (ti (gt near 0)), .g (List.map Entity.enc A) k (Entity.enc (gt A k)), .g (List.map Entity.enc A) k (Entity.enc (gt A k)), .a _ _, .i IntKind.i64 1 1, .a _ _] ⟨tP, oW, o_gt rfl (by assumption) (by intro h; cases h), o_gt rfl (by assumption) (by intro h; cases h), o_gt rfl (by assumption) (by intro h; cases h), o_a hs, oK, o_a ih1, trivial⟩ ?_
  exact ge
theorem f_fall_outer_b (c : Config) (r f made : Int) (ids : List Int) (hids : ids.length ≤ 1000) : ∀ (d i : Nat) (A : List Entity) (o : List Cross), i + d = ids.length → A.length ≤ 1000 → o.length ≤ 9 * i + 9 → (∀ id ∈ ids.drop i, ∃ x ∈ A, x.id = id) →
    Is cx (.loop 67 [0, 1] 2 [.ptr 0 0 0, .all 2 none, vi ids.length, vi i] [.one 10 (stepV c r f made (.all 1 none) (.all 3 none)) false, .arr 9 (A.map Entity.enc) none false, .arr 1 (ids.map ti) none false, .arr 15 (o.map Cross.enc) none false])
      ⟨.exit 0, [.ptr 0 0 0, .all 2 none, vi ids.length, vi ids.length], [.one 10 (stepV c r f made (.all 1 none) (.all 3 none)) false, .arr 9 (((ids.drop i).foldl (fall1 c r f) ⟨A, made, o⟩).l.map Entity.enc) none false, .arr 1 (ids.map ti) none false, .arr 15 (((ids.drop i).foldl (fall1 c r f) ⟨A, made, o⟩).out.map Cross.enc) none false]⟩ := by
  intro d
  induction d with
  | zero =>
    intro i A o hi hA ho hP
    rw [drop_end (by omega), List.foldl_nil]
    refine Wp.ev ?_
    refine gg [.b (decide ((↑i : Int) < (↑(List.length ids) : Int))) false] ⟨fP, trivial⟩ ?_
    refine rt (a := Res.mk (Ex.exit 0) [V.ptr 0 0 0, V.all 2 none, vi (↑(List.length ids) : Int), vi (↑i : Int)] [Ob.one 10 (V.agg [vi c.cols, vi c.rows, vi c.players, vi c.window, V.t (T.int IntKind.u64 c.seed), vi r, vi f, V.all 1 none, vi made, V.all 3 none]) false, Ob.arr 9 (List.map Entity.enc A) none false, Ob.arr 1 (List.map ti ids) none false, Ob.arr 15 (List.map Cross.enc o) none false]) (by kernel_rfl) ?_
    ((have hq : i = ids.length := by omega); subst hq; rfl)
  | succ d ih =>
    intro i A o hi hA ho hP
    have hlt : i < ids.length := by omega
    have hd := drop_gt hlt
    have hx := hP (gt ids i) (by rw [hd]; exact List.mem_cons_self ..)
    obtain ⟨k, hk1, hk2, _⟩ := find_lt hx
    have hns := @near_small c r
    have hlenb : (o ++ blastsAt c r f (gt A k)).length ≤ 9 * (i + 1) + 9 := by simp [blastsAt]; omega
    have ih1 := ih (i + 1) (A.set k (anewE c r f (gt ids i) (gt A k))) (o ++ blastsAt c r f (gt A k)) (by omega) (by simpa using hA) hlenb fun id hid => by
      have := hP id (by rw [hd]; exact List.mem_cons_of_mem _ hid)
      exact mem_ids (map_id_set (e := anewE c r f (gt ids i) (gt A k)) hk2 rfl).symm this
    rw [hd, List.foldl_cons]
    have e1 : fall1 c r f ⟨A, made, o⟩ (gt ids i) = ⟨A.set k (anewE c r f (gt ids i) (gt A k)), made, o ++ blastsAt c r f (gt A k)⟩ := by simp [fall1, hk1]
    rw [e1]
    have hF := f_entity_Find A (gt ids i) (by unfold small; omega)
    rw [hk1] at hF
    have hN := f_grid_Near c r
    have hB := f_fall_inner_b c r f made A k (gt ids i) ids (c.near r) i hk2 hA hids hns (c.near r).length 0 o (by omega) (by omega)
    rw [List.drop_zero] at hB
    change Is cx _ ⟨_, _, [_, _, _, .arr 15 ((o ++ blastsAt c r f (gt A k)).map Cross.enc) none false]⟩ at hB
    generalize blastsAt c r f (gt A k) = bl at *
    have hpl := f_region_place c r f 1 2 (gt ids i) ⟨A.set k { gt A k with health := 100, vx := 0, vy := 0, age := 0 }, made, o ++ bl⟩
    clear ih hP e1 hx hk1 hd hlenb
    unfold anewE at ih1 ⊢
    refine Wp.ev ?_
    refine gg [.b (decide ((↑i : Int) < (↑(List.length ids) : Int))) true, .w ((0 : Int) ≤ (↑i : Int)), .n (Int.toNat (↑i : Int)) i, .w (i < List.length (List.map ti ids)), .g (List.map ti ids) i (ti (gt ids i)), .a _ _, .b (flats [ti (↑k : Int)]) true, .w ((0 : Int) ≤ (↑k : Int)), .n (Int.toNat (↑k : Int)) k, .w (k < List.length (List.map Entity.enc A)), .a _ _, .n (List.length (List.map ti (Config.near c r))) (List.length (Config.near c r)), .a _ _, .g (List.map Entity.enc A) k (Entity.enc (gt A k)), .t (T.sl 0 (List.set (List.map Entity.enc A) k (T.agg [ti (gt A k).id, ti (gt A k).kind, ti (gt A k).x, ti (gt A k).y, ti (gt A k).vx, ti (gt A k).vy, ti 100, ti (gt A k).age, ti (gt A k).owner]))) (T.sl 0 (List.map Entity.enc (List.set A k (Entity.mk (gt A k).id (gt A k).kind (gt A k).x (gt A k).y (gt A k).vx (gt A k).vy 100 (gt A k).age (gt A k).owner)))), .g (List.map Entity.enc (List.set A k (Entity.mk (gt A k).id (gt A k).kind (gt A k).x (gt A k).y (gt A k).vx (gt A k).vy 100 (gt A k).age (gt A k).owner))) k (Entity.enc (Entity.mk (gt A k).id (gt A k).kind (gt A k).x (gt A k).y (gt A k).vx (gt A k).vy 100 (gt A k).age (gt A k).owner))] ⟨tP, oW, o_n (by kernel_rfl), o_w (by (simp; omega)), o_gt rfl (by assumption) (by intro h; cases h), o_a hF, o_b (by kernel_rfl), oW, o_n (by kernel_rfl), o_w (by (simp; omega)), o_a hN, o_n (by simp), o_a hB, o_gt rfl (by assumption) (by intro h; cases h), o_l (nm_set (e := Entity.mk (gt A k).id (gt A k).kind (gt A k).x (gt A k).y (gt A k).vx (gt A k).vy 100 (gt A k).age (gt A k).owner) rfl rfl), o_gm rfl (get_set (by omega)) (by intro h; cases h), trivial⟩ ?_
    refine gg [.t (T.sl 0 (List.set (List.map Entity.enc (List.set A k (Entity.mk (gt A k).id (gt A k).kind (gt A k).x (gt A k).y (gt A k).vx (gt A k).vy 100 (gt A k).age (gt A k).owner))) k (T.agg [ti (gt A k).id, ti (gt A k).kind, ti (gt A k).x, ti (gt A k).y, ti 0, ti (gt A k).vy, ti 100, ti (gt A k).age, ti (gt A k).owner]))) (T.sl 0 (List.map Entity.enc (List.set A k (Entity.mk (gt A k).id (gt A k).kind (gt A k).x (gt A k).y 0 (gt A k).vy 100 (gt A k).age (gt A k).owner)))), .g (List.map Entity.enc (List.set A k (Entity.mk (gt A k).id (gt A k).kind (gt A k).x (gt A k).y 0 (gt A k).vy 100 (gt A k).age (gt A k).owner))) k (Entity.enc (Entity.mk (gt A k).id (gt A k).kind (gt A k).x (gt A k).y 0 (gt A k).vy 100 (gt A k).age (gt A k).owner)), .t (T.sl 0 (List.set (List.map Entity.enc (List.set A k (Entity.mk (gt A k).id (gt A k).kind (gt A k).x (gt A k).y 0 (gt A k).vy 100 (gt A k).age (gt A k).owner))) k (T.agg [ti (gt A k).id, ti (gt A k).kind, ti (gt A k).x, ti (gt A k).y, ti 0, ti 0, ti 100, ti (gt A k).age, ti (gt A k).owner]))) (T.sl 0 (List.map Entity.enc (List.set A k (Entity.mk (gt A k).id (gt A k).kind (gt A k).x (gt A k).y 0 0 100 (gt A k).age (gt A k).owner)))), .g (List.map Entity.enc (List.set A k (Entity.mk (gt A k).id (gt A k).kind (gt A k).x (gt A k).y 0 0 100 (gt A k).age (gt A k).owner))) k (Entity.enc (Entity.mk (gt A k).id (gt A k).kind (gt A k).x (gt A k).y 0 0 100 (gt A k).age (gt A k).owner)), .t (T.sl 0 (List.set (List.map Entity.enc (List.set A k (Entity.mk (gt A k).id (gt A k).kind (gt A k).x (gt A k).y 0 0 100 (gt A k).age (gt A k).owner))) k (T.agg [ti (gt A k).id, ti (gt A k).kind, ti (gt A k).x, ti (gt A k).y, ti 0, ti 0, ti 100, ti 0, ti (gt A k).owner]))) (T.sl 0 (List.map Entity.enc (List.set A k (Entity.mk (gt A k).id (gt A k).kind (gt A k).x (gt A k).y 0 0 100 0 (gt A k).owner)))), .a _ _, .b (flats [ti (placeX c r f 1 (gt ids i)), ti (placeY c r f 2 (gt ids i))]) true, .g (List.map Entity.enc (List.set A k (Entity.mk (gt A k).id (gt A k).kind (gt A k).x (gt A k).y 0 0 100 0 (gt A k).owner))) k (Entity.enc (Entity.mk (gt A k).id (gt A k).kind (gt A k).x (gt A k).y 0 0 100 0 (gt A k).owner)), .t (T.sl 0 (List.set (List.map Entity.enc (List.set A k (Entity.mk (gt A k).id (gt A k).kind (gt A k).x (gt A k).y 0 0 100 0 (gt A k).owner))) k (T.agg [ti (gt A k).id, ti (gt A k).kind, ti (placeX c r f 1 (gt ids i)), ti (gt A k).y, ti 0, ti 0, ti 100, ti 0, ti (gt A k).owner]))) (T.sl 0 (List.map Entity.enc (List.set A k (Entity.mk (gt A k).id (gt A k).kind (placeX c r f 1 (gt ids i)) (gt A k).y 0 0 100 0 (gt A k).owner)))), .g (List.map Entity.enc (List.set A k (Entity.mk (gt A k).id (gt A k).kind (placeX c r f 1 (gt ids i)) (gt A k).y 0 0 100 0 (gt A k).owner))) k (Entity.enc (Entity.mk (gt A k).id (gt A k).kind (placeX c r f 1 (gt ids i)) (gt A k).y 0 0 100 0 (gt A k).owner))] ⟨o_l (nm_eq (nm_set (e := Entity.mk (gt A k).id (gt A k).kind (gt A k).x (gt A k).y 0 (gt A k).vy 100 (gt A k).age (gt A k).owner) rfl rfl) (by simp)), o_gm rfl (get_set (by omega)) (by intro h; cases h), o_l (nm_eq (nm_set (e := Entity.mk (gt A k).id (gt A k).kind (gt A k).x (gt A k).y 0 0 100 (gt A k).age (gt A k).owner) rfl rfl) (by simp)), o_gm rfl (get_set (by omega)) (by intro h; cases h), o_l (nm_eq (nm_set (e := Entity.mk (gt A k).id (gt A k).kind (gt A k).x (gt A k).y 0 0 100 0 (gt A k).owner) rfl rfl) (by simp)), o_a hpl, o_b (by kernel_rfl), o_gm rfl (get_set (by omega)) (by intro h; cases h), o_l (nm_eq (nm_set (e := Entity.mk (gt A k).id (gt A k).kind (placeX c r f 1 (gt ids i)) (gt A k).y 0 0 100 0 (gt A k).owner) rfl rfl) (by simp)), o_gm rfl (get_set (by omega)) (by intro h; cases h), trivial⟩ ?_
    refine gg [.t (T.sl 0 (List.set (List.map Entity.enc (List.set A k (Entity.mk (gt A k).id (gt A k).kind (placeX c r f 1 (gt ids i)) (gt A k).y 0 0 100 0 (gt A k).owner))) k (T.agg [ti (gt A k).id, ti (gt A k).kind, ti (placeX c r f 1 (gt ids i)), ti (placeY c r f 2 (gt ids i)), ti 0, ti 0, ti 100, ti 0, ti (gt A k).owner]))) (T.sl 0 (List.map Entity.enc (List.set A k (Entity.mk (gt A k).id (gt A k).kind (placeX c r f 1 (gt ids i)) (placeY c r f 2 (gt ids i)) 0 0 100 0 (gt A k).owner)))), .i IntKind.i64 ((↑i : Int) + 1) ((↑(i + 1) : Int)), .a _ _] ⟨o_l (nm_eq (nm_set (e := Entity.mk (gt A k).id (gt A k).kind (placeX c r f 1 (gt ids i)) (placeY c r f 2 (gt ids i)) 0 0 100 0 (gt A k).owner) rfl rfl) (by simp)), oI, o_a ih1, trivial⟩ ?_
    exact ge
theorem f_fall_outer_a (c : Config) (r f made : Int) (ids : List Int) (hids : ids.length ≤ 1000) (A : List Entity) (hA : A.length ≤ 1000) (h0 : 0 < ids.length) (hnr : 0 < (c.near r).length) (hP : ∀ id ∈ ids, ∃ x ∈ A, x.id = id) :
    Is cx (.loop 67 [0, 1] 2 [.ptr 0 0 0, .all 2 none, vi ids.length, vi 0] [.one 10 (stepV c r f made (.all 1 none) (.fit 15 [])) false, .arr 9 (A.map Entity.enc) none false, .arr 1 (ids.map ti) none false])
      ⟨.exit 0, [.ptr 0 0 0, .all 2 none, vi ids.length, vi ids.length], [.one 10 (stepV c r f made (.all 1 none) (.all 3 none)) false, .arr 9 ((ids.foldl (fall1 c r f) ⟨A, made, []⟩).l.map Entity.enc) none false, .arr 1 (ids.map ti) none false, .arr 15 ((ids.foldl (fall1 c r f) ⟨A, made, []⟩).out.map Cross.enc) none false]⟩ := by
  have hd := drop_gt h0
  rw [List.drop_zero] at hd
  have hx := hP (gt ids 0) (gt_mem h0)
  obtain ⟨k, hk1, hk2, _⟩ := find_lt hx
  have hns := @near_small c r
  have hlenb : (blastsAt c r f (gt A k)).length ≤ 9 * 1 + 9 := by simp [blastsAt]; omega
  have ih1 := f_fall_outer_b c r f made ids hids (ids.length - 1) 1 (A.set k (anewE c r f (gt ids 0) (gt A k))) (blastsAt c r f (gt A k)) (by omega) (by simpa using hA) hlenb fun id hid => by
    have := hP id (by rw [hd]; exact List.mem_cons_of_mem _ hid)
    exact mem_ids (map_id_set (e := anewE c r f (gt ids 0) (gt A k)) hk2 rfl).symm this
  have e0 : ids.foldl (fall1 c r f) ⟨A, made, []⟩ = (ids.drop 1).foldl (fall1 c r f) (fall1 c r f ⟨A, made, []⟩ (gt ids 0)) := by
    conv => lhs; rw [hd]
    rfl
  rw [e0]
  have e1 : fall1 c r f ⟨A, made, []⟩ (gt ids 0) = ⟨A.set k (anewE c r f (gt ids 0) (gt A k)), made, blastsAt c r f (gt A k)⟩ := by simp [fall1, hk1]
  rw [e1]
  have hF := f_entity_Find A (gt ids 0) (by unfold small; omega)
  rw [hk1] at hF
  have hN := f_grid_Near c r
  have hB := f_fall_inner_a c r f made A k (gt ids 0) ids (c.near r) 0 hk2 hA hids hns hnr
  change Is cx _ ⟨_, _, [_, _, _, .arr 15 ((blastsAt c r f (gt A k)).map Cross.enc) none false]⟩ at hB
  generalize blastsAt c r f (gt A k) = bl at *
  have hpl := f_region_place c r f 1 2 (gt ids 0) ⟨A.set k { gt A k with health := 100, vx := 0, vy := 0, age := 0 }, made, bl⟩
  clear hP e1 hx hk1 hd hlenb e0
  unfold anewE at ih1 ⊢
  refine Wp.ev ?_
  refine gg [.b (decide (0 < (↑(List.length ids) : Int))) true, .w ((0 : Int) ≤ (0 : Int)), .l 0, .w ((0 : Nat) < List.length (List.map ti ids)), .g (List.map ti ids) 0 (ti (gt ids 0)), .a _ _, .b (flats [ti (↑k : Int)]) true, .w ((0 : Int) ≤ (↑k : Int)), .n (Int.toNat (↑k : Int)) k, .w (k < List.length (List.map Entity.enc A)), .a _ _, .n (List.length (List.map ti (Config.near c r))) (List.length (Config.near c r)), .a _ _, .g (List.map Entity.enc A) k (Entity.enc (gt A k)), .t (T.sl 0 (List.set (List.map Entity.enc A) k (T.agg [ti (gt A k).id, ti (gt A k).kind, ti (gt A k).x, ti (gt A k).y, ti (gt A k).vx, ti (gt A k).vy, ti 100, ti (gt A k).age, ti (gt A k).owner]))) (T.sl 0 (List.map Entity.enc (List.set A k (Entity.mk (gt A k).id (gt A k).kind (gt A k).x (gt A k).y (gt A k).vx (gt A k).vy 100 (gt A k).age (gt A k).owner)))), .g (List.map Entity.enc (List.set A k (Entity.mk (gt A k).id (gt A k).kind (gt A k).x (gt A k).y (gt A k).vx (gt A k).vy 100 (gt A k).age (gt A k).owner))) k (Entity.enc (Entity.mk (gt A k).id (gt A k).kind (gt A k).x (gt A k).y (gt A k).vx (gt A k).vy 100 (gt A k).age (gt A k).owner))] ⟨tP, oW, o_w (by (simp; omega)), o_gt rfl (by assumption) (by intro h; cases h), o_a hF, o_b (by kernel_rfl), oW, o_n (by kernel_rfl), o_w (by (simp; omega)), o_a hN, o_n (by simp), o_a hB, o_gt rfl (by assumption) (by intro h; cases h), o_l (nm_set (e := Entity.mk (gt A k).id (gt A k).kind (gt A k).x (gt A k).y (gt A k).vx (gt A k).vy 100 (gt A k).age (gt A k).owner) rfl rfl), o_gm rfl (get_set (by omega)) (by intro h; cases h), trivial⟩ ?_
  refine gg [.t (T.sl 0 (List.set (List.map Entity.enc (List.set A k (Entity.mk (gt A k).id (gt A k).kind (gt A k).x (gt A k).y (gt A k).vx (gt A k).vy 100 (gt A k).age (gt A k).owner))) k (T.agg [ti (gt A k).id, ti (gt A k).kind, ti (gt A k).x, ti (gt A k).y, ti 0, ti (gt A k).vy, ti 100, ti (gt A k).age, ti (gt A k).owner]))) (T.sl 0 (List.map Entity.enc (List.set A k (Entity.mk (gt A k).id (gt A k).kind (gt A k).x (gt A k).y 0 (gt A k).vy 100 (gt A k).age (gt A k).owner)))), .g (List.map Entity.enc (List.set A k (Entity.mk (gt A k).id (gt A k).kind (gt A k).x (gt A k).y 0 (gt A k).vy 100 (gt A k).age (gt A k).owner))) k (Entity.enc (Entity.mk (gt A k).id (gt A k).kind (gt A k).x (gt A k).y 0 (gt A k).vy 100 (gt A k).age (gt A k).owner)), .t (T.sl 0 (List.set (List.map Entity.enc (List.set A k (Entity.mk (gt A k).id (gt A k).kind (gt A k).x (gt A k).y 0 (gt A k).vy 100 (gt A k).age (gt A k).owner))) k (T.agg [ti (gt A k).id, ti (gt A k).kind, ti (gt A k).x, ti (gt A k).y, ti 0, ti 0, ti 100, ti (gt A k).age, ti (gt A k).owner]))) (T.sl 0 (List.map Entity.enc (List.set A k (Entity.mk (gt A k).id (gt A k).kind (gt A k).x (gt A k).y 0 0 100 (gt A k).age (gt A k).owner)))), .g (List.map Entity.enc (List.set A k (Entity.mk (gt A k).id (gt A k).kind (gt A k).x (gt A k).y 0 0 100 (gt A k).age (gt A k).owner))) k (Entity.enc (Entity.mk (gt A k).id (gt A k).kind (gt A k).x (gt A k).y 0 0 100 (gt A k).age (gt A k).owner)), .t (T.sl 0 (List.set (List.map Entity.enc (List.set A k (Entity.mk (gt A k).id (gt A k).kind (gt A k).x (gt A k).y 0 0 100 (gt A k).age (gt A k).owner))) k (T.agg [ti (gt A k).id, ti (gt A k).kind, ti (gt A k).x, ti (gt A k).y, ti 0, ti 0, ti 100, ti 0, ti (gt A k).owner]))) (T.sl 0 (List.map Entity.enc (List.set A k (Entity.mk (gt A k).id (gt A k).kind (gt A k).x (gt A k).y 0 0 100 0 (gt A k).owner)))), .a _ _, .b (flats [ti (placeX c r f 1 (gt ids 0)), ti (placeY c r f 2 (gt ids 0))]) true, .g (List.map Entity.enc (List.set A k (Entity.mk (gt A k).id (gt A k).kind (gt A k).x (gt A k).y 0 0 100 0 (gt A k).owner))) k (Entity.enc (Entity.mk (gt A k).id (gt A k).kind (gt A k).x (gt A k).y 0 0 100 0 (gt A k).owner)), .t (T.sl 0 (List.set (List.map Entity.enc (List.set A k (Entity.mk (gt A k).id (gt A k).kind (gt A k).x (gt A k).y 0 0 100 0 (gt A k).owner))) k (T.agg [ti (gt A k).id, ti (gt A k).kind, ti (placeX c r f 1 (gt ids 0)), ti (gt A k).y, ti 0, ti 0, ti 100, ti 0, ti (gt A k).owner]))) (T.sl 0 (List.map Entity.enc (List.set A k (Entity.mk (gt A k).id (gt A k).kind (placeX c r f 1 (gt ids 0)) (gt A k).y 0 0 100 0 (gt A k).owner)))), .g (List.map Entity.enc (List.set A k (Entity.mk (gt A k).id (gt A k).kind (placeX c r f 1 (gt ids 0)) (gt A k).y 0 0 100 0 (gt A k).owner))) k (Entity.enc (Entity.mk (gt A k).id (gt A k).kind (placeX c r f 1 (gt ids 0)) (gt A k).y 0 0 100 0 (gt A k).owner))] ⟨o_l (nm_eq (nm_set (e := Entity.mk (gt A k).id (gt A k).kind (gt A k).x (gt A k).y 0 (gt A k).vy 100 (gt A k).age (gt A k).owner) rfl rfl) (by simp)), o_gm rfl (get_set (by omega)) (by intro h; cases h), o_l (nm_eq (nm_set (e := Entity.mk (gt A k).id (gt A k).kind (gt A k).x (gt A k).y 0 0 100 (gt A k).age (gt A k).owner) rfl rfl) (by simp)), o_gm rfl (get_set (by omega)) (by intro h; cases h), o_l (nm_eq (nm_set (e := Entity.mk (gt A k).id (gt A k).kind (gt A k).x (gt A k).y 0 0 100 0 (gt A k).owner) rfl rfl) (by simp)), o_a hpl, o_b (by kernel_rfl), o_gm rfl (get_set (by omega)) (by intro h; cases h), o_l (nm_eq (nm_set (e := Entity.mk (gt A k).id (gt A k).kind (placeX c r f 1 (gt ids 0)) (gt A k).y 0 0 100 0 (gt A k).owner) rfl rfl) (by simp)), o_gm rfl (get_set (by omega)) (by intro h; cases h), trivial⟩ ?_
  refine gg [.t (T.sl 0 (List.set (List.map Entity.enc (List.set A k (Entity.mk (gt A k).id (gt A k).kind (placeX c r f 1 (gt ids 0)) (gt A k).y 0 0 100 0 (gt A k).owner))) k (T.agg [ti (gt A k).id, ti (gt A k).kind, ti (placeX c r f 1 (gt ids 0)), ti (placeY c r f 2 (gt ids 0)), ti 0, ti 0, ti 100, ti 0, ti (gt A k).owner]))) (T.sl 0 (List.map Entity.enc (List.set A k (Entity.mk (gt A k).id (gt A k).kind (placeX c r f 1 (gt ids 0)) (placeY c r f 2 (gt ids 0)) 0 0 100 0 (gt A k).owner)))), .i IntKind.i64 1 1, .a _ _] ⟨o_l (nm_eq (nm_set (e := Entity.mk (gt A k).id (gt A k).kind (placeX c r f 1 (gt ids 0)) (placeY c r f 2 (gt ids 0)) 0 0 100 0 (gt A k).owner) rfl rfl) (by simp)), oK, o_a ih1, trivial⟩ ?_
  exact ge
theorem fallen_has {L : List Entity} : ∀ id ∈ fallenL L, ∃ x ∈ L, x.id = id := by
  intro id h
  obtain ⟨x, h1, h2⟩ := List.mem_map.1 h
  exact ⟨x, (List.mem_filter.1 h1).1, h2⟩
theorem fallen_len {L : List Entity} : (fallenL L).length ≤ L.length := by
  unfold fallenL; rw [List.length_map]; exact List.length_filter_le ..
theorem f_region_fall_a (c : Config) (r f made : Int) (L : List Entity) (hL : L.length ≤ 1000) (h : fallenL L = []) :
    Is cx (.call 67 [.ptr 0 0 0] [.one 10 (stepV c r f made (.all 1 none) (.fit 15 [])) false, .arr 9 (L.map Entity.enc) none false])
      ⟨.ret, [], [.one 10 (stepV c r f made (.all 1 none) (.fit 15 [])) false, .arr 9 (L.map Entity.enc) none false]⟩ := by
  have hF := f_hitting_Fallen L (by unfold small; omega)
  rw [h] at hF
  have hl : Is cx (.loop 67 [0, 1] 2 [.ptr 0 0 0, .all 2 none, vi 0, vi 0] [.one 10 (stepV c r f made (.all 1 none) (.fit 15 [])) false, .arr 9 (L.map Entity.enc) none false, .arr 1 [] none false])
      ⟨.exit 0, [.ptr 0 0 0, .all 2 none, vi 0, vi 0], [.one 10 (stepV c r f made (.all 1 none) (.fit 15 [])) false, .arr 9 (L.map Entity.enc) none false, .arr 1 [] none false]⟩ := by
    refine Wp.ev ?_
    refine gg [.b (decide (0 < 0)) false] ⟨o_b (by kernel_rfl), trivial⟩ ?_
    exact ge
  refine Wp.ev ?_
  refine gg [.a _ _, .l 0, .a _ _] ⟨o_a hF, o_a hl, trivial⟩ ?_
  exact ge
theorem f_region_fall_b (c : Config) (r f made : Int) (L : List Entity) (hL : L.length ≤ 1000) (hnr : 0 < (c.near r).length) (h : fallenL L ≠ []) :
    Is cx (.call 67 [.ptr 0 0 0] [.one 10 (stepV c r f made (.all 1 none) (.fit 15 [])) false, .arr 9 (L.map Entity.enc) none false])
      ⟨.ret, [], [.one 10 (stepV c r f made (.all 1 none) (.all 2 none)) false, .arr 9 ((fallS c r f ⟨L, made, []⟩).l.map Entity.enc) none false, .arr 15 ((fallS c r f ⟨L, made, []⟩).out.map Cross.enc) none false]⟩ := by
  have hF := f_hitting_Fallen L (by unfold small; omega)
  have hlen := @fallen_len L
  have hP := @fallen_has L
  unfold fallS
  simp only
  have h0 : 0 < (fallenL L).length := List.length_pos_iff.2 h
  generalize fallenL L = ids at *
  have hl := f_fall_outer_a c r f made ids (by omega) L hL h0 hnr hP
  clear hP h
  generalize ids.foldl (fall1 c r f) ⟨L, made, []⟩ = S at *
  obtain ⟨A, m2, o⟩ := S
  simp only at hl ⊢
  refine Wp.ev ?_
  refine gg [.a _ _, .n (List.length (List.map ti ids)) (List.length ids), .a _ _] ⟨o_a hF, o_n (by simp), o_a hl, trivial⟩ ?_
  exact ge
theorem f_grow_loop_a (c : Config) (r f made : Int) (L : List Entity) (o : List Cross) (hL : L.length ≤ 1000) : ∀ (d i n : Nat), i + d = L.length → n ≤ i →
    Is cx (.loop 68 [0, 1, 0, 1] 2 [.ptr 0 0 0, vi n, .all 1 none, vi L.length, vi i] [.one 10 (stepV c r f made (.all 1 none) (.fit 15 [])) false, .arr 9 (L.map Entity.enc) none false])
      ⟨.exit 0, [.ptr 0 0 0, vi (n + (L.drop i).countP fun e => e.kind == 3 : Nat), .all 1 none, vi L.length, vi L.length], [.one 10 (stepV c r f made (.all 1 none) (.fit 15 [])) false, .arr 9 (L.map Entity.enc) none false]⟩ := by
  intro d
  induction d with
  | zero =>
    intro i n hi hm
    rw [drop_end (by omega)]
    refine Wp.ev ?_
    refine gg [.b (decide ((↑i : Int) < (↑(List.length L) : Int))) false] ⟨fP, trivial⟩ ?_
    refine rt (a := Res.mk (Ex.exit 0) [V.ptr 0 0 0, vi (↑n : Int), V.all 1 none, vi (↑(List.length L) : Int), vi (↑i : Int)] [Ob.one 10 (V.agg [vi c.cols, vi c.rows, vi c.players, vi c.window, V.t (T.int IntKind.u64 c.seed), vi r, vi f, V.all 1 none, vi made, V.fit 15 []]) false, Ob.arr 9 (List.map Entity.enc L) none false]) (by kernel_rfl) ?_
    ((have hq : i = L.length := by omega); subst hq; rfl)
  | succ d ih =>
    intro i n hi hm
    have hlt : i < L.length := by omega
    have ih1 := ih (i + 1) n (by omega) (by omega)
    have ih2 := ih (i + 1) (n + 1) (by omega) (by omega)
    clear ih
    rw [countP_gt _ hlt]
    refine Wp.ev ?_
    refine gg [.b (decide ((↑i : Int) < (↑(List.length L) : Int))) true, .w ((0 : Int) ≤ (↑i : Int)), .n (Int.toNat (↑i : Int)) i, .w (i < List.length (List.map Entity.enc L)), .g (List.map Entity.enc L) i (Entity.enc (gt L i))] ⟨tP, oW, o_n (by kernel_rfl), o_w (by (simp; omega)), o_gt rfl (by assumption) (by intro h; cases h), trivial⟩ ?_
    refine bre (x := (gt L i).kind) (y := 3) (by kernel_rfl) (fun h1 => ?_) (fun h1 => ?_)
    · refine gg [.i IntKind.i64 ((↑n : Int) + 1) ((↑(n + 1) : Int)), .i IntKind.i64 ((↑i : Int) + 1) ((↑(i + 1) : Int)), .a _ _] ⟨oI, oI, o_a ih2, trivial⟩ ?_
      refine rt (a := Res.mk (Ex.exit 0) [V.ptr 0 0 0, vi (↑(n + 1 + List.countP (fun (e : Entity) ↦ e.kind == 3) (List.drop (i + 1) L)) : Int), V.all 1 none, vi (↑(List.length L) : Int), vi (↑(List.length L) : Int)] [Ob.one 10 (V.agg [vi c.cols, vi c.rows, vi c.players, vi c.window, V.t (T.int IntKind.u64 c.seed), vi r, vi f, V.all 1 none, vi made, V.fit 15 []]) false, Ob.arr 9 (List.map Entity.enc L) none false]) (by kernel_rfl) ?_
      (simp_all; try omega)
    · refine gg [.i IntKind.i64 ((↑i : Int) + 1) ((↑(i + 1) : Int)), .a _ _] ⟨oI, o_a ih1, trivial⟩ ?_
      refine rt (a := Res.mk (Ex.exit 0) [V.ptr 0 0 0, vi (↑(n + List.countP (fun (e : Entity) ↦ e.kind == 3) (List.drop (i + 1) L)) : Int), V.all 1 none, vi (↑(List.length L) : Int), vi (↑(List.length L) : Int)] [Ob.one 10 (V.agg [vi c.cols, vi c.rows, vi c.players, vi c.window, V.t (T.int IntKind.u64 c.seed), vi r, vi f, V.all 1 none, vi made, V.fit 15 []]) false, Ob.arr 9 (List.map Entity.enc L) none false]) (by kernel_rfl) ?_
      (simp_all; try omega)
theorem f_region_grow_no_a (c : Config) (r f made : Int) (L : List Entity) (o : List Cross) (hL : L.length ≤ 1000) (h : below 8 c.seed [3, f, r] ≠ 0 ∨ 3 ≤ (L.countP fun e => e.kind == 3) ∨ Stg.room ⟨L, made, []⟩ = false) :
    Is cx (.call 68 [.ptr 0 0 0] [.one 10 (stepV c r f made (.all 1 none) (.fit 15 [])) false, .arr 9 (L.map Entity.enc) none false])
      ⟨.ret, [], [.one 10 (stepV c r f made (.all 1 none) (.fit 15 [])) false, .arr 9 (L.map Entity.enc) none false]⟩ := by
  have hl := f_grow_loop_a c r f made L o hL L.length 0 0 (by omega) (by omega)
  rw [List.drop_zero, Nat.zero_add] at hl
  have hb := f_chance_Below 8 c.seed [3, f, r] (by decide) (by simp [small])
  have hrm := f_region_room c r f ⟨L, made, []⟩ (by unfold small; simp only; omega)
  have hc : (L.countP fun e => e.kind == 3) ≤ L.length := List.countP_le_length
  generalize (L.countP fun e => e.kind == 3) = n at *
  generalize below 8 c.seed [3, f, r] = b at *
  generalize Stg.room ⟨L, made, []⟩ = rm at *
  by_cases h1 : b = 0
  · by_cases h2 : 3 ≤ n
    · refine Wp.ev ?_
      refine gg [.n (List.length (List.map Entity.enc L)) (List.length L), .a _ _, .a _ _, .b (b != 0) false, .ff, .ff, .b (decide ((↑n : Int) ≥ 3)) true, .tt, .tt, .tt, .tt] ⟨o_n (by simp), o_a hl, o_a hb, f_brn (by assumption), tP, trivial⟩ ?_
      exact ge
    · have h3 : rm = false := by rcases h with h | h | h; exact absurd h1 h; exact absurd h h2; exact h
      subst h3
      refine Wp.ev ?_
      refine gg [.n (List.length (List.map Entity.enc L)) (List.length L), .a _ _, .a _ _, .b (b != 0) false, .ff, .ff, .b (decide ((↑n : Int) ≥ 3)) false, .ff, .a _ _, .b (flats [T.bool false]) true, .ff, .ff, .b (!false) true] ⟨o_n (by simp), o_a hl, o_a hb, f_brn (by assumption), fP, o_a hrm, o_b (by kernel_rfl), o_b (by kernel_rfl), trivial⟩ ?_
      exact ge
  · refine Wp.ev ?_
    refine gg [.n (List.length (List.map Entity.enc L)) (List.length L), .a _ _, .a _ _, .b (b != 0) true, .tt, .tt, .tt, .tt, .tt, .tt, .tt] ⟨o_n (by simp), o_a hl, o_a hb, t_brn (by assumption), trivial⟩ ?_
    exact ge
theorem f_grow_loop_b (c : Config) (r f made : Int) (L : List Entity) (o : List Cross) (hL : L.length ≤ 1000) : ∀ (d i n : Nat), i + d = L.length → n ≤ i →
    Is cx (.loop 68 [0, 1, 0, 1] 3 [.ptr 0 0 0, vi n, .all 1 none, vi L.length, vi i] [.one 10 (stepV c r f made (.all 1 none) (.all 2 none)) false, .arr 9 (L.map Entity.enc) none false, .arr 15 (o.map Cross.enc) none false])
      ⟨.exit 0, [.ptr 0 0 0, vi (n + (L.drop i).countP fun e => e.kind == 3 : Nat), .all 1 none, vi L.length, vi L.length], [.one 10 (stepV c r f made (.all 1 none) (.all 2 none)) false, .arr 9 (L.map Entity.enc) none false, .arr 15 (o.map Cross.enc) none false]⟩ := by
  intro d
  induction d with
  | zero =>
    intro i n hi hm
    rw [drop_end (by omega)]
    refine Wp.ev ?_
    refine gg [.b (decide ((↑i : Int) < (↑(List.length L) : Int))) false] ⟨fP, trivial⟩ ?_
    refine rt (a := Res.mk (Ex.exit 0) [V.ptr 0 0 0, vi (↑n : Int), V.all 1 none, vi (↑(List.length L) : Int), vi (↑i : Int)] [Ob.one 10 (V.agg [vi c.cols, vi c.rows, vi c.players, vi c.window, V.t (T.int IntKind.u64 c.seed), vi r, vi f, V.all 1 none, vi made, V.all 2 none]) false, Ob.arr 9 (List.map Entity.enc L) none false, Ob.arr 15 (List.map Cross.enc o) none false]) (by kernel_rfl) ?_
    ((have hq : i = L.length := by omega); subst hq; rfl)
  | succ d ih =>
    intro i n hi hm
    have hlt : i < L.length := by omega
    have ih1 := ih (i + 1) n (by omega) (by omega)
    have ih2 := ih (i + 1) (n + 1) (by omega) (by omega)
    clear ih
    rw [countP_gt _ hlt]
    refine Wp.ev ?_
    refine gg [.b (decide ((↑i : Int) < (↑(List.length L) : Int))) true, .w ((0 : Int) ≤ (↑i : Int)), .n (Int.toNat (↑i : Int)) i, .w (i < List.length (List.map Entity.enc L)), .g (List.map Entity.enc L) i (Entity.enc (gt L i))] ⟨tP, oW, o_n (by kernel_rfl), o_w (by (simp; omega)), o_gt rfl (by assumption) (by intro h; cases h), trivial⟩ ?_
    refine bre (x := (gt L i).kind) (y := 3) (by kernel_rfl) (fun h1 => ?_) (fun h1 => ?_)
    · refine gg [.i IntKind.i64 ((↑n : Int) + 1) ((↑(n + 1) : Int)), .i IntKind.i64 ((↑i : Int) + 1) ((↑(i + 1) : Int)), .a _ _] ⟨oI, oI, o_a ih2, trivial⟩ ?_
      refine rt (a := Res.mk (Ex.exit 0) [V.ptr 0 0 0, vi (↑(n + 1 + List.countP (fun (e : Entity) ↦ e.kind == 3) (List.drop (i + 1) L)) : Int), V.all 1 none, vi (↑(List.length L) : Int), vi (↑(List.length L) : Int)] [Ob.one 10 (V.agg [vi c.cols, vi c.rows, vi c.players, vi c.window, V.t (T.int IntKind.u64 c.seed), vi r, vi f, V.all 1 none, vi made, V.all 2 none]) false, Ob.arr 9 (List.map Entity.enc L) none false, Ob.arr 15 (List.map Cross.enc o) none false]) (by kernel_rfl) ?_
      (simp_all; try omega)
    · refine gg [.i IntKind.i64 ((↑i : Int) + 1) ((↑(i + 1) : Int)), .a _ _] ⟨oI, o_a ih1, trivial⟩ ?_
      refine rt (a := Res.mk (Ex.exit 0) [V.ptr 0 0 0, vi (↑(n + List.countP (fun (e : Entity) ↦ e.kind == 3) (List.drop (i + 1) L)) : Int), V.all 1 none, vi (↑(List.length L) : Int), vi (↑(List.length L) : Int)] [Ob.one 10 (V.agg [vi c.cols, vi c.rows, vi c.players, vi c.window, V.t (T.int IntKind.u64 c.seed), vi r, vi f, V.all 1 none, vi made, V.all 2 none]) false, Ob.arr 9 (List.map Entity.enc L) none false, Ob.arr 15 (List.map Cross.enc o) none false]) (by kernel_rfl) ?_
      (simp_all; try omega)
theorem f_region_grow_no_b (c : Config) (r f made : Int) (L : List Entity) (o : List Cross) (hL : L.length ≤ 1000) (h : below 8 c.seed [3, f, r] ≠ 0 ∨ 3 ≤ (L.countP fun e => e.kind == 3) ∨ Stg.room ⟨L, made, o⟩ = false) :
    Is cx (.call 68 [.ptr 0 0 0] [.one 10 (stepV c r f made (.all 1 none) (.all 2 none)) false, .arr 9 (L.map Entity.enc) none false, .arr 15 (o.map Cross.enc) none false])
      ⟨.ret, [], [.one 10 (stepV c r f made (.all 1 none) (.all 2 none)) false, .arr 9 (L.map Entity.enc) none false, .arr 15 (o.map Cross.enc) none false]⟩ := by
  have hl := f_grow_loop_b c r f made L o hL L.length 0 0 (by omega) (by omega)
  rw [List.drop_zero, Nat.zero_add] at hl
  have hb := f_chance_Below 8 c.seed [3, f, r] (by decide) (by simp [small])
  have hrm := f_region_room c r f ⟨L, made, o⟩ (by unfold small; simp only; omega)
  have hc : (L.countP fun e => e.kind == 3) ≤ L.length := List.countP_le_length
  generalize (L.countP fun e => e.kind == 3) = n at *
  generalize below 8 c.seed [3, f, r] = b at *
  generalize Stg.room ⟨L, made, o⟩ = rm at *
  by_cases h1 : b = 0
  · by_cases h2 : 3 ≤ n
    · refine Wp.ev ?_
      refine gg [.n (List.length (List.map Entity.enc L)) (List.length L), .a _ _, .a _ _, .b (b != 0) false, .ff, .ff, .b (decide ((↑n : Int) ≥ 3)) true, .tt, .tt, .tt, .tt] ⟨o_n (by simp), o_a hl, o_a hb, f_brn (by assumption), tP, trivial⟩ ?_
      exact ge
    · have h3 : rm = false := by rcases h with h | h | h; exact absurd h1 h; exact absurd h h2; exact h
      subst h3
      refine Wp.ev ?_
      refine gg [.n (List.length (List.map Entity.enc L)) (List.length L), .a _ _, .a _ _, .b (b != 0) false, .ff, .ff, .b (decide ((↑n : Int) ≥ 3)) false, .ff, .a _ _, .b (flats [T.bool false]) true, .ff, .ff, .b (!false) true] ⟨o_n (by simp), o_a hl, o_a hb, f_brn (by assumption), fP, o_a hrm, o_b (by kernel_rfl), o_b (by kernel_rfl), trivial⟩ ?_
      exact ge
  · refine Wp.ev ?_
    refine gg [.n (List.length (List.map Entity.enc L)) (List.length L), .a _ _, .a _ _, .b (b != 0) true, .tt, .tt, .tt, .tt, .tt, .tt, .tt] ⟨o_n (by simp), o_a hl, o_a hb, t_brn (by assumption), trivial⟩ ?_
    exact ge
theorem f_region_grow_yes_a (c : Config) (r f made : Int) (L : List Entity) (hL : L.length ≤ 1000) (hr : 0 ≤ r ∧ r ≤ 16) (hf : 0 ≤ f ∧ f ≤ 10000) (hm : 0 ≤ made ∧ made ≤ 1000) (h : ¬ (below 8 c.seed [3, f, r] ≠ 0 ∨ 3 ≤ (L.countP fun e => e.kind == 3) ∨ Stg.room ⟨L, made, []⟩ = false)) :
    Is cx (.call 68 [.ptr 0 0 0] [.one 10 (stepV c r f made (.all 1 none) (.fit 15 [])) false, .arr 9 (L.map Entity.enc) none false])
      ⟨.ret, [], [.one 10 (stepV c r f (made + 1) (.all 2 none) (.fit 15 [])) false, .arr 9 (L.map Entity.enc) none true, .arr 9 ((put1 L (gemE c r f made)).map Entity.enc) none false]⟩ := by
  have hl := f_grow_loop_a c r f made L [] hL L.length 0 0 (by omega) (by omega)
  rw [List.drop_zero, Nat.zero_add] at hl
  have hb := f_chance_Below 8 c.seed [3, f, r] (by decide) (by simp [small])
  have hrm := f_region_room c r f ⟨L, made, []⟩ (by unfold small; simp only; omega)
  have hc : (L.countP fun e => e.kind == 3) ≤ L.length := List.countP_le_length
  have hpl := f_region_place c r f 4 5 r ⟨L, made, []⟩
  have hnum := f_region_number_a c r f made L [] hr hf hm
  have hput := f_entity_Put L [gemE c r f made] (by omega) (by simp)
  change Is cx _ ⟨_, _, [.arr 9 ((put1 L (gemE c r f made)).map Entity.enc) none false]⟩ at hput
  unfold gemE at *
  generalize (L.countP fun e => e.kind == 3) = n at *
  generalize below 8 c.seed [3, f, r] = b at *
  generalize Stg.room ⟨L, made, []⟩ = rm at *
  generalize numI c r f made = nn at *
  have h1 : b = 0 := by
    by_cases q : b = 0
    · exact q
    · exact absurd (Or.inl q) h
  have h2 : ¬ 3 ≤ n := fun q => h (.inr (.inl q))
  have h3 : rm = true := by
    cases rm with
    | true => rfl
    | false => exact absurd (Or.inr (Or.inr rfl)) h
  subst h1 h3
  clear h
  refine Wp.ev ?_
  refine gg [.n (List.length (List.map Entity.enc L)) (List.length L), .a _ _, .a _ _, .b (0 != 0) false, .ff, .ff, .b (decide ((↑n : Int) ≥ 3)) false, .ff, .a _ _, .b (flats [T.bool true]) true, .ff, .ff, .b (!true) false, .a _ _, .b (flats [ti (placeX c r f 4 r), ti (placeY c r f 5 r)]) true] ⟨o_n (by simp), o_a hl, o_a hb, o_b (by kernel_rfl), fP, o_a hrm, o_b (by kernel_rfl), o_b (by kernel_rfl), o_a hpl, o_b (by kernel_rfl), trivial⟩ ?_
  refine bo (by kernel_rfl) ?_ ?_
  · refine gg [.a _ _, .a _ _] ⟨o_a hnum, o_a hput, trivial⟩ ?_
    exact ge
  · refine gg [.a _ _, .a _ _] ⟨o_a hnum, o_a hput, trivial⟩ ?_
    exact ge
theorem f_region_grow_yes_b (c : Config) (r f made : Int) (L : List Entity) (o : List Cross) (hL : L.length ≤ 1000) (hr : 0 ≤ r ∧ r ≤ 16) (hf : 0 ≤ f ∧ f ≤ 10000) (hm : 0 ≤ made ∧ made ≤ 1000) (h : ¬ (below 8 c.seed [3, f, r] ≠ 0 ∨ 3 ≤ (L.countP fun e => e.kind == 3) ∨ Stg.room ⟨L, made, o⟩ = false)) :
    Is cx (.call 68 [.ptr 0 0 0] [.one 10 (stepV c r f made (.all 1 none) (.all 2 none)) false, .arr 9 (L.map Entity.enc) none false, .arr 15 (o.map Cross.enc) none false])
      ⟨.ret, [], [.one 10 (stepV c r f (made + 1) (.all 3 none) (.all 2 none)) false, .arr 9 (L.map Entity.enc) none true, .arr 15 (o.map Cross.enc) none false, .arr 9 ((put1 L (gemE c r f made)).map Entity.enc) none false]⟩ := by
  have hl := f_grow_loop_b c r f made L o hL L.length 0 0 (by omega) (by omega)
  rw [List.drop_zero, Nat.zero_add] at hl
  have hb := f_chance_Below 8 c.seed [3, f, r] (by decide) (by simp [small])
  have hrm := f_region_room c r f ⟨L, made, o⟩ (by unfold small; simp only; omega)
  have hc : (L.countP fun e => e.kind == 3) ≤ L.length := List.countP_le_length
  have hpl := f_region_place c r f 4 5 r ⟨L, made, o⟩
  have hnum := f_region_number_b c r f made L o hr hf hm
  have hput := f_entity_Put L [gemE c r f made] (by omega) (by simp)
  change Is cx _ ⟨_, _, [.arr 9 ((put1 L (gemE c r f made)).map Entity.enc) none false]⟩ at hput
  unfold gemE at *
  generalize (L.countP fun e => e.kind == 3) = n at *
  generalize below 8 c.seed [3, f, r] = b at *
  generalize Stg.room ⟨L, made, o⟩ = rm at *
  generalize numI c r f made = nn at *
  have h1 : b = 0 := by
    by_cases q : b = 0
    · exact q
    · exact absurd (Or.inl q) h
  have h2 : ¬ 3 ≤ n := fun q => h (.inr (.inl q))
  have h3 : rm = true := by
    cases rm with
    | true => rfl
    | false => exact absurd (Or.inr (Or.inr rfl)) h
  subst h1 h3
  clear h
  refine Wp.ev ?_
  refine gg [.n (List.length (List.map Entity.enc L)) (List.length L), .a _ _, .a _ _, .b (0 != 0) false, .ff, .ff, .b (decide ((↑n : Int) ≥ 3)) false, .ff, .a _ _, .b (flats [T.bool true]) true, .ff, .ff, .b (!true) false, .a _ _, .b (flats [ti (placeX c r f 4 r), ti (placeY c r f 5 r)]) true] ⟨o_n (by simp), o_a hl, o_a hb, o_b (by kernel_rfl), fP, o_a hrm, o_b (by kernel_rfl), o_b (by kernel_rfl), o_a hpl, o_b (by kernel_rfl), trivial⟩ ?_
  refine bo (by kernel_rfl) ?_ ?_
  · refine gg [.a _ _, .a _ _] ⟨o_a hnum, o_a hput, trivial⟩ ?_
    exact ge
  · refine gg [.a _ _, .a _ _] ⟨o_a hnum, o_a hput, trivial⟩ ?_
    exact ge
theorem f_leave_loop_a1 (c : Config) (r f made : Int) (L : List Entity) (hL : L.length ≤ 1000) : ∀ (d i : Nat) (A : List Entity) (o : List Cross), i + d = L.length → A.length ≤ i → o.length ≤ 50000 + i →
    Is cx (.loop 69 [0, 1, 0, 1] 2 [.ptr 0 0 0, .all 2 none, .all 1 none, vi L.length, vi i] [.one 10 (stepV c r f made (.all 1 none) (.all 3 none)) false, .arr 9 (L.map Entity.enc) none false, .arr 9 (A.map Entity.enc) none false, .arr 15 (o.map Cross.enc) none false])
      ⟨.exit 0, [.ptr 0 0 0, .all 2 none, .all 1 none, vi L.length, vi L.length], [.one 10 (stepV c r f made (.all 1 none) (.all 3 none)) false, .arr 9 (L.map Entity.enc) none false, .arr 9 ((A ++ (L.drop i).filter fun e => decide (c.of e.x e.y = r)).map Entity.enc) none false, .arr 15 ((o ++ ((L.drop i).filter fun e => !decide (c.of e.x e.y = r)).map (handE c r f)).map Cross.enc) none false]⟩ := by
  intro d
  induction d with
  | zero =>
    intro i A o hi hA ho
    rw [drop_end (by omega)]
    refine Wp.ev ?_
    refine gg [.b (decide ((↑i : Int) < (↑(List.length L) : Int))) false] ⟨fP, trivial⟩ ?_
    refine rt (a := Res.mk (Ex.exit 0) [V.ptr 0 0 0, V.all 2 none, V.all 1 none, vi (↑(List.length L) : Int), vi (↑i : Int)] [Ob.one 10 (V.agg [vi c.cols, vi c.rows, vi c.players, vi c.window, V.t (T.int IntKind.u64 c.seed), vi r, vi f, V.all 1 none, vi made, V.all 3 none]) false, Ob.arr 9 (List.map Entity.enc L) none false, Ob.arr 9 (List.map Entity.enc A) none false, Ob.arr 15 (List.map Cross.enc o) none false]) (by kernel_rfl) ?_
    ((have hq : i = L.length := by omega); subst hq; simp)
  | succ d ih =>
    intro i A o hi hA ho
    have hlt : i < L.length := by omega
    have hO := f_grid_Of c (gt L i).x (gt L i).y
    rw [drop_gt hlt, List.filter_cons, List.filter_cons]
    by_cases h : c.of (gt L i).x (gt L i).y = r
    · rw [if_pos (by simpa using h), if_neg (by simpa using h), List.append_cons]
      have ih1 := ih (i + 1) (A ++ [gt L i]) o (by omega) (by simp; omega) (by omega)
      clear ih
      refine Wp.ev ?_
      refine gg [.b (decide ((↑i : Int) < (↑(List.length L) : Int))) true, .w ((0 : Int) ≤ (↑i : Int)), .n (Int.toNat (↑i : Int)) i, .w (i < List.length (List.map Entity.enc L)), .g (List.map Entity.enc L) i (Entity.enc (gt L i)), .a _ _, .b (Config.of c (gt L i).x (gt L i).y != r) false, .w ((0 : Nat) < (72 : Nat)), .t (T.sl 0 [Entity.enc (gt L i)]) (T.sl 0 (List.map Entity.enc [gt L i])), .t (T.sl 0 (List.map Entity.enc A ++ List.map Entity.enc [gt L i])) (T.sl 0 (List.map Entity.enc (A ++ [gt L i]))), .w (room (List.length (List.map Entity.enc (A ++ [gt L i]))) (72 : Nat)), .i IntKind.i64 ((↑i : Int) + 1) ((↑(i + 1) : Int)), .a _ _] ⟨tP, oW, o_n (by kernel_rfl), o_w (by (simp [room, appendMax]; omega)), o_gt rfl (by assumption) (by intro h; cases h), o_a hO, f_brn (by assumption), oW, o_l (nm_cons rfl nm_nil), o_l (nm_app rfl rfl), o_w (by (simp [room, appendMax]; omega)), o_i (w64 (by (simp [room, appendMax]; omega))), o_a ih1, trivial⟩ ?_
      exact ge
    · rw [if_neg (by simpa using h), if_pos (by simpa using h), List.map_cons, List.append_cons]
      have ih1 := ih (i + 1) A (o ++ [handE c r f (gt L i)]) (by omega) (by omega) (by simp; omega)
      have hs := f_region_send_b c r f made L o ⟨1, 0, c.of (gt L i).x (gt L i).y, 0, gt L i, 0, 0⟩ (by omega)
      clear ih
      unfold handE at ih1 ⊢
      refine Wp.ev ?_
      refine gg [.b (decide ((↑i : Int) < (↑(List.length L) : Int))) true, .w ((0 : Int) ≤ (↑i : Int)), .n (Int.toNat (↑i : Int)) i, .w (i < List.length (List.map Entity.enc L)), .g (List.map Entity.enc L) i (Entity.enc (gt L i)), .a _ _, .b (Config.of c (gt L i).x (gt L i).y != r) true, .a _ _, .i IntKind.i64 ((↑i : Int) + 1) ((↑(i + 1) : Int)), .a _ _] ⟨tP, oW, o_n (by kernel_rfl), o_w (by (simp; omega)), o_gt rfl (by assumption) (by intro h; cases h), o_a hO, t_brn (by assumption), o_a hs, oI, o_a ih1, trivial⟩ ?_
      exact ge
theorem f_leave_loop_b1 (c : Config) (r f made : Int) (L : List Entity) (hL : L.length ≤ 1000) : ∀ (d i : Nat) (A : List Entity) (o : List Cross), i + d = L.length → A.length ≤ i → o.length ≤ 50000 + i →
    Is cx (.loop 69 [0, 1, 0, 1] 3 [.ptr 0 0 0, .all 3 none, .all 1 none, vi L.length, vi i] [.one 10 (stepV c r f made (.all 1 none) (.all 4 none)) false, .arr 9 (L.map Entity.enc) none false, .dead, .arr 9 (A.map Entity.enc) none false, .arr 15 (o.map Cross.enc) none false])
      ⟨.exit 0, [.ptr 0 0 0, .all 3 none, .all 1 none, vi L.length, vi L.length], [.one 10 (stepV c r f made (.all 1 none) (.all 4 none)) false, .arr 9 (L.map Entity.enc) none false, .dead, .arr 9 ((A ++ (L.drop i).filter fun e => decide (c.of e.x e.y = r)).map Entity.enc) none false, .arr 15 ((o ++ ((L.drop i).filter fun e => !decide (c.of e.x e.y = r)).map (handE c r f)).map Cross.enc) none false]⟩ := by
  intro d
  induction d with
  | zero =>
    intro i A o hi hA ho
    rw [drop_end (by omega)]
    refine Wp.ev ?_
    refine gg [.b (decide ((↑i : Int) < (↑(List.length L) : Int))) false] ⟨fP, trivial⟩ ?_
    refine rt (a := Res.mk (Ex.exit 0) [V.ptr 0 0 0, V.all 3 none, V.all 1 none, vi (↑(List.length L) : Int), vi (↑i : Int)] [Ob.one 10 (V.agg [vi c.cols, vi c.rows, vi c.players, vi c.window, V.t (T.int IntKind.u64 c.seed), vi r, vi f, V.all 1 none, vi made, V.all 4 none]) false, Ob.arr 9 (List.map Entity.enc L) none false, Ob.dead, Ob.arr 9 (List.map Entity.enc A) none false, Ob.arr 15 (List.map Cross.enc o) none false]) (by kernel_rfl) ?_
    ((have hq : i = L.length := by omega); subst hq; simp)
  | succ d ih =>
    intro i A o hi hA ho
    have hlt : i < L.length := by omega
    have hO := f_grid_Of c (gt L i).x (gt L i).y
    rw [drop_gt hlt, List.filter_cons, List.filter_cons]
    by_cases h : c.of (gt L i).x (gt L i).y = r
    · rw [if_pos (by simpa using h), if_neg (by simpa using h), List.append_cons]
      have ih1 := ih (i + 1) (A ++ [gt L i]) o (by omega) (by simp; omega) (by omega)
      clear ih
      refine Wp.ev ?_
      refine gg [.b (decide ((↑i : Int) < (↑(List.length L) : Int))) true, .w ((0 : Int) ≤ (↑i : Int)), .n (Int.toNat (↑i : Int)) i, .w (i < List.length (List.map Entity.enc L)), .g (List.map Entity.enc L) i (Entity.enc (gt L i)), .a _ _, .b (Config.of c (gt L i).x (gt L i).y != r) false, .w ((0 : Nat) < (72 : Nat)), .t (T.sl 0 [Entity.enc (gt L i)]) (T.sl 0 (List.map Entity.enc [gt L i])), .t (T.sl 0 (List.map Entity.enc A ++ List.map Entity.enc [gt L i])) (T.sl 0 (List.map Entity.enc (A ++ [gt L i]))), .w (room (List.length (List.map Entity.enc (A ++ [gt L i]))) (72 : Nat)), .i IntKind.i64 ((↑i : Int) + 1) ((↑(i + 1) : Int)), .a _ _] ⟨tP, oW, o_n (by kernel_rfl), o_w (by (simp [room, appendMax]; omega)), o_gt rfl (by assumption) (by intro h; cases h), o_a hO, f_brn (by assumption), oW, o_l (nm_cons rfl nm_nil), o_l (nm_app rfl rfl), o_w (by (simp [room, appendMax]; omega)), o_i (w64 (by (simp [room, appendMax]; omega))), o_a ih1, trivial⟩ ?_
      exact ge
    · rw [if_neg (by simpa using h), if_pos (by simpa using h), List.map_cons, List.append_cons]
      have ih1 := ih (i + 1) A (o ++ [handE c r f (gt L i)]) (by omega) (by omega) (by simp; omega)
      have hs := f_region_send_b c r f made L o ⟨1, 0, c.of (gt L i).x (gt L i).y, 0, gt L i, 0, 0⟩ (by omega)
      clear ih
      unfold handE at ih1 ⊢
      refine Wp.ev ?_
      refine gg [.b (decide ((↑i : Int) < (↑(List.length L) : Int))) true, .w ((0 : Int) ≤ (↑i : Int)), .n (Int.toNat (↑i : Int)) i, .w (i < List.length (List.map Entity.enc L)), .g (List.map Entity.enc L) i (Entity.enc (gt L i)), .a _ _, .b (Config.of c (gt L i).x (gt L i).y != r) true, .a _ _, .i IntKind.i64 ((↑i : Int) + 1) ((↑(i + 1) : Int)), .a _ _] ⟨tP, oW, o_n (by kernel_rfl), o_w (by (simp; omega)), o_gt rfl (by assumption) (by intro h; cases h), o_a hO, t_brn (by assumption), o_a hs, oI, o_a ih1, trivial⟩ ?_
      exact ge
theorem f_leave_loop_a0 (c : Config) (r f made : Int) (L : List Entity) (hL : L.length ≤ 1000) : ∀ (d i : Nat) (A : List Entity), i + d = L.length → A.length ≤ i →
    Is cx (.loop 69 [0, 1, 0, 1] 2 [.ptr 0 0 0, .all 2 none, .all 1 none, vi L.length, vi i] [.one 10 (stepV c r f made (.all 1 none) (.fit 15 [])) false, .arr 9 (L.map Entity.enc) none false, .arr 9 (A.map Entity.enc) none false])
      (if ((L.drop i).filter fun e => !decide (c.of e.x e.y = r)) = [] then
       ⟨.exit 0, [.ptr 0 0 0, .all 2 none, .all 1 none, vi L.length, vi L.length], [.one 10 (stepV c r f made (.all 1 none) (.fit 15 [])) false, .arr 9 (L.map Entity.enc) none false, .arr 9 ((A ++ (L.drop i).filter fun e => decide (c.of e.x e.y = r)).map Entity.enc) none false]⟩
      else ⟨.exit 0, [.ptr 0 0 0, .all 2 none, .all 1 none, vi L.length, vi L.length], [.one 10 (stepV c r f made (.all 1 none) (.all 3 none)) false, .arr 9 (L.map Entity.enc) none false, .arr 9 ((A ++ (L.drop i).filter fun e => decide (c.of e.x e.y = r)).map Entity.enc) none false, .arr 15 ((((L.drop i).filter fun e => !decide (c.of e.x e.y = r)).map (handE c r f)).map Cross.enc) none false]⟩) := by
  intro d
  induction d with
  | zero =>
    intro i A hi hA
    rw [drop_end (by omega), List.filter_nil, List.filter_nil, if_pos rfl]
    refine Wp.ev ?_
    refine gg [.b (decide ((↑i : Int) < (↑(List.length L) : Int))) false] ⟨fP, trivial⟩ ?_
    refine rt (a := Res.mk (Ex.exit 0) [V.ptr 0 0 0, V.all 2 none, V.all 1 none, vi (↑(List.length L) : Int), vi (↑i : Int)] [Ob.one 10 (V.agg [vi c.cols, vi c.rows, vi c.players, vi c.window, V.t (T.int IntKind.u64 c.seed), vi r, vi f, V.all 1 none, vi made, V.fit 15 []]) false, Ob.arr 9 (List.map Entity.enc L) none false, Ob.arr 9 (List.map Entity.enc A) none false]) (by kernel_rfl) ?_
    ((have hq : i = L.length := by omega); subst hq; simp)
  | succ d ih =>
    intro i A hi hA
    have hlt : i < L.length := by omega
    have hO := f_grid_Of c (gt L i).x (gt L i).y
    rw [drop_gt hlt, List.filter_cons, List.filter_cons]
    by_cases h : c.of (gt L i).x (gt L i).y = r
    · rw [if_pos (c := decide (c.of (gt L i).x (gt L i).y = r) = true) (by simpa using h), if_neg (c := (!decide (c.of (gt L i).x (gt L i).y = r)) = true) (by simpa using h), List.append_cons]
      have ih1 := ih (i + 1) (A ++ [gt L i]) (by omega) (by simp; omega)
      clear ih
      split at ih1
      · rename_i hq
        rw [if_pos hq]
        refine Wp.ev ?_
        refine gg [.b (decide ((↑i : Int) < (↑(List.length L) : Int))) true, .w ((0 : Int) ≤ (↑i : Int)), .n (Int.toNat (↑i : Int)) i, .w (i < List.length (List.map Entity.enc L)), .g (List.map Entity.enc L) i (Entity.enc (gt L i)), .a _ _, .b (Config.of c (gt L i).x (gt L i).y != r) false, .w ((0 : Nat) < (72 : Nat)), .t (T.sl 0 [Entity.enc (gt L i)]) (T.sl 0 (List.map Entity.enc [gt L i])), .t (T.sl 0 (List.map Entity.enc A ++ List.map Entity.enc [gt L i])) (T.sl 0 (List.map Entity.enc (A ++ [gt L i]))), .w (room (List.length (List.map Entity.enc (A ++ [gt L i]))) (72 : Nat)), .i IntKind.i64 ((↑i : Int) + 1) ((↑(i + 1) : Int)), .a _ _] ⟨tP, oW, o_n (by kernel_rfl), o_w (by (simp [room, appendMax]; omega)), o_gt rfl (by assumption) (by intro h; cases h), o_a hO, f_brn (by assumption), oW, o_l (nm_cons rfl nm_nil), o_l (nm_app rfl rfl), o_w (by (simp [room, appendMax]; omega)), o_i (w64 (by (simp [room, appendMax]; omega))), o_a ih1, trivial⟩ ?_
        exact ge
      · rename_i hq
        rw [if_neg hq]
        refine Wp.ev ?_
        refine gg [.b (decide ((↑i : Int) < (↑(List.length L) : Int))) true, .w ((0 : Int) ≤ (↑i : Int)), .n (Int.toNat (↑i : Int)) i, .w (i < List.length (List.map Entity.enc L)), .g (List.map Entity.enc L) i (Entity.enc (gt L i)), .a _ _, .b (Config.of c (gt L i).x (gt L i).y != r) false, .w ((0 : Nat) < (72 : Nat)), .t (T.sl 0 [Entity.enc (gt L i)]) (T.sl 0 (List.map Entity.enc [gt L i])), .t (T.sl 0 (List.map Entity.enc A ++ List.map Entity.enc [gt L i])) (T.sl 0 (List.map Entity.enc (A ++ [gt L i]))), .w (room (List.length (List.map Entity.enc (A ++ [gt L i]))) (72 : Nat)), .i IntKind.i64 ((↑i : Int) + 1) ((↑(i + 1) : Int)), .a _ _] ⟨tP, oW, o_n (by kernel_rfl), o_w (by (simp [room, appendMax]; omega)), o_gt rfl (by assumption) (by intro h; cases h), o_a hO, f_brn (by assumption), oW, o_l (nm_cons rfl nm_nil), o_l (nm_app rfl rfl), o_w (by (simp [room, appendMax]; omega)), o_i (w64 (by (simp [room, appendMax]; omega))), o_a ih1, trivial⟩ ?_
        exact ge
    · rw [if_neg (c := decide (c.of (gt L i).x (gt L i).y = r) = true) (by simpa using h), if_pos (c := (!decide (c.of (gt L i).x (gt L i).y = r)) = true) (by simpa using h), if_neg (by simp), List.map_cons]
      have ih1 := f_leave_loop_a1 c r f made L hL d (i + 1) A [handE c r f (gt L i)] (by omega) (by omega) (by simp; omega)
      have hs := f_region_send_a c r f made L ⟨1, 0, c.of (gt L i).x (gt L i).y, 0, gt L i, 0, 0⟩
      clear ih
      unfold handE at ih1 ⊢
      refine Wp.ev ?_
      refine gg [.b (decide ((↑i : Int) < (↑(List.length L) : Int))) true, .w ((0 : Int) ≤ (↑i : Int)), .n (Int.toNat (↑i : Int)) i, .w (i < List.length (List.map Entity.enc L)), .g (List.map Entity.enc L) i (Entity.enc (gt L i)), .a _ _, .b (Config.of c (gt L i).x (gt L i).y != r) true, .a _ _, .i IntKind.i64 ((↑i : Int) + 1) ((↑(i + 1) : Int)), .a _ _] ⟨tP, oW, o_n (by kernel_rfl), o_w (by (simp; omega)), o_gt rfl (by assumption) (by intro h; cases h), o_a hO, t_brn (by assumption), o_a hs, oI, o_a ih1, trivial⟩ ?_
      exact ge
theorem f_leave_loop_b0 (c : Config) (r f made : Int) (L : List Entity) (hL : L.length ≤ 1000) (o : List Cross) (ho : o.length ≤ 50000) : ∀ (d i : Nat) (A : List Entity), i + d = L.length → A.length ≤ i →
    Is cx (.loop 69 [0, 1, 0, 1] 3 [.ptr 0 0 0, .all 3 none, .all 1 none, vi L.length, vi i] [.one 10 (stepV c r f made (.all 1 none) (.all 2 none)) false, .arr 9 (L.map Entity.enc) none false, .arr 15 (o.map Cross.enc) none false, .arr 9 (A.map Entity.enc) none false])
      (if ((L.drop i).filter fun e => !decide (c.of e.x e.y = r)) = [] then
       ⟨.exit 0, [.ptr 0 0 0, .all 3 none, .all 1 none, vi L.length, vi L.length], [.one 10 (stepV c r f made (.all 1 none) (.all 2 none)) false, .arr 9 (L.map Entity.enc) none false, .arr 15 (o.map Cross.enc) none false, .arr 9 ((A ++ (L.drop i).filter fun e => decide (c.of e.x e.y = r)).map Entity.enc) none false]⟩
      else ⟨.exit 0, [.ptr 0 0 0, .all 3 none, .all 1 none, vi L.length, vi L.length], [.one 10 (stepV c r f made (.all 1 none) (.all 4 none)) false, .arr 9 (L.map Entity.enc) none false, .dead, .arr 9 ((A ++ (L.drop i).filter fun e => decide (c.of e.x e.y = r)).map Entity.enc) none false, .arr 15 ((o ++ ((L.drop i).filter fun e => !decide (c.of e.x e.y = r)).map (handE c r f)).map Cross.enc) none false]⟩) := by
  intro d
  induction d with
  | zero =>
    intro i A hi hA
    rw [drop_end (by omega), List.filter_nil, List.filter_nil, if_pos rfl]
    refine Wp.ev ?_
    refine gg [.b (decide ((↑i : Int) < (↑(List.length L) : Int))) false] ⟨fP, trivial⟩ ?_
    refine rt (a := Res.mk (Ex.exit 0) [V.ptr 0 0 0, V.all 3 none, V.all 1 none, vi (↑(List.length L) : Int), vi (↑i : Int)] [Ob.one 10 (V.agg [vi c.cols, vi c.rows, vi c.players, vi c.window, V.t (T.int IntKind.u64 c.seed), vi r, vi f, V.all 1 none, vi made, V.all 2 none]) false, Ob.arr 9 (List.map Entity.enc L) none false, Ob.arr 15 (List.map Cross.enc o) none false, Ob.arr 9 (List.map Entity.enc A) none false]) (by kernel_rfl) ?_
    ((have hq : i = L.length := by omega); subst hq; simp)
  | succ d ih =>
    intro i A hi hA
    have hlt : i < L.length := by omega
    have hO := f_grid_Of c (gt L i).x (gt L i).y
    rw [drop_gt hlt, List.filter_cons, List.filter_cons]
    by_cases h : c.of (gt L i).x (gt L i).y = r
    · rw [if_pos (c := decide (c.of (gt L i).x (gt L i).y = r) = true) (by simpa using h), if_neg (c := (!decide (c.of (gt L i).x (gt L i).y = r)) = true) (by simpa using h), List.append_cons]
      have ih1 := ih (i + 1) (A ++ [gt L i]) (by omega) (by simp; omega)
      clear ih
      split at ih1
      · rename_i hq
        rw [if_pos hq]
        refine Wp.ev ?_
        refine gg [.b (decide ((↑i : Int) < (↑(List.length L) : Int))) true, .w ((0 : Int) ≤ (↑i : Int)), .n (Int.toNat (↑i : Int)) i, .w (i < List.length (List.map Entity.enc L)), .g (List.map Entity.enc L) i (Entity.enc (gt L i)), .a _ _, .b (Config.of c (gt L i).x (gt L i).y != r) false, .w ((0 : Nat) < (72 : Nat)), .t (T.sl 0 [Entity.enc (gt L i)]) (T.sl 0 (List.map Entity.enc [gt L i])), .t (T.sl 0 (List.map Entity.enc A ++ List.map Entity.enc [gt L i])) (T.sl 0 (List.map Entity.enc (A ++ [gt L i]))), .w (room (List.length (List.map Entity.enc (A ++ [gt L i]))) (72 : Nat)), .i IntKind.i64 ((↑i : Int) + 1) ((↑(i + 1) : Int)), .a _ _] ⟨tP, oW, o_n (by kernel_rfl), o_w (by (simp [room, appendMax]; omega)), o_gt rfl (by assumption) (by intro h; cases h), o_a hO, f_brn (by assumption), oW, o_l (nm_cons rfl nm_nil), o_l (nm_app rfl rfl), o_w (by (simp [room, appendMax]; omega)), o_i (w64 (by (simp [room, appendMax]; omega))), o_a ih1, trivial⟩ ?_
        exact ge
      · rename_i hq
        rw [if_neg hq]
        refine Wp.ev ?_
        refine gg [.b (decide ((↑i : Int) < (↑(List.length L) : Int))) true, .w ((0 : Int) ≤ (↑i : Int)), .n (Int.toNat (↑i : Int)) i, .w (i < List.length (List.map Entity.enc L)), .g (List.map Entity.enc L) i (Entity.enc (gt L i)), .a _ _, .b (Config.of c (gt L i).x (gt L i).y != r) false, .w ((0 : Nat) < (72 : Nat)), .t (T.sl 0 [Entity.enc (gt L i)]) (T.sl 0 (List.map Entity.enc [gt L i])), .t (T.sl 0 (List.map Entity.enc A ++ List.map Entity.enc [gt L i])) (T.sl 0 (List.map Entity.enc (A ++ [gt L i]))), .w (room (List.length (List.map Entity.enc (A ++ [gt L i]))) (72 : Nat)), .i IntKind.i64 ((↑i : Int) + 1) ((↑(i + 1) : Int)), .a _ _] ⟨tP, oW, o_n (by kernel_rfl), o_w (by (simp [room, appendMax]; omega)), o_gt rfl (by assumption) (by intro h; cases h), o_a hO, f_brn (by assumption), oW, o_l (nm_cons rfl nm_nil), o_l (nm_app rfl rfl), o_w (by (simp [room, appendMax]; omega)), o_i (w64 (by (simp [room, appendMax]; omega))), o_a ih1, trivial⟩ ?_
        exact ge
    · rw [if_neg (c := decide (c.of (gt L i).x (gt L i).y = r) = true) (by simpa using h), if_pos (c := (!decide (c.of (gt L i).x (gt L i).y = r)) = true) (by simpa using h), if_neg (by simp), List.map_cons, List.append_cons]
      have ih1 := f_leave_loop_b1 c r f made L hL d (i + 1) A (o ++ [handE c r f (gt L i)]) (by omega) (by omega) (by simp; omega)
      have hs := f_region_send_b c r f made L o ⟨1, 0, c.of (gt L i).x (gt L i).y, 0, gt L i, 0, 0⟩ (by omega)
      clear ih
      unfold handE at ih1 ⊢
      refine Wp.ev ?_
      refine gg [.b (decide ((↑i : Int) < (↑(List.length L) : Int))) true, .w ((0 : Int) ≤ (↑i : Int)), .n (Int.toNat (↑i : Int)) i, .w (i < List.length (List.map Entity.enc L)), .g (List.map Entity.enc L) i (Entity.enc (gt L i)), .a _ _, .b (Config.of c (gt L i).x (gt L i).y != r) true, .a _ _, .i IntKind.i64 ((↑i : Int) + 1) ((↑(i + 1) : Int)), .a _ _] ⟨tP, oW, o_n (by kernel_rfl), o_w (by (simp; omega)), o_gt rfl (by assumption) (by intro h; cases h), o_a hO, t_brn (by assumption), o_a hs, oI, o_a ih1, trivial⟩ ?_
      exact ge
theorem f_region_leave_a (c : Config) (r f made : Int) (L : List Entity) (hL : L.length ≤ 1000) :
    Is cx (.call 69 [.ptr 0 0 0] [.one 10 (stepV c r f made (.all 1 none) (.fit 15 [])) false, .arr 9 (L.map Entity.enc) none false])
      (if (leaveS c r f ⟨L, made, []⟩).out = [] then ⟨.ret, [], [.one 10 (stepV c r f made (.all 2 none) (.fit 15 [])) false, .arr 9 (L.map Entity.enc) none false, .arr 9 ((leaveS c r f ⟨L, made, []⟩).l.map Entity.enc) none false]⟩
       else ⟨.ret, [], [.one 10 (stepV c r f made (.all 2 none) (.all 3 none)) false, .arr 9 (L.map Entity.enc) none false, .arr 9 ((leaveS c r f ⟨L, made, []⟩).l.map Entity.enc) none false, .arr 15 ((leaveS c r f ⟨L, made, []⟩).out.map Cross.enc) none false]⟩) := by
  have h := f_leave_loop_a0 c r f made L hL L.length 0 [] (by omega) (by simp)
  simp only [List.drop_zero, List.nil_append] at h
  unfold leaveS
  simp only [List.nil_append, List.map_eq_nil_iff]
  generalize (L.filter fun e => decide (c.of e.x e.y = r)) = X at *
  generalize (L.filter fun e => !decide (c.of e.x e.y = r)) = Y at *
  generalize Y.map (handE c r f) = Z at *
  split at h
  · rename_i hq
    rw [if_pos hq]
    refine Wp.ev ?_
    refine gg [.n (List.length (List.map Entity.enc L)) (List.length L), .a _ _] ⟨o_n (by simp), o_a h, trivial⟩ ?_
    exact ge
  · rename_i hq
    rw [if_neg hq]
    refine Wp.ev ?_
    refine gg [.n (List.length (List.map Entity.enc L)) (List.length L), .a _ _] ⟨o_n (by simp), o_a h, trivial⟩ ?_
    exact ge
theorem f_region_leave_b (c : Config) (r f made : Int) (L : List Entity) (o : List Cross) (hL : L.length ≤ 1000) (ho : o.length ≤ 50000) :
    Is cx (.call 69 [.ptr 0 0 0] [.one 10 (stepV c r f made (.all 1 none) (.all 2 none)) false, .arr 9 (L.map Entity.enc) none false, .arr 15 (o.map Cross.enc) none false])
      (if (L.filter fun e => !decide (c.of e.x e.y = r)) = [] then ⟨.ret, [], [.one 10 (stepV c r f made (.all 3 none) (.all 2 none)) false, .arr 9 (L.map Entity.enc) none false, .arr 15 (o.map Cross.enc) none false, .arr 9 ((leaveS c r f ⟨L, made, o⟩).l.map Entity.enc) none false]⟩
       else ⟨.ret, [], [.one 10 (stepV c r f made (.all 3 none) (.all 4 none)) false, .arr 9 (L.map Entity.enc) none false, .dead, .arr 9 ((leaveS c r f ⟨L, made, o⟩).l.map Entity.enc) none false, .arr 15 ((leaveS c r f ⟨L, made, o⟩).out.map Cross.enc) none false]⟩) := by
  have h := f_leave_loop_b0 c r f made L hL o ho L.length 0 [] (by omega) (by simp)
  simp only [List.drop_zero, List.nil_append] at h
  unfold leaveS
  simp only
  generalize (L.filter fun e => decide (c.of e.x e.y = r)) = X at *
  generalize (L.filter fun e => !decide (c.of e.x e.y = r)) = Y at *
  generalize o ++ Y.map (handE c r f) = Z at *
  split at h
  · rename_i hq
    rw [if_pos hq]
    refine Wp.ev ?_
    refine gg [.n (List.length (List.map Entity.enc L)) (List.length L), .a _ _] ⟨o_n (by simp), o_a h, trivial⟩ ?_
    exact ge
  · rename_i hq
    rw [if_neg hq]
    refine Wp.ev ?_
    refine gg [.n (List.length (List.map Entity.enc L)) (List.length L), .a _ _] ⟨o_n (by simp), o_a h, trivial⟩ ?_
    exact ge
end Go.Eva.S3

/- Messages: members change places; put in from the left. -/
namespace Go.Eva.S3
theorem f_swapRange_loop_Cross (a b n : Nat) (h1 : a + n ≤ b) : ∀ (d i : Nat) (A : List Cross), i + d = n → b + n ≤ A.length → small A →
    Is cx (.loop 197 [0, 1] 1 [.all 0 none, vi a, vi b, vi n, vi i] [.arr 15 (A.map Cross.enc) none false])
      ⟨.exit 0, [.all 0 none, vi a, vi b, vi n, vi n], [.arr 15 ((swR d A (a + i) (b + i)).map Cross.enc) none false]⟩ := by
  intro d
  induction d with
  | zero =>
    intro i A hi h2 hn
    unfold small at hn
    refine Wp.ev ?_
    refine gg [.b (decide ((↑i : Int) < (↑n : Int))) false] ⟨fP, trivial⟩ ?_
    refine rt (a := Res.mk (Ex.exit 0) [V.all 0 none, vi (↑a : Int), vi (↑b : Int), vi (↑n : Int), vi (↑i : Int)] [Ob.arr 15 (List.map Cross.enc A) none false]) (by kernel_rfl) ?_
    ((have hq : i = n := by omega); subst hq; rfl)
  | succ d ih =>
    intro i A hi h2 hn
    have ih1 := ih (i + 1) (sw A (a + i) (b + i)) (by omega) (by rw [sw_len]; omega) (by unfold small; rw [sw_len]; exact hn)
    unfold small at hn
    clear ih
    unfold sw at ih1
    refine Wp.ev ?_
    refine gg [.b (decide ((↑i : Int) < (↑n : Int))) true, .i IntKind.i64 ((↑a : Int) + (↑i : Int)) ((↑(a + i) : Int)), .i IntKind.i64 ((↑b : Int) + (↑i : Int)) ((↑(b + i) : Int)), .i IntKind.i64 ((↑b : Int) + (↑i : Int)) ((↑(b + i) : Int)), .w ((0 : Int) ≤ (↑(b + i) : Int)), .n (Int.toNat (↑(b + i) : Int)) (b + i), .w (b + i < List.length (List.map Cross.enc A)), .i IntKind.i64 ((↑a : Int) + (↑i : Int)) ((↑(a + i) : Int)), .w ((0 : Int) ≤ (↑(a + i) : Int)), .n (Int.toNat (↑(a + i) : Int)) (a + i), .w (a + i < List.length (List.map Cross.enc A)), .g (List.map Cross.enc A) (b + i) (Cross.enc (gt A (b + i))), .g (List.map Cross.enc A) (a + i) (Cross.enc (gt A (a + i))), .w ((0 : Int) ≤ (↑(a + i) : Int)), .n (Int.toNat (↑(a + i) : Int)) (a + i), .w (a + i < List.length (List.map Cross.enc A))] ⟨tP, oI, oI, oI, oW, o_n (by kernel_rfl), o_w (by (simp; omega)), oI, oW, o_n (by kernel_rfl), o_w (by (simp; omega)), oT, oT, oW, o_n (by kernel_rfl), o_w (by (simp; omega)), trivial⟩ ?_
    refine gg [.w (a + i < List.length (List.map Cross.enc A)), .t (T.sl 0 (List.set (List.map Cross.enc A) (a + i) (Cross.enc (gt A (b + i))))) (T.sl 0 (List.map Cross.enc (List.set A (a + i) (gt A (b + i))))), .w ((0 : Int) ≤ (↑(b + i) : Int)), .n (Int.toNat (↑(b + i) : Int)) (b + i), .w (b + i < List.length (List.map Cross.enc (List.set A (a + i) (gt A (b + i))))), .w (b + i < List.length (List.map Cross.enc (List.set A (a + i) (gt A (b + i))))), .t (T.sl 0 (List.set (List.map Cross.enc (List.set A (a + i) (gt A (b + i)))) (b + i) (Cross.enc (gt A (a + i))))) (T.sl 0 (List.map Cross.enc (List.set (List.set A (a + i) (gt A (b + i))) (b + i) (gt A (a + i))))), .i IntKind.i64 ((↑i : Int) + 1) ((↑(i + 1) : Int)), .a _ _] ⟨o_w (by (simp; omega)), o_l (nm_set rfl rfl), oW, o_n (by kernel_rfl), o_w (by (simp; omega)), o_w (by (simp; omega)), o_l (nm_set rfl rfl), oI, o_a ih1, trivial⟩ ?_
    refine rt (a := Res.mk (Ex.exit 0) [V.all 0 none, vi (↑a : Int), vi (↑b : Int), vi (↑n : Int), vi (↑n : Int)] [Ob.arr 15 (List.map Cross.enc (swR d (List.set (List.set A (a + i) (gt A (b + i))) (b + i) (gt A (a + i))) (a + (i + 1)) (b + (i + 1)))) none false]) (by kernel_rfl) ?_
    (simp_all [swR, sw, Nat.add_assoc]; try omega)
theorem f_swapRange_Cross (A : List Cross) (a b n : Nat) (h1 : a + n ≤ b) (h2 : b + n ≤ A.length) (hn : small A) : Is cx (.call 197 [.all 0 none, vi a, vi b, vi n, .t (.clo 129 [])] [.arr 15 (A.map Cross.enc) none false])
   ⟨.ret, [], [.arr 15 ((swR n A a b).map Cross.enc) none false]⟩ := by
  have h := f_swapRange_loop_Cross a b n h1 n 0 A (by omega) h2 hn
  rw [Nat.add_zero, Nat.add_zero] at h
  unfold small at hn
  refine Wp.ev ?_
  refine gg [.a _ _] ⟨o_a h, trivial⟩ ?_
  exact ge
theorem f_insertion_inner_Cross (a b i : Nat) : ∀ (j : Nat) (A : List Cross), a ≤ j → j < A.length → small A → ∃ k : Nat,
    Is cx (.loop 186 [0, 1, 0, 0, 1, 0, 0, 1] 1 [.all 0 none, vi a, vi b, .t (.clo 129 []), vi i, vi j] [.arr 15 (A.map Cross.enc) none false])
      ⟨.exit 2, [.all 0 none, vi a, vi b, .t (.clo 129 []), vi i, vi k], [.arr 15 ((insIn Cross.less a j A).map Cross.enc) none false]⟩ := by
  intro j
  induction j with
  | zero =>
    intro A h1 h2 hn
    unfold small at hn
    refine ⟨0, ?_⟩
    refine Wp.ev ?_
    refine gg [.b (decide (0 > (↑a : Int))) false, .ff, .ff, .ff, .ff, .ff, .ff, .ff, .ff, .ff, .ff, .ff, .ff, .ff] ⟨o_b (by kernel_rfl), trivial⟩ ?_
    exact ge
  | succ j ih =>
    intro A h1 h2 hn
    by_cases hj : a < j + 1
    · cases hl : Cross.less (gt A (j + 1)) (gt A j) with
      | true =>
        obtain ⟨k, ih1⟩ := ih (sw A (j + 1) j) (by omega) (by rw [sw_len]; omega) (by unfold small; rw [sw_len]; exact hn)
        unfold small at hn
        clear ih
        refine ⟨k, ?_⟩
        have e : insIn Cross.less a (j + 1) A = insIn Cross.less a j (sw A (j + 1) j) := by rw [insIn, if_pos hj, hl]
        rw [e]
        unfold sw at *
        have ej : ((j + 1 : Nat) : Int) - 1 = (j : Nat) := by omega
        have hl : (gt A (j + 1)).cmp (gt A j) < 0 := by simpa [Cross.less] using hl
        refine Wp.ev ?_
        refine gg [.b (decide ((↑(j + 1) : Int) > (↑a : Int))) true, .tt, .tt, .tt, .w ((0 : Int) ≤ (↑(j + (1 : Nat)) : Int)), .n (Int.toNat (↑(j + 1) : Int)) (j + 1), .w (j + (1 : Nat) < List.length (List.map Cross.enc A)), .tt, .tt, .tt, .i IntKind.i64 ((↑(j + 1) : Int) - 1) (↑j : Int), .tt, .w ((0 : Int) ≤ (↑j : Int)), .n (Int.toNat (↑j : Int)) j, .w (j < List.length (List.map Cross.enc A)), .tt] ⟨tP, oW, o_n (by kernel_rfl), o_w (by (simp; omega)), oI, oW, o_n (by kernel_rfl), o_w (by (simp; omega)), trivial⟩ ?_
        refine gg [.g (List.map Cross.enc A) (j + 1) (Cross.enc (gt A (j + 1))), .tt, .g (List.map Cross.enc A) j (Cross.enc (gt A j)), .tt, .w (isFnB cx (129 : Nat) = true), .a _ _, .tt, .tt, .b (decide (Cross.cmp (gt A (j + 1)) (gt A j) < 0)) true, .i IntKind.i64 ((↑(j + 1) : Int) - 1) (↑j : Int), .i IntKind.i64 ((↑(j + 1) : Int) - 1) (↑j : Int), .w ((0 : Int) ≤ (↑j : Int)), .n (Int.toNat (↑j : Int)) j, .w (j < List.length (List.map Cross.enc A)), .w ((0 : Int) ≤ (↑(j + (1 : Nat)) : Int)), .n (Int.toNat (↑(j + 1) : Int)) (j + 1)] ⟨o_gt rfl (by assumption) (by intro h; cases h), oT, o_w (by kernel_rfl), o_a (f_cross_compare (gt A (j + 1)) (gt A j)), t_brp (by assumption), oI, oI, oW, o_n (by kernel_rfl), o_w (by (simp; omega)), oW, o_n (by kernel_rfl), trivial⟩ ?_
        refine gg [.w (j + (1 : Nat) < List.length (List.map Cross.enc A)), .g (List.map Cross.enc A) j (Cross.enc (gt A j)), .g (List.map Cross.enc A) (j + 1) (Cross.enc (gt A (j + 1))), .w ((0 : Int) ≤ (↑(j + (1 : Nat)) : Int)), .n (Int.toNat (↑(j + 1) : Int)) (j + 1), .w (j + (1 : Nat) < List.length (List.map Cross.enc A)), .w (j + (1 : Nat) < List.length (List.map Cross.enc A)), .t (T.sl 0 (List.set (List.map Cross.enc A) (j + 1) (Cross.enc (gt A j)))) (T.sl 0 (List.map Cross.enc (List.set A (j + 1) (gt A j)))), .w ((0 : Int) ≤ (↑j : Int)), .n (Int.toNat (↑j : Int)) j, .w (j < List.length (List.map Cross.enc (List.set A (j + (1 : Nat)) (gt A j)))), .w (j < List.length (List.map Cross.enc (List.set A (j + (1 : Nat)) (gt A j)))), .t (T.sl 0 (List.set (List.map Cross.enc (List.set A (j + 1) (gt A j))) j (Cross.enc (gt A (j + 1))))) (T.sl 0 (List.map Cross.enc (List.set (List.set A (j + 1) (gt A j)) j (gt A (j + 1))))), .i IntKind.i64 ((↑(j + 1) : Int) - 1) (↑j : Int), .a _ _] ⟨o_w (by (simp; omega)), oT, o_gt rfl (by assumption) (by intro h; cases h), oW, o_n (by kernel_rfl), o_w (by (simp; omega)), o_w (by (simp; omega)), o_l (nm_set rfl rfl), oW, o_n (by kernel_rfl), o_w (by (simp; omega)), o_w (by (simp; omega)), o_l (nm_set rfl rfl), oI, o_a ih1, trivial⟩ ?_
        refine rt (a := Res.mk (Ex.exit 2) [V.all 0 none, vi (↑a : Int), vi (↑b : Int), V.t (T.clo 129 []), vi (↑i : Int), vi (↑k : Int)] [Ob.arr 15 (List.map Cross.enc (insIn Cross.less a j (List.set (List.set A (j + 1) (gt A j)) j (gt A (j + 1))))) none false]) (by kernel_rfl) ?_
        simp_all
      | false =>
        unfold small at hn
        clear ih
        refine ⟨j + 1, ?_⟩
        have e : insIn Cross.less a (j + 1) A = A := by rw [insIn, if_pos hj, hl]
        rw [e]
        have hl : ¬ (gt A (j + 1)).cmp (gt A j) < 0 := by simpa [Cross.less] using hl
        refine Wp.ev ?_
        refine gg [.b (decide ((↑(j + 1) : Int) > (↑a : Int))) true, .tt, .tt, .tt, .w ((0 : Int) ≤ (↑(j + (1 : Nat)) : Int)), .n (Int.toNat (↑(j + 1) : Int)) (j + 1), .w (j + (1 : Nat) < List.length (List.map Cross.enc A)), .tt, .tt, .tt, .i IntKind.i64 ((↑(j + 1) : Int) - 1) ((↑(j + 1) : Int) - 1), .tt, .w ((0 : Int) ≤ (↑(j + (1 : Nat)) : Int) - (1 : Int)), .n (Int.toNat ((↑(j + 1) : Int) - 1)) j, .w (j < List.length (List.map Cross.enc A)), .tt] ⟨tP, oW, o_n (by kernel_rfl), o_w (by (simp; omega)), oI, oW, oN, o_w (by (simp; omega)), trivial⟩ ?_
        refine gg [.g (List.map Cross.enc A) (j + 1) (Cross.enc (gt A (j + 1))), .tt, .g (List.map Cross.enc A) j (Cross.enc (gt A j)), .tt, .w (isFnB cx (129 : Nat) = true), .a _ _, .tt, .tt, .b (decide (Cross.cmp (gt A (j + 1)) (gt A j) < 0)) false] ⟨o_gt rfl (by assumption) (by intro h; cases h), oT, o_w (by kernel_rfl), o_a (f_cross_compare (gt A (j + 1)) (gt A j)), f_brp (by assumption), trivial⟩ ?_
        refine rt (a := Res.mk (Ex.exit 2) [V.all 0 none, vi (↑a : Int), vi (↑b : Int), V.t (T.clo 129 []), vi (↑i : Int), vi (↑(j + 1) : Int)] [Ob.arr 15 (List.map Cross.enc A) none false]) (by kernel_rfl) ?_
        simp_all
    · unfold small at hn
      clear ih
      refine ⟨j + 1, ?_⟩
      have e : insIn Cross.less a (j + 1) A = A := by rw [insIn, if_neg hj]
      rw [e]
      refine Wp.ev ?_
      refine gg [.b (decide ((↑(j + 1) : Int) > (↑a : Int))) false, .ff, .ff, .ff, .ff, .ff, .ff, .ff, .ff, .ff, .ff, .ff, .ff, .ff] ⟨fP, trivial⟩ ?_
      refine rt (a := Res.mk (Ex.exit 2) [V.all 0 none, vi (↑a : Int), vi (↑b : Int), V.t (T.clo 129 []), vi (↑i : Int), vi (↑(j + 1) : Int)] [Ob.arr 15 (List.map Cross.enc A) none false]) (by kernel_rfl) ?_
      simp_all
theorem f_insertion_outer_Cross (a b : Nat) : ∀ (d i : Nat) (A : List Cross), i + d = b → a ≤ i → b ≤ A.length → small A → ∃ k : Nat,
    Is cx (.loop 186 [0, 1] 1 [.all 0 none, vi a, vi b, .t (.clo 129 []), vi i] [.arr 15 (A.map Cross.enc) none false])
      ⟨.exit 0, [.all 0 none, vi a, vi b, .t (.clo 129 []), vi k], [.arr 15 ((insOut Cross.less a d i A).map Cross.enc) none false]⟩ := by
  intro d
  induction d with
  | zero =>
    intro i A hi h1 h2 hn
    unfold small at hn
    refine ⟨i, ?_⟩
    refine Wp.ev ?_
    refine gg [.b (decide ((↑i : Int) < (↑b : Int))) false] ⟨fP, trivial⟩ ?_
    exact ge
  | succ d ih =>
    intro i A hi h1 h2 hn
    obtain ⟨k0, h0⟩ := f_insertion_inner_Cross a b i i A h1 (by omega) hn
    obtain ⟨k, ih1⟩ := ih (i + 1) (insIn Cross.less a i A) (by omega) (by omega) (by rw [insIn_len]; omega) (by unfold small; rw [insIn_len]; exact hn)
    unfold small at hn
    clear ih
    refine ⟨k, ?_⟩
    have hlen : (insIn Cross.less a i A).length = A.length := insIn_len ..
    rw [insOut]
    refine Wp.ev ?_
    refine gg [.b (decide ((↑i : Int) < (↑b : Int))) true, .a _ _, .i IntKind.i64 ((↑i : Int) + 1) ((↑(i + 1) : Int)), .a _ _] ⟨tP, o_a h0, oI, o_a ih1, trivial⟩ ?_
    exact ge
theorem f_insertionSort_Cross (A : List Cross) (a b : Nat) (h1 : a ≤ b) (h2 : b ≤ A.length) (hn : small A) : Is cx (.call 186 [.all 0 none, vi a, vi b, .t (.clo 129 [])] [.arr 15 (A.map Cross.enc) none false])
   ⟨.ret, [], [.arr 15 ((srt Cross.less A a b).map Cross.enc) none false]⟩ := by
  by_cases hab : a < b
  · rw [← insOut_srt Cross_swo hab h2]
    obtain ⟨k, h⟩ := f_insertion_outer_Cross a b (b - a - 1) (a + 1) A (by omega) (by omega) h2 hn
    unfold small at hn
    refine Wp.ev ?_
    refine gg [.i IntKind.i64 ((↑a : Int) + 1) ((↑(a + 1) : Int)), .a _ _] ⟨oI, o_a h, trivial⟩ ?_
    exact ge
  · obtain rfl : a = b := by omega
    rw [srt_small Cross_swo (by omega) (by omega)]
    unfold small at hn
    have h : Is cx (.loop 186 [0, 1] 1 [.all 0 none, vi a, vi a, .t (.clo 129 []), vi (a + 1 : Nat)] [.arr 15 (A.map Cross.enc) none false])
      ⟨.exit 0, [.all 0 none, vi a, vi a, .t (.clo 129 []), vi (a + 1 : Nat)], [.arr 15 (A.map Cross.enc) none false]⟩ := by
      refine Wp.ev ?_
      refine gg [.b (decide ((↑(a + 1) : Int) < (↑a : Int))) false] ⟨fP, trivial⟩ ?_
      exact ge
    refine Wp.ev ?_
    refine gg [.i IntKind.i64 ((↑a : Int) + 1) ((↑(a + 1) : Int)), .a _ _] ⟨oI, o_a h, trivial⟩ ?_
    exact ge
theorem f_rotate_loop_Cross (m : Nat) : ∀ (d i j : Nat) (A : List Cross), i + j ≤ d → 0 < i → 0 < j → i ≤ m → m + j ≤ A.length → small A → ∃ (k : Nat) (B : List Cross),
    Is cx (.loop 194 [0, 0, 1, 1] 1 [.all 0 none, vi m, .t (.clo 129 []), vi i, vi j] [.arr 15 (A.map Cross.enc) none false])
      ⟨.exit 0, [.all 0 none, vi m, .t (.clo 129 []), vi k, vi k], [.arr 15 (B.map Cross.enc) none false]⟩ ∧ k ≤ m ∧ m + k ≤ A.length ∧ B.length = A.length ∧ swR k B (m - k) m = rotL d A m i j := by
  intro d
  induction d with
  | zero => intros; omega
  | succ d ih =>
    intro i j A hd h1 h2 h3 h4 hn
    by_cases hij : i = j
    · subst hij
      refine ⟨i, A, ?_, h3, h4, rfl, by rw [rotL, if_pos rfl]⟩
      unfold small at hn
      refine Wp.ev ?_
      refine gg [.b ((↑i : Int) != (↑i : Int)) false] ⟨f_brn rfl, trivial⟩ ?_
      exact ge
    · by_cases hj : j < i
      · obtain ⟨k, B, ih1, k1, k2, k3, k4⟩ := ih (i - j) j (swR j A (m - i) m) (by omega) (by omega) h2 (by omega) (by rw [swR_len]; omega) (by unfold small; rw [swR_len]; exact hn)
        rw [swR_len] at k2 k3
        refine ⟨k, B, ?_, k1, k2, k3, by rw [rotL, if_neg hij, if_pos hj, k4]⟩
        have h0 := f_swapRange_Cross A (m - i) m j (by omega) (by omega) hn
        have hlen : (swR j A (m - i) m).length = A.length := swR_len ..
        unfold small at hn
        clear ih
        have e1 : (m : Int) - i = (m - i : Nat) := by omega
        have e2 : (i : Int) - j = (i - j : Nat) := by omega
        refine Wp.ev ?_
        refine gg [.b ((↑i : Int) != (↑j : Int)) true, .b (decide ((↑i : Int) > (↑j : Int))) true, .i IntKind.i64 ((↑m : Int) - (↑i : Int)) ((↑(m - i) : Int)), .a _ _, .i IntKind.i64 ((↑i : Int) - (↑j : Int)) ((↑(i - j) : Int)), .a _ _] ⟨tN, tP, oI, o_a h0, oI, o_a ih1, trivial⟩ ?_
        exact ge
      · obtain ⟨k, B, ih1, k1, k2, k3, k4⟩ := ih i (j - i) (swR i A (m - i) (m + j - i)) (by omega) h1 (by omega) h3 (by rw [swR_len]; omega) (by unfold small; rw [swR_len]; exact hn)
        rw [swR_len] at k2 k3
        refine ⟨k, B, ?_, k1, k2, k3, by rw [rotL, if_neg hij, if_neg hj, k4]⟩
        have h0 := f_swapRange_Cross A (m - i) (m + j - i) i (by omega) (by omega) hn
        have hlen : (swR i A (m - i) (m + j - i)).length = A.length := swR_len ..
        unfold small at hn
        clear ih
        have e1 : (m : Int) - i = (m - i : Nat) := by omega
        have e2 : (j : Int) - i = (j - i : Nat) := by omega
        have e3 : (m + j : Nat) - (i : Int) = (m + j - i : Nat) := by omega
        refine Wp.ev ?_
        refine gg [.b ((↑i : Int) != (↑j : Int)) true, .b (decide ((↑i : Int) > (↑j : Int))) false, .i IntKind.i64 ((↑m : Int) - (↑i : Int)) ((↑(m - i) : Int)), .i IntKind.i64 ((↑m : Int) + (↑j : Int)) ((↑(m + j) : Int)), .i IntKind.i64 ((↑(m + j) : Int) - (↑i : Int)) ((↑(m + j - i) : Int)), .a _ _, .i IntKind.i64 ((↑j : Int) - (↑i : Int)) ((↑(j - i) : Int)), .a _ _] ⟨tN, fP, oI, oI, oI, o_a h0, oI, o_a ih1, trivial⟩ ?_
        exact ge
theorem f_rotate_Cross (A : List Cross) (a m b : Nat) (h1 : a < m) (h2 : m < b) (h3 : b ≤ A.length) (hn : small A) : Is cx (.call 194 [.all 0 none, vi a, vi m, vi b, .t (.clo 129 [])] [.arr 15 (A.map Cross.enc) none false])
   ⟨.ret, [], [.arr 15 ((A.take a ++ seg A m b ++ seg A a m ++ A.drop b).map Cross.enc) none false]⟩ := by
  rw [← rotL_seg h1 h2 h3 (Nat.le_refl _)]
  obtain ⟨k, B, h, k1, k2, k3, k4⟩ := f_rotate_loop_Cross m (b - a) (m - a) (b - m) A (by omega) (by omega) (by omega) (by omega) (by omega) hn
  rw [← k4]
  have h0 := f_swapRange_Cross B (m - k) m k (by omega) (by omega) (by unfold small; rw [k3]; exact hn)
  unfold small at hn
  have e1 : (m : Int) - a = (m - a : Nat) := by omega
  have e2 : (b : Int) - m = (b - m : Nat) := by omega
  have e3 : (m : Int) - k = (m - k : Nat) := by omega
  refine Wp.ev ?_
  refine gg [.i IntKind.i64 ((↑m : Int) - (↑a : Int)) ((↑(m - a) : Int)), .i IntKind.i64 ((↑b : Int) - (↑m : Int)) ((↑(b - m) : Int)), .a _ _, .i IntKind.i64 ((↑m : Int) - (↑k : Int)) ((↑(m - k) : Int)), .a _ _] ⟨oI, oI, o_a h, oI, o_a h0, trivial⟩ ?_
  exact ge
end Go.Eva.S3

/- Messages: merged in place. -/
namespace Go.Eva.S3
theorem f_symMerge_bs1_Cross (A : List Cross) (a : Nat) (ha : a < A.length) (hn : small A) : ∀ (d i j : Nat), i ≤ j → j ≤ i + d → j ≤ A.length →
    Is cx (.loop 187 [0, 0, 1, 1, 0, 1, 0] 1 [.all 0 none, vi a, .t (.clo 129 []), vi i, vi j] [.arr 15 (A.map Cross.enc) none false])
      ⟨.exit 0, [.all 0 none, vi a, .t (.clo 129 []), vi (bs (fun h => Cross.less (gt A h) (gt A a)) d i j : Nat), vi (bs (fun h => Cross.less (gt A h) (gt A a)) d i j : Nat)], [.arr 15 (A.map Cross.enc) none false]⟩ := by
  intro d
  induction d with
  | zero =>
    intro i j h1 h2 h3
    obtain rfl : i = j := by omega
    unfold small at hn
    unfold bs
    refine Wp.ev ?_
    refine gg [.b (decide ((↑i : Int) < (↑i : Int))) false] ⟨fP, trivial⟩ ?_
    exact ge
  | succ d ih =>
    intro i j h1 h2 h3
    by_cases hij : i < j
    · obtain ⟨h, hh⟩ : ∃ h, (i + j) / 2 = h := ⟨_, rfl⟩
      have hf : Int.fdiv ((i + j : Nat) : Int) 2 = (h : Nat) := by rw [Int.fdiv_eq_ediv_of_nonneg _ (by omega)]; omega
      have ih1 := ih (h + 1) j (by omega) (by omega) (by omega)
      have ih2 := ih i h (by omega) (by omega) (by omega)
      unfold small at hn
      clear ih
      cases hl : (fun h => Cross.less (gt A h) (gt A a)) h with
      | true =>
        have e : bs (fun h => Cross.less (gt A h) (gt A a)) (d + 1) i j = bs (fun h => Cross.less (gt A h) (gt A a)) d (h + 1) j := by exact bs_t hij hh hl
        rw [e]
        have hl : (gt A h).cmp (gt A a) < 0 := by simpa [Cross.less] using hl
        refine Wp.ev ?_
        refine gg [.b (decide ((↑i : Int) < (↑j : Int))) true, .i IntKind.i64 ((↑i : Int) + (↑j : Int)) ((↑(i + j) : Int)), .i IntKind.u64 ((↑(i + j) : Int)) ((↑(i + j) : Int)), .w ((0 : Int) ≤ (1 : Int)), .t (T.int IntKind.u64 (Int.fdiv (↑(i + j) : Int) 2)) (T.int IntKind.u64 (↑h : Int)), .i IntKind.i64 (↑h : Int) (↑h : Int), .w ((0 : Int) ≤ (↑h : Int)), .n (Int.toNat (↑h : Int)) h, .w (h < List.length (List.map Cross.enc A)), .w ((0 : Int) ≤ (↑a : Int)), .n (Int.toNat (↑a : Int)) a, .w (a < List.length (List.map Cross.enc A)), .g (List.map Cross.enc A) h (Cross.enc (gt A h)), .g (List.map Cross.enc A) a (Cross.enc (gt A a)), .w (isFnB cx (129 : Nat) = true), .a _ _] ⟨tP, oI, oU, oW, o_t (by rw [hf]), oI, oW, o_n (by kernel_rfl), o_w (by (simp; omega)), oW, o_n (by kernel_rfl), o_w (by (simp; omega)), oT, o_gt rfl (by assumption) (by intro h; cases h), o_w (by kernel_rfl), o_a (f_cross_compare (gt A h) (gt A a)), trivial⟩ ?_
        refine gg [.b (decide (Cross.cmp (gt A h) (gt A a) < 0)) true, .i IntKind.i64 ((↑h : Int) + 1) ((↑(h + 1) : Int)), .a _ _] ⟨t_brp (by assumption), oI, o_a ih1, trivial⟩ ?_
        refine rt (a := Res.mk (Ex.exit 0) [V.all 0 none, vi (↑a : Int), V.t (T.clo 129 []), vi (↑(bs (fun (h : Nat) ↦ Cross.less (gt A h) (gt A a)) d (h + 1) j) : Int), vi (↑(bs (fun (h : Nat) ↦ Cross.less (gt A h) (gt A a)) d (h + 1) j) : Int)] [Ob.arr 15 (List.map Cross.enc A) none false]) (by kernel_rfl) ?_
        (first | rfl | omega | (simp_all; done) | (simp_all; omega))
      | false =>
        have e : bs (fun h => Cross.less (gt A h) (gt A a)) (d + 1) i j = bs (fun h => Cross.less (gt A h) (gt A a)) d i h := by exact bs_f hij hh hl
        rw [e]
        have hl : ¬ (gt A h).cmp (gt A a) < 0 := by simpa [Cross.less] using hl
        refine Wp.ev ?_
        refine gg [.b (decide ((↑i : Int) < (↑j : Int))) true, .i IntKind.i64 ((↑i : Int) + (↑j : Int)) ((↑(i + j) : Int)), .i IntKind.u64 ((↑(i + j) : Int)) ((↑(i + j) : Int)), .w ((0 : Int) ≤ (1 : Int)), .t (T.int IntKind.u64 (Int.fdiv (↑(i + j) : Int) 2)) (T.int IntKind.u64 (↑h : Int)), .i IntKind.i64 (↑h : Int) (↑h : Int), .w ((0 : Int) ≤ (↑h : Int)), .n (Int.toNat (↑h : Int)) h, .w (h < List.length (List.map Cross.enc A)), .w ((0 : Int) ≤ (↑a : Int)), .n (Int.toNat (↑a : Int)) a, .w (a < List.length (List.map Cross.enc A)), .g (List.map Cross.enc A) h (Cross.enc (gt A h)), .g (List.map Cross.enc A) a (Cross.enc (gt A a)), .w (isFnB cx (129 : Nat) = true), .a _ _] ⟨tP, oI, oU, oW, o_t (by rw [hf]), oI, oW, o_n (by kernel_rfl), o_w (by (simp; omega)), oW, o_n (by kernel_rfl), o_w (by (simp; omega)), oT, o_gt rfl (by assumption) (by intro h; cases h), o_w (by kernel_rfl), o_a (f_cross_compare (gt A h) (gt A a)), trivial⟩ ?_
        refine gg [.b (decide (Cross.cmp (gt A h) (gt A a) < 0)) false, .a _ _] ⟨f_brp (by assumption), o_a ih2, trivial⟩ ?_
        refine rt (a := Res.mk (Ex.exit 0) [V.all 0 none, vi (↑a : Int), V.t (T.clo 129 []), vi (↑(bs (fun (h : Nat) ↦ Cross.less (gt A h) (gt A a)) d i h) : Int), vi (↑(bs (fun (h : Nat) ↦ Cross.less (gt A h) (gt A a)) d i h) : Int)] [Ob.arr 15 (List.map Cross.enc A) none false]) (by kernel_rfl) ?_
        (first | rfl | omega | (simp_all; done) | (simp_all; omega))
    · obtain rfl : i = j := by omega
      unfold small at hn
      have e : bs (fun h => Cross.less (gt A h) (gt A a)) (d + 1) i i = i := by rw [bs, if_neg hij]
      rw [e]
      refine Wp.ev ?_
      refine gg [.b (decide ((↑i : Int) < (↑i : Int))) false] ⟨fP, trivial⟩ ?_
      exact ge
theorem f_symMerge_bs2_Cross (A : List Cross) (m : Nat) (hm : m < A.length) (hn : small A) : ∀ (d i j : Nat), i ≤ j → j ≤ i + d → j ≤ A.length →
    Is cx (.loop 187 [0, 0, 1, 1, 0, 1, 0, 1] 1 [.all 0 none, vi m, .t (.clo 129 []), vi i, vi j] [.arr 15 (A.map Cross.enc) none false])
      ⟨.exit 4, [.all 0 none, vi m, .t (.clo 129 []), vi (bs (fun h => !Cross.less (gt A m) (gt A h)) d i j : Nat), vi (bs (fun h => !Cross.less (gt A m) (gt A h)) d i j : Nat)], [.arr 15 (A.map Cross.enc) none false]⟩ := by
  intro d
  induction d with
  | zero =>
    intro i j h1 h2 h3
    obtain rfl : i = j := by omega
    unfold small at hn
    unfold bs
    refine Wp.ev ?_
    refine gg [.b (decide ((↑i : Int) < (↑i : Int))) false] ⟨fP, trivial⟩ ?_
    exact ge
  | succ d ih =>
    intro i j h1 h2 h3
    by_cases hij : i < j
    · obtain ⟨h, hh⟩ : ∃ h, (i + j) / 2 = h := ⟨_, rfl⟩
      have hf : Int.fdiv ((i + j : Nat) : Int) 2 = (h : Nat) := by rw [Int.fdiv_eq_ediv_of_nonneg _ (by omega)]; omega
      have ih1 := ih (h + 1) j (by omega) (by omega) (by omega)
      have ih2 := ih i h (by omega) (by omega) (by omega)
      unfold small at hn
      clear ih
      cases hl : (fun h => !Cross.less (gt A m) (gt A h)) h with
      | true =>
        have e : bs (fun h => !Cross.less (gt A m) (gt A h)) (d + 1) i j = bs (fun h => !Cross.less (gt A m) (gt A h)) d (h + 1) j := by exact bs_t hij hh hl
        rw [e]
        have hl : ¬ (gt A m).cmp (gt A h) < 0 := by simpa [Cross.less] using hl
        refine Wp.ev ?_
        refine gg [.b (decide ((↑i : Int) < (↑j : Int))) true, .i IntKind.i64 ((↑i : Int) + (↑j : Int)) ((↑(i + j) : Int)), .i IntKind.u64 ((↑(i + j) : Int)) ((↑(i + j) : Int)), .w ((0 : Int) ≤ (1 : Int)), .t (T.int IntKind.u64 (Int.fdiv (↑(i + j) : Int) 2)) (T.int IntKind.u64 (↑h : Int)), .i IntKind.i64 (↑h : Int) (↑h : Int), .w ((0 : Int) ≤ (↑m : Int)), .n (Int.toNat (↑m : Int)) m, .w (m < List.length (List.map Cross.enc A)), .w ((0 : Int) ≤ (↑h : Int)), .n (Int.toNat (↑h : Int)) h, .w (h < List.length (List.map Cross.enc A)), .g (List.map Cross.enc A) m (Cross.enc (gt A m)), .g (List.map Cross.enc A) h (Cross.enc (gt A h)), .w (isFnB cx (129 : Nat) = true), .a _ _] ⟨tP, oI, oU, oW, o_t (by rw [hf]), oI, oW, o_n (by kernel_rfl), o_w (by (simp; omega)), oW, o_n (by kernel_rfl), o_w (by (simp; omega)), o_gt rfl (by assumption) (by intro h; cases h), oT, o_w (by kernel_rfl), o_a (f_cross_compare (gt A m) (gt A h)), trivial⟩ ?_
        refine brnot (b := decide (Cross.cmp (gt A m) (gt A h) < 0)) (by kernel_rfl) (fun h1 => ?_) (fun h1 => ?_)
        · refine gg [.i IntKind.i64 ((↑h : Int) + 1) ((↑(h + 1) : Int)), .a _ _] ⟨oI, o_a ih1, trivial⟩ ?_
          refine rt (a := Res.mk (Ex.exit 4) [V.all 0 none, vi (↑m : Int), V.t (T.clo 129 []), vi (↑(bs (fun (h : Nat) ↦ !Cross.less (gt A m) (gt A h)) d (h + 1) j) : Int), vi (↑(bs (fun (h : Nat) ↦ !Cross.less (gt A m) (gt A h)) d (h + 1) j) : Int)] [Ob.arr 15 (List.map Cross.enc A) none false]) (by kernel_rfl) ?_
          (first | rfl | omega | (simp_all; done) | (simp_all; omega))
        · refine gg [.a _ _] ⟨o_a ih2, trivial⟩ ?_
          refine rt (a := Res.mk (Ex.exit 4) [V.all 0 none, vi (↑m : Int), V.t (T.clo 129 []), vi (↑(bs (fun (h : Nat) ↦ !Cross.less (gt A m) (gt A h)) d i h) : Int), vi (↑(bs (fun (h : Nat) ↦ !Cross.less (gt A m) (gt A h)) d i h) : Int)] [Ob.arr 15 (List.map Cross.enc A) none false]) (by kernel_rfl) ?_
          (first | rfl | omega | (simp_all; done) | (simp_all; omega))
      | false =>
        have e : bs (fun h => !Cross.less (gt A m) (gt A h)) (d + 1) i j = bs (fun h => !Cross.less (gt A m) (gt A h)) d i h := by exact bs_f hij hh hl
        rw [e]
        have hl : (gt A m).cmp (gt A h) < 0 := by simpa [Cross.less] using hl
        refine Wp.ev ?_
        refine gg [.b (decide ((↑i : Int) < (↑j : Int))) true, .i IntKind.i64 ((↑i : Int) + (↑j : Int)) ((↑(i + j) : Int)), .i IntKind.u64 ((↑(i + j) : Int)) ((↑(i + j) : Int)), .w ((0 : Int) ≤ (1 : Int)), .t (T.int IntKind.u64 (Int.fdiv (↑(i + j) : Int) 2)) (T.int IntKind.u64 (↑h : Int)), .i IntKind.i64 (↑h : Int) (↑h : Int), .w ((0 : Int) ≤ (↑m : Int)), .n (Int.toNat (↑m : Int)) m, .w (m < List.length (List.map Cross.enc A)), .w ((0 : Int) ≤ (↑h : Int)), .n (Int.toNat (↑h : Int)) h, .w (h < List.length (List.map Cross.enc A)), .g (List.map Cross.enc A) m (Cross.enc (gt A m)), .g (List.map Cross.enc A) h (Cross.enc (gt A h)), .w (isFnB cx (129 : Nat) = true), .a _ _] ⟨tP, oI, oU, oW, o_t (by rw [hf]), oI, oW, o_n (by kernel_rfl), o_w (by (simp; omega)), oW, o_n (by kernel_rfl), o_w (by (simp; omega)), o_gt rfl (by assumption) (by intro h; cases h), oT, o_w (by kernel_rfl), o_a (f_cross_compare (gt A m) (gt A h)), trivial⟩ ?_
        refine brnot (b := decide (Cross.cmp (gt A m) (gt A h) < 0)) (by kernel_rfl) (fun h1 => ?_) (fun h1 => ?_)
        · refine gg [.i IntKind.i64 ((↑h : Int) + 1) ((↑(h + 1) : Int)), .a _ _] ⟨oI, o_a ih1, trivial⟩ ?_
          refine rt (a := Res.mk (Ex.exit 4) [V.all 0 none, vi (↑m : Int), V.t (T.clo 129 []), vi (↑(bs (fun (h : Nat) ↦ !Cross.less (gt A m) (gt A h)) d (h + 1) j) : Int), vi (↑(bs (fun (h : Nat) ↦ !Cross.less (gt A m) (gt A h)) d (h + 1) j) : Int)] [Ob.arr 15 (List.map Cross.enc A) none false]) (by kernel_rfl) ?_
          (first | rfl | omega | (simp_all; done) | (simp_all; omega))
        · refine gg [.a _ _] ⟨o_a ih2, trivial⟩ ?_
          refine rt (a := Res.mk (Ex.exit 4) [V.all 0 none, vi (↑m : Int), V.t (T.clo 129 []), vi (↑(bs (fun (h : Nat) ↦ !Cross.less (gt A m) (gt A h)) d i h) : Int), vi (↑(bs (fun (h : Nat) ↦ !Cross.less (gt A m) (gt A h)) d i h) : Int)] [Ob.arr 15 (List.map Cross.enc A) none false]) (by kernel_rfl) ?_
          (first | rfl | omega | (simp_all; done) | (simp_all; omega))
    · obtain rfl : i = j := by omega
      unfold small at hn
      have e : bs (fun h => !Cross.less (gt A m) (gt A h)) (d + 1) i i = i := by rw [bs, if_neg hij]
      rw [e]
      refine Wp.ev ?_
      refine gg [.b (decide ((↑i : Int) < (↑i : Int))) false] ⟨fP, trivial⟩ ?_
      exact ge
theorem f_symMerge_bs3_Cross (A : List Cross) (a m b mid n p : Nat) (hn : small A) : ∀ (d i j : Nat), i ≤ j → j ≤ i + d → j ≤ p + 1 → p < i + A.length → j ≤ A.length →
    Is cx (.loop 187 [0, 0, 1, 1, 1, 1, 1, 1, 1] 1 [.all 0 none, vi a, vi m, vi b, .t (.clo 129 []), vi mid, vi n, vi i, vi j, vi p] [.arr 15 (A.map Cross.enc) none false])
      ⟨.exit 8, [.all 0 none, vi a, vi m, vi b, .t (.clo 129 []), vi mid, vi n, vi (bs (fun c => !Cross.less (gt A (p - c)) (gt A c)) d i j : Nat), vi (bs (fun c => !Cross.less (gt A (p - c)) (gt A c)) d i j : Nat), vi p], [.arr 15 (A.map Cross.enc) none false]⟩ := by
  intro d
  induction d with
  | zero =>
    intro i j h1 h2 h3 h4 h5
    obtain rfl : i = j := by omega
    unfold small at hn
    unfold bs
    refine Wp.ev ?_
    refine gg [.b (decide ((↑i : Int) < (↑i : Int))) false] ⟨fP, trivial⟩ ?_
    exact ge
  | succ d ih =>
    intro i j h1 h2 h3 h4 h5
    by_cases hij : i < j
    · obtain ⟨h, hh⟩ : ∃ h, (i + j) / 2 = h := ⟨_, rfl⟩
      have hf : Int.fdiv ((i + j : Nat) : Int) 2 = (h : Nat) := by rw [Int.fdiv_eq_ediv_of_nonneg _ (by omega)]; omega
      have ih1 := ih (h + 1) j (by omega) (by omega) (by omega) (by omega) (by omega)
      have ih2 := ih i h (by omega) (by omega) (by omega) (by omega) (by omega)
      unfold small at hn
      clear ih
      cases hl : (fun c => !Cross.less (gt A (p - c)) (gt A c)) h with
      | true =>
        have e : bs (fun c => !Cross.less (gt A (p - c)) (gt A c)) (d + 1) i j = bs (fun c => !Cross.less (gt A (p - c)) (gt A c)) d (h + 1) j := by exact bs_t hij hh hl
        rw [e]
        have hl : ¬ (gt A (p - h)).cmp (gt A h) < 0 := by simpa [Cross.less] using hl
        have e1 : (p : Int) - h = (p - h : Nat) := by omega
        refine Wp.ev ?_
        refine gg [.b (decide ((↑i : Int) < (↑j : Int))) true, .i IntKind.i64 ((↑i : Int) + (↑j : Int)) ((↑(i + j) : Int)), .i IntKind.u64 ((↑(i + j) : Int)) ((↑(i + j) : Int)), .w ((0 : Int) ≤ (1 : Int)), .t (T.int IntKind.u64 (Int.fdiv (↑(i + j) : Int) 2)) (T.int IntKind.u64 (↑h : Int)), .i IntKind.i64 (↑h : Int) (↑h : Int), .i IntKind.i64 ((↑p : Int) - (↑h : Int)) ((↑(p - h) : Int)), .w ((0 : Int) ≤ (↑(p - h) : Int)), .n (Int.toNat (↑(p - h) : Int)) (p - h), .w (p - h < List.length (List.map Cross.enc A)), .w ((0 : Int) ≤ (↑h : Int)), .n (Int.toNat (↑h : Int)) h, .w (h < List.length (List.map Cross.enc A)), .g (List.map Cross.enc A) (p - h) (Cross.enc (gt A (p - h))), .g (List.map Cross.enc A) h (Cross.enc (gt A h)), .w (isFnB cx (129 : Nat) = true)] ⟨tP, oI, oU, oW, o_t (by rw [hf]), oI, oI, oW, o_n (by kernel_rfl), o_w (by (simp; omega)), oW, o_n (by kernel_rfl), o_w (by (simp; omega)), oT, oT, o_w (by kernel_rfl), trivial⟩ ?_
        refine gg [.a _ _] ⟨o_a (f_cross_compare (gt A (p - h)) (gt A h)), trivial⟩ ?_
        refine brnot (b := decide (Cross.cmp (gt A (p - h)) (gt A h) < 0)) (by kernel_rfl) (fun h1 => ?_) (fun h1 => ?_)
        · refine gg [.i IntKind.i64 ((↑h : Int) + 1) ((↑(h + 1) : Int)), .a _ _] ⟨oI, o_a ih1, trivial⟩ ?_
          refine rt (a := Res.mk (Ex.exit 8) [V.all 0 none, vi (↑a : Int), vi (↑m : Int), vi (↑b : Int), V.t (T.clo 129 []), vi (↑mid : Int), vi (↑n : Int), vi (↑(bs (fun (c : Nat) ↦ !Cross.less (gt A (p - c)) (gt A c)) d (h + 1) j) : Int), vi (↑(bs (fun (c : Nat) ↦ !Cross.less (gt A (p - c)) (gt A c)) d (h + 1) j) : Int), vi (↑p : Int)] [Ob.arr 15 (List.map Cross.enc A) none false]) (by kernel_rfl) ?_
          (first | rfl | omega | (simp_all; done) | (simp_all; omega))
        · refine gg [.a _ _] ⟨o_a ih2, trivial⟩ ?_
          refine rt (a := Res.mk (Ex.exit 8) [V.all 0 none, vi (↑a : Int), vi (↑m : Int), vi (↑b : Int), V.t (T.clo 129 []), vi (↑mid : Int), vi (↑n : Int), vi (↑(bs (fun (c : Nat) ↦ !Cross.less (gt A (p - c)) (gt A c)) d i h) : Int), vi (↑(bs (fun (c : Nat) ↦ !Cross.less (gt A (p - c)) (gt A c)) d i h) : Int), vi (↑p : Int)] [Ob.arr 15 (List.map Cross.enc A) none false]) (by kernel_rfl) ?_
          (first | rfl | omega | (simp_all; done) | (simp_all; omega))
      | false =>
        have e : bs (fun c => !Cross.less (gt A (p - c)) (gt A c)) (d + 1) i j = bs (fun c => !Cross.less (gt A (p - c)) (gt A c)) d i h := by exact bs_f hij hh hl
        rw [e]
        have hl : (gt A (p - h)).cmp (gt A h) < 0 := by simpa [Cross.less] using hl
        have e1 : (p : Int) - h = (p - h : Nat) := by omega
        refine Wp.ev ?_
        refine gg [.b (decide ((↑i : Int) < (↑j : Int))) true, .i IntKind.i64 ((↑i : Int) + (↑j : Int)) ((↑(i + j) : Int)), .i IntKind.u64 ((↑(i + j) : Int)) ((↑(i + j) : Int)), .w ((0 : Int) ≤ (1 : Int)), .t (T.int IntKind.u64 (Int.fdiv (↑(i + j) : Int) 2)) (T.int IntKind.u64 (↑h : Int)), .i IntKind.i64 (↑h : Int) (↑h : Int), .i IntKind.i64 ((↑p : Int) - (↑h : Int)) ((↑(p - h) : Int)), .w ((0 : Int) ≤ (↑(p - h) : Int)), .n (Int.toNat (↑(p - h) : Int)) (p - h), .w (p - h < List.length (List.map Cross.enc A)), .w ((0 : Int) ≤ (↑h : Int)), .n (Int.toNat (↑h : Int)) h, .w (h < List.length (List.map Cross.enc A)), .g (List.map Cross.enc A) (p - h) (Cross.enc (gt A (p - h))), .g (List.map Cross.enc A) h (Cross.enc (gt A h)), .w (isFnB cx (129 : Nat) = true)] ⟨tP, oI, oU, oW, o_t (by rw [hf]), oI, oI, oW, o_n (by kernel_rfl), o_w (by (simp; omega)), oW, o_n (by kernel_rfl), o_w (by (simp; omega)), oT, oT, o_w (by kernel_rfl), trivial⟩ ?_
        refine gg [.a _ _] ⟨o_a (f_cross_compare (gt A (p - h)) (gt A h)), trivial⟩ ?_
        refine brnot (b := decide (Cross.cmp (gt A (p - h)) (gt A h) < 0)) (by kernel_rfl) (fun h1 => ?_) (fun h1 => ?_)
        · refine gg [.i IntKind.i64 ((↑h : Int) + 1) ((↑(h + 1) : Int)), .a _ _] ⟨oI, o_a ih1, trivial⟩ ?_
          refine rt (a := Res.mk (Ex.exit 8) [V.all 0 none, vi (↑a : Int), vi (↑m : Int), vi (↑b : Int), V.t (T.clo 129 []), vi (↑mid : Int), vi (↑n : Int), vi (↑(bs (fun (c : Nat) ↦ !Cross.less (gt A (p - c)) (gt A c)) d (h + 1) j) : Int), vi (↑(bs (fun (c : Nat) ↦ !Cross.less (gt A (p - c)) (gt A c)) d (h + 1) j) : Int), vi (↑p : Int)] [Ob.arr 15 (List.map Cross.enc A) none false]) (by kernel_rfl) ?_
          (first | rfl | omega | (simp_all; done) | (simp_all; omega))
        · refine gg [.a _ _] ⟨o_a ih2, trivial⟩ ?_
          refine rt (a := Res.mk (Ex.exit 8) [V.all 0 none, vi (↑a : Int), vi (↑m : Int), vi (↑b : Int), V.t (T.clo 129 []), vi (↑mid : Int), vi (↑n : Int), vi (↑(bs (fun (c : Nat) ↦ !Cross.less (gt A (p - c)) (gt A c)) d i h) : Int), vi (↑(bs (fun (c : Nat) ↦ !Cross.less (gt A (p - c)) (gt A c)) d i h) : Int), vi (↑p : Int)] [Ob.arr 15 (List.map Cross.enc A) none false]) (by kernel_rfl) ?_
          (first | rfl | omega | (simp_all; done) | (simp_all; omega))
    · obtain rfl : i = j := by omega
      unfold small at hn
      have e : bs (fun c => !Cross.less (gt A (p - c)) (gt A c)) (d + 1) i i = i := by rw [bs, if_neg hij]
      rw [e]
      refine Wp.ev ?_
      refine gg [.b (decide ((↑i : Int) < (↑i : Int))) false] ⟨fP, trivial⟩ ?_
      exact ge
theorem f_symMerge_up_Cross : ∀ (d k i : Nat) (A : List Cross), k + d = i - 1 → i ≤ A.length → small A →
    Is cx (.loop 187 [0, 1, 0, 1, 1, 1, 0, 1, 0] 1 [.all 0 none, vi i, vi k] [.arr 15 (A.map Cross.enc) none false])
      ⟨.exit 2, [.all 0 none, vi i, vi (i - 1 : Nat)], [.arr 15 ((up d A k).map Cross.enc) none false]⟩ := by
  intro d
  induction d with
  | zero =>
    intro k i A h1 h2 hn
    unfold small at hn
    obtain rfl : k = i - 1 := by omega
    unfold up
    refine Wp.ev ?_
    refine gg [.i IntKind.i64 ((↑i : Int) - 1) ((↑i : Int) - 1), .b (decide ((↑(i - 1) : Int) < (↑i : Int) - 1)) false] ⟨oI, fP, trivial⟩ ?_
    exact ge
  | succ d ih =>
    intro k i A h1 h2 hn
    have ih1 := ih (k + 1) i (sw A k (k + 1)) (by omega) (by rw [sw_len]; omega) (by unfold small; rw [sw_len]; exact hn)
    unfold small at hn
    clear ih
    unfold up
    unfold sw at *
    refine Wp.ev ?_
    refine gg [.i IntKind.i64 ((↑i : Int) - 1) ((↑i : Int) - 1), .b (decide ((↑k : Int) < (↑i : Int) - 1)) true, .i IntKind.i64 ((↑k : Int) + 1) ((↑(k + 1) : Int)), .i IntKind.i64 ((↑k : Int) + 1) ((↑(k + 1) : Int)), .w ((0 : Int) ≤ (↑(k + (1 : Nat)) : Int)), .n (Int.toNat (↑(k + 1) : Int)) (k + 1), .w (k + (1 : Nat) < List.length (List.map Cross.enc A)), .w ((0 : Int) ≤ (↑k : Int)), .n (Int.toNat (↑k : Int)) k, .w (k < List.length (List.map Cross.enc A)), .g (List.map Cross.enc A) (k + 1) (Cross.enc (gt A (k + 1))), .g (List.map Cross.enc A) k (Cross.enc (gt A k)), .w ((0 : Int) ≤ (↑k : Int)), .n (Int.toNat (↑k : Int)) k, .w (k < List.length (List.map Cross.enc A)), .w (k < List.length (List.map Cross.enc A))] ⟨oI, tP, oI, oI, oW, o_n (by kernel_rfl), o_w (by (simp; omega)), oW, o_n (by kernel_rfl), o_w (by (simp; omega)), oT, oT, oW, o_n (by kernel_rfl), o_w (by (simp; omega)), o_w (by (simp; omega)), trivial⟩ ?_
    refine gg [.t (T.sl 0 (List.set (List.map Cross.enc A) k (Cross.enc (gt A (k + 1))))) (T.sl 0 (List.map Cross.enc (List.set A k (gt A (k + 1))))), .w ((0 : Int) ≤ (↑(k + (1 : Nat)) : Int)), .n (Int.toNat (↑(k + 1) : Int)) (k + 1), .w (k + (1 : Nat) < List.length (List.map Cross.enc (List.set A k (gt A (k + (1 : Nat)))))), .w (k + (1 : Nat) < List.length (List.map Cross.enc (List.set A k (gt A (k + (1 : Nat)))))), .t (T.sl 0 (List.set (List.map Cross.enc (List.set A k (gt A (k + 1)))) (k + 1) (Cross.enc (gt A k)))) (T.sl 0 (List.map Cross.enc (List.set (List.set A k (gt A (k + 1))) (k + 1) (gt A k)))), .i IntKind.i64 ((↑k : Int) + 1) ((↑(k + 1) : Int)), .a _ _] ⟨o_l (nm_set rfl rfl), oW, o_n (by kernel_rfl), o_w (by (simp; omega)), o_w (by (simp; omega)), o_l (nm_set rfl rfl), oI, o_a ih1, trivial⟩ ?_
    exact ge
theorem f_symMerge_down_Cross (i : Nat) : ∀ (d k : Nat) (A : List Cross), k = i + d → k < A.length → small A →
    Is cx (.loop 187 [0, 1, 0, 1, 1, 1, 0, 1, 0, 1] 1 [.all 0 none, vi i, vi k] [.arr 15 (A.map Cross.enc) none false])
      ⟨.exit 6, [.all 0 none, vi i, vi i], [.arr 15 ((down d A k).map Cross.enc) none false]⟩ := by
  intro d
  induction d with
  | zero =>
    intro k A h1 h2 hn
    unfold small at hn
    obtain rfl : k = i := by omega
    unfold down
    refine Wp.ev ?_
    refine gg [.b (decide ((↑k : Int) > (↑k : Int))) false] ⟨fP, trivial⟩ ?_
    exact ge
  | succ d ih =>
    intro k A h1 h2 hn
    have ih1 := ih (k - 1) (sw A k (k - 1)) (by omega) (by rw [sw_len]; omega) (by unfold small; rw [sw_len]; exact hn)
    unfold small at hn
    clear ih
    have e1 : (k : Int) - 1 = (k - 1 : Nat) := by omega
    unfold down
    unfold sw at *
    refine Wp.ev ?_
    refine gg [.b (decide ((↑k : Int) > (↑i : Int))) true, .i IntKind.i64 ((↑k : Int) - 1) ((↑(k - 1) : Int)), .i IntKind.i64 ((↑k : Int) - 1) ((↑(k - 1) : Int)), .w ((0 : Int) ≤ (↑(k - (1 : Nat)) : Int)), .n (Int.toNat (↑(k - 1) : Int)) (k - 1), .w (k - (1 : Nat) < List.length (List.map Cross.enc A)), .w ((0 : Int) ≤ (↑k : Int)), .n (Int.toNat (↑k : Int)) k, .w (k < List.length (List.map Cross.enc A)), .g (List.map Cross.enc A) (k - 1) (Cross.enc (gt A (k - 1))), .g (List.map Cross.enc A) k (Cross.enc (gt A k)), .w ((0 : Int) ≤ (↑k : Int)), .n (Int.toNat (↑k : Int)) k, .w (k < List.length (List.map Cross.enc A)), .w (k < List.length (List.map Cross.enc A)), .t (T.sl 0 (List.set (List.map Cross.enc A) k (Cross.enc (gt A (k - 1))))) (T.sl 0 (List.map Cross.enc (List.set A k (gt A (k - 1)))))] ⟨tP, oI, oI, oW, o_n (by kernel_rfl), o_w (by (simp; omega)), oW, o_n (by kernel_rfl), o_w (by (simp; omega)), oT, o_gt rfl (by assumption) (by intro h; cases h), oW, o_n (by kernel_rfl), o_w (by (simp; omega)), o_w (by (simp; omega)), o_l (nm_set rfl rfl), trivial⟩ ?_
    refine gg [.w ((0 : Int) ≤ (↑(k - (1 : Nat)) : Int)), .n (Int.toNat (↑(k - 1) : Int)) (k - 1), .w (k - (1 : Nat) < List.length (List.map Cross.enc (List.set A k (gt A (k - (1 : Nat)))))), .w (k - (1 : Nat) < List.length (List.map Cross.enc (List.set A k (gt A (k - (1 : Nat)))))), .t (T.sl 0 (List.set (List.map Cross.enc (List.set A k (gt A (k - 1)))) (k - 1) (Cross.enc (gt A k)))) (T.sl 0 (List.map Cross.enc (List.set (List.set A k (gt A (k - 1))) (k - 1) (gt A k)))), .i IntKind.i64 ((↑k : Int) - 1) ((↑(k - 1) : Int)), .a _ _] ⟨oW, o_n (by kernel_rfl), o_w (by (simp; omega)), o_w (by (simp; omega)), o_l (nm_set rfl rfl), oI, o_a ih1, trivial⟩ ?_
    exact ge
end Go.Eva.S3

/- Messages: merged in place. -/
namespace Go.Eva.S3
theorem f_symMerge_first_Cross (P V Q : List Cross) (x : Cross) (a m b : Nat) (ha : a = P.length) (hm : m = a + 1) (hb : b = m + V.length) (h0 : 0 < V.length) (hV : Sd Cross.less V) (hn : small (P ++ [x] ++ V ++ Q)) :
    Is cx (.call 187 [.all 0 none, vi a, vi m, vi b, .t (.clo 129 [])] [.arr 15 ((P ++ [x] ++ V ++ Q).map Cross.enc) none false])
   ⟨.ret, [], [.arr 15 ((P ++ sortS Cross.less ([x] ++ V) ++ Q).map Cross.enc) none false]⟩ := by
  have hl : (P ++ [x] ++ V ++ Q).length = b + Q.length := by simp; omega
  have hbs := f_symMerge_bs1_Cross (P ++ [x] ++ V ++ Q) a (by omega) hn (b - m) m b (by omega) (by omega) (by omega)
  obtain ⟨k1, k2, k3⟩ := merge_first Cross_swo (Q := Q) (x := x) (d := b - m) ha hm hb (by omega) hV rfl
  generalize bs _ (b - m) m b = s at *
  have hup := f_symMerge_up_Cross (s - 1 - a) a s (P ++ [x] ++ V ++ Q) (by omega) (by omega) hn
  rw [k3] at hup
  clear k3 hV
  generalize P ++ [x] ++ V ++ Q = A at *
  generalize P ++ sortS Cross.less ([x] ++ V) ++ Q = B at *
  unfold small at hn
  refine Wp.ev ?_
  refine gg [.i IntKind.i64 ((↑m : Int) - (↑a : Int)) ((↑m : Int) - (↑a : Int)), .b ((↑m : Int) - (↑a : Int) == 1) true, .a _ _, .a _ _] ⟨oI, tE, o_a hbs, o_a hup, trivial⟩ ?_
  exact ge
theorem f_symMerge_last_Cross (P U Q : List Cross) (y : Cross) (a m b : Nat) (ha : a = P.length) (hm : m = a + U.length) (hb : b = m + 1) (h0 : 1 < U.length) (hU : Sd Cross.less U) (hn : small (P ++ U ++ [y] ++ Q)) :
    Is cx (.call 187 [.all 0 none, vi a, vi m, vi b, .t (.clo 129 [])] [.arr 15 ((P ++ U ++ [y] ++ Q).map Cross.enc) none false])
   ⟨.ret, [], [.arr 15 ((P ++ sortS Cross.less (U ++ [y]) ++ Q).map Cross.enc) none false]⟩ := by
  have hl : (P ++ U ++ [y] ++ Q).length = b + Q.length := by simp; omega
  have hbs := f_symMerge_bs2_Cross (P ++ U ++ [y] ++ Q) m (by omega) hn (m - a) a m (by omega) (by omega) (by omega)
  obtain ⟨k1, k2, k3⟩ := merge_last Cross_swo (Q := Q) (y := y) (d := m - a) ha hm (by omega) hU rfl
  generalize bs _ (m - a) a m = s at *
  have hup := f_symMerge_down_Cross s (m - s) m (P ++ U ++ [y] ++ Q) (by omega) (by omega) hn
  rw [k3] at hup
  clear k3 hU
  generalize P ++ U ++ [y] ++ Q = A at *
  generalize P ++ sortS Cross.less (U ++ [y]) ++ Q = B at *
  unfold small at hn
  refine Wp.ev ?_
  refine gg [.i IntKind.i64 ((↑m : Int) - (↑a : Int)) ((↑m : Int) - (↑a : Int)), .b ((↑m : Int) - (↑a : Int) == 1) false, .i IntKind.i64 ((↑b : Int) - (↑m : Int)) ((↑b : Int) - (↑m : Int)), .b ((↑b : Int) - (↑m : Int) == 1) true, .a _ _, .a _ _] ⟨oI, fE, oI, tE, o_a hbs, o_a hup, trivial⟩ ?_
  exact ge
end Go.Eva.S3

/- Messages: merged in place, all cases. -/
namespace Go.Eva.S3
theorem f_symMerge_genA_Cross (A0 A1 A2 A3 : List Cross) (a m b mid s : Nat) (hmid : (a + b) / 2 = mid) (hc : m ≤ mid)
    (h1 : a + 1 < m) (h2 : m + 1 < b) (hb : b ≤ A0.length) (hn : small A0) (hs : a ≤ s ∧ s ≤ m)
    (hbs : Is cx (.loop 187 [0, 0, 1, 1, 1, 1, 1, 1, 1] 1 [.all 0 none, vi a, vi m, vi b, .t (.clo 129 []), vi mid, vi (mid + m : Nat), vi a, vi m, vi (mid + m - 1 : Nat)] [.arr 15 (A0.map Cross.enc) none false])
      ⟨.exit 8, [.all 0 none, vi a, vi m, vi b, .t (.clo 129 []), vi mid, vi (mid + m : Nat), vi s, vi s, vi (mid + m - 1 : Nat)], [.arr 15 (A0.map Cross.enc) none false]⟩)
    (k1 : s < m → s < mid → Is cx (.call 194 [.all 0 none, vi s, vi m, vi (mid + m - s : Nat), .t (.clo 129 [])] [.arr 15 (A0.map Cross.enc) none false]) ⟨.ret, [], [.arr 15 (A1.map Cross.enc) none false]⟩)
    (k1' : ¬ (s < m ∧ s < mid) → A0 = A1)
    (k2 : a < s → s < mid → Is cx (.call 187 [.all 0 none, vi a, vi s, vi mid, .t (.clo 129 [])] [.arr 15 (A1.map Cross.enc) none false]) ⟨.ret, [], [.arr 15 (A2.map Cross.enc) none false]⟩)
    (k2' : ¬ (a < s ∧ s < mid) → A1 = A2)
    (k3 : s < m → mid + m < b + s → Is cx (.call 187 [.all 0 none, vi mid, vi (mid + m - s : Nat), vi b, .t (.clo 129 [])] [.arr 15 (A2.map Cross.enc) none false]) ⟨.ret, [], [.arr 15 (A3.map Cross.enc) none false]⟩)
    (k3' : ¬ (s < m ∧ mid + m < b + s) → A2 = A3) :
    Is cx (.call 187 [.all 0 none, vi a, vi m, vi b, .t (.clo 129 [])] [.arr 15 (A0.map Cross.enc) none false])
   ⟨.ret, [], [.arr 15 (A3.map Cross.enc) none false]⟩ := by
  have hf : Int.fdiv ((a + b : Nat) : Int) 2 = (mid : Nat) := by rw [Int.fdiv_eq_ediv_of_nonneg _ (by omega)]; omega
  have hmm : a < mid ∧ mid < b := by omega
  unfold small at hn
  have e1 : ((mid + m : Nat) : Int) - 1 = (mid + m - 1 : Nat) := by omega
  have e2 : ((mid + m : Nat) : Int) - s = (mid + m - s : Nat) := by omega
  by_cases c1 : s < m ∧ s < mid
  · have j1 := k1 c1.1 c1.2
    by_cases c2 : a < s
    · have j2 := k2 c2 c1.2
      by_cases c3 : mid + m < b + s
      · have j3 := k3 c1.1 c3
        clear k1' k2' k3' k1 k2 k3
        refine Wp.ev ?_
        refine gg [.i IntKind.i64 ((↑m : Int) - (↑a : Int)) ((↑m : Int) - (↑a : Int)), .b ((↑m : Int) - (↑a : Int) == 1) false, .i IntKind.i64 ((↑b : Int) - (↑m : Int)) ((↑b : Int) - (↑m : Int)), .b ((↑b : Int) - (↑m : Int) == 1) false, .i IntKind.i64 ((↑a : Int) + (↑b : Int)) ((↑(a + b) : Int)), .i IntKind.u64 ((↑(a + b) : Int)) ((↑(a + b) : Int)), .w ((0 : Int) ≤ (1 : Int)), .t (T.int IntKind.u64 (Int.fdiv (↑(a + b) : Int) 2)) (T.int IntKind.u64 (↑mid : Int)), .i IntKind.i64 (↑mid : Int) (↑mid : Int), .i IntKind.i64 ((↑mid : Int) + (↑m : Int)) ((↑(mid + m) : Int)), .b (decide ((↑m : Int) > (↑mid : Int))) false, .i IntKind.i64 ((↑(mid + m) : Int) - 1) ((↑(mid + m - 1) : Int)), .a _ _, .i IntKind.i64 ((↑(mid + m) : Int) - (↑s : Int)) ((↑(mid + m - s) : Int)), .b (decide ((↑s : Int) < (↑m : Int))) true, .tt] ⟨oI, fE, oI, fE, oI, oU, oW, o_t (by rw [hf]), oI, oI, fP, oI, o_a hbs, oI, tP, trivial⟩ ?_
        refine gg [.tt, .tt, .b (decide ((↑m : Int) < (↑(mid + m - s) : Int))) true, .a _ _, .b (decide ((↑a : Int) < (↑s : Int))) true, .tt, .tt, .tt, .b (decide ((↑s : Int) < (↑mid : Int))) true, .a _ _, .b (decide ((↑mid : Int) < (↑(mid + m - s) : Int))) true, .tt, .tt, .tt, .b (decide ((↑(mid + m - s) : Int) < (↑b : Int))) true, .a _ _] ⟨tP, o_a j1, tP, tP, o_a j2, tP, tP, o_a j3, trivial⟩ ?_
        exact ge
      · obtain rfl := k3' (fun h => c3 h.2)
        clear k1' k2' k3' k1 k2 k3
        omega
    · obtain rfl := k2' (fun h => c2 h.1)
      by_cases c3 : mid + m < b + s
      · have j3 := k3 c1.1 c3
        clear k1' k2' k3' k1 k2 k3
        refine Wp.ev ?_
        refine gg [.i IntKind.i64 ((↑m : Int) - (↑a : Int)) ((↑m : Int) - (↑a : Int)), .b ((↑m : Int) - (↑a : Int) == 1) false, .i IntKind.i64 ((↑b : Int) - (↑m : Int)) ((↑b : Int) - (↑m : Int)), .b ((↑b : Int) - (↑m : Int) == 1) false, .i IntKind.i64 ((↑a : Int) + (↑b : Int)) ((↑(a + b) : Int)), .i IntKind.u64 ((↑(a + b) : Int)) ((↑(a + b) : Int)), .w ((0 : Int) ≤ (1 : Int)), .t (T.int IntKind.u64 (Int.fdiv (↑(a + b) : Int) 2)) (T.int IntKind.u64 (↑mid : Int)), .i IntKind.i64 (↑mid : Int) (↑mid : Int), .i IntKind.i64 ((↑mid : Int) + (↑m : Int)) ((↑(mid + m) : Int)), .b (decide ((↑m : Int) > (↑mid : Int))) false, .i IntKind.i64 ((↑(mid + m) : Int) - 1) ((↑(mid + m - 1) : Int)), .a _ _, .i IntKind.i64 ((↑(mid + m) : Int) - (↑s : Int)) ((↑(mid + m - s) : Int)), .b (decide ((↑s : Int) < (↑m : Int))) true, .tt] ⟨oI, fE, oI, fE, oI, oU, oW, o_t (by rw [hf]), oI, oI, fP, oI, o_a hbs, oI, tP, trivial⟩ ?_
        refine gg [.tt, .tt, .b (decide ((↑m : Int) < (↑(mid + m - s) : Int))) true, .a _ _, .b (decide ((↑a : Int) < (↑s : Int))) false, .ff, .ff, .ff, .ff, .b (decide ((↑mid : Int) < (↑(mid + m - s) : Int))) true, .tt, .tt, .tt, .b (decide ((↑(mid + m - s) : Int) < (↑b : Int))) true, .a _ _] ⟨tP, o_a j1, fP, tP, tP, o_a j3, trivial⟩ ?_
        exact ge
      · obtain rfl := k3' (fun h => c3 h.2)
        clear k1' k2' k3' k1 k2 k3
        refine Wp.ev ?_
        refine gg [.i IntKind.i64 ((↑m : Int) - (↑a : Int)) ((↑m : Int) - (↑a : Int)), .b ((↑m : Int) - (↑a : Int) == 1) false, .i IntKind.i64 ((↑b : Int) - (↑m : Int)) ((↑b : Int) - (↑m : Int)), .b ((↑b : Int) - (↑m : Int) == 1) false, .i IntKind.i64 ((↑a : Int) + (↑b : Int)) ((↑(a + b) : Int)), .i IntKind.u64 ((↑(a + b) : Int)) ((↑(a + b) : Int)), .w ((0 : Int) ≤ (1 : Int)), .t (T.int IntKind.u64 (Int.fdiv (↑(a + b) : Int) 2)) (T.int IntKind.u64 (↑mid : Int)), .i IntKind.i64 (↑mid : Int) (↑mid : Int), .i IntKind.i64 ((↑mid : Int) + (↑m : Int)) ((↑(mid + m) : Int)), .b (decide ((↑m : Int) > (↑mid : Int))) false, .i IntKind.i64 ((↑(mid + m) : Int) - 1) ((↑(mid + m - 1) : Int)), .a _ _, .i IntKind.i64 ((↑(mid + m) : Int) - (↑s : Int)) ((↑(mid + m - s) : Int)), .b (decide ((↑s : Int) < (↑m : Int))) true, .tt] ⟨oI, fE, oI, fE, oI, oU, oW, o_t (by rw [hf]), oI, oI, fP, oI, o_a hbs, oI, tP, trivial⟩ ?_
        refine gg [.tt, .tt, .b (decide ((↑m : Int) < (↑(mid + m - s) : Int))) true, .a _ _, .b (decide ((↑a : Int) < (↑s : Int))) false, .ff, .ff, .ff, .ff, .b (decide ((↑mid : Int) < (↑(mid + m - s) : Int))) true, .tt, .tt, .tt, .b (decide ((↑(mid + m - s) : Int) < (↑b : Int))) false] ⟨tP, o_a j1, fP, tP, fP, trivial⟩ ?_
        exact ge
  · obtain rfl := k1' c1
    by_cases c0 : s < m
    · have c4 : ¬ s < mid := fun h => c1 ⟨c0, h⟩
      obtain rfl := k2' (fun h => c4 h.2)
      by_cases c3 : mid + m < b + s
      · have j3 := k3 c0 c3
        clear k1' k2' k3' k1 k2 k3
        by_cases c2 : a < s
        · omega
        · omega
      · obtain rfl := k3' (fun h => c3 h.2)
        clear k1' k2' k3' k1 k2 k3
        by_cases c2 : a < s
        · omega
        · omega
    · obtain rfl := k3' (fun h => c0 h.1)
      by_cases c4 : s < mid
      · have j2 := k2 (by omega) c4
        clear k1' k2' k3' k1 k2 k3
        refine Wp.ev ?_
        refine gg [.i IntKind.i64 ((↑m : Int) - (↑a : Int)) ((↑m : Int) - (↑a : Int)), .b ((↑m : Int) - (↑a : Int) == 1) false, .i IntKind.i64 ((↑b : Int) - (↑m : Int)) ((↑b : Int) - (↑m : Int)), .b ((↑b : Int) - (↑m : Int) == 1) false, .i IntKind.i64 ((↑a : Int) + (↑b : Int)) ((↑(a + b) : Int)), .i IntKind.u64 ((↑(a + b) : Int)) ((↑(a + b) : Int)), .w ((0 : Int) ≤ (1 : Int)), .t (T.int IntKind.u64 (Int.fdiv (↑(a + b) : Int) 2)) (T.int IntKind.u64 (↑mid : Int)), .i IntKind.i64 (↑mid : Int) (↑mid : Int), .i IntKind.i64 ((↑mid : Int) + (↑m : Int)) ((↑(mid + m) : Int)), .b (decide ((↑m : Int) > (↑mid : Int))) false, .i IntKind.i64 ((↑(mid + m) : Int) - 1) ((↑(mid + m - 1) : Int)), .a _ _, .i IntKind.i64 ((↑(mid + m) : Int) - (↑s : Int)) ((↑(mid + m - s) : Int)), .b (decide ((↑s : Int) < (↑m : Int))) false, .ff] ⟨oI, fE, oI, fE, oI, oU, oW, o_t (by rw [hf]), oI, oI, fP, oI, o_a hbs, oI, fP, trivial⟩ ?_
        refine gg [.ff, .ff, .ff, .b (decide ((↑a : Int) < (↑s : Int))) true, .tt, .tt, .tt, .b (decide ((↑s : Int) < (↑mid : Int))) true, .a _ _, .b (decide ((↑mid : Int) < (↑(mid + m - s) : Int))) false, .ff, .ff, .ff, .ff] ⟨tP, tP, o_a j2, fP, trivial⟩ ?_
        exact ge
      · obtain rfl := k2' (fun h => c4 h.2)
        clear k1' k2' k3' k1 k2 k3
        by_cases c2 : a < s
        · refine Wp.ev ?_
          refine gg [.i IntKind.i64 ((↑m : Int) - (↑a : Int)) ((↑m : Int) - (↑a : Int)), .b ((↑m : Int) - (↑a : Int) == 1) false, .i IntKind.i64 ((↑b : Int) - (↑m : Int)) ((↑b : Int) - (↑m : Int)), .b ((↑b : Int) - (↑m : Int) == 1) false, .i IntKind.i64 ((↑a : Int) + (↑b : Int)) ((↑(a + b) : Int)), .i IntKind.u64 ((↑(a + b) : Int)) ((↑(a + b) : Int)), .w ((0 : Int) ≤ (1 : Int)), .t (T.int IntKind.u64 (Int.fdiv (↑(a + b) : Int) 2)) (T.int IntKind.u64 (↑mid : Int)), .i IntKind.i64 (↑mid : Int) (↑mid : Int), .i IntKind.i64 ((↑mid : Int) + (↑m : Int)) ((↑(mid + m) : Int)), .b (decide ((↑m : Int) > (↑mid : Int))) false, .i IntKind.i64 ((↑(mid + m) : Int) - 1) ((↑(mid + m - 1) : Int)), .a _ _, .i IntKind.i64 ((↑(mid + m) : Int) - (↑s : Int)) ((↑(mid + m - s) : Int)), .b (decide ((↑s : Int) < (↑m : Int))) false, .ff] ⟨oI, fE, oI, fE, oI, oU, oW, o_t (by rw [hf]), oI, oI, fP, oI, o_a hbs, oI, fP, trivial⟩ ?_
          refine gg [.ff, .ff, .ff, .b (decide ((↑a : Int) < (↑s : Int))) true, .tt, .tt, .tt, .b (decide ((↑s : Int) < (↑mid : Int))) false, .b (decide ((↑mid : Int) < (↑(mid + m - s) : Int))) false, .ff, .ff, .ff, .ff] ⟨tP, fP, fP, trivial⟩ ?_
          exact ge
        · omega
theorem f_symMerge_genB_Cross (A0 A1 A2 A3 : List Cross) (a m b mid s : Nat) (hmid : (a + b) / 2 = mid) (hc : mid < m)
    (h1 : a + 1 < m) (h2 : m + 1 < b) (hb : b ≤ A0.length) (hn : small A0) (hs : mid + m - b ≤ s ∧ s ≤ mid)
    (hbs : Is cx (.loop 187 [0, 0, 1, 1, 1, 1, 1, 1, 1] 1 [.all 0 none, vi a, vi m, vi b, .t (.clo 129 []), vi mid, vi (mid + m : Nat), vi (mid + m - b : Nat), vi mid, vi (mid + m - 1 : Nat)] [.arr 15 (A0.map Cross.enc) none false])
      ⟨.exit 8, [.all 0 none, vi a, vi m, vi b, .t (.clo 129 []), vi mid, vi (mid + m : Nat), vi s, vi s, vi (mid + m - 1 : Nat)], [.arr 15 (A0.map Cross.enc) none false]⟩)
    (k1 : s < m → s < mid → Is cx (.call 194 [.all 0 none, vi s, vi m, vi (mid + m - s : Nat), .t (.clo 129 [])] [.arr 15 (A0.map Cross.enc) none false]) ⟨.ret, [], [.arr 15 (A1.map Cross.enc) none false]⟩)
    (k1' : ¬ (s < m ∧ s < mid) → A0 = A1)
    (k2 : a < s → s < mid → Is cx (.call 187 [.all 0 none, vi a, vi s, vi mid, .t (.clo 129 [])] [.arr 15 (A1.map Cross.enc) none false]) ⟨.ret, [], [.arr 15 (A2.map Cross.enc) none false]⟩)
    (k2' : ¬ (a < s ∧ s < mid) → A1 = A2)
    (k3 : s < m → mid + m < b + s → Is cx (.call 187 [.all 0 none, vi mid, vi (mid + m - s : Nat), vi b, .t (.clo 129 [])] [.arr 15 (A2.map Cross.enc) none false]) ⟨.ret, [], [.arr 15 (A3.map Cross.enc) none false]⟩)
    (k3' : ¬ (s < m ∧ mid + m < b + s) → A2 = A3) :
    Is cx (.call 187 [.all 0 none, vi a, vi m, vi b, .t (.clo 129 [])] [.arr 15 (A0.map Cross.enc) none false])
   ⟨.ret, [], [.arr 15 (A3.map Cross.enc) none false]⟩ := by
  have hf : Int.fdiv ((a + b : Nat) : Int) 2 = (mid : Nat) := by rw [Int.fdiv_eq_ediv_of_nonneg _ (by omega)]; omega
  have hmm : a < mid ∧ mid < b := by omega
  unfold small at hn
  have e1 : ((mid + m : Nat) : Int) - 1 = (mid + m - 1 : Nat) := by omega
  have e2 : ((mid + m : Nat) : Int) - s = (mid + m - s : Nat) := by omega
  have e3 : ((mid + m : Nat) : Int) - b = (mid + m - b : Nat) := by omega
  by_cases c1 : s < m ∧ s < mid
  · have j1 := k1 c1.1 c1.2
    by_cases c2 : a < s
    · have j2 := k2 c2 c1.2
      by_cases c3 : mid + m < b + s
      · have j3 := k3 c1.1 c3
        clear k1' k2' k3' k1 k2 k3
        refine Wp.ev ?_
        refine gg [.i IntKind.i64 ((↑m : Int) - (↑a : Int)) ((↑m : Int) - (↑a : Int)), .b ((↑m : Int) - (↑a : Int) == 1) false, .i IntKind.i64 ((↑b : Int) - (↑m : Int)) ((↑b : Int) - (↑m : Int)), .b ((↑b : Int) - (↑m : Int) == 1) false, .i IntKind.i64 ((↑a : Int) + (↑b : Int)) ((↑(a + b) : Int)), .i IntKind.u64 ((↑(a + b) : Int)) ((↑(a + b) : Int)), .w ((0 : Int) ≤ (1 : Int)), .t (T.int IntKind.u64 (Int.fdiv (↑(a + b) : Int) 2)) (T.int IntKind.u64 (↑mid : Int)), .i IntKind.i64 (↑mid : Int) (↑mid : Int), .i IntKind.i64 ((↑mid : Int) + (↑m : Int)) ((↑(mid + m) : Int)), .b (decide ((↑m : Int) > (↑mid : Int))) true, .i IntKind.i64 ((↑(mid + m) : Int) - (↑b : Int)) ((↑(mid + m - b) : Int)), .i IntKind.i64 ((↑(mid + m) : Int) - 1) ((↑(mid + m - 1) : Int)), .a _ _, .i IntKind.i64 ((↑(mid + m) : Int) - (↑s : Int)) ((↑(mid + m - s) : Int)), .b (decide ((↑s : Int) < (↑m : Int))) true] ⟨oI, fE, oI, fE, oI, oU, oW, o_t (by rw [hf]), oI, oI, tP, oI, oI, o_a hbs, oI, tP, trivial⟩ ?_
        refine gg [.tt, .tt, .tt, .b (decide ((↑m : Int) < (↑(mid + m - s) : Int))) true, .a _ _, .b (decide ((↑a : Int) < (↑s : Int))) true, .tt, .tt, .tt, .b (decide ((↑s : Int) < (↑mid : Int))) true, .a _ _, .b (decide ((↑mid : Int) < (↑(mid + m - s) : Int))) true, .tt, .tt, .tt, .b (decide ((↑(mid + m - s) : Int) < (↑b : Int))) true] ⟨tP, o_a j1, tP, tP, o_a j2, tP, tP, trivial⟩ ?_
        refine gg [.a _ _] ⟨o_a j3, trivial⟩ ?_
        exact ge
      · obtain rfl := k3' (fun h => c3 h.2)
        clear k1' k2' k3' k1 k2 k3
        refine Wp.ev ?_
        refine gg [.i IntKind.i64 ((↑m : Int) - (↑a : Int)) ((↑m : Int) - (↑a : Int)), .b ((↑m : Int) - (↑a : Int) == 1) false, .i IntKind.i64 ((↑b : Int) - (↑m : Int)) ((↑b : Int) - (↑m : Int)), .b ((↑b : Int) - (↑m : Int) == 1) false, .i IntKind.i64 ((↑a : Int) + (↑b : Int)) ((↑(a + b) : Int)), .i IntKind.u64 ((↑(a + b) : Int)) ((↑(a + b) : Int)), .w ((0 : Int) ≤ (1 : Int)), .t (T.int IntKind.u64 (Int.fdiv (↑(a + b) : Int) 2)) (T.int IntKind.u64 (↑mid : Int)), .i IntKind.i64 (↑mid : Int) (↑mid : Int), .i IntKind.i64 ((↑mid : Int) + (↑m : Int)) ((↑(mid + m) : Int)), .b (decide ((↑m : Int) > (↑mid : Int))) true, .i IntKind.i64 ((↑(mid + m) : Int) - (↑b : Int)) ((↑(mid + m - b) : Int)), .i IntKind.i64 ((↑(mid + m) : Int) - 1) ((↑(mid + m - 1) : Int)), .a _ _, .i IntKind.i64 ((↑(mid + m) : Int) - (↑s : Int)) ((↑(mid + m - s) : Int)), .b (decide ((↑s : Int) < (↑m : Int))) true] ⟨oI, fE, oI, fE, oI, oU, oW, o_t (by rw [hf]), oI, oI, tP, oI, oI, o_a hbs, oI, tP, trivial⟩ ?_
        refine gg [.tt, .tt, .tt, .b (decide ((↑m : Int) < (↑(mid + m - s) : Int))) true, .a _ _, .b (decide ((↑a : Int) < (↑s : Int))) true, .tt, .tt, .tt, .b (decide ((↑s : Int) < (↑mid : Int))) true, .a _ _, .b (decide ((↑mid : Int) < (↑(mid + m - s) : Int))) true, .tt, .tt, .tt, .b (decide ((↑(mid + m - s) : Int) < (↑b : Int))) false] ⟨tP, o_a j1, tP, tP, o_a j2, tP, fP, trivial⟩ ?_
        exact ge
    · obtain rfl := k2' (fun h => c2 h.1)
      by_cases c3 : mid + m < b + s
      · have j3 := k3 c1.1 c3
        clear k1' k2' k3' k1 k2 k3
        omega
      · obtain rfl := k3' (fun h => c3 h.2)
        clear k1' k2' k3' k1 k2 k3
        refine Wp.ev ?_
        refine gg [.i IntKind.i64 ((↑m : Int) - (↑a : Int)) ((↑m : Int) - (↑a : Int)), .b ((↑m : Int) - (↑a : Int) == 1) false, .i IntKind.i64 ((↑b : Int) - (↑m : Int)) ((↑b : Int) - (↑m : Int)), .b ((↑b : Int) - (↑m : Int) == 1) false, .i IntKind.i64 ((↑a : Int) + (↑b : Int)) ((↑(a + b) : Int)), .i IntKind.u64 ((↑(a + b) : Int)) ((↑(a + b) : Int)), .w ((0 : Int) ≤ (1 : Int)), .t (T.int IntKind.u64 (Int.fdiv (↑(a + b) : Int) 2)) (T.int IntKind.u64 (↑mid : Int)), .i IntKind.i64 (↑mid : Int) (↑mid : Int), .i IntKind.i64 ((↑mid : Int) + (↑m : Int)) ((↑(mid + m) : Int)), .b (decide ((↑m : Int) > (↑mid : Int))) true, .i IntKind.i64 ((↑(mid + m) : Int) - (↑b : Int)) ((↑(mid + m - b) : Int)), .i IntKind.i64 ((↑(mid + m) : Int) - 1) ((↑(mid + m - 1) : Int)), .a _ _, .i IntKind.i64 ((↑(mid + m) : Int) - (↑s : Int)) ((↑(mid + m - s) : Int)), .b (decide ((↑s : Int) < (↑m : Int))) true] ⟨oI, fE, oI, fE, oI, oU, oW, o_t (by rw [hf]), oI, oI, tP, oI, oI, o_a hbs, oI, tP, trivial⟩ ?_
        refine gg [.tt, .tt, .tt, .b (decide ((↑m : Int) < (↑(mid + m - s) : Int))) true, .a _ _, .b (decide ((↑a : Int) < (↑s : Int))) false, .ff, .ff, .ff, .ff, .b (decide ((↑mid : Int) < (↑(mid + m - s) : Int))) true, .tt, .tt, .tt, .b (decide ((↑(mid + m - s) : Int) < (↑b : Int))) false] ⟨tP, o_a j1, fP, tP, fP, trivial⟩ ?_
        exact ge
  · obtain rfl := k1' c1
    by_cases c0 : s < m
    · have c4 : ¬ s < mid := fun h => c1 ⟨c0, h⟩
      obtain rfl := k2' (fun h => c4 h.2)
      by_cases c3 : mid + m < b + s
      · have j3 := k3 c0 c3
        clear k1' k2' k3' k1 k2 k3
        by_cases c2 : a < s
        · refine Wp.ev ?_
          refine gg [.i IntKind.i64 ((↑m : Int) - (↑a : Int)) ((↑m : Int) - (↑a : Int)), .b ((↑m : Int) - (↑a : Int) == 1) false, .i IntKind.i64 ((↑b : Int) - (↑m : Int)) ((↑b : Int) - (↑m : Int)), .b ((↑b : Int) - (↑m : Int) == 1) false, .i IntKind.i64 ((↑a : Int) + (↑b : Int)) ((↑(a + b) : Int)), .i IntKind.u64 ((↑(a + b) : Int)) ((↑(a + b) : Int)), .w ((0 : Int) ≤ (1 : Int)), .t (T.int IntKind.u64 (Int.fdiv (↑(a + b) : Int) 2)) (T.int IntKind.u64 (↑mid : Int)), .i IntKind.i64 (↑mid : Int) (↑mid : Int), .i IntKind.i64 ((↑mid : Int) + (↑m : Int)) ((↑(mid + m) : Int)), .b (decide ((↑m : Int) > (↑mid : Int))) true, .i IntKind.i64 ((↑(mid + m) : Int) - (↑b : Int)) ((↑(mid + m - b) : Int)), .i IntKind.i64 ((↑(mid + m) : Int) - 1) ((↑(mid + m - 1) : Int)), .a _ _, .i IntKind.i64 ((↑(mid + m) : Int) - (↑s : Int)) ((↑(mid + m - s) : Int)), .b (decide ((↑s : Int) < (↑m : Int))) true] ⟨oI, fE, oI, fE, oI, oU, oW, o_t (by rw [hf]), oI, oI, tP, oI, oI, o_a hbs, oI, tP, trivial⟩ ?_
          refine gg [.tt, .tt, .tt, .b (decide ((↑m : Int) < (↑(mid + m - s) : Int))) false, .b (decide ((↑a : Int) < (↑s : Int))) true, .tt, .tt, .tt, .b (decide ((↑s : Int) < (↑mid : Int))) false, .b (decide ((↑mid : Int) < (↑(mid + m - s) : Int))) true, .tt, .tt, .tt, .b (decide ((↑(mid + m - s) : Int) < (↑b : Int))) true, .a _ _] ⟨fP, tP, fP, tP, tP, o_a j3, trivial⟩ ?_
          exact ge
        · omega
      · obtain rfl := k3' (fun h => c3 h.2)
        clear k1' k2' k3' k1 k2 k3
        by_cases c2 : a < s
        · omega
        · omega
    · obtain rfl := k3' (fun h => c0 h.1)
      by_cases c4 : s < mid
      · have j2 := k2 (by omega) c4
        clear k1' k2' k3' k1 k2 k3
        omega
      · obtain rfl := k2' (fun h => c4 h.2)
        clear k1' k2' k3' k1 k2 k3
        by_cases c2 : a < s
        · omega
        · omega
theorem f_symMerge_Cross : ∀ (n : Nat) (P U V Q : List Cross) (a m b : Nat), U.length + V.length ≤ n → a = P.length → m = a + U.length → b = m + V.length → 0 < U.length → 0 < V.length → Sd Cross.less U → Sd Cross.less V → small (P ++ U ++ V ++ Q) →
    Is cx (.call 187 [.all 0 none, vi a, vi m, vi b, .t (.clo 129 [])] [.arr 15 ((P ++ U ++ V ++ Q).map Cross.enc) none false])
   ⟨.ret, [], [.arr 15 ((P ++ sortS Cross.less (U ++ V) ++ Q).map Cross.enc) none false]⟩ := by
  intro n
  induction n with
  | zero => intros; omega
  | succ n ih =>
    intro P U V Q a m b hl ha hm hb hu hv hU hV hn
    by_cases hu1 : U.length = 1
    · obtain ⟨x, rfl⟩ := List.length_eq_one_iff.1 hu1
      exact f_symMerge_first_Cross P V Q x a m b ha (by simpa using hm) hb hv hV hn
    · by_cases hv1 : V.length = 1
      · obtain ⟨y, rfl⟩ := List.length_eq_one_iff.1 hv1
        exact f_symMerge_last_Cross P U Q y a m b ha hm (by simpa using hb) (by omega) hU hn
      · obtain ⟨mid, hmid⟩ : ∃ mid, (a + b) / 2 = mid := ⟨_, rfl⟩
        obtain ⟨s0, r0, hs0⟩ : ∃ s0 r0, m ≤ mid ∧ s0 = a ∧ r0 = m ∨ mid < m ∧ s0 = mid + m - b ∧ r0 = mid := by
          by_cases h : m ≤ mid
          · exact ⟨a, m, .inl ⟨h, rfl, rfl⟩⟩
          · exact ⟨mid + m - b, mid, .inr ⟨by omega, rfl, rfl⟩⟩
        have hlen : (P ++ U ++ V ++ Q).length = b + Q.length := by simp; omega
        have hbs := f_symMerge_bs3_Cross (P ++ U ++ V ++ Q) a m b mid (mid + m) (mid + m - 1) hn (r0 - s0) s0 r0 (by omega) (by omega) (by omega) (by omega) (by omega)
        have hp : (fun c => !Cross.less (gt (P ++ U ++ V ++ Q) (mid + m - 1 - c)) (gt (P ++ U ++ V ++ Q) c)) = fun c => !Cross.less (gt (P ++ U ++ V ++ Q) (mid + m - 1 - c)) (gt (P ++ U ++ V ++ Q) c) := rfl
        obtain ⟨k1, k2, U1, U2, V1, V2, e1, e2, l1, l2, e3, u1, u2, v1, v2⟩ := merge_gen Cross_swo (Q := Q) ha hm hb hU hV hu hv hmid hs0 (d := r0 - s0) (by omega) rfl
        generalize bs _ (r0 - s0) s0 r0 = s at *
        subst e1 e2
        simp only [List.length_append] at hl hm hb hu hv hlen hu1 hv1
        have hsm : ∀ {X Y : List Cross}, X.length = Y.length → small Y → small X := fun h k => by unfold small at *; rw [h]; exact k
        have g1 : s < m → s < mid → Is cx (.call 194 [.all 0 none, vi s, vi m, vi (mid + m - s : Nat), .t (.clo 129 [])] [.arr 15 ((P ++ (U1 ++ U2) ++ (V1 ++ V2) ++ Q).map Cross.enc) none false]) ⟨.ret, [], [.arr 15 ((P ++ U1 ++ V1 ++ (U2 ++ V2 ++ Q)).map Cross.enc) none false]⟩ := by
          intro c1 c2
          have := f_rotate_Cross (P ++ (U1 ++ U2) ++ (V1 ++ V2) ++ Q) s m (mid + m - s) c1 (by omega) (by simp; omega) hn
          have e : (P ++ (U1 ++ U2) ++ (V1 ++ V2) ++ Q).take s ++ seg (P ++ (U1 ++ U2) ++ (V1 ++ V2) ++ Q) m (mid + m - s) ++ seg (P ++ (U1 ++ U2) ++ (V1 ++ V2) ++ Q) s m ++ (P ++ (U1 ++ U2) ++ (V1 ++ V2) ++ Q).drop (mid + m - s) = P ++ U1 ++ V1 ++ (U2 ++ V2 ++ Q) := by
            have f1 : P ++ (U1 ++ U2) ++ (V1 ++ V2) ++ Q = (P ++ U1) ++ (U2 ++ (V1 ++ (V2 ++ Q))) := by simp
            have f2 : P ++ (U1 ++ U2) ++ (V1 ++ V2) ++ Q = (P ++ U1 ++ U2) ++ (V1 ++ (V2 ++ Q)) := by simp
            have f3 : P ++ (U1 ++ U2) ++ (V1 ++ V2) ++ Q = (P ++ U1 ++ U2 ++ V1) ++ (V2 ++ Q) := by simp
            have g1 : (P ++ (U1 ++ U2) ++ (V1 ++ V2) ++ Q).take s = P ++ U1 := by rw [f1, List.take_left' (by simp; omega)]
            have g2 : seg (P ++ (U1 ++ U2) ++ (V1 ++ V2) ++ Q) m (mid + m - s) = V1 := by unfold seg; rw [f2, List.drop_left' (by simp; omega), List.take_left' (by omega)]
            have g3 : seg (P ++ (U1 ++ U2) ++ (V1 ++ V2) ++ Q) s m = U2 := by unfold seg; rw [f1, List.drop_left' (by simp; omega), List.take_left' (by omega)]
            have g4 : (P ++ (U1 ++ U2) ++ (V1 ++ V2) ++ Q).drop (mid + m - s) = V2 ++ Q := by rw [f3, List.drop_left' (by simp; omega)]
            rw [g1, g2, g3, g4]; simp
          rw [e] at this
          exact this
        have g1' : ¬ (s < m ∧ s < mid) → (P ++ (U1 ++ U2) ++ (V1 ++ V2) ++ Q) = (P ++ U1 ++ V1 ++ (U2 ++ V2 ++ Q)) := by
          intro c
          have : U2 = [] ∨ V1 = [] := by
            by_cases h : s < m
            · right; exact List.eq_nil_of_length_eq_zero (by omega)
            · left; exact List.eq_nil_of_length_eq_zero (by omega)
          rcases this with rfl | rfl <;> simp
        have g2 : a < s → s < mid → Is cx (.call 187 [.all 0 none, vi a, vi s, vi mid, .t (.clo 129 [])] [.arr 15 ((P ++ U1 ++ V1 ++ (U2 ++ V2 ++ Q)).map Cross.enc) none false]) ⟨.ret, [], [.arr 15 ((P ++ sortS Cross.less (U1 ++ V1) ++ (U2 ++ V2 ++ Q)).map Cross.enc) none false]⟩ := by
          intro c1 c2
          exact ih P U1 V1 (U2 ++ V2 ++ Q) a s mid (by omega) ha (by omega) (by omega) (by omega) (by omega) u1 v1 (hsm (by simp; omega) hn)
        have g2' : ¬ (a < s ∧ s < mid) → (P ++ U1 ++ V1 ++ (U2 ++ V2 ++ Q)) = (P ++ sortS Cross.less (U1 ++ V1) ++ (U2 ++ V2 ++ Q)) := by
          intro c
          have : U1 = [] ∨ V1 = [] := by
            by_cases h : a < s
            · right; exact List.eq_nil_of_length_eq_zero (by omega)
            · left; exact List.eq_nil_of_length_eq_zero (by omega)
          rcases this with rfl | rfl
          · simp [sortS_self Cross_swo v1]
          · simp [sortS_self Cross_swo u1]
        have g3 : s < m → mid + m < b + s → Is cx (.call 187 [.all 0 none, vi mid, vi (mid + m - s : Nat), vi b, .t (.clo 129 [])] [.arr 15 ((P ++ sortS Cross.less (U1 ++ V1) ++ (U2 ++ V2 ++ Q)).map Cross.enc) none false]) ⟨.ret, [], [.arr 15 ((P ++ sortS Cross.less ((U1 ++ U2) ++ (V1 ++ V2)) ++ Q).map Cross.enc) none false]⟩ := by
          intro c1 c2
          have hL : (sortS Cross.less (U1 ++ V1)).length = U1.length + V1.length := by rw [sortS_len Cross_swo]; simp
          have := ih (P ++ sortS Cross.less (U1 ++ V1)) U2 V2 Q mid (mid + m - s) b (by omega) (by simp; omega) (by omega) (by omega) (by omega) (by omega) u2 v2 (hsm (by simp; omega) hn)
          rw [← e3]
          simpa using this
        have g3' : ¬ (s < m ∧ mid + m < b + s) → (P ++ sortS Cross.less (U1 ++ V1) ++ (U2 ++ V2 ++ Q)) = (P ++ sortS Cross.less ((U1 ++ U2) ++ (V1 ++ V2)) ++ Q) := by
          intro c
          have : U2 = [] ∨ V2 = [] := by
            by_cases h : s < m
            · right; exact List.eq_nil_of_length_eq_zero (by omega)
            · left; exact List.eq_nil_of_length_eq_zero (by omega)
          rw [← e3]
          rcases this with rfl | rfl
          · simp [sortS_self Cross_swo v2]
          · simp [sortS_self Cross_swo u2]
        rcases hs0 with ⟨hc, rfl, rfl⟩ | ⟨hc, rfl, rfl⟩
        · exact f_symMerge_genA_Cross _ _ _ _ s0 r0 b mid s hmid hc (by omega) (by omega) (by simp; omega) hn ⟨k1, k2⟩ hbs g1 g1' g2 g2' g3 g3'
        · exact f_symMerge_genB_Cross _ _ _ _ a m b r0 s hmid hc (by omega) (by omega) (by simp; omega) hn ⟨k1, k2⟩ hbs g1 g1' g2 g2' g3 g3'
end Go.Eva.S3

/- Messages: sorted. -/
namespace Go.Eva.S3
theorem f_stable_first_Cross (n : Nat) (hn : n ≤ 1000000) : ∀ (d : Nat) (P R : List Cross) (a : Nat), a = P.length → R.length ≤ d → (P ++ R).length = n → Full Cross.less 20 P →
    ∃ (P' R' : List Cross), Is cx (.loop 172 [0, 0, 1, 1] 1 [.all 0 none, vi n, .t (.clo 129 []), vi 20, vi a, vi (a + 20 : Nat)] [.arr 15 ((P ++ R).map Cross.enc) none false])
      ⟨.exit 0, [.all 0 none, vi n, .t (.clo 129 []), vi 20, vi P'.length, vi (P'.length + 20 : Nat)], [.arr 15 ((P' ++ R').map Cross.enc) none false]⟩ ∧
      Full Cross.less 20 P' ∧ R'.length < 20 ∧ StEq Cross.less (P' ++ R') (P ++ R) ∧ (P' ++ R').length = n := by
  intro d
  induction d with
  | zero =>
    intro P R a ha hR hl hP
    refine ⟨P, R, ?_, hP, by omega, .refl _, hl⟩
    rw [List.length_append] at hl
    subst ha
    refine Wp.ev ?_
    refine gg [.b (decide ((↑(List.length P + 20) : Int) ≤ (↑n : Int))) false] ⟨fP, trivial⟩ ?_
    exact ge
  | succ d ih =>
    intro P R a ha hR hl hP
    by_cases h : 20 ≤ R.length
    · obtain ⟨S, R, rfl, hS⟩ := split_at R h
      rw [List.length_append] at hR
      have hs : (sortS Cross.less S).length = 20 := by rw [sortS_len Cross_swo, hS]
      have hl' : ((P ++ sortS Cross.less S) ++ R).length = n := by rw [← hl]; simp; omega
      obtain ⟨P', R', h1, h2, h3, h4, h5⟩ := ih (P ++ sortS Cross.less S) R (a + 20) (by simp; omega) (by omega) hl' (.snoc hP hs (sortS_sd Cross_swo S))
      refine ⟨P', R', ?_, h2, h3, ?_, h5⟩
      · clear ih
        have hA : (P ++ (S ++ R)).length = n := hl
        have hi := f_insertionSort_Cross (P ++ (S ++ R)) a (a + 20) (by omega) (by simp; omega) (by unfold small; omega)
        rw [show srt Cross.less (P ++ (S ++ R)) a (a + 20) = P ++ sortS Cross.less S ++ R by rw [← List.append_assoc]; exact srt_app P S R ha (by omega)] at hi
        simp only [List.length_append] at hA
        generalize P ++ (S ++ R) = A at *
        generalize P ++ sortS Cross.less S ++ R = B at *
        refine Wp.ev ?_
        refine gg [.b (decide ((↑(a + 20) : Int) ≤ (↑n : Int))) true, .a _ _, .i IntKind.i64 ((↑(a + 20) : Int) + 20) ((↑(a + 20 + 20) : Int)), .a _ _] ⟨tP, o_a hi, oI, o_a h1, trivial⟩ ?_
        exact ge
      · refine h4.trans ?_
        have := StEq.mid (P := P) (Q := R) (sortS_st Cross_swo S)
        simpa using this
    · refine ⟨P, R, ?_, hP, by omega, .refl _, hl⟩
      rw [List.length_append] at hl
      subst ha
      clear ih
      refine Wp.ev ?_
      refine gg [.b (decide ((↑(List.length P + 20) : Int) ≤ (↑n : Int))) false] ⟨fP, trivial⟩ ?_
      exact ge
theorem f_stable_inner_Cross (n bs : Nat) (hn : n ≤ 1000000) (hb : 20 ≤ bs) (hbs : bs ≤ n) : ∀ (d : Nat) (P R : List Cross) (a : Nat), a = P.length → R.length ≤ d → (P ++ R).length = n → Full Cross.less (2 * bs) P → Blks Cross.less bs R →
    ∃ (P' R' : List Cross), Is cx (.loop 172 [0, 0, 1, 0, 1, 0, 0, 1, 1, 1, 1] 1 [.all 0 none, vi n, .t (.clo 129 []), vi bs, vi a, vi (a + 2 * bs : Nat)] [.arr 15 ((P ++ R).map Cross.enc) none false])
      ⟨.exit 4, [.all 0 none, vi n, .t (.clo 129 []), vi bs, vi P'.length, vi (P'.length + 2 * bs : Nat)], [.arr 15 ((P' ++ R').map Cross.enc) none false]⟩ ∧
      Full Cross.less (2 * bs) P' ∧ Blks Cross.less bs R' ∧ R'.length < 2 * bs ∧ StEq Cross.less (P' ++ R') (P ++ R) ∧ (P' ++ R').length = n := by
  intro d
  induction d with
  | zero =>
    intro P R a ha hR hl hP hB
    refine ⟨P, R, ?_, hP, hB, by omega, .refl _, hl⟩
    rw [List.length_append] at hl
    subst ha
    refine Wp.ev ?_
    refine gg [.b (decide ((↑(List.length P + 2 * bs) : Int) ≤ (↑n : Int))) false] ⟨fP, trivial⟩ ?_
    exact ge
  | succ d ih =>
    intro P R a ha hR hl hP hB
    by_cases h : 2 * bs ≤ R.length
    · obtain ⟨S1, S2, R, rfl, l1, l2, s1, s2, hB⟩ := hB.two (by omega) h
      simp only [List.length_append] at hR h
      have hs : (sortS Cross.less (S1 ++ S2)).length = 2 * bs := by rw [sortS_len Cross_swo]; simp; omega
      have hl' : ((P ++ sortS Cross.less (S1 ++ S2)) ++ R).length = n := by rw [← hl]; simp; omega
      obtain ⟨P', R', h1, h2, h3, h4, h5, h6⟩ := ih (P ++ sortS Cross.less (S1 ++ S2)) R (a + 2 * bs) (by simp; omega) (by omega) hl' (.snoc hP hs (sortS_sd Cross_swo _)) hB
      refine ⟨P', R', ?_, h2, h3, h4, ?_, h6⟩
      · clear ih
        have hA : (P ++ (S1 ++ S2 ++ R)).length = n := hl
        have hi := f_symMerge_Cross (S1.length + S2.length) P S1 S2 R a (a + bs) (a + 2 * bs) (Nat.le_refl _) ha (by omega) (by omega) (by omega) (by omega) s1 s2 (by unfold small; simp at hA ⊢; omega)
        rw [show P ++ S1 ++ S2 ++ R = P ++ (S1 ++ S2 ++ R) by simp] at hi
        simp only [List.length_append] at hA
        generalize P ++ (S1 ++ S2 ++ R) = A at *
        generalize P ++ sortS Cross.less (S1 ++ S2) ++ R = B at *
        refine Wp.ev ?_
        refine gg [.b (decide ((↑(a + 2 * bs) : Int) ≤ (↑n : Int))) true, .i IntKind.i64 ((↑a : Int) + (↑bs : Int)) ((↑(a + bs) : Int)), .a _ _, .i IntKind.i64 (2 * (↑bs : Int)) ((↑(2 * bs) : Int)), .i IntKind.i64 ((↑(a + 2 * bs) : Int) + (↑(2 * bs) : Int)) ((↑(a + 2 * bs + 2 * bs) : Int)), .a _ _] ⟨tP, oI, o_a hi, oI, oI, o_a h1, trivial⟩ ?_
        exact ge
      · refine h5.trans ?_
        have := StEq.mid (P := P) (Q := R) (sortS_st Cross_swo (S1 ++ S2))
        simpa using this
    · refine ⟨P, R, ?_, hP, hB, by omega, .refl _, hl⟩
      rw [List.length_append] at hl
      subst ha
      clear ih
      refine Wp.ev ?_
      refine gg [.b (decide ((↑(List.length P + 2 * bs) : Int) ≤ (↑n : Int))) false] ⟨fP, trivial⟩ ?_
      exact ge
theorem f_stable_outer_Cross (n : Nat) (hn : n ≤ 1000000) : ∀ (d bs : Nat) (A : List Cross), n ≤ bs + d → 20 ≤ bs → bs ≤ 2000000 → A.length = n → Blks Cross.less bs A →
    ∃ (bs' : Nat) (B : List Cross), Is cx (.loop 172 [0, 1, 1, 1, 1] 1 [.all 0 none, vi n, .t (.clo 129 []), vi bs] [.arr 15 (A.map Cross.enc) none false])
      ⟨.exit 2, [.all 0 none, vi n, .t (.clo 129 []), vi bs'], [.arr 15 (B.map Cross.enc) none false]⟩ ∧ Sd Cross.less B ∧ StEq Cross.less B A := by
  intro d
  induction d with
  | zero =>
    intro bs A h1 h2 h3 hl hB
    refine ⟨bs, A, ?_, hB.sd (by omega), .refl _⟩
    refine Wp.ev ?_
    refine gg [.b (decide ((↑bs : Int) < (↑n : Int))) false] ⟨fP, trivial⟩ ?_
    exact ge
  | succ d ih =>
    intro bs A h1 h2 h3 hl hB
    by_cases h : bs < n
    · obtain ⟨P, R, k1, k2, k3, k4, k5, k6⟩ := f_stable_inner_Cross n bs hn h2 (by omega) A.length [] A 0 rfl (Nat.le_refl _) (by simpa using hl) .nil hB
      rw [List.nil_append, Nat.zero_add] at k1
      rw [List.nil_append] at k5
      by_cases hr : bs < R.length
      · obtain ⟨S1, S2, rfl, l1, s1, s2, l2⟩ := k3.one hr k4
        have hm := f_symMerge_Cross (S1.length + S2.length) P S1 S2 [] P.length (P.length + bs) n (Nat.le_refl _) rfl (by omega) (by simp at k6; omega) (by omega) l2 s1 s2 (by unfold small; simp at k6 ⊢; omega)
        simp only [List.append_nil] at hm
        rw [List.append_assoc] at hm
        simp only [List.length_append] at k4 k6 hr
        have hs : (sortS Cross.less (S1 ++ S2)).length = S1.length + S2.length := by rw [sortS_len Cross_swo]; simp
        obtain ⟨bs', B, j1, j2, j3⟩ := ih (bs * 2) (P ++ sortS Cross.less (S1 ++ S2)) (by omega) (by omega) (by omega) (by simp; omega) (by rw [Nat.mul_comm]; exact k2.blks (.last (by omega) (sortS_sd Cross_swo _)))
        refine ⟨bs', B, ?_, j2, j3.trans (StEq.trans ?_ k5)⟩
        · clear ih j2 j3 k2 k3 k5
          have e1 : (P ++ (S1 ++ S2)).length = n := by simp; omega
          have e2 : (P ++ sortS Cross.less (S1 ++ S2)).length = n := by simp; omega
          generalize P ++ (S1 ++ S2) = X at *
          generalize P ++ sortS Cross.less (S1 ++ S2) = Y at *
          refine Wp.ev ?_
          refine gg [.b (decide ((↑bs : Int) < (↑n : Int))) true, .i IntKind.i64 (2 * (↑bs : Int)) ((↑(2 * bs) : Int)), .a _ _, .i IntKind.i64 ((↑(List.length P) : Int) + (↑bs : Int)) ((↑(List.length P + bs) : Int)), .b (decide ((↑(List.length P + bs) : Int) < (↑n : Int))) true, .a _ _, .i IntKind.i64 ((↑bs : Int) * 2) ((↑(bs * 2) : Int)), .a _ _] ⟨tP, oI, o_a k1, oI, tP, o_a hm, oI, o_a j1, trivial⟩ ?_
          exact ge
        · exact (StEq.refl _).append (sortS_st Cross_swo _)
      · obtain ⟨bs', B, j1, j2, j3⟩ := ih (bs * 2) (P ++ R) (by omega) (by omega) (by omega) k6 (by rw [Nat.mul_comm]; exact k2.blks (.last (by omega) (k3.sd (by omega))))
        refine ⟨bs', B, ?_, j2, j3.trans k5⟩
        clear ih j2 j3 k2 k3 k5
        rw [List.length_append] at k6
        generalize P ++ R = X at *
        refine Wp.ev ?_
        refine gg [.b (decide ((↑bs : Int) < (↑n : Int))) true, .i IntKind.i64 (2 * (↑bs : Int)) ((↑(2 * bs) : Int)), .a _ _, .i IntKind.i64 ((↑(List.length P) : Int) + (↑bs : Int)) ((↑(List.length P + bs) : Int)), .b (decide ((↑(List.length P + bs) : Int) < (↑n : Int))) false, .i IntKind.i64 ((↑bs : Int) * 2) ((↑(bs * 2) : Int)), .a _ _] ⟨tP, oI, o_a k1, oI, fP, oI, o_a j1, trivial⟩ ?_
        exact ge
    · refine ⟨bs, A, ?_, hB.sd (by omega), .refl _⟩
      clear ih
      refine Wp.ev ?_
      refine gg [.b (decide ((↑bs : Int) < (↑n : Int))) false] ⟨fP, trivial⟩ ?_
      exact ge
theorem f_stableCmpFunc_Cross (A : List Cross) (hn : small A) : Is cx (.call 172 [.all 0 none, vi A.length, .t (.clo 129 [])] [.arr 15 (A.map Cross.enc) none false])
   ⟨.ret, [], [.arr 15 ((sortS Cross.less A).map Cross.enc) none false]⟩ := by
  unfold small at hn
  obtain ⟨P, R, k1, k2, k3, k4, k5⟩ := f_stable_first_Cross A.length hn A.length [] A 0 rfl (Nat.le_refl _) (by simp) .nil
  rw [List.nil_append, Nat.zero_add] at k1
  rw [List.nil_append] at k4
  rw [List.length_append] at k5
  have hi := f_insertionSort_Cross (P ++ R) P.length A.length (by omega) (by simp; omega) (by unfold small; simp; omega)
  rw [show srt Cross.less (P ++ R) P.length A.length = P ++ sortS Cross.less R by have := srt_app (lt := Cross.less) P R [] rfl k5.symm; simpa using this] at hi
  have hs : (sortS Cross.less R).length = R.length := sortS_len Cross_swo R
  obtain ⟨bs, B, j1, j2, j3⟩ := f_stable_outer_Cross A.length hn A.length 20 (P ++ sortS Cross.less R) (by omega) (by omega) (by omega) (by simp; omega) (k2.blks (.last (by omega) (sortS_sd Cross_swo _)))
  rw [sortS_eq Cross_swo j2 (j3.trans (((StEq.refl _).append (sortS_st Cross_swo _)).trans k4))] at j1
  clear j2 j3 k2 k4
  have e1 : (P ++ R).length = A.length := by simp; omega
  have e2 : (P ++ sortS Cross.less R).length = A.length := by simp; omega
  generalize P ++ R = X at *
  generalize P ++ sortS Cross.less R = Y at *
  refine Wp.ev ?_
  refine gg [.a _ _, .a _ _, .a _ _] ⟨o_a k1, o_a hi, o_a j1, trivial⟩ ?_
  exact ge
theorem f_SortStableFunc_Cross (A : List Cross) (hn : small A) : Is cx (.call 128 [.all 0 none, .t (.clo 129 [])] [.arr 15 (A.map Cross.enc) none false])
   ⟨.ret, [], [.arr 15 ((sortS Cross.less A).map Cross.enc) none false]⟩ := by
  have h := f_stableCmpFunc_Cross A hn
  unfold small at hn
  refine Wp.ev ?_
  refine gg [.n (List.length (List.map Cross.enc A)) (List.length A), .a _ _] ⟨o_n (by simp), o_a h, trivial⟩ ?_
  exact ge
end Go.Eva.S3

/- Messages: lists put together, and sorted. -/
namespace Go.Eva.S3
theorem f_slices_Grow (n : Nat) (hn : n ≤ 1000000) : Is cx (.call 171 [.fit 15 [], vi n] []) ⟨.ret, [.all 0 none], [.arr 15 [] none false]⟩ := by
  refine Wp.ev ?_
  refine gg [.b (decide ((↑n : Int) < 0)) false, .l 0, .l 0, .i IntKind.i64 0 0, .i IntKind.i64 ((↑n : Int) - 0) ((↑n : Int) - 0)] ⟨o_b (by kernel_rfl), oK, o_i (w64 (by (simp [room, appendMax]; omega))), trivial⟩ ?_
  refine brp (p := (↑n : Int) - 0 > 0) (by kernel_rfl) (fun h1 => ?_) (fun h1 => ?_)
  · refine gg [.l 0, .w ((0 : Int) ≤ (0 : Int)), .l 0, .w ((0 : Nat) ≤ (0 : Nat) ∧ (0 : Nat) ≤ (0 : Nat)), .b (decide (0 = 0)) true, .s (T.sl 15 []), .w ((0 : Int) ≤ (↑n : Int) - (0 : Int) ∧ room (Int.toNat ((↑n : Int) - (0 : Int))) (120 : Nat)), .n (Int.toNat ((↑n : Int) - 0)) n, .s (T.sl 0 (List.replicate n (T.agg [ti 0, ti 0, ti 0, ti 0, ti 0, ti 0, ti 0, ti 0, ti 0, ti 0, ti 0, ti 0, ti 0, ti 0, ti 0]))), .w (room (List.length (List.replicate n (T.agg [ti (0 : Int), ti (0 : Int), ti (0 : Int), ti (0 : Int), ti (0 : Int), ti (0 : Int), ti (0 : Int), ti (0 : Int), ti (0 : Int), ti (0 : Int), ti (0 : Int), ti (0 : Int), ti (0 : Int), ti (0 : Int), ti (0 : Int)]))) (120 : Nat)), .l 0, .w ((0 : Int) ≤ (0 : Int)), .l 0, .w ((0 : Nat) ≤ (0 : Nat) ∧ (0 : Nat) ≤ List.length (List.replicate n (T.agg [ti (0 : Int), ti (0 : Int), ti (0 : Int), ti (0 : Int), ti (0 : Int), ti (0 : Int), ti (0 : Int), ti (0 : Int), ti (0 : Int), ti (0 : Int), ti (0 : Int), ti (0 : Int), ti (0 : Int), ti (0 : Int), ti (0 : Int)]))), .l 0, .l 0] ⟨oW, o_w ⟨(Nat.le_of_ble_eq_true (by kernel_rfl)), (Nat.le_of_ble_eq_true (by kernel_rfl))⟩, o_b (by kernel_rfl), o_w ⟨(by omega), (by (simp [room, appendMax]; omega))⟩, o_n (by kernel_rfl), o_w (by (simp [room, appendMax]; omega)), oW, o_w ⟨(Nat.le_of_ble_eq_true (by kernel_rfl)), (by omega)⟩, trivial⟩ ?_
    refine gg [.s (T.sl 0 [])] trivial ?_
    refine rt (a := Res.mk Ex.ret [V.all 0 none] [Ob.arr 15 [] none false]) (by kernel_rfl) ?_
    simp
  · refine rt (a := Res.mk Ex.ret [V.all 0 none] [Ob.arr 15 [] none false]) (by kernel_rfl) ?_
    simp
theorem f_slices_Concat_count (ls : List (List Cross)) (hl : ls.length ≤ 1000) (ht : total ls ≤ 1000000) : ∀ (d i s : Nat), i + d = ls.length → s + total (ls.drop i) = total ls →
    Is cx (.loop 127 [0, 1, 0, 1, 1] 0 [.t (.sl 1 (ls.map encL)), vi s, .t (.sl 1 (ls.map encL)), vi ls.length, vi i] [])
      ⟨.exit 0, [.t (.sl 1 (ls.map encL)), vi (total ls), .t (.sl 1 (ls.map encL)), vi ls.length, vi ls.length], []⟩ := by
  intro d
  induction d with
  | zero =>
    intro i s hi hs
    rw [total_end (by omega)] at hs
    refine Wp.ev ?_
    refine gg [.b (decide ((↑i : Int) < (↑(List.length ls) : Int))) false] ⟨fP, trivial⟩ ?_
    refine rt (a := Res.mk (Ex.exit 0) [V.t (T.sl 1 (List.map encL ls)), vi (↑s : Int), V.t (T.sl 1 (List.map encL ls)), vi (↑(List.length ls) : Int), vi (↑i : Int)] []) (by kernel_rfl) ?_
    ((have hq : i = ls.length := by omega); subst hq; (have hq2 : s = total ls := by omega); subst hq2; rfl)
  | succ d ih =>
    intro i s hi hs
    have hlt : i < ls.length := by omega
    rw [total_gt hlt] at hs
    have ih1 := ih (i + 1) (s + (gt ls i).length) (by omega) (by omega)
    clear ih
    refine Wp.ev ?_
    refine gg [.b (decide ((↑i : Int) < (↑(List.length ls) : Int))) true, .w ((0 : Int) ≤ (↑i : Int)), .n (Int.toNat (↑i : Int)) i, .g (List.map encL ls) i (encL (gt ls i)), .n (List.length (List.map Cross.enc (gt ls i))) (List.length (gt ls i)), .i IntKind.i64 ((↑s : Int) + (↑(List.length (gt ls i)) : Int)) ((↑(s + List.length (gt ls i)) : Int)), .b (decide ((↑(s + List.length (gt ls i)) : Int) < 0)) false, .i IntKind.i64 ((↑i : Int) + 1) ((↑(i + 1) : Int)), .a _ _] ⟨tP, oW, o_n (by kernel_rfl), o_gt rfl (by assumption) (by intro h; cases h), o_n (by simp), oI, o_b (by kernel_rfl), oI, o_a ih1, trivial⟩ ?_
    exact ge
theorem f_slices_Concat_add (ls : List (List Cross)) (hl : ls.length ≤ 1000) (ht : total ls ≤ 1000000) : ∀ (d i : Nat) (A : List Cross), i + d = ls.length → A.length + total (ls.drop i) = total ls →
    Is cx (.loop 127 [0, 1, 0, 1, 1, 1, 1] 0 [.all 0 none, .t (.sl 1 (ls.map encL)), vi ls.length, vi i] [.arr 15 (A.map Cross.enc) none false])
      ⟨.exit 2, [.all 0 none, .t (.sl 1 (ls.map encL)), vi ls.length, vi ls.length], [.arr 15 ((A ++ (ls.drop i).flatten).map Cross.enc) none false]⟩ := by
  intro d
  induction d with
  | zero =>
    intro i A hi hs
    rw [drop_end (by omega)]
    refine Wp.ev ?_
    refine gg [.b (decide ((↑i : Int) < (↑(List.length ls) : Int))) false] ⟨fP, trivial⟩ ?_
    refine rt (a := Res.mk (Ex.exit 2) [V.all 0 none, V.t (T.sl 1 (List.map encL ls)), vi (↑(List.length ls) : Int), vi (↑i : Int)] [Ob.arr 15 (List.map Cross.enc A) none false]) (by kernel_rfl) ?_
    ((have hq : i = ls.length := by omega); subst hq; simp)
  | succ d ih =>
    intro i A hi hs
    have hlt : i < ls.length := by omega
    rw [total_gt hlt] at hs
    have ih1 := ih (i + 1) (A ++ gt ls i) (by omega) (by simp; omega)
    clear ih
    rw [flat_gt hlt]
    refine Wp.ev ?_
    refine gg [.b (decide ((↑i : Int) < (↑(List.length ls) : Int))) true, .w ((0 : Int) ≤ (↑i : Int)), .n (Int.toNat (↑i : Int)) i, .g (List.map encL ls) i (encL (gt ls i)), .w ((0 : Nat) < (120 : Nat)), .s (T.sl 0 (List.map Cross.enc (gt ls i))), .t (T.sl 0 (List.map Cross.enc A ++ List.map Cross.enc (gt ls i))) (T.sl 0 (List.map Cross.enc (A ++ gt ls i))), .w (room (List.length (List.map Cross.enc (A ++ gt ls i))) (120 : Nat)), .i IntKind.i64 ((↑i : Int) + 1) ((↑(i + 1) : Int)), .a _ _] ⟨tP, oW, o_n (by kernel_rfl), o_gt rfl (by assumption) (by intro h; cases h), oW, o_l (nm_app rfl rfl), o_w (by (simp [room, appendMax]; omega)), o_i (w64 (by (simp [room, appendMax]; omega))), o_a ih1, trivial⟩ ?_
    refine rt (a := Res.mk (Ex.exit 2) [V.all 0 none, V.t (T.sl 1 (List.map encL ls)), vi (↑(List.length ls) : Int), vi (↑(List.length ls) : Int)] [Ob.arr 15 (List.map Cross.enc (A ++ gt ls i ++ List.flatten (List.drop (i + 1) ls))) none false]) (by kernel_rfl) ?_
    simp
theorem f_slices_Concat (ls : List (List Cross)) (hl : ls.length ≤ 1000) (ht : total ls ≤ 1000000) :
    Is cx (.call 127 [.t (.sl 1 (ls.map encL))] []) ⟨.ret, [.all 0 none], [.arr 15 (ls.flatten.map Cross.enc) none false]⟩ := by
  have h1 := f_slices_Concat_count ls hl ht ls.length 0 0 (by omega) (by simp)
  have h2 := f_slices_Concat_add ls hl ht ls.length 0 [] (by omega) (by simp)
  rw [List.drop_zero, List.nil_append] at h2
  have h3 := f_slices_Grow (total ls) ht
  refine Wp.ev ?_
  refine gg [.n (List.length (List.map encL ls)) (List.length ls), .a _ _, .a _ _, .n (List.length (List.map encL ls)) (List.length ls), .a _ _] ⟨o_n (by simp), o_a h1, o_a h3, o_n (by simp), o_a h2, trivial⟩ ?_
  exact ge
theorem f_cross_Sort (ls : List (List Cross)) (hl : ls.length ≤ 1000) (ht : total ls ≤ 1000000) :
    Is cx (.call 70 [.t (.sl 1 (ls.map encL))] []) ⟨.ret, [.all 0 none], [.arr 15 ((sortS Cross.less ls.flatten).map Cross.enc) none false]⟩ := by
  have h1 := f_slices_Concat ls hl ht
  have h2 := f_SortStableFunc_Cross ls.flatten (by unfold small; rw [flat_len]; exact ht)
  refine Wp.ev ?_
  refine gg [.a _ _, .a _ _] ⟨o_a h1, o_a h2, trivial⟩ ?_
  exact ge
theorem f_cross_Sort_1 (l : List Cross) (h : small l) : Is cx (.call 70 [.t (.sl 1 [.sl 15 (l.map Cross.enc)])] []) ⟨.ret, [.all 0 none], [.arr 15 ((sortS Cross.less l).map Cross.enc) none false]⟩ := by
  have := f_cross_Sort [l] (by simp) (by unfold small at h; simpa [total] using h)
  rw [show [l].flatten = l by simp] at this
  exact this
end Go.Eva.S3

/- A region's step. -/
namespace Go.Eva.S3
theorem f_region_Step_yes (c : Config) (r : Int) (s : Region) (ins : List Input) (inbox : List Cross) (hn : s.ents.length ≤ 100000) (hi : small ins) (hb : inbox.length ≤ 100000) (h : askedE c r s ins inbox = 0) :
    Is cx (.call 23 [.t c.enc, vi r, .t s.enc, .t (.sl 3 (ins.map Input.enc)), .t (.sl 15 (inbox.map Cross.enc))] []) ⟨.ret, [.t (Region.enc ⟨s.frame + 1, (stepS c r s ins inbox).l⟩), .t (.sl 15 ((sortS Cross.less (stepS c r s ins inbox).out).map Cross.enc)), vi 0], []⟩ := by
  have hfine := asked_fine h
  have hrc := Config.is_right hfine.is
  have ha := f_region_asked c r s ins inbox (by unfold small; omega) hi (by unfold small; omega)
  rw [h] at ha
  have hA := f_region_Arrive c r s inbox hn hb
  have hsane := hfine.sane
  obtain ⟨hst1, hst2⟩ := steer_ok hfine
  have hr := Config.is_le hfine.is
  have hreg := @Config.regions_le c
  have hf := hfine.frame
  have hst := f_region_steer c r s.frame ins (arriveL s.ents inbox) hi (by omega) (by omega) (Nat.le_trans (hsane.len hrc) (by omega)) fun p hp => by
    have hpr := (hsane.ents p hp).1
    refine ⟨?_, fun hk => ?_⟩
    · have := right_age hpr; omega
    · have := Entity.right_player hpr hk
      have := hfine.len
      omega
  unfold stepS restS
  have hnear := near_pos hfine.is
  generalize steerS c r s.frame ins ⟨arriveL s.ents inbox, 0, []⟩ = S at *
  generalize arriveL s.ents inbox = L at *
  obtain ⟨A, made, o⟩ := S
  simp only at hst hst1 hst2 ⊢
  subst hst2
  have hmade := hst1.made
  simp only at hmade
  have hAs := hst1.sane
  simp only at hAs
  have hAl := hAs.len hrc
  have hmv := f_region_move c r s.frame made A (by unfold small; omega) fun e he => by have := right_age (hAs.ents e he).1; omega
  obtain ⟨hM, hMr⟩ := move_moved hAs
  have hMl := hM.len hrc
  have hHm := (hits_moved (inbox := inbox) hM).1
  have hHl := hHm.len hrc
  have hsh := f_hitting_Shots (moveL c A) (by unfold small; omega)
  have h1l : (shotsL (moveL c A)).length ≤ 30 := by
    have := (shots_hit (l := moveL c A) fun e he _ => right_low (hMr e he)).moved hM
    exact this.len hrc
  have hge := f_hitting_Gems (shotsL (moveL c A)) (by unfold small; omega)
  have h2l : (gemsL (shotsL (moveL c A))).length ≤ 30 := by
    have k1 := shots_hit (l := moveL c A) fun e he _ => right_low (hMr e he)
    have := (gems_hit (l := shotsL (moveL c A)) k1.low).moved (k1.moved hM)
    exact this.len hrc
  have hbl := f_hitting_Blasts (gemsL (shotsL (moveL c A))) inbox (by unfold small; omega) (by unfold small; omega)
  clear hHm hM hMr hst1 hsane hfine h hAs
  generalize blastsL (gemsL (shotsL (moveL c A))) inbox = H at *
  generalize gemsL (shotsL (moveL c A)) = M2 at *
  generalize shotsL (moveL c A) = M1 at *
  generalize moveL c A = M at *
  obtain ⟨f, l⟩ := s
  simp only at *
  by_cases hfl : fallenL H = []
  · have hfa := f_region_fall_a c r f made H (by omega) hfl
    have e1 : fallS c r f ⟨H, made, []⟩ = ⟨H, made, []⟩ := by unfold fallS; simp only; rw [hfl]; rfl
    rw [e1]
    by_cases hg : below 8 c.seed [3, f, r] ≠ 0 ∨ 3 ≤ (H.countP fun e => e.kind == 3) ∨ Stg.room ⟨H, made, []⟩ = false
    · have hgr := f_region_grow_no_a c r f made H [] (by omega) hg
      have e2 : growS c r f ⟨H, made, []⟩ = ⟨H, made, []⟩ := by unfold growS; rw [if_pos hg]
      rw [e2]
      clear e1 e2 hg hfl
      have hlv := f_region_leave_a c r f made H (by omega)
      have hso := f_cross_Sort_1 (leaveS c r f ⟨H, made, []⟩).out (by have := @leave_len c r f ⟨H, made, []⟩; unfold small; simp only [List.length_nil] at this; omega)
      split at hlv
      · rename_i hq
        rw [hq] at hso ⊢
        change Is cx _ ⟨_, [_, .t (.sl 15 []), _], _⟩
        replace hso := f_cross_Sort_1 [] (by simp [small])
        clear hq
        generalize (leaveS c r f ⟨H, made, []⟩).l = Z at *
        rcases hst with hst | ⟨X, hst⟩
        · refine Wp.ev ?_
          refine gg [.a _ _, .b (0 != 0) false, .a _ _, .a _ _, .a _ _, .a _ _, .a _ _, .a _ _, .a _ _, .a _ _, .a _ _] ⟨o_a ha, o_b (by kernel_rfl), o_a hA, o_a hst, o_a hmv, o_a hsh, o_a hge, o_a hbl, o_a hfa, o_a hgr, o_a hlv, trivial⟩ ?_
          refine gg [.i IntKind.i64 (f + 1) (f + 1), .a _ _] ⟨oI, o_a hso, trivial⟩ ?_
          exact ge
        · refine Wp.ev ?_
          refine gg [.a _ _, .b (0 != 0) false, .a _ _, .a _ _, .a _ _, .a _ _, .a _ _, .a _ _, .a _ _, .a _ _, .a _ _] ⟨o_a ha, o_b (by kernel_rfl), o_a hA, o_a hst, o_a hmv, o_a hsh, o_a hge, o_a hbl, o_a hfa, o_a hgr, o_a hlv, trivial⟩ ?_
          refine gg [.i IntKind.i64 (f + 1) (f + 1), .a _ _] ⟨oI, o_a hso, trivial⟩ ?_
          exact ge
      · rename_i hq
        clear hq
        generalize (leaveS c r f ⟨H, made, []⟩).l = Z at *
        generalize hoo : (leaveS c r f ⟨H, made, []⟩).out = oo at *
        generalize sortS Cross.less oo = so at *
        rcases hst with hst | ⟨X, hst⟩
        · refine Wp.ev ?_
          refine gg [.a _ _, .b (0 != 0) false, .a _ _, .a _ _, .a _ _, .a _ _, .a _ _, .a _ _, .a _ _, .a _ _, .a _ _] ⟨o_a ha, o_b (by kernel_rfl), o_a hA, o_a hst, o_a hmv, o_a hsh, o_a hge, o_a hbl, o_a hfa, o_a hgr, o_a hlv, trivial⟩ ?_
          refine gg [.i IntKind.i64 (f + 1) (f + 1), .s (T.sl 15 (List.map Cross.enc oo)), .a _ _] ⟨oI, o_a hso, trivial⟩ ?_
          exact ge
        · refine Wp.ev ?_
          refine gg [.a _ _, .b (0 != 0) false, .a _ _, .a _ _, .a _ _, .a _ _, .a _ _, .a _ _, .a _ _, .a _ _, .a _ _] ⟨o_a ha, o_b (by kernel_rfl), o_a hA, o_a hst, o_a hmv, o_a hsh, o_a hge, o_a hbl, o_a hfa, o_a hgr, o_a hlv, trivial⟩ ?_
          refine gg [.i IntKind.i64 (f + 1) (f + 1), .s (T.sl 15 (List.map Cross.enc oo)), .a _ _] ⟨oI, o_a hso, trivial⟩ ?_
          exact ge
    · have hgr := f_region_grow_yes_a c r f made H (by omega) (by omega) (by omega) (by omega) hg
      have e2 : growS c r f ⟨H, made, []⟩ = ⟨put1 H (gemE c r f made), made + 1, []⟩ := by unfold growS; rw [if_neg hg]
      rw [e2]
      clear e1 e2 hg hfl
      have hpl := (@put1_len H (gemE c r f made)).2
      generalize put1 H (gemE c r f made) = G at *
      have hlv := f_region_leave_a c r f (made + 1) G (by omega)
      have hso := f_cross_Sort_1 (leaveS c r f ⟨G, made + 1, []⟩).out (by have := @leave_len c r f ⟨G, made + 1, []⟩; unfold small; simp only [List.length_nil] at this; omega)
      split at hlv
      · rename_i hq
        rw [hq] at hso ⊢
        change Is cx _ ⟨_, [_, .t (.sl 15 []), _], _⟩
        replace hso := f_cross_Sort_1 [] (by simp [small])
        clear hq
        generalize (leaveS c r f ⟨G, made + 1, []⟩).l = Z at *
        rcases hst with hst | ⟨X, hst⟩
        · refine Wp.ev ?_
          refine gg [.a _ _, .b (0 != 0) false, .a _ _, .a _ _, .a _ _, .a _ _, .a _ _, .a _ _, .a _ _, .a _ _, .a _ _] ⟨o_a ha, o_b (by kernel_rfl), o_a hA, o_a hst, o_a hmv, o_a hsh, o_a hge, o_a hbl, o_a hfa, o_a hgr, o_a hlv, trivial⟩ ?_
          refine gg [.i IntKind.i64 (f + 1) (f + 1), .a _ _] ⟨oI, o_a hso, trivial⟩ ?_
          exact ge
        · refine Wp.ev ?_
          refine gg [.a _ _, .b (0 != 0) false, .a _ _, .a _ _, .a _ _, .a _ _, .a _ _, .a _ _, .a _ _, .a _ _, .a _ _] ⟨o_a ha, o_b (by kernel_rfl), o_a hA, o_a hst, o_a hmv, o_a hsh, o_a hge, o_a hbl, o_a hfa, o_a hgr, o_a hlv, trivial⟩ ?_
          refine gg [.i IntKind.i64 (f + 1) (f + 1), .a _ _] ⟨oI, o_a hso, trivial⟩ ?_
          exact ge
      · rename_i hq
        clear hq
        generalize (leaveS c r f ⟨G, made + 1, []⟩).l = Z at *
        generalize hoo : (leaveS c r f ⟨G, made + 1, []⟩).out = oo at *
        generalize sortS Cross.less oo = so at *
        rcases hst with hst | ⟨X, hst⟩
        · refine Wp.ev ?_
          refine gg [.a _ _, .b (0 != 0) false, .a _ _, .a _ _, .a _ _, .a _ _, .a _ _, .a _ _, .a _ _, .a _ _, .a _ _] ⟨o_a ha, o_b (by kernel_rfl), o_a hA, o_a hst, o_a hmv, o_a hsh, o_a hge, o_a hbl, o_a hfa, o_a hgr, o_a hlv, trivial⟩ ?_
          refine gg [.i IntKind.i64 (f + 1) (f + 1), .s (T.sl 15 (List.map Cross.enc oo)), .a _ _] ⟨oI, o_a hso, trivial⟩ ?_
          exact ge
        · refine Wp.ev ?_
          refine gg [.a _ _, .b (0 != 0) false, .a _ _, .a _ _, .a _ _, .a _ _, .a _ _, .a _ _, .a _ _, .a _ _, .a _ _] ⟨o_a ha, o_b (by kernel_rfl), o_a hA, o_a hst, o_a hmv, o_a hsh, o_a hge, o_a hbl, o_a hfa, o_a hgr, o_a hlv, trivial⟩ ?_
          refine gg [.i IntKind.i64 (f + 1) (f + 1), .s (T.sl 15 (List.map Cross.enc oo)), .a _ _] ⟨oI, o_a hso, trivial⟩ ?_
          exact ge
  · have hfa := f_region_fall_b c r f made H (by omega) hnear hfl
    have hlen : (fallS c r f ⟨H, made, []⟩).l.length = H.length ∧ (fallS c r f ⟨H, made, []⟩).made = made ∧ (fallS c r f ⟨H, made, []⟩).out.length ≤ 1000 := by
      obtain ⟨k1, k2, k3⟩ := @fall_len c r f (fallenL H) ⟨H, made, []⟩
      refine ⟨k1, k2, ?_⟩
      change ((fallenL H).foldl (fall1 c r f) ⟨H, made, []⟩).out.length ≤ 1000
      rw [k3]
      have hfn := @fallen_len H
      have hns := @near_small c r
      have := Nat.mul_le_mul (Nat.le_trans hfn hHl) hns
      simp only [List.length_nil]
      omega
    generalize fallS c r f ⟨H, made, []⟩ = F at *
    obtain ⟨FL, fm, o⟩ := F
    simp only at hlen hfa ⊢
    obtain ⟨hl1, rfl, hl3⟩ := hlen
    by_cases hg : below 8 c.seed [3, f, r] ≠ 0 ∨ 3 ≤ (FL.countP fun e => e.kind == 3) ∨ Stg.room ⟨FL, fm, o⟩ = false
    · have hgr := f_region_grow_no_b c r f fm FL o (by omega) hg
      have e2 : growS c r f ⟨FL, fm, o⟩ = ⟨FL, fm, o⟩ := by unfold growS; rw [if_pos hg]
      rw [e2]
      clear e2 hg hfl
      have hlv := f_region_leave_b c r f fm FL o (by omega) (by omega)
      have hso := f_cross_Sort_1 (leaveS c r f ⟨FL, fm, o⟩).out (by have := @leave_len c r f ⟨FL, fm, o⟩; unfold small; simp only at this; omega)
      split at hlv
      · rename_i hq
        rw [show (leaveS c r f ⟨FL, fm, o⟩).out = o from leave_none hq] at hso ⊢
        clear hq
        generalize (leaveS c r f ⟨FL, fm, o⟩).l = Z at *
        generalize sortS Cross.less o = so at *
        rcases hst with hst | ⟨X, hst⟩
        · refine Wp.ev ?_
          refine gg [.a _ _, .b (0 != 0) false, .a _ _, .a _ _, .a _ _, .a _ _, .a _ _, .a _ _, .a _ _, .a _ _, .a _ _] ⟨o_a ha, o_b (by kernel_rfl), o_a hA, o_a hst, o_a hmv, o_a hsh, o_a hge, o_a hbl, o_a hfa, o_a hgr, o_a hlv, trivial⟩ ?_
          refine gg [.i IntKind.i64 (f + 1) (f + 1), .s (T.sl 15 (List.map Cross.enc o)), .a _ _] ⟨oI, o_a hso, trivial⟩ ?_
          exact ge
        · refine Wp.ev ?_
          refine gg [.a _ _, .b (0 != 0) false, .a _ _, .a _ _, .a _ _, .a _ _, .a _ _, .a _ _, .a _ _, .a _ _, .a _ _] ⟨o_a ha, o_b (by kernel_rfl), o_a hA, o_a hst, o_a hmv, o_a hsh, o_a hge, o_a hbl, o_a hfa, o_a hgr, o_a hlv, trivial⟩ ?_
          refine gg [.i IntKind.i64 (f + 1) (f + 1), .s (T.sl 15 (List.map Cross.enc o)), .a _ _] ⟨oI, o_a hso, trivial⟩ ?_
          exact ge
      · rename_i hq
        clear hq
        generalize (leaveS c r f ⟨FL, fm, o⟩).l = Z at *
        generalize hoo : (leaveS c r f ⟨FL, fm, o⟩).out = oo at *
        generalize sortS Cross.less oo = so at *
        rcases hst with hst | ⟨X, hst⟩
        · refine Wp.ev ?_
          refine gg [.a _ _, .b (0 != 0) false, .a _ _, .a _ _, .a _ _, .a _ _, .a _ _, .a _ _, .a _ _, .a _ _, .a _ _] ⟨o_a ha, o_b (by kernel_rfl), o_a hA, o_a hst, o_a hmv, o_a hsh, o_a hge, o_a hbl, o_a hfa, o_a hgr, o_a hlv, trivial⟩ ?_
          refine gg [.i IntKind.i64 (f + 1) (f + 1), .s (T.sl 15 (List.map Cross.enc oo)), .a _ _] ⟨oI, o_a hso, trivial⟩ ?_
          exact ge
        · refine Wp.ev ?_
          refine gg [.a _ _, .b (0 != 0) false, .a _ _, .a _ _, .a _ _, .a _ _, .a _ _, .a _ _, .a _ _, .a _ _, .a _ _] ⟨o_a ha, o_b (by kernel_rfl), o_a hA, o_a hst, o_a hmv, o_a hsh, o_a hge, o_a hbl, o_a hfa, o_a hgr, o_a hlv, trivial⟩ ?_
          refine gg [.i IntKind.i64 (f + 1) (f + 1), .s (T.sl 15 (List.map Cross.enc oo)), .a _ _] ⟨oI, o_a hso, trivial⟩ ?_
          exact ge
    · have hgr := f_region_grow_yes_b c r f fm FL o (by omega) (by omega) (by omega) (by omega) hg
      have e2 : growS c r f ⟨FL, fm, o⟩ = ⟨put1 FL (gemE c r f fm), fm + 1, o⟩ := by unfold growS; rw [if_neg hg]
      rw [e2]
      clear e2 hg hfl
      have hpl := (@put1_len FL (gemE c r f fm)).2
      generalize put1 FL (gemE c r f fm) = G at *
      have hlv := f_region_leave_b c r f (fm + 1) G o (by omega) (by omega)
      have hso := f_cross_Sort_1 (leaveS c r f ⟨G, fm + 1, o⟩).out (by have := @leave_len c r f ⟨G, fm + 1, o⟩; unfold small; simp only at this; omega)
      split at hlv
      · rename_i hq
        rw [show (leaveS c r f ⟨G, fm + 1, o⟩).out = o from leave_none hq] at hso ⊢
        clear hq
        generalize (leaveS c r f ⟨G, fm + 1, o⟩).l = Z at *
        generalize sortS Cross.less o = so at *
        rcases hst with hst | ⟨X, hst⟩
        · refine Wp.ev ?_
          refine gg [.a _ _, .b (0 != 0) false, .a _ _, .a _ _, .a _ _, .a _ _, .a _ _, .a _ _, .a _ _, .a _ _, .a _ _] ⟨o_a ha, o_b (by kernel_rfl), o_a hA, o_a hst, o_a hmv, o_a hsh, o_a hge, o_a hbl, o_a hfa, o_a hgr, o_a hlv, trivial⟩ ?_
          refine gg [.i IntKind.i64 (f + 1) (f + 1), .s (T.sl 15 (List.map Cross.enc o)), .a _ _] ⟨oI, o_a hso, trivial⟩ ?_
          exact ge
        · refine Wp.ev ?_
          refine gg [.a _ _, .b (0 != 0) false, .a _ _, .a _ _, .a _ _, .a _ _, .a _ _, .a _ _, .a _ _, .a _ _, .a _ _] ⟨o_a ha, o_b (by kernel_rfl), o_a hA, o_a hst, o_a hmv, o_a hsh, o_a hge, o_a hbl, o_a hfa, o_a hgr, o_a hlv, trivial⟩ ?_
          refine gg [.i IntKind.i64 (f + 1) (f + 1), .s (T.sl 15 (List.map Cross.enc o)), .a _ _] ⟨oI, o_a hso, trivial⟩ ?_
          exact ge
      · rename_i hq
        clear hq
        generalize (leaveS c r f ⟨G, fm + 1, o⟩).l = Z at *
        generalize hoo : (leaveS c r f ⟨G, fm + 1, o⟩).out = oo at *
        generalize sortS Cross.less oo = so at *
        rcases hst with hst | ⟨X, hst⟩
        · refine Wp.ev ?_
          refine gg [.a _ _, .b (0 != 0) false, .a _ _, .a _ _, .a _ _, .a _ _, .a _ _, .a _ _, .a _ _, .a _ _, .a _ _] ⟨o_a ha, o_b (by kernel_rfl), o_a hA, o_a hst, o_a hmv, o_a hsh, o_a hge, o_a hbl, o_a hfa, o_a hgr, o_a hlv, trivial⟩ ?_
          refine gg [.i IntKind.i64 (f + 1) (f + 1), .s (T.sl 15 (List.map Cross.enc oo)), .a _ _] ⟨oI, o_a hso, trivial⟩ ?_
          exact ge
        · refine Wp.ev ?_
          refine gg [.a _ _, .b (0 != 0) false, .a _ _, .a _ _, .a _ _, .a _ _, .a _ _, .a _ _, .a _ _, .a _ _, .a _ _] ⟨o_a ha, o_b (by kernel_rfl), o_a hA, o_a hst, o_a hmv, o_a hsh, o_a hge, o_a hbl, o_a hfa, o_a hgr, o_a hlv, trivial⟩ ?_
          refine gg [.i IntKind.i64 (f + 1) (f + 1), .s (T.sl 15 (List.map Cross.enc oo)), .a _ _] ⟨oI, o_a hso, trivial⟩ ?_
          exact ge
end Go.Eva.S3

/- The statements of a region: what is refused, what is empty, who leaves. -/
namespace Go.Eva.S3
def c111 : Config := ⟨1, 1, 1, 1, 0⟩
theorem f_joustlaw09_awake : Fn cx 18 [] (.bool true) := by
  have hN := f_grid_New c111
  rw [show c111.grid = c111 from Config.grid_of (by decide), show c111.err = 0 from Config.err_of (by decide)] at hN
  have hS := f_region_Step_yes c111 0 ⟨3, []⟩ [Input.zero] [] (by simp) (by simp [small]) (by simp) (by decide)
  have hR := f_region_Right c111 0 ⟨0, []⟩ (by simp [small])
  rw [show regionRight c111 0 ⟨0, []⟩ = true by decide] at hR
  simp only [c111, Input.zero] at hN hS hR
  generalize (stepS _ _ _ _ _).l = X at *
  generalize sortS Cross.less (stepS _ _ _ _ _).out = Y at *
  refine Wp.ev ?_
  refine gg [.a _ _] ⟨o_a hN, trivial⟩ ?_
  refine bo (by kernel_rfl) ?_ ?_
  · refine gg [.w ((0 : Int) ≤ (1 : Int) ∧ (1 : Int) ≤ (1 : Int) ∧ room (1 : Nat) (24 : Nat)), .l 1, .l 1] ⟨o_w ⟨(by omega), ⟨(by omega), (by (simp [room, appendMax]))⟩⟩, trivial⟩ ?_
    refine bo (by kernel_rfl) ?_ ?_
    · refine gg [.s (T.sl 3 [T.agg [ti 0, ti 0, T.bool false]]), .a _ _, .b (flats [Region.enc (Region.mk 4 X), T.sl 15 (List.map Cross.enc Y), ti 0]) false, .b (0 == 0) true, .tt, .tt, .tt, .b (4 == 4) true, .tt, .tt, .a _ _, .tt] ⟨o_a hS, o_b (by kernel_rfl), o_b (by kernel_rfl), o_b (by kernel_rfl), o_a hR, trivial⟩ ?_
      exact ge
    · refine gg [.s (T.sl 3 [T.agg [ti 0, ti 0, T.bool false]]), .a _ _, .b (flats [Region.enc (Region.mk 4 X), T.sl 15 (List.map Cross.enc Y), ti 0]) false, .b (0 == 0) true, .tt, .tt, .tt, .b (4 == 4) true, .tt, .tt, .a _ _, .tt] ⟨o_a hS, o_b (by kernel_rfl), o_b (by kernel_rfl), o_b (by kernel_rfl), o_a hR, trivial⟩ ?_
      exact ge
  · refine gg [.w ((0 : Int) ≤ (1 : Int) ∧ (1 : Int) ≤ (1 : Int) ∧ room (1 : Nat) (24 : Nat)), .l 1, .l 1, .s (T.sl 3 [T.agg [ti 0, ti 0, T.bool false]]), .a _ _, .b (flats [Region.enc (Region.mk 4 X), T.sl 15 (List.map Cross.enc Y), ti 0]) false, .b (0 == 0) true, .tt, .tt, .tt, .b (4 == 4) true, .tt, .tt, .a _ _, .tt] ⟨o_w ⟨(by omega), ⟨(by omega), (by (simp [room, appendMax]))⟩⟩, o_a hS, o_b (by kernel_rfl), o_b (by kernel_rfl), o_b (by kernel_rfl), o_a hR, trivial⟩ ?_
    exact ge
end Go.Eva.S3

/- The statements of a region: each player is there once. -/
namespace Go.Eva.S3
theorem f_joustlaw09_RegionKeeps_first (x : Region) (out : List Cross) (there : List Int) (hx : x.ents.length ≤ 31) : ∀ d i, i + d = x.ents.length → ∀ A : List Int, A.length ≤ i →
    Is cx (.loop 5 [0, 1, 0, 1, 1, 1, 1, 1, 1, 1, 1, 1, 1, 1] 0 [.ptr 0 0 0, .t (.sl 15 (out.map Cross.enc)), .t (.sl 1 (there.map ti)), .all 1 none, vi i] [.one 2 (.t x.enc) false, .arr 1 (A.map ti) none false])
      ⟨.exit 0, [.ptr 0 0 0, .t (.sl 15 (out.map Cross.enc)), .t (.sl 1 (there.map ti)), .all 1 none, vi x.ents.length], [.one 2 (.t x.enc) false, .arr 1 ((A ++ plI (x.ents.drop i)).map ti) none false]⟩ := by
  obtain ⟨f, l⟩ := x
  simp only at hx ⊢
  intro d
  induction d with
  | zero =>
    intro i hi A hA
    rw [drop_end (by omega)]
    refine Wp.ev ?_
    refine gg [.n (List.length (List.map Entity.enc l)) (List.length l), .b (decide ((↑i : Int) < (↑(List.length l) : Int))) false] ⟨o_n (by simp), fP, trivial⟩ ?_
    refine rt (a := Res.mk (Ex.exit 0) [V.ptr 0 0 0, V.t (T.sl 15 (List.map Cross.enc out)), V.t (T.sl 1 (List.map ti there)), V.all 1 none, vi (↑i : Int)] [Ob.one 2 (V.t (Region.enc (Region.mk f l))) false, Ob.arr 1 (List.map ti A) none false]) (by kernel_rfl) ?_
    ((have : i = l.length := by omega); subst this; simp [plI])
  | succ d ih =>
    intro i hi A hA
    have hlt : i < l.length := by omega
    have ih0 := ih (i + 1) (by omega) A (by omega)
    have ih1 := ih (i + 1) (by omega) (A ++ [(gt l i).id]) (by simp; omega)
    rw [drop_gt hlt]
    have e : plI (gt l i :: l.drop (i + 1)) = if (gt l i).kind = 1 then (gt l i).id :: plI (l.drop (i + 1)) else plI (l.drop (i + 1)) := by
      unfold plI
      rw [List.filter_cons]
      by_cases h : (gt l i).kind = 1 <;> simp [h]
    rw [e]
    clear ih e
    by_cases h : (gt l i).kind = 1
    · rw [if_pos h]
      rw [List.append_assoc, List.singleton_append] at ih1
      generalize plI (l.drop (i + 1)) = X at *
      refine Wp.ev ?_
      refine gg [.n (List.length (List.map Entity.enc l)) (List.length l), .b (decide ((↑i : Int) < (↑(List.length l) : Int))) true, .w ((0 : Int) ≤ (↑i : Int)), .n (Int.toNat (↑i : Int)) i, .g (List.map Entity.enc l) i (Entity.enc (gt l i)), .b ((gt l i).kind == 1) true, .w ((0 : Int) ≤ (↑i : Int)), .n (Int.toNat (↑i : Int)) i, .g (List.map Entity.enc l) i (Entity.enc (gt l i)), .w ((0 : Nat) < (8 : Nat)), .t (T.sl 0 [ti (gt l i).id]) (T.sl 0 (List.map (T.int IntKind.i64) [(gt l i).id])), .t (T.sl 0 (List.map ti A ++ List.map (T.int IntKind.i64) [(gt l i).id])) (T.sl 0 (List.map ti (A ++ [(gt l i).id]))), .w (room (List.length (List.map ti (A ++ [(gt l i).id]))) (8 : Nat)), .i IntKind.i64 ((↑i : Int) + 1) ((↑(i + 1) : Int)), .a _ _] ⟨o_n (by simp), tP, oW, o_n (by kernel_rfl), o_gt rfl (by assumption) (by intro h; cases h), t_bre (by assumption), oW, o_n (by kernel_rfl), o_gt rfl (by assumption) (by intro h; cases h), oW, o_l (nm_cons rfl nm_nil), o_l (nm_app rfl rfl), o_w (by (simp [room, appendMax]; omega)), oI, o_a ih1, trivial⟩ ?_
      exact ge
    · rw [if_neg h]
      generalize plI (l.drop (i + 1)) = X at *
      refine Wp.ev ?_
      refine gg [.n (List.length (List.map Entity.enc l)) (List.length l), .b (decide ((↑i : Int) < (↑(List.length l) : Int))) true, .w ((0 : Int) ≤ (↑i : Int)), .n (Int.toNat (↑i : Int)) i, .g (List.map Entity.enc l) i (Entity.enc (gt l i)), .b ((gt l i).kind == 1) false, .i IntKind.i64 ((↑i : Int) + 1) ((↑(i + 1) : Int)), .a _ _] ⟨o_n (by simp), tP, oW, o_n (by kernel_rfl), o_gt rfl (by assumption) (by intro h; cases h), f_bre (by assumption), oI, o_a ih0, trivial⟩ ?_
      exact ge
def handI (l : List Cross) : List Int := plI ((l.filter fun m => decide (m.kind = 1)).map Cross.ent)
theorem handI_cons (m : Cross) (l : List Cross) : handI (m :: l) = if m.kind = 1 ∧ m.ent.kind = 1 then m.ent.id :: handI l else handI l := by
  unfold handI plI
  rw [List.filter_cons]
  by_cases h : m.kind = 1
  · by_cases h2 : m.ent.kind = 1 <;> simp [h, h2]
  · simp [h]
theorem f_joustlaw09_RegionKeeps_next (out : List Cross) (there : List Int) (hx : out.length ≤ 400) : ∀ d i, i + d = out.length → ∀ A : List Int, A.length ≤ 31 + i →
    Is cx (.loop 5 [0, 1, 0, 1, 1, 1, 1, 1, 1, 1, 1, 1, 1, 1, 1] 0 [.t (.sl 15 (out.map Cross.enc)), .t (.sl 1 (there.map ti)), .all 0 none, vi i] [.arr 1 (A.map ti) none false])
      ⟨.exit 2, [.t (.sl 15 (out.map Cross.enc)), .t (.sl 1 (there.map ti)), .all 0 none, vi out.length], [.arr 1 ((A ++ handI (out.drop i)).map ti) none false]⟩ := by
  intro d
  induction d with
  | zero =>
    intro i hi A hA
    rw [drop_end (by omega)]
    refine Wp.ev ?_
    refine gg [.n (List.length (List.map Cross.enc out)) (List.length out), .b (decide ((↑i : Int) < (↑(List.length out) : Int))) false] ⟨o_n (by simp), fP, trivial⟩ ?_
    refine rt (a := Res.mk (Ex.exit 2) [V.t (T.sl 15 (List.map Cross.enc out)), V.t (T.sl 1 (List.map ti there)), V.all 0 none, vi (↑i : Int)] [Ob.arr 1 (List.map ti A) none false]) (by kernel_rfl) ?_
    ((have : i = out.length := by omega); subst this; simp [plI, handI])
  | succ d ih =>
    intro i hi A hA
    have hlt : i < out.length := by omega
    have ih0 := ih (i + 1) (by omega) A (by omega)
    have ih1 := ih (i + 1) (by omega) (A ++ [(gt out i).ent.id]) (by simp; omega)
    rw [drop_gt hlt, handI_cons]
    clear ih
    by_cases h : (gt out i).kind = 1
    · by_cases h2 : (gt out i).ent.kind = 1
      · rw [if_pos ⟨h, h2⟩]
        rw [List.append_assoc, List.singleton_append] at ih1
        generalize handI (out.drop (i + 1)) = X at *
        refine Wp.ev ?_
        refine gg [.n (List.length (List.map Cross.enc out)) (List.length out), .b (decide ((↑i : Int) < (↑(List.length out) : Int))) true, .w ((0 : Int) ≤ (↑i : Int)), .n (Int.toNat (↑i : Int)) i, .g (List.map Cross.enc out) i (Cross.enc (gt out i)), .b ((gt out i).kind == 1) true, .tt, .tt, .w ((0 : Int) ≤ (↑i : Int)), .n (Int.toNat (↑i : Int)) i, .g (List.map Cross.enc out) i (Cross.enc (gt out i)), .tt, .tt, .tt, .tt, .tt] ⟨o_n (by simp), tP, oW, o_n (by kernel_rfl), o_gt rfl (by assumption) (by intro h; cases h), t_bre (by assumption), oW, o_n (by kernel_rfl), o_gt rfl (by assumption) (by intro h; cases h), trivial⟩ ?_
        refine gg [.b ((gt out i).ent.kind == 1) true, .w ((0 : Int) ≤ (↑i : Int)), .n (Int.toNat (↑i : Int)) i, .g (List.map Cross.enc out) i (Cross.enc (gt out i)), .w ((0 : Nat) < (8 : Nat)), .t (T.sl 0 [ti (gt out i).ent.id]) (T.sl 0 (List.map (T.int IntKind.i64) [(gt out i).ent.id])), .t (T.sl 0 (List.map ti A ++ List.map (T.int IntKind.i64) [(gt out i).ent.id])) (T.sl 0 (List.map ti (A ++ [(gt out i).ent.id]))), .w (room (List.length (List.map ti (A ++ [(gt out i).ent.id]))) (8 : Nat)), .i IntKind.i64 ((↑i : Int) + 1) ((↑(i + 1) : Int)), .a _ _] ⟨t_bre (by assumption), oW, o_n (by kernel_rfl), o_gt rfl (by assumption) (by intro h; cases h), oW, o_l (nm_cons rfl nm_nil), o_l (nm_app rfl rfl), o_w (by (simp [room, appendMax]; omega)), oI, o_a ih1, trivial⟩ ?_
        exact ge
      · rw [if_neg (fun q => h2 q.2)]
        generalize handI (out.drop (i + 1)) = X at *
        refine Wp.ev ?_
        refine gg [.n (List.length (List.map Cross.enc out)) (List.length out), .b (decide ((↑i : Int) < (↑(List.length out) : Int))) true, .w ((0 : Int) ≤ (↑i : Int)), .n (Int.toNat (↑i : Int)) i, .g (List.map Cross.enc out) i (Cross.enc (gt out i)), .b ((gt out i).kind == 1) true, .tt, .tt, .w ((0 : Int) ≤ (↑i : Int)), .n (Int.toNat (↑i : Int)) i, .g (List.map Cross.enc out) i (Cross.enc (gt out i)), .tt, .tt, .tt, .tt, .tt] ⟨o_n (by simp), tP, oW, o_n (by kernel_rfl), o_gt rfl (by assumption) (by intro h; cases h), t_bre (by assumption), oW, o_n (by kernel_rfl), o_gt rfl (by assumption) (by intro h; cases h), trivial⟩ ?_
        refine gg [.b ((gt out i).ent.kind == 1) false, .i IntKind.i64 ((↑i : Int) + 1) ((↑(i + 1) : Int)), .a _ _] ⟨f_bre (by assumption), oI, o_a ih0, trivial⟩ ?_
        exact ge
    · rw [if_neg (fun q => h q.1)]
      generalize handI (out.drop (i + 1)) = X at *
      refine Wp.ev ?_
      refine gg [.n (List.length (List.map Cross.enc out)) (List.length out), .b (decide ((↑i : Int) < (↑(List.length out) : Int))) true, .w ((0 : Int) ≤ (↑i : Int)), .n (Int.toNat (↑i : Int)) i, .g (List.map Cross.enc out) i (Cross.enc (gt out i)), .b ((gt out i).kind == 1) false, .ff, .ff, .ff, .ff, .ff, .ff, .ff, .ff, .i IntKind.i64 ((↑i : Int) + 1) ((↑(i + 1) : Int)), .a _ _] ⟨o_n (by simp), tP, oW, o_n (by kernel_rfl), o_gt rfl (by assumption) (by intro h; cases h), f_bre (by assumption), oI, o_a ih0, trivial⟩ ?_
      exact ge
theorem f_joustlaw09_RegionKeeps_count (there B : List Int) (i : Nat) (hi : i < there.length) (hb : B.length ≤ 431) : ∀ d k, k + d = B.length → ∀ n : Nat, n ≤ k →
    Is cx (.loop 5 [0, 1, 0, 1, 0, 0, 1, 0, 0, 1, 0, 1, 1, 1, 1, 1, 1, 1, 1, 1, 1, 1, 1, 1] 0 [.t (.sl 1 (there.map ti)), .all 0 none, vi i, vi n, vi k] [.arr 1 (B.map ti) none false])
      ⟨.exit 6, [.t (.sl 1 (there.map ti)), .all 0 none, vi i, vi (n + times (B.drop k) (gt there i) : Nat), vi B.length], [.arr 1 (B.map ti) none false]⟩ := by
  intro d
  induction d with
  | zero =>
    intro k hk n hn
    rw [drop_end (by omega)]
    refine Wp.ev ?_
    refine gg [.n (List.length (List.map ti B)) (List.length B), .b (decide ((↑k : Int) < (↑(List.length B) : Int))) false] ⟨o_n (by simp), fP, trivial⟩ ?_
    refine rt (a := Res.mk (Ex.exit 6) [V.t (T.sl 1 (List.map ti there)), V.all 0 none, vi (↑i : Int), vi (↑n : Int), vi (↑k : Int)] [Ob.arr 1 (List.map ti B) none false]) (by kernel_rfl) ?_
    ((have : k = B.length := by omega); subst this; simp [times])
  | succ d ih =>
    intro k hk n hn
    have hlt : k < B.length := by omega
    have ih0 := ih (k + 1) (by omega) n (by omega)
    have ih1 := ih (k + 1) (by omega) (n + 1) (by omega)
    have e : times (B.drop k) (gt there i) = times (B.drop (k + 1)) (gt there i) + if gt B k = gt there i then 1 else 0 := by
      rw [drop_gt hlt]
      unfold times
      rw [List.countP_cons]
      simp
    rw [e]
    clear ih e
    generalize times (B.drop (k + 1)) (gt there i) = X at *
    by_cases h : gt B k = gt there i
    · rw [if_pos h]
      rw [show n + (X + 1) = n + 1 + X by omega]
      refine Wp.ev ?_
      refine gg [.n (List.length (List.map ti B)) (List.length B), .b (decide ((↑k : Int) < (↑(List.length B) : Int))) true, .w ((0 : Int) ≤ (↑k : Int)), .n (Int.toNat (↑k : Int)) k, .w (k < List.length (List.map ti B)), .w ((0 : Int) ≤ (↑i : Int)), .n (Int.toNat (↑i : Int)) i, .g (List.map ti there) i (ti (gt there i)), .g (List.map ti B) k (ti (gt B k)), .b (gt B k == gt there i) true, .i IntKind.i64 ((↑n : Int) + 1) ((↑(n + 1) : Int)), .i IntKind.i64 ((↑k : Int) + 1) ((↑(k + 1) : Int)), .a _ _] ⟨o_n (by simp), tP, oW, o_n (by kernel_rfl), o_w (by (simp; omega)), oW, o_n (by kernel_rfl), o_gt rfl (by assumption) (by intro h; cases h), o_gt rfl (by assumption) (by intro h; cases h), t_bre (by assumption), oI, oI, o_a ih1, trivial⟩ ?_
      exact ge
    · rw [if_neg h]
      refine Wp.ev ?_
      refine gg [.n (List.length (List.map ti B)) (List.length B), .b (decide ((↑k : Int) < (↑(List.length B) : Int))) true, .w ((0 : Int) ≤ (↑k : Int)), .n (Int.toNat (↑k : Int)) k, .w (k < List.length (List.map ti B)), .w ((0 : Int) ≤ (↑i : Int)), .n (Int.toNat (↑i : Int)) i, .g (List.map ti there) i (ti (gt there i)), .g (List.map ti B) k (ti (gt B k)), .b (gt B k == gt there i) false, .i IntKind.i64 ((↑k : Int) + 1) ((↑(k + 1) : Int)), .a _ _] ⟨o_n (by simp), tP, oW, o_n (by kernel_rfl), o_w (by (simp; omega)), oW, o_n (by kernel_rfl), o_gt rfl (by assumption) (by intro h; cases h), o_gt rfl (by assumption) (by intro h; cases h), f_bre (by assumption), oI, o_a ih0, trivial⟩ ?_
      exact ge
theorem f_joustlaw09_RegionKeeps_last (there B : List Int) (hl : there.length ≤ 431) (hb : B.length ≤ 431) (h1 : ∀ x ∈ there, times B x = 1) : ∀ d i, i + d = there.length →
    Is cx (.loop 5 [0, 1, 0, 1, 1, 1, 1, 1, 1, 1, 1, 1, 1, 1, 1, 1] 0 [.t .any, .t (.sl 1 (there.map ti)), .all 0 none, vi i] [.arr 1 (B.map ti) none false])
      ⟨.exit 4, [.t .any, .t (.sl 1 (there.map ti)), .all 0 none, vi there.length], [.arr 1 (B.map ti) none false]⟩ := by
  intro d
  induction d with
  | zero =>
    intro i hi
    refine Wp.ev ?_
    refine gg [.n (List.length (List.map ti there)) (List.length there), .b (decide ((↑i : Int) < (↑(List.length there) : Int))) false] ⟨o_n (by simp), fP, trivial⟩ ?_
    refine rt (a := Res.mk (Ex.exit 4) [V.t T.any, V.t (T.sl 1 (List.map ti there)), V.all 0 none, vi (↑i : Int)] [Ob.arr 1 (List.map ti B) none false]) (by kernel_rfl) ?_
    ((have : i = there.length := by omega); subst this; rfl)
  | succ d ih =>
    intro i hi
    have hlt : i < there.length := by omega
    have ih1 := ih (i + 1) (by omega)
    have hc := f_joustlaw09_RegionKeeps_count there B i hlt hb B.length 0 (by omega) 0 (by omega)
    rw [List.drop_zero, Nat.zero_add, h1 _ (gt_mem hlt)] at hc
    clear ih h1
    refine Wp.ev ?_
    refine gg [.n (List.length (List.map ti there)) (List.length there), .b (decide ((↑i : Int) < (↑(List.length there) : Int))) true, .a _ _, .b (1 != 1) false, .i IntKind.i64 ((↑i : Int) + 1) ((↑(i + 1) : Int)), .a _ _] ⟨o_n (by simp), tP, o_a hc, o_b (by kernel_rfl), oI, o_a ih1, trivial⟩ ?_
    exact ge
theorem f_joustlaw09_RegionKeeps (c : Config) (r frame : Int) (l : List Entity) (inputs : List Input) (inbox : List Cross) (hl : long l) (hi : long inputs) (hb : long inbox) : Fn cx 5 [c.enc, ti r, ti frame, .sl 9 (l.map Entity.enc), .sl 3 (inputs.map Input.enc), .sl 15 (inbox.map Cross.enc)] (.bool true) := by
  have ha := f_joustlaw09_awake
  obtain ⟨hr, h1, h2, h3, h4⟩ := @Config.play_ok c
  have hC := f_joustplay_Config c
  generalize c.play = g at *
  have hN := f_grid_New g
  rw [Config.grid_of hr, Config.err_of hr] at hN
  have hG := f_grid_Regions g
  have hgr : g.regions = g.cols * g.rows := by simp [Config.regions, hr]
  have hml := Config.mul_le hr
  have hgl := @Config.regions_le g
  have hw : IntKind.u64.wrap g.regions = g.regions := wu64 ⟨by omega, by omega, rfl⟩
  have hq := u64_tmod (n := r) (k := g.regions) (by omega)
  obtain ⟨q, hqe⟩ : ∃ q, (IntKind.u64.wrap r).tmod g.regions = q := ⟨_, rfl⟩
  rw [hqe] at hq
  have his : g.is q = true := by simp only [Config.is, within_iff]; omega
  have hF := play_fine (frame := frame) (l := l) (ins := inputs) (inbox := inbox) his
  have hre := f_joustplay_Region g q frame l his hl
  obtain ⟨k1, k2, k3⟩ := @playRegion_ok g q frame l his
  have hP := @play_right g q frame l his
  generalize playRegion g q frame l = s at *
  have hI := f_joustplay_Inbox g q s.frame inbox his hb (by omega)
  obtain ⟨b1, b2⟩ := @playInbox_ok g q s.frame inbox
  generalize playInbox g q s.frame inbox = box at *
  have hFr := f_joustplay_Frames g [inputs] 1 g.players.toNat (by omega) (by omega) (by simp [long]) (by decide) (by simpa using hi)
  change Fn cx _ _ (.sl 1 [.sl 3 ((playRow g.players.toNat inputs).map Input.enc)]) at hFr
  have hrl := @playRow_len g.players.toNat inputs
  generalize playRow g.players.toNat inputs = row at *
  have hS := f_region_Step_yes g q s row box (by omega) (by unfold small; omega) (by omega) (fine_asked hF)
  obtain ⟨s1, s2, _⟩ := stepS_right hF
  have s3 := stepS_sent hF
  have hn := fine_next (fine_asked hF)
  have hPr := f_region_Present g q s box (by omega) (by omega)
  have hkp := stepS_keeps hF
  have hol : (sortS Cross.less (stepS g q s row box).out).length ≤ 400 := stepS_outs hF
  have hsr := present_srt hF
  clear s1 s2 s3
  generalize (stepS g q s row box).l = X at *
  generalize sortS Cross.less (stepS g q s row box).out = out at *
  generalize presentL s.ents box = there at *
  have hT1 : ∀ x ∈ there, times (plI X ++ handI out) x = 1 := fun x hx => by
    have := hkp.countP_eq (fun y => decide (y = x))
    have := times_one hsr hx
    unfold times at *
    unfold handI
    omega
  have hpl : (plI X ++ handI out).length = there.length := hkp.length_eq
  have hl1 : (plI X).length ≤ X.length := by unfold plI; rw [List.length_map]; exact List.length_filter_le ..
  have hl2 : (handI out).length ≤ out.length := by
    unfold handI plI
    rw [List.length_map]
    refine Nat.le_trans (List.length_filter_le ..) ?_
    rw [List.length_map]
    exact List.length_filter_le ..
  have hll : (plI X ++ handI out).length ≤ 431 := by rw [List.length_append]; omega
  have hA := f_joustlaw09_RegionKeeps_first ⟨s.frame + 1, X⟩ out there hn X.length 0 (Nat.zero_add _) [] (by simp)
  have hB := f_joustlaw09_RegionKeeps_next out there hol out.length 0 (Nat.zero_add _) (plI X) (by omega)
  have hCc := f_joustlaw09_RegionKeeps_last there (plI X ++ handI out) (by omega) hll hT1 there.length 0 (Nat.zero_add _)
  rw [List.drop_zero, List.nil_append] at hA
  rw [List.drop_zero] at hB
  generalize plI X ++ handI out = B at *
  generalize plI X = A at *
  clear hkp hsr hT1
  clear k1 b1 hF hP hgr
  obtain ⟨f, L⟩ := s
  simp only at hre hI hS hPr k2 k3 hol hA ⊢
  refine Wp.ev ?_
  refine gg [.a _ _, .a _ _, .a _ _, .b (!true) false, .ff, .ff, .b (0 != 0) false, .i IntKind.u64 r (IntKind.wrap IntKind.u64 r), .a _ _, .i IntKind.u64 (Config.regions g) (Config.regions g), .w (Config.regions g ≠ (0 : Int)), .t (T.int IntKind.u64 (Int.tmod (IntKind.wrap IntKind.u64 r) (Config.regions g))) (T.int IntKind.u64 q), .i IntKind.i64 q q, .a _ _, .a _ _] ⟨o_a hC, o_a hN, o_a ha, o_b (by kernel_rfl), o_b (by kernel_rfl), o_i rfl, o_a hG, oU, oW, o_t (by rw [hqe]), oI, o_a hre, o_a hI, trivial⟩ ?_
  refine bo (by kernel_rfl) ?_ ?_
  · refine bo (by kernel_rfl) ?_ ?_
    · refine gg [.a _ _, .w ((0 : Int) ≤ (0 : Int)), .l 0, .g [T.sl 3 (List.map Input.enc row)] 0 (T.sl 3 (List.map Input.enc row))] ⟨o_a hFr, oW, oG, trivial⟩ ?_
      refine bo (by kernel_rfl) ?_ ?_
      · refine gg [.a _ _, .b (0 != 0) false, .a _ _, .a _ _, .a _ _, .a _ _, .n (List.length (List.map ti B)) (List.length B), .n (List.length (List.map ti there)) (List.length there)] ⟨o_a hS, o_b (by kernel_rfl), o_a hPr, o_a hA, o_a hB, o_a hCc, o_n (by simp), o_n (by simp), trivial⟩ ?_
        refine rt (a := Res.mk Ex.ret [vb ((↑(List.length B) : Int) == (↑(List.length there) : Int))] []) (by kernel_rfl) ?_
        (first | rfl | (simp [hpl]; done))
      · refine gg [.a _ _, .b (0 != 0) false, .a _ _, .a _ _, .a _ _, .a _ _, .n (List.length (List.map ti B)) (List.length B), .n (List.length (List.map ti there)) (List.length there)] ⟨o_a hS, o_b (by kernel_rfl), o_a hPr, o_a hA, o_a hB, o_a hCc, o_n (by simp), o_n (by simp), trivial⟩ ?_
        refine rt (a := Res.mk Ex.ret [vb ((↑(List.length B) : Int) == (↑(List.length there) : Int))] []) (by kernel_rfl) ?_
        (first | rfl | (simp [hpl]; done))
    · refine gg [.a _ _, .w ((0 : Int) ≤ (0 : Int)), .l 0, .g [T.sl 3 (List.map Input.enc row)] 0 (T.sl 3 (List.map Input.enc row)), .a _ _, .b (0 != 0) false, .a _ _, .a _ _, .a _ _, .a _ _, .n (List.length (List.map ti B)) (List.length B), .n (List.length (List.map ti there)) (List.length there)] ⟨o_a hFr, oW, oG, o_a hS, o_b (by kernel_rfl), o_a hPr, o_a hA, o_a hB, o_a hCc, o_n (by simp), o_n (by simp), trivial⟩ ?_
      refine rt (a := Res.mk Ex.ret [vb ((↑(List.length B) : Int) == (↑(List.length there) : Int))] []) (by kernel_rfl) ?_
      (first | rfl | (simp [hpl]; done))
  · refine gg [.a _ _, .w ((0 : Int) ≤ (0 : Int)), .l 0, .g [T.sl 3 (List.map Input.enc row)] 0 (T.sl 3 (List.map Input.enc row)), .a _ _, .b (0 != 0) false, .a _ _, .a _ _, .a _ _, .a _ _, .n (List.length (List.map ti B)) (List.length B), .n (List.length (List.map ti there)) (List.length there)] ⟨o_a hFr, oW, oG, o_a hS, o_b (by kernel_rfl), o_a hPr, o_a hA, o_a hB, o_a hCc, o_n (by simp), o_n (by simp), trivial⟩ ?_
    refine rt (a := Res.mk Ex.ret [vb ((↑(List.length B) : Int) == (↑(List.length there) : Int))] []) (by kernel_rfl) ?_
    (first | rfl | (simp [hpl]; done))
end Go.Eva.S3
