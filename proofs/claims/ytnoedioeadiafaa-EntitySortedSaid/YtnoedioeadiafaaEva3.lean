/- A reading of the program, proved sound against the model, and what its functions answer by it: part 3. -/
import Derived.Test.YtnoedioeadiafaaEva2
import Derived.ChangeArms
import Derived.SizedLaws
import Derived.Carry
import Derived.OpenShut
import Derived.ChangeOld
/- Eva, part 38: what a row's argument is read as, has a tree. -/
namespace Go.Eva
open Go.RowKit

/-- Cells that a type's value has, as trees; fuel first. -/
def Conf (cx : Cx) : Nat → Nat → List T → Prop
  | 0, _, _ => False
  | n + 1, t, ts => match cx.ti.get t with
    | some i => match i.ty with
      | .int k => ∃ m, ts = [.int k m] ∧ (Lit.int k m).wf = true
      | .bool => ∃ b, ts = [.bool b]
      | .str => ∃ s, ts = [.str s] ∧ s.size ≤ reachBytes
      | .slice e => ∃ xs, ts = [.sl (sizeOf cx e) xs] ∧ xs.length ≤ maxLen ∧ xs.length * bytesOf cx e ≤ reachBytes ∧ ∀ x ∈ xs, x ≠ .any ∧ (isStruct cx e = true → ∃ l, x = .agg l) ∧ (isStruct cx e = false → x.cells = [x]) ∧ Conf cx n e x.cells
      | .struct fs => ts.length = i.size ∧ ∀ p ∈ fs, Conf cx n p.2 ((ts.drop p.1).take (sizeOf cx p.2))
      | _ => False
    | none => False

def contig (cx : Cx) : Nat → List (Nat × Nat) → Option Nat
  | n, [] => some n
  | n, (off, t) :: r => match Nat.beq off n with
    | true => contig cx (n + sizeOf cx t) r
    | false => none

/-- Types that can be read as trees. -/
def rdB (cx : Cx) : Nat → Nat → Bool
  | 0, _ => false
  | n + 1, t => match cx.ti.get t with
    | some i => match i.ty with
      | .int _ => true
      | .bool => true
      | .str => true
      | .slice e => rdB cx n e
      | .struct fs => (fs.all fun p => rdB cx n p.2) && (match contig cx 0 fs with | some s => Nat.beq s i.size | none => false)
      | _ => false
    | none => false

section
variable {P : Program} {cx : Cx} {H : Type} {enc : TypeId × Value → H} {w : World} {spare : Nat → Bool} {held : Bool}

theorem cellsOf_ok (hc : CxTy P cx) {t : Nat} {i : TI} (h : cx.ti.get t = some i) : P.cellsOf t = i.size ∧ sizeOf cx t = i.size := by
  obtain ⟨inf, d, h1, h2, h3, _⟩ := hc.ty t i h
  exact ⟨by simp [Program.cellsOf, h1, h3], by simp [sizeOf, h]⟩

def Trees (w : World) (ts : List T) (cs : List Value) : Prop := ts.length = cs.length ∧ ∀ (i : Nat) a b, ts[i]? = some a → cs[i]? = some b → TR (· < w.heap.size) w a b ∧ b.oneCell' = true ∧ a ≠ .any

theorem Trees.one {a : T} {b : Value} (h : TR (· < w.heap.size) w a b) (hb : b.oneCell' = true) (ha : a ≠ .any) : Trees w [a] [b] := by
  refine ⟨rfl, fun i x y hx hy => ?_⟩
  cases i with
  | zero => simp at hx hy; subst hx; subst hy; exact ⟨h, hb, ha⟩
  | succ i => simp at hx

theorem Trees.append {ts us : List T} {cs ds : List Value} (h : Trees w ts cs) (k : Trees w us ds) : Trees w (ts ++ us) (cs ++ ds) := by
  refine ⟨by simp [h.1, k.1], fun i a b ha hb => ?_⟩
  have hl := h.1
  rcases Nat.lt_or_ge i ts.length with hi | hi
  · rw [List.getElem?_append_left hi] at ha
    rw [List.getElem?_append_left (by omega)] at hb
    exact h.2 i a b ha hb
  · rw [List.getElem?_append_right hi] at ha
    rw [List.getElem?_append_right (by omega)] at hb
    exact k.2 _ a b ha (by rw [hl]; exact hb)

theorem struct_ok {cs : List Value} {Q : Nat → List T → Prop} : ∀ (fs : List (Nat × Nat)) (pos s : Nat), contig cx pos fs = some s → s ≤ cs.length → (∀ p ∈ fs, ∃ ts, Trees w ts ((cs.drop p.1).take (sizeOf cx p.2)) ∧ Q p.2 ts) →
    pos ≤ s ∧ ∃ ts, Trees w ts ((cs.drop pos).take (s - pos)) ∧ ∀ p ∈ fs, pos ≤ p.1 ∧ Q p.2 ((ts.drop (p.1 - pos)).take (sizeOf cx p.2))
  | [], pos, s, h, _, _ => by
    simp [contig] at h
    subst h
    exact ⟨Nat.le_refl _, [], ⟨by simp, by simp⟩, by simp⟩
  | (off, t) :: r, pos, s, h, hs, hq => by
    simp only [contig] at h
    split at h
    · rename_i hb
      obtain rfl := Nat.eq_of_beq_eq_true hb
      obtain ⟨h1, us, h2, h3⟩ := struct_ok r (off + sizeOf cx t) s h hs (fun p hp => hq p (List.mem_cons_of_mem _ hp))
      obtain ⟨ts, h4, h5⟩ := hq (off, t) (List.mem_cons_self ..)
      have hlt : ts.length = sizeOf cx t := by have := h4.1; simp at this; omega
      refine ⟨by omega, ts ++ us, ?_, ?_⟩
      · have := h4.append h2
        have e : (cs.drop off).take (sizeOf cx t) ++ (cs.drop (off + sizeOf cx t)).take (s - (off + sizeOf cx t)) = (cs.drop off).take (s - off) := by
          rw [show s - off = sizeOf cx t + (s - (off + sizeOf cx t)) by omega, List.take_add, List.drop_drop]
        rw [e] at this
        exact this
      · intro p hp
        rcases List.mem_cons.1 hp with rfl | hp
        · refine ⟨Nat.le_refl _, ?_⟩
          simp only [Nat.sub_self, List.drop_zero]
          rw [List.take_append_of_le_length (by omega), List.take_of_length_le (by omega)]
          exact h5
        · obtain ⟨k1, k2⟩ := h3 p hp
          refine ⟨by omega, ?_⟩
          have e : (ts ++ us).drop (p.1 - off) = us.drop (p.1 - (off + sizeOf cx t)) := by
            rw [List.drop_append, List.drop_of_length_le (by omega)]
            simp
            congr 1
            omega
          rw [e]
          exact k2
    · contradiction

theorem cells_get {a : Addr} {n : Nat} {l : List Value} (h : w.cells? 0 a n = some l) : l.length = n ∧ ∀ j, j < n → w.cell? (a.add j) = l[j]? := by
  unfold World.cells? at h
  rw [if_pos (Nat.zero_le _)] at h
  refine ⟨by simpa using mapM_some_length h, fun j hj => ?_⟩
  exact mapM_some_get h j j (by simp [hj])

theorem conf_one {m e : Nat} {ts : List T} (h : Conf cx m e ts) (hs : isStruct cx e = false) : ∃ x, ts = [x] ∧ x.cells = [x] ∧ x ≠ .any := by
  cases m with
  | zero => exact h.elim
  | succ m =>
    unfold isStruct at hs
    simp only [Conf] at h
    cases hi : cx.ti.get e with
    | none => rw [hi] at h; exact h.elim
    | some i =>
      rw [hi] at h hs
      cases i with
      | mk ty s b eq =>
        cases ty <;> simp only at h hs
        · obtain ⟨v, rfl, _⟩ := h; exact ⟨_, rfl, rfl, by simp⟩
        · obtain ⟨v, rfl⟩ := h; exact ⟨_, rfl, rfl, by simp⟩
        · obtain ⟨v, rfl, _⟩ := h; exact ⟨_, rfl, rfl, by simp⟩
        · obtain ⟨v, rfl, _⟩ := h; exact ⟨_, rfl, rfl, by simp⟩
        · contradiction

theorem weights_all {e : Nat} : ∀ {ds : List (DataW H)} {i : Nat} {d : DataW H}, ds[i]? = some d → ∀ k ∈ d.weights P e, k ∈ DataW.weightsAll P e ds
  | [], i, d, h, _, _ => by simp at h
  | x :: r, 0, d, h, k, hk => by
    simp at h; subst h
    simp only [DataW.weightsAll, List.mem_append]
    exact .inl hk
  | x :: r, i + 1, d, h, k, hk => by
    simp only [DataW.weightsAll, List.mem_append]
    exact .inr (weights_all (by simpa using h) k hk)

/-- What is read has a tree. -/
theorem read_ok (hc : CxTy P cx) : ∀ (m n t : Nat) (cs : List Value) (x : DataW H × List MemPlace), rdB cx m t = true → (∀ k ∈ x.1.weights P t, k ≤ reachBytes) → DataW.trod enc P w 0 spare held n t cs = some x → ∃ ts, Trees w ts cs ∧ Conf cx m t ts := by
  intro m
  induction m with
  | zero => intro n t cs x h; simp [rdB] at h
  | succ m ih =>
    intro n t cs x hr hw h
    unfold rdB at hr
    split at hr
    · rename_i i hi
      obtain ⟨inf, d, h1, h2, h3, h4, h5, _⟩ := hc.ty t i hi
      have conf : ∀ ts, Conf cx (m + 1) t ts = (match i.ty with
        | .int k => ∃ m, ts = [.int k m] ∧ (Lit.int k m).wf = true
        | .bool => ∃ b, ts = [.bool b]
        | .str => ∃ s, ts = [.str s] ∧ s.size ≤ reachBytes
        | .slice e => ∃ xs, ts = [.sl (sizeOf cx e) xs] ∧ xs.length ≤ maxLen ∧ xs.length * bytesOf cx e ≤ reachBytes ∧ ∀ x ∈ xs, x ≠ .any ∧ (isStruct cx e = true → ∃ l, x = .agg l) ∧ (isStruct cx e = false → x.cells = [x]) ∧ Conf cx m e x.cells
        | .struct fs => ts.length = i.size ∧ ∀ p ∈ fs, Conf cx m p.2 ((ts.drop p.1).take (sizeOf cx p.2))
        | _ => False) := by
        intro ts
        simp only [Conf, hi]
      cases hty : i.ty with
      | int k =>
        rw [hty] at h5
        simp only [TyR] at h5
        subst h5
        obtain ⟨v, rfl, _, hwf⟩ := DataW.trod_int h2 h
        exact ⟨[.int k v], .one (.int _ _) rfl (by simp), by rw [conf, hty]; exact ⟨v, rfl, hwf⟩⟩
      | bool =>
        rw [hty] at h5
        simp only [TyR] at h5
        subst h5
        obtain ⟨v, rfl, _⟩ := DataW.trod_bool h2 h
        exact ⟨[.bool v], .one (.bool _) rfl (by simp), by rw [conf, hty]; exact ⟨v, rfl⟩⟩
      | str =>
        rw [hty] at h5
        simp only [TyR] at h5
        subst h5
        obtain ⟨v, rfl, rfl, _⟩ := DataW.trod_string h2 h
        exact ⟨[.str v], .one (.str _) rfl (by simp), by rw [conf, hty]; exact ⟨v, rfl, by simpa [DataW.weights] using hw⟩⟩
      | slice e =>
        rw [hty] at h5 hr
        simp only [TyR] at h5
        obtain ⟨rfl, ie, hie, hpos⟩ := h5
        obtain ⟨c1, c2⟩ := cellsOf_ok hc hie
        rcases DataW.trod_slice h2 h with ⟨rfl, _⟩ | ⟨a, len, cap, elems, rest, n', rfl, rfl, rfl, _, hl, hmx, hel, hall, _⟩
        · exact ⟨[.sl (sizeOf cx e) []], .one (.slN _ _ _) rfl (by simp), by rw [conf, hty]; exact ⟨[], rfl, Nat.zero_le _, by simp, by simp⟩⟩
        by_cases h0 : len = 0
        · subst h0
          exact ⟨[.sl (sizeOf cx e) []], .one (.slN _ _ _) rfl (by simp), by rw [conf, hty]; exact ⟨[], rfl, Nat.zero_le _, by simp, by simp⟩⟩
        have each : ∀ i, ∃ x : T, i < len → ∃ l : List Value, x ≠ .any ∧ (isStruct cx e = true → ∃ l, x = .agg l) ∧ (isStruct cx e = false → x.cells = [x]) ∧ Conf cx m e x.cells ∧ x.cells.length = ie.size ∧ (∀ j, j < ie.size → w.cell? ((a.add (i * ie.size)).add j) = l[j]?) ∧ Trees w x.cells l ∧ l.length = ie.size := by
          intro i
          by_cases hi : i < len
          · have := hall i hi
            rw [List.getElem?_eq_getElem (by omega : i < elems.length), Option.bind_eq_some_iff, c1] at this
            obtain ⟨l, q1, q2⟩ := this
            obtain ⟨q3, q4⟩ := cells_get q1
            obtain ⟨ts, k1, k2⟩ := ih n' e l _ hr (fun k hk => hw k (by
              simp only [DataW.weights, h2, List.mem_cons, List.mem_append]
              exact .inr (.inl (weights_all (i := i) (by rw [List.getElem?_map, List.getElem?_eq_getElem (by omega : i < elems.length)]; rfl) k hk)))) q2
            have hlen : ts.length = ie.size := k1.1.trans q3
            by_cases hst : isStruct cx e = true
            · exact ⟨.agg ts, fun _ => ⟨l, by simp, fun _ => ⟨ts, rfl⟩, fun h => absurd (hst.symm.trans h) (by simp), k2, hlen, q4, k1, q3⟩⟩
            · obtain ⟨x, rfl, hx, hne⟩ := conf_one k2 (by simpa using hst)
              exact ⟨x, fun _ => ⟨l, hne, fun h => absurd h hst, fun _ => hx, by rw [hx]; exact k2, by rw [hx]; exact hlen, q4, by rw [hx]; exact k1, q3⟩⟩
          · exact ⟨.any, fun h => absurd h hi⟩
        obtain ⟨f, hf⟩ := Classical.axiomOfChoice each
        have hpos' : 0 < len := by omega
        obtain ⟨blk, off, spot⟩ := a
        have hcell : ∀ i j, i < len → j < ie.size → ∃ v, w.cell? ⟨blk, off + i * ie.size + j, none⟩ = some v ∧ spot = none ∧ v.oneCell' = true ∧ (∀ t, (f i).cells[j]? = some t → TR (· < w.heap.size) w t v) := by
          intro i j hi hj
          obtain ⟨l, _, _, _, _, q1, q2, q3, q4⟩ := hf i hi
          have hlj : l[j]? = some l[j] := List.getElem?_eq_getElem (by omega)
          have hcj := q2 j hj
          rw [hlj] at hcj
          have hz : w.cell? ((⟨blk, off, spot⟩ : Addr).add (0 * ie.size) |>.add 0) ≠ none := by
            obtain ⟨l0, _, _, _, _, _, p2, _, p4⟩ := hf 0 hpos'
            rw [p2 0 hpos, List.getElem?_eq_getElem (by omega)]
            simp
          have hspot : spot = none := by
            cases spot with
            | none => rfl
            | some z =>
              exfalso
              apply hz
              simp only [Nat.zero_mul, Addr.add, if_true, World.cell?]
              split <;> simp
          subst hspot
          rw [addr_add, addr_add] at hcj
          refine ⟨l[j], hcj, rfl, ?_, fun t ht => (q3.2 j t _ ht hlj).1⟩
          have hjt : j < (f i).cells.length := by omega
          exact (q3.2 j _ _ (List.getElem?_eq_getElem hjt) hlj).2.1
        have hsp : spot = none := (hcell 0 0 hpos' hpos).elim fun v h => h.2.1
        subst hsp
        have hget : ∀ (i : Nat) x, ((List.range len).map f)[i]? = some x → i < len ∧ x = f i := by
          intro i x hx
          rw [List.getElem?_map] at hx
          obtain ⟨k, hk, rfl⟩ := Option.map_eq_some_iff.1 hx
          have hi : i < len := by have := (List.getElem?_eq_some_iff.1 hk).1; simpa using this
          rw [List.getElem?_range hi] at hk
          obtain rfl := Option.some.inj hk
          exact ⟨hi, rfl⟩
        have hblk : blk < w.heap.size := by
          obtain ⟨v, hv, _⟩ := hcell 0 0 hpos' hpos
          rcases Nat.lt_or_ge blk w.heap.size with hb | hb
          · exact hb
          · have : w.heap[blk]? = none := Array.getElem?_eq_none hb
            simp [World.cell?, this] at hv
        refine ⟨[.sl (sizeOf cx e) ((List.range len).map f)], .one ?_ rfl (by simp), ?_⟩
        · have := TR.slC (F := (· < w.heap.size)) (w := w) (sizeOf cx e) ((List.range len).map f) blk off cap (fun i j => (w.cell? ⟨blk, off + i * ie.size + j, none⟩).getD undef) (by intro hh; have := congrArg List.length hh; simp at this; omega) (by simpa using hl) hblk ?_ ?_ ?_
          · simpa using this
          · intro i j hi hj
            rw [c2] at hj ⊢
            simp only [List.length_map, List.length_range] at hi
            obtain ⟨v, hv, _, hone, _⟩ := hcell i j hi hj
            simp only [hv, Option.getD_some]
            exact ⟨trivial, hone⟩
          · intro i x hx _
            obtain ⟨hi, rfl⟩ := hget i x hx
            obtain ⟨l, _, _, _, _, q1, _⟩ := hf i hi
            rw [c2]; exact q1
          · intro i j x t hx _ ht
            obtain ⟨hi, rfl⟩ := hget i x hx
            obtain ⟨l, _, _, _, _, q1, _⟩ := hf i hi
            have hj : j < ie.size := by have := (List.getElem?_eq_some_iff.1 ht).1; omega
            obtain ⟨v, hv, _, _, htr⟩ := hcell i j hi hj
            simp only [hv, Option.getD_some]
            exact htr t ht
        · rw [conf, hty]
          have hby : len * bytesOf cx e ≤ reachBytes := by
            have := hw ((elems.map (·.1)).length + (rest.map (·.1)).length |> (· * P.bytesOf e)) (by simp [DataW.weights, h2])
            obtain ⟨infe, de, b1, b2, b3, b4, _⟩ := hc.ty e ie hie
            have hb : P.bytesOf e = bytesOf cx e := by simp [Program.bytesOf, b1, b4, bytesOf, hie]
            simp only [List.length_map, hb] at this
            have hle : len * bytesOf cx e ≤ (elems.length + rest.length) * bytesOf cx e := Nat.mul_le_mul_right _ (by omega)
            omega
          refine ⟨_, rfl, by simp; omega, by simpa using hby, fun x hx => ?_⟩
          obtain ⟨i, hi, rfl⟩ := List.mem_map.1 hx
          obtain ⟨l, k1, k2, k3, k4, _⟩ := hf i (by simpa using hi)
          exact ⟨k1, k2, k3, k4⟩
      | struct fs =>
        rw [hty] at h5 hr
        simp only [TyR] at h5
        obtain ⟨fields, rfl, hm, hall⟩ := h5
        simp only [Bool.and_eq_true] at hr
        obtain ⟨hr1, hr2⟩ := hr
        split at hr2
        · rename_i s hs
          obtain rfl := Nat.eq_of_beq_eq_true hr2
          obtain ⟨xs, n', rfl, rfl, hl, hxl, hf⟩ := DataW.trod_struct h2 h
          obtain ⟨c1, c2⟩ := cellsOf_ok hc hi
          obtain ⟨_, ts, k1, k2⟩ := struct_ok (w := w) (cs := cs) (Q := fun t ts => Conf cx m t ts) fs 0 i.size hs (by omega) (by
            intro p hp
            rw [← hm] at hp
            simp only [List.mem_map] at hp
            obtain ⟨f, hfm, rfl⟩ := hp
            obtain ⟨j, hj, rfl⟩ := List.getElem_of_mem hfm
            have hj' : j < fields.size := by simpa using hj
            have hfj : fields[j]? = some fields[j] := by simp [hj']
            have := hf j _ hfj
            have hxj : xs[j]? = some xs[j] := List.getElem?_eq_getElem (by omega)
            rw [hxj] at this
            obtain ⟨_, i', hi'⟩ := hall fields[j] (by simp)
            obtain ⟨e1, e2⟩ := cellsOf_ok hc hi'
            rw [e1, ← e2] at this
            simp only [Array.getElem_toList]
            exact ih n' _ _ _ (List.all_eq_true.1 hr1 (fields[j].offset, fields[j].type) (by rw [← hm]; exact List.mem_map.2 ⟨fields[j], by simp, rfl⟩)) (fun k hk => hw k (by
              simp only [DataW.weights, h2]
              exact DataW.weights_mem_each (j := j) (by simp [hj']) (by rw [List.getElem?_map, hxj]; rfl) k hk)) this)
          refine ⟨ts, by simpa [List.take_of_length_le (show cs.length ≤ i.size by omega)] using k1, ?_⟩
          rw [conf, hty]
          refine ⟨by have := k1.1; simp at this; omega, fun p hp => ?_⟩
          simpa using (k2 p hp).2
        · contradiction
      | _ => rw [hty] at hr; contradiction
    · contradiction
end
end Go.Eva

/- Eva, part 39: a row's arguments have trees; what a law's reading promises, in the row's words. -/
namespace Go.Eva
open Go.RowKit Go.ChangeShapes Go.WideShapes

/-- A tree is what an argument of a type is read as. -/
def Arg (cx : Cx) (m t : Nat) (x : T) : Prop := x ≠ .any ∧ (isStruct cx t = true → ∃ l, x = .agg l) ∧ (isStruct cx t = false → x.cells = [x]) ∧ Conf cx m t x.cells

def Args (cx : Cx) (m : Nat) : List Nat → List T → Prop
  | [], [] => True
  | t :: ts, x :: xs => Arg cx m t x ∧ Args cx m ts xs
  | _, _ => False

section
variable {P : Program} {cx : Cx} {H : Type} {enc : TypeId × Value → H} {W : World} {spare : Nat → Bool} {held : Bool} {base : Nat}

theorem arg_ok (hc : CxTy P cx) {m t : Nat} {v : Value} {d : DataW H} {p : List MemPlace} (hr : rdB cx m t = true) (hval : Value.okWide P W .any base t v) (hw : ∀ k ∈ d.weights P t, k ≤ reachBytes)
    (h : DataW.Trod enc P W 0 spare held t v d p) : ∃ x, TR (· < W.heap.size) W x v ∧ Arg cx m t x := by
  obtain ⟨fuel, hf⟩ := h
  obtain ⟨ts, h1, h2⟩ := read_ok hc m fuel t _ (d, p) hr hw hf
  cases m with
  | zero => exact h2.elim
  | succ m =>
    cases hi : cx.ti.get t with
    | none => simp [Conf, hi] at h2
    | some i =>
      obtain ⟨inf, dd, e1, e2, e3, e4, e5, _⟩ := hc.ty t i hi
      obtain ⟨ty, isz, ib, ieq⟩ := i
      simp only at e3 e4 e5
      by_cases hs : isStruct cx t = true
      · cases ty with
        | struct fs =>
          simp only [TyR] at e5
          obtain ⟨fields, rfl, _⟩ := e5
          obtain ⟨cs, rfl, hcs⟩ := okWide_struct e2 hval
          refine ⟨.agg ts, .agg _ _ (by simpa [Value.cells] using h1.1) ?_ ?_, by simp, fun _ => ⟨ts, rfl⟩, fun h => absurd (hs.symm.trans h) (by simp), h2⟩
          · intro i c hic
            have hlt : i < ts.length := by have := (Array.getElem?_eq_some_iff.1 hic).1; have := h1.1; simp [Value.cells] at this; omega
            exact (h1.2 i _ c (List.getElem?_eq_getElem hlt) (by simpa [Value.cells] using hic)).2.1
          · intro i x c hx hic
            exact (h1.2 i x c hx (by simpa [Value.cells] using hic)).1
        | _ => simp [isStruct, hi] at hs
      · have hs' : isStruct cx t = false := by simpa using hs
        obtain ⟨x, rfl, hx, hne⟩ := conf_one h2 hs'
        have hv : v.cells = #[v] := by
          unfold rdB at hr
          rw [hi] at hr
          cases ty with
          | int k => simp only [TyR] at e5; subst e5; obtain ⟨n, rfl⟩ := okWide_int e2 hval; rfl
          | bool => simp only [TyR] at e5; subst e5; obtain ⟨n, rfl⟩ := okWide_bool e2 hval; rfl
          | str => simp only [TyR] at e5; subst e5; obtain ⟨n, rfl⟩ := okWide_string e2 hval; rfl
          | slice e => simp only [TyR] at e5; obtain ⟨rfl, _⟩ := e5; obtain ⟨a, b, c, rfl⟩ := okWide_slice e2 hval; rfl
          | struct fs => simp [isStruct, hi] at hs'
          | _ => simp at hr
        rw [hv] at h1
        exact ⟨x, (h1.2 0 x v rfl rfl).1, hne, fun h => absurd h hs, fun _ => hx, by rw [hx]; exact h2⟩

theorem rowArgs_ok (hc : CxTy P cx) {m : Nat} : ∀ {pts : List Nat} {vs : List Value} {ds : List (DataW H)} {ps : List MemPlace}, DataW.TrodAll enc P W 0 spare held pts vs ds ps → pts.all (rdB cx m) = true →
    (∀ k ∈ DataW.weightsEach P pts ds, k ≤ reachBytes) → (∀ (j : Nat) t v, pts[j]? = some t → vs[j]? = some v → Value.okWide P W .any base t v) →
    ∃ xs, VRs (fun _ => none) (· < W.heap.size) W [] (xs.map .t) vs ∧ Args cx m pts xs
  | [], vs, ds, ps, h, _, _, _ => by
    obtain ⟨rfl, rfl, rfl⟩ := trodAll_nil h
    exact ⟨[], ⟨rfl, by simp⟩, trivial⟩
  | t :: pts, vs, ds, ps, h, hr, hw, hv => by
    obtain ⟨v, vs', d, ds', p, q, rfl, rfl, rfl, h1, h2⟩ := trodAll_cons h
    simp only [List.all_cons, Bool.and_eq_true] at hr
    obtain ⟨x, k1, k2⟩ := arg_ok (base := base) hc hr.1 (hv 0 t v rfl rfl) (fun k hk => hw k (by simp only [DataW.weightsEach, List.mem_append]; exact .inl hk)) h1
    obtain ⟨xs, k3, k4⟩ := rowArgs_ok hc h2 hr.2 (fun k hk => hw k (by simp only [DataW.weightsEach, List.mem_append]; exact .inr hk)) (fun j t v ht hv' => hv (j + 1) t v ht hv')
    refine ⟨x :: xs, ⟨by have := k3.1; simp at this; simp [this], ?_⟩, k2, k4⟩
    intro i y u hy hu
    cases i with
    | zero => simp at hy hu; subst hy; subst hu; exact .t _ _ k1
    | succ i => exact k3.2 i y u (by simpa using hy) (by simpa using hu)

theorem back_ok (hl : laidOutB P = true) {W' : World} (bel : Below W.heap.size W W') : ∀ {pts : List Nat} {vs : List Value} {ds : List (DataW H)} {ps : List MemPlace}, DataW.TrodAll enc P W 0 (fun _ => true) true pts vs ds ps →
    (pts.all fun t => P.readableRec t && decide (t < P.types.size)) = true → DataW.TrodAll enc P W' 0 (fun b => decide (b < W.heap.size)) true pts vs ds ps
  | [], vs, ds, ps, h, _ => by
    obtain ⟨rfl, rfl, rfl⟩ := trodAll_nil h
    exact trodAll_mk0
  | t :: pts, vs, ds, ps, h, hr => by
    obtain ⟨v, vs', d, ds', p, q, rfl, rfl, rfl, h1, h2⟩ := trodAll_cons h
    simp only [List.all_cons, Bool.and_eq_true, decide_eq_true_eq] at hr
    refine trodAll_cons_mk (Below.trod hl hr.1.1 hr.1.2 h1 bel ?_) (back_ok hl bel h2 hr.2)
    obtain ⟨m, hm⟩ := h1
    exact DataW.trod_lt m _ _ _ hm

theorem trod_len : ∀ {pts : List Nat} {vs : List Value} {ds : List (DataW H)} {ps : List MemPlace}, DataW.TrodAll enc P W 0 spare held pts vs ds ps → ds.length = pts.length
  | [], vs, ds, ps, h => by
    obtain ⟨rfl, rfl, rfl⟩ := trodAll_nil h
    rfl
  | t :: pts, vs, ds, ps, h => by
    obtain ⟨v, vs', d, ds', p, q, rfl, rfl, rfl, h1, h2⟩ := trodAll_cons h
    simp [trod_len h2]

theorem call_true (hc : CxTy P cx) (hfn : FnsOK P cx) {f : Nat} {xs : List T} (h : Ev cx (.call f (xs.map .t) []) (· = ⟨.ret, [.t (.bool true)], []⟩)) {vals : Array Value}
    (hv : VRs (fun _ => none) (· < W.heap.size) W [] (xs.map .t) vals.toList) : Calls P f vals W fun e W' => e = .returned (.bool true) ∧ Below W.heap.size W W' := by
  have := sound hc hfn h
  refine (this W (fun _ => none) (· < W.heap.size) vals (good_nil fun b hb => hb) hv).mono ?_
  rintro e W' ⟨x, v, ι', F', rfl, rfl, _, _, hr, he⟩
  refine ⟨?_, he.os, he.tape, he.output, he.size, fun k hk => he.same k hk (fun h => own_nil h)⟩
  have : VR ι' F' W' [] (.t (.bool true)) v := hr
  cases this with
  | t x v h => cases h; rfl
end
end Go.Eva

/- Eva, part 47: what arguments of the program's plain types are. -/
namespace Go.Eva

section
variable {cx : Cx} {t m : Nat} {ts : List T} {i : TI}

theorem conf_int (hti : cx.ti.get t = some i) (hk : i.ty = .int .i64) (h : Conf cx m t ts) : ∃ n, ts = [ti n] ∧ i64 n := by
  cases m with
  | zero => exact h.elim
  | succ m =>
    simp only [Conf, hti, hk] at h
    obtain ⟨n, rfl, hw⟩ := h
    refine ⟨n, rfl, ?_⟩
    simp [Lit.wf, IntKind.min, IntKind.max, IntKind.signed, IntKind.bits] at hw
    exact ⟨by omega, by omega⟩
theorem conf_u64 (hti : cx.ti.get t = some i) (hk : i.ty = .int .u64) (h : Conf cx m t ts) : ∃ n, ts = [.int .u64 n] ∧ 0 ≤ n ∧ n ≤ 18446744073709551615 := by
  cases m with
  | zero => exact h.elim
  | succ m =>
    simp only [Conf, hti, hk] at h
    obtain ⟨n, rfl, hw⟩ := h
    refine ⟨n, rfl, ?_⟩
    simp [Lit.wf, IntKind.min, IntKind.max, IntKind.signed, IntKind.bits] at hw
    exact ⟨by omega, by omega⟩
theorem conf_bool (hti : cx.ti.get t = some i) (hk : i.ty = .bool) (h : Conf cx m t ts) : ∃ b, ts = [.bool b] := by
  cases m with
  | zero => exact h.elim
  | succ m => simpa only [Conf, hti, hk] using h
theorem conf_struct {fs : List (Nat × Nat)} (hti : cx.ti.get t = some i) (hk : i.ty = .struct fs) (h : Conf cx (m + 1) t ts) : ts.length = i.size ∧ ∀ p ∈ fs, Conf cx m p.2 ((ts.drop p.1).take (sizeOf cx p.2)) := by
  simpa only [Conf, hti, hk] using h
theorem conf_slice {e : Nat} (hti : cx.ti.get t = some i) (hk : i.ty = .slice e) (h : Conf cx (m + 1) t ts) :
    ∃ xs, ts = [.sl (sizeOf cx e) xs] ∧ xs.length ≤ maxLen ∧ xs.length * bytesOf cx e ≤ reachBytes ∧ ∀ x ∈ xs, x ≠ .any ∧ (isStruct cx e = true → ∃ l, x = .agg l) ∧ (isStruct cx e = false → x.cells = [x]) ∧ Conf cx m e x.cells := by
  simpa only [Conf, hti, hk] using h

/-- A field that is a whole number. -/
theorem conf_at {j k : Nat} {fs : List (Nat × Nat)} (hi : cx.ti.get k = some i) (hk : i.ty = .int .i64) (hs : sizeOf cx k = 1) (h : ∀ p ∈ fs, Conf cx m p.2 ((ts.drop p.1).take (sizeOf cx p.2))) (hp : (j, k) ∈ fs) : ∃ n, ts[j]? = some (ti n) ∧ i64 n := by
  have := h _ hp
  simp only [hs] at this
  obtain ⟨n, h1, h2⟩ := conf_int hi hk this
  refine ⟨n, ?_, h2⟩
  have h3 := congrArg (fun l => l[0]?) h1
  simpa [List.getElem?_take, List.getElem?_drop] using h3

theorem list_of {α : Type} {f : α → T} {P : α → Prop} : ∀ {xs : List T}, (∀ x ∈ xs, ∃ e, x = f e ∧ P e) → ∃ l : List α, xs = l.map f ∧ ∀ e ∈ l, P e
  | [], _ => ⟨[], rfl, by simp⟩
  | x :: xs, h => by
    obtain ⟨e, rfl, he⟩ := h x (List.mem_cons_self ..)
    obtain ⟨l, rfl, hl⟩ := list_of fun y hy => h y (List.mem_cons_of_mem _ hy)
    exact ⟨e :: l, rfl, fun y hy => by
      rcases List.mem_cons.1 hy with rfl | hy
      · exact he
      · exact hl y hy⟩

def Entity.ok (e : Entity) : Prop := i64 e.id ∧ i64 e.kind ∧ i64 e.x ∧ i64 e.y ∧ i64 e.vx ∧ i64 e.vy ∧ i64 e.health ∧ i64 e.age ∧ i64 e.owner
def Input.ok (e : Input) : Prop := i64 e.dx ∧ i64 e.dy
def Cross.ok (c : Cross) : Prop := i64 c.kind ∧ i64 c.frm ∧ i64 c.to ∧ i64 c.frame ∧ c.ent.ok ∧ i64 c.x ∧ i64 c.y

theorem nine {ts : List T} (h : ts.length = 9) {a0 a1 a2 a3 a4 a5 a6 a7 a8 : T} (h0 : ts[0]? = some a0) (h1 : ts[1]? = some a1) (h2 : ts[2]? = some a2) (h3 : ts[3]? = some a3) (h4 : ts[4]? = some a4)
    (h5 : ts[5]? = some a5) (h6 : ts[6]? = some a6) (h7 : ts[7]? = some a7) (h8 : ts[8]? = some a8) : ts = [a0, a1, a2, a3, a4, a5, a6, a7, a8] := by
  match ts, h with
  | [_, _, _, _, _, _, _, _, _], _ => simp_all

/-- An entity's cells. -/
theorem conf_entity {k : Nat} {j : TI} (hk : cx.ti.get k = some j) (hkt : j.ty = .int .i64) (hs : sizeOf cx k = 1) (hti : cx.ti.get t = some i) (hty : i.ty = .struct [(0, k), (1, k), (2, k), (3, k), (4, k), (5, k), (6, k), (7, k), (8, k)]) (hsz : i.size = 9)
    (h : Conf cx (m + 1) t ts) : ∃ e : Entity, ts = e.enc.cells ∧ e.ok := by
  obtain ⟨h1, h2⟩ := conf_struct hti hty h
  rw [hsz] at h1
  obtain ⟨n0, a0, b0⟩ := conf_at (j := 0) hk hkt hs h2 (by simp)
  obtain ⟨n1, a1, b1⟩ := conf_at (j := 1) hk hkt hs h2 (by simp)
  obtain ⟨n2, a2, b2⟩ := conf_at (j := 2) hk hkt hs h2 (by simp)
  obtain ⟨n3, a3, b3⟩ := conf_at (j := 3) hk hkt hs h2 (by simp)
  obtain ⟨n4, a4, b4⟩ := conf_at (j := 4) hk hkt hs h2 (by simp)
  obtain ⟨n5, a5, b5⟩ := conf_at (j := 5) hk hkt hs h2 (by simp)
  obtain ⟨n6, a6, b6⟩ := conf_at (j := 6) hk hkt hs h2 (by simp)
  obtain ⟨n7, a7, b7⟩ := conf_at (j := 7) hk hkt hs h2 (by simp)
  obtain ⟨n8, a8, b8⟩ := conf_at (j := 8) hk hkt hs h2 (by simp)
  exact ⟨⟨n0, n1, n2, n3, n4, n5, n6, n7, n8⟩, nine h1 a0 a1 a2 a3 a4 a5 a6 a7 a8, b0, b1, b2, b3, b4, b5, b6, b7, b8⟩

theorem conf_config {k u : Nat} {j v : TI} (hk : cx.ti.get k = some j) (hkt : j.ty = .int .i64) (hs : sizeOf cx k = 1) (hu : cx.ti.get u = some v) (hut : v.ty = .int .u64) (hus : sizeOf cx u = 1) (hti : cx.ti.get t = some i)
    (hty : i.ty = .struct [(0, k), (1, k), (2, k), (3, k), (4, u)]) (hsz : i.size = 5) (h : Conf cx (m + 1) t ts) : ∃ c : Config, ts = c.enc.cells ∧ c.ok := by
  obtain ⟨h1, h2⟩ := conf_struct hti hty h
  rw [hsz] at h1
  obtain ⟨n0, a0, b0⟩ := conf_at (j := 0) hk hkt hs h2 (by simp)
  obtain ⟨n1, a1, b1⟩ := conf_at (j := 1) hk hkt hs h2 (by simp)
  obtain ⟨n2, a2, b2⟩ := conf_at (j := 2) hk hkt hs h2 (by simp)
  obtain ⟨n3, a3, b3⟩ := conf_at (j := 3) hk hkt hs h2 (by simp)
  have h4 := h2 (4, u) (by simp)
  simp only [hus] at h4
  obtain ⟨n4, a4, b4⟩ := conf_u64 hu hut h4
  refine ⟨⟨n0, n1, n2, n3, n4⟩, ?_, b0, b1, b2, b3, b4⟩
  match ts, h1 with
  | [_, _, _, _, _], _ => simp_all [Config.enc, T.cells]

theorem not_struct (hti : cx.ti.get t = some i) (h : ∀ fs, i.ty ≠ .struct fs) : isStruct cx t = false := by
  unfold isStruct
  rw [hti]
  cases i with
  | mk ty s b q => cases ty <;> simp_all
theorem is_struct {fs : List (Nat × Nat)} (hti : cx.ti.get t = some i) (h : i.ty = .struct fs) : isStruct cx t = true := by
  unfold isStruct
  rw [hti]
  cases i with
  | mk ty s b q => simp only at h; subst h; rfl

/-- Arguments. -/
theorem arg_int (hti : cx.ti.get t = some i) (hk : i.ty = .int .i64) {x : T} (h : Arg cx m t x) : ∃ n, x = ti n ∧ i64 n := by
  obtain ⟨h1, h2, h3, h4⟩ := h
  obtain ⟨n, h5, h6⟩ := conf_int hti hk h4
  rw [h3 (not_struct hti (by rw [hk]; simp))] at h5
  exact ⟨n, by simpa using h5, h6⟩
theorem arg_bool (hti : cx.ti.get t = some i) (hk : i.ty = .bool) {x : T} (h : Arg cx m t x) : ∃ b, x = .bool b := by
  obtain ⟨h1, h2, h3, h4⟩ := h
  obtain ⟨n, h5⟩ := conf_bool hti hk h4
  rw [h3 (not_struct hti (by rw [hk]; simp))] at h5
  exact ⟨n, by simpa using h5⟩
/-- A struct, by its cells. -/
theorem arg_of {α : Type} {f : α → T} {P : α → Prop} {fs : List (Nat × Nat)} (hti : cx.ti.get t = some i) (hk : i.ty = .struct fs) (hf : ∀ e, ∃ l, f e = .agg l) (hc : ∀ {ts}, Conf cx m t ts → ∃ e, ts = (f e).cells ∧ P e) {x : T} (h : Arg cx m t x) : ∃ e, x = f e ∧ P e := by
  obtain ⟨h1, h2, h3, h4⟩ := h
  obtain ⟨l, rfl⟩ := h2 (is_struct hti hk)
  obtain ⟨e, h5, h6⟩ := hc h4
  obtain ⟨l', hl⟩ := hf e
  rw [hl] at h5
  simp only [T.cells] at h5
  exact ⟨e, by rw [hl, h5], h6⟩
/-- A slice, by its members. -/
theorem arg_slice {α : Type} {f : α → T} {P : α → Prop} {e s : Nat} (hti : cx.ti.get t = some i) (hk : i.ty = .slice e) (hs : sizeOf cx e = s) (hc : ∀ {x}, Arg cx m e x → ∃ a, x = f a ∧ P a) {x : T} (h : Arg cx (m + 1) t x) :
    ∃ l : List α, x = .sl s (l.map f) ∧ (∀ a ∈ l, P a) ∧ l.length ≤ maxLen ∧ l.length * bytesOf cx e ≤ reachBytes := by
  obtain ⟨h1, h2, h3, h4⟩ := h
  obtain ⟨xs, h5, h6, h7, h8⟩ := conf_slice hti hk h4
  rw [h3 (not_struct hti (by rw [hk]; simp))] at h5
  obtain ⟨l, rfl, hl⟩ := list_of (f := f) (P := P) fun x hx => hc (h8 x hx)
  refine ⟨l, ?_, hl, by simpa using h6, by simpa using h7⟩
  rw [← hs]
  simpa using h5
end
end Go.Eva
