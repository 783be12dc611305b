/- A reading of the program, proved sound against the model, and what its functions answer by it: part 3. -/
import Derived.Test.YtnoedioeadiafaaEva2
set_option linter.unusedSimpArgs false
set_option linter.unusedVariables false
/- Eva, part 47: what arguments of the program's plain types are. -/
namespace Go.Eva

section
variable {cx : Cx} {t m : Nat} {ts : List T} {i : TI}

theorem conf_int (hti : cx.ti.get t = some i) (hk : i.ty = .int .i64) (h : Conf cx m t ts) : ∃ n, ts = [ti n] ∧ i64 n := by
  cases m with
  | zero => exact h.elim
  | succ m =>
    simp only [Conf, hti, hk] at h
    obtain ⟨n, rfl, hw⟩ := h
    refine ⟨n, rfl, ?_⟩
    simp [Lit.wf, IntKind.min, IntKind.max, IntKind.signed, IntKind.bits] at hw
    exact ⟨by omega, by omega⟩
theorem conf_u64 (hti : cx.ti.get t = some i) (hk : i.ty = .int .u64) (h : Conf cx m t ts) : ∃ n, ts = [.int .u64 n] ∧ 0 ≤ n ∧ n ≤ 18446744073709551615 := by
  cases m with
  | zero => exact h.elim
  | succ m =>
    simp only [Conf, hti, hk] at h
    obtain ⟨n, rfl, hw⟩ := h
    refine ⟨n, rfl, ?_⟩
    simp [Lit.wf, IntKind.min, IntKind.max, IntKind.signed, IntKind.bits] at hw
    exact ⟨by omega, by omega⟩
theorem conf_bool (hti : cx.ti.get t = some i) (hk : i.ty = .bool) (h : Conf cx m t ts) : ∃ b, ts = [.bool b] := by
  cases m with
  | zero => exact h.elim
  | succ m => simpa only [Conf, hti, hk] using h
theorem conf_struct {fs : List (Nat × Nat)} (hti : cx.ti.get t = some i) (hk : i.ty = .struct fs) (h : Conf cx (m + 1) t ts) : ts.length = i.size ∧ ∀ p ∈ fs, Conf cx m p.2 ((ts.drop p.1).take (sizeOf cx p.2)) := by
  simpa only [Conf, hti, hk] using h
theorem conf_slice {e : Nat} (hti : cx.ti.get t = some i) (hk : i.ty = .slice e) (h : Conf cx (m + 1) t ts) :
    ∃ xs, ts = [.sl (sizeOf cx e) xs] ∧ xs.length ≤ maxLen ∧ xs.length * bytesOf cx e ≤ reachBytes ∧ ∀ x ∈ xs, x ≠ .any ∧ (isStruct cx e = true → ∃ l, x = .agg l) ∧ (isStruct cx e = false → x.cells = [x]) ∧ Conf cx m e x.cells := by
  simpa only [Conf, hti, hk] using h

/-- A field that is a whole number. -/
theorem conf_at {j k : Nat} {fs : List (Nat × Nat)} (hi : cx.ti.get k = some i) (hk : i.ty = .int .i64) (hs : sizeOf cx k = 1) (h : ∀ p ∈ fs, Conf cx m p.2 ((ts.drop p.1).take (sizeOf cx p.2))) (hp : (j, k) ∈ fs) : ∃ n, ts[j]? = some (ti n) ∧ i64 n := by
  have := h _ hp
  simp only [hs] at this
  obtain ⟨n, h1, h2⟩ := conf_int hi hk this
  refine ⟨n, ?_, h2⟩
  have h3 := congrArg (fun l => l[0]?) h1
  simpa [List.getElem?_take, List.getElem?_drop] using h3

theorem list_of {α : Type} {f : α → T} {P : α → Prop} : ∀ {xs : List T}, (∀ x ∈ xs, ∃ e, x = f e ∧ P e) → ∃ l : List α, xs = l.map f ∧ ∀ e ∈ l, P e
  | [], _ => ⟨[], rfl, by simp⟩
  | x :: xs, h => by
    obtain ⟨e, rfl, he⟩ := h x (List.mem_cons_self ..)
    obtain ⟨l, rfl, hl⟩ := list_of fun y hy => h y (List.mem_cons_of_mem _ hy)
    exact ⟨e :: l, rfl, fun y hy => by
      rcases List.mem_cons.1 hy with rfl | hy
      · exact he
      · exact hl y hy⟩

def Entity.ok (e : Entity) : Prop := i64 e.id ∧ i64 e.kind ∧ i64 e.x ∧ i64 e.y ∧ i64 e.vx ∧ i64 e.vy ∧ i64 e.health ∧ i64 e.age ∧ i64 e.owner
def Input.ok (e : Input) : Prop := i64 e.dx ∧ i64 e.dy
def Cross.ok (c : Cross) : Prop := i64 c.kind ∧ i64 c.frm ∧ i64 c.to ∧ i64 c.frame ∧ c.ent.ok ∧ i64 c.x ∧ i64 c.y

theorem nine {ts : List T} (h : ts.length = 9) {a0 a1 a2 a3 a4 a5 a6 a7 a8 : T} (h0 : ts[0]? = some a0) (h1 : ts[1]? = some a1) (h2 : ts[2]? = some a2) (h3 : ts[3]? = some a3) (h4 : ts[4]? = some a4)
    (h5 : ts[5]? = some a5) (h6 : ts[6]? = some a6) (h7 : ts[7]? = some a7) (h8 : ts[8]? = some a8) : ts = [a0, a1, a2, a3, a4, a5, a6, a7, a8] := by
  match ts, h with
  | [_, _, _, _, _, _, _, _, _], _ => simp_all

/-- An entity's cells. -/
theorem conf_entity {k : Nat} {j : TI} (hk : cx.ti.get k = some j) (hkt : j.ty = .int .i64) (hs : sizeOf cx k = 1) (hti : cx.ti.get t = some i) (hty : i.ty = .struct [(0, k), (1, k), (2, k), (3, k), (4, k), (5, k), (6, k), (7, k), (8, k)]) (hsz : i.size = 9)
    (h : Conf cx (m + 1) t ts) : ∃ e : Entity, ts = e.enc.cells ∧ e.ok := by
  obtain ⟨h1, h2⟩ := conf_struct hti hty h
  rw [hsz] at h1
  obtain ⟨n0, a0, b0⟩ := conf_at (j := 0) hk hkt hs h2 (by simp)
  obtain ⟨n1, a1, b1⟩ := conf_at (j := 1) hk hkt hs h2 (by simp)
  obtain ⟨n2, a2, b2⟩ := conf_at (j := 2) hk hkt hs h2 (by simp)
  obtain ⟨n3, a3, b3⟩ := conf_at (j := 3) hk hkt hs h2 (by simp)
  obtain ⟨n4, a4, b4⟩ := conf_at (j := 4) hk hkt hs h2 (by simp)
  obtain ⟨n5, a5, b5⟩ := conf_at (j := 5) hk hkt hs h2 (by simp)
  obtain ⟨n6, a6, b6⟩ := conf_at (j := 6) hk hkt hs h2 (by simp)
  obtain ⟨n7, a7, b7⟩ := conf_at (j := 7) hk hkt hs h2 (by simp)
  obtain ⟨n8, a8, b8⟩ := conf_at (j := 8) hk hkt hs h2 (by simp)
  exact ⟨⟨n0, n1, n2, n3, n4, n5, n6, n7, n8⟩, nine h1 a0 a1 a2 a3 a4 a5 a6 a7 a8, b0, b1, b2, b3, b4, b5, b6, b7, b8⟩

theorem conf_config {k u : Nat} {j v : TI} (hk : cx.ti.get k = some j) (hkt : j.ty = .int .i64) (hs : sizeOf cx k = 1) (hu : cx.ti.get u = some v) (hut : v.ty = .int .u64) (hus : sizeOf cx u = 1) (hti : cx.ti.get t = some i)
    (hty : i.ty = .struct [(0, k), (1, k), (2, k), (3, k), (4, u)]) (hsz : i.size = 5) (h : Conf cx (m + 1) t ts) : ∃ c : Config, ts = c.enc.cells ∧ c.ok := by
  obtain ⟨h1, h2⟩ := conf_struct hti hty h
  rw [hsz] at h1
  obtain ⟨n0, a0, b0⟩ := conf_at (j := 0) hk hkt hs h2 (by simp)
  obtain ⟨n1, a1, b1⟩ := conf_at (j := 1) hk hkt hs h2 (by simp)
  obtain ⟨n2, a2, b2⟩ := conf_at (j := 2) hk hkt hs h2 (by simp)
  obtain ⟨n3, a3, b3⟩ := conf_at (j := 3) hk hkt hs h2 (by simp)
  have h4 := h2 (4, u) (by simp)
  simp only [hus] at h4
  obtain ⟨n4, a4, b4⟩ := conf_u64 hu hut h4
  refine ⟨⟨n0, n1, n2, n3, n4⟩, ?_, b0, b1, b2, b3, b4⟩
  match ts, h1 with
  | [_, _, _, _, _], _ => simp_all [Config.enc, T.cells]

theorem not_struct (hti : cx.ti.get t = some i) (h : ∀ fs, i.ty ≠ .struct fs) : isStruct cx t = false := by
  unfold isStruct
  rw [hti]
  cases i with
  | mk ty s b q => cases ty <;> simp_all
theorem is_struct {fs : List (Nat × Nat)} (hti : cx.ti.get t = some i) (h : i.ty = .struct fs) : isStruct cx t = true := by
  unfold isStruct
  rw [hti]
  cases i with
  | mk ty s b q => simp only at h; subst h; rfl

/-- Arguments. -/
theorem arg_int (hti : cx.ti.get t = some i) (hk : i.ty = .int .i64) {x : T} (h : Arg cx m t x) : ∃ n, x = ti n ∧ i64 n := by
  obtain ⟨h1, h2, h3, h4⟩ := h
  obtain ⟨n, h5, h6⟩ := conf_int hti hk h4
  rw [h3 (not_struct hti (by rw [hk]; simp))] at h5
  exact ⟨n, by simpa using h5, h6⟩
theorem arg_bool (hti : cx.ti.get t = some i) (hk : i.ty = .bool) {x : T} (h : Arg cx m t x) : ∃ b, x = .bool b := by
  obtain ⟨h1, h2, h3, h4⟩ := h
  obtain ⟨n, h5⟩ := conf_bool hti hk h4
  rw [h3 (not_struct hti (by rw [hk]; simp))] at h5
  exact ⟨n, by simpa using h5⟩
/-- A struct, by its cells. -/
theorem arg_of {α : Type} {f : α → T} {P : α → Prop} {fs : List (Nat × Nat)} (hti : cx.ti.get t = some i) (hk : i.ty = .struct fs) (hf : ∀ e, ∃ l, f e = .agg l) (hc : ∀ {ts}, Conf cx m t ts → ∃ e, ts = (f e).cells ∧ P e) {x : T} (h : Arg cx m t x) : ∃ e, x = f e ∧ P e := by
  obtain ⟨h1, h2, h3, h4⟩ := h
  obtain ⟨l, rfl⟩ := h2 (is_struct hti hk)
  obtain ⟨e, h5, h6⟩ := hc h4
  obtain ⟨l', hl⟩ := hf e
  rw [hl] at h5
  simp only [T.cells] at h5
  exact ⟨e, by rw [hl, h5], h6⟩
/-- A slice, by its members. -/
theorem arg_slice {α : Type} {f : α → T} {P : α → Prop} {e s : Nat} (hti : cx.ti.get t = some i) (hk : i.ty = .slice e) (hs : sizeOf cx e = s) (hc : ∀ {x}, Arg cx m e x → ∃ a, x = f a ∧ P a) {x : T} (h : Arg cx (m + 1) t x) :
    ∃ l : List α, x = .sl s (l.map f) ∧ (∀ a ∈ l, P a) ∧ l.length ≤ maxLen ∧ l.length * bytesOf cx e ≤ reachBytes := by
  obtain ⟨h1, h2, h3, h4⟩ := h
  obtain ⟨xs, h5, h6, h7, h8⟩ := conf_slice hti hk h4
  rw [h3 (not_struct hti (by rw [hk]; simp))] at h5
  obtain ⟨l, rfl, hl⟩ := list_of (f := f) (P := P) fun x hx => hc (h8 x hx)
  refine ⟨l, ?_, hl, by simpa using h6, by simpa using h7⟩
  rw [← hs]
  simpa using h5
end
end Go.Eva
