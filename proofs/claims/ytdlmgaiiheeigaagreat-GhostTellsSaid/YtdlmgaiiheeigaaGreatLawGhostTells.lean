/- For every input the law GhostTells returns true, and each argument reads behind the call as it read before. -/
import Derived.Test.YtdlmgaiiheeigaaGreatRows
import Derived.WalkKit
import Derived.ProofKit
import Derived.OpenShut
import Derived.ShutString
import Derived.ChangeOld
import Derived.Below
import Derived.SizedLaws
import Derived.Test.YtdlmgaiiheeigaaGreatEva5
namespace Go.Proofs.YtdlmgaiiheeigaaGreat.ghostTells
open Go.ChangeShapes Go.WideShapes Go.ChangeAt Go.RowKit Go.Eva Go.Eva.S4
theorem own : ownKnob Tryz.prog.godebug = none := by kernel_rfl
theorem laidOut : laidOutB Tryz.prog = true := by kernel_rfl
theorem read {xs : List T} (h : Args cx 40 [24, 41, 3, 3, 3, 4] xs) : Ev cx (.call 12 (xs.map .t) []) (· = ⟨.ret, [.t (.bool true)], []⟩) := by
    obtain ⟨x0, r0, rfl, h0, g0⟩ := Ac5 h
    obtain ⟨x1, r1, rfl, h1, g1⟩ := Ac5 g0
    obtain ⟨x2, r2, rfl, h2, g2⟩ := Ac5 g1
    obtain ⟨x3, r3, rfl, h3, g3⟩ := Ac5 g2
    obtain ⟨x4, r4, rfl, h4, g4⟩ := Ac5 g3
    obtain ⟨x5, r5, rfl, h5, g5⟩ := Ac5 g4
    obtain rfl := AnN g5
    obtain ⟨a0, rfl, k0⟩ := (fun h => AnT (f := Go.Eva.Config.enc) (P := Go.Eva.Config.ok) (i := ⟨.struct [(0, 3), (1, 3), (2, 3), (3, 3), (4, 22)], 5, 40, true⟩) (fs := [(0, 3), (1, 3), (2, 3), (3, 3), (4, 22)]) (by kernel_rfl) rfl (fun _ => ⟨_, rfl⟩) (fun {_} h => Akl (k := 3) (j := ⟨.int .i64, 1, 8, false⟩) (u := 22) (v := ⟨.int .u64, 1, 8, false⟩) (i := ⟨.struct [(0, 3), (1, 3), (2, 3), (3, 3), (4, 22)], 5, 40, true⟩) (by kernel_rfl) rfl (by kernel_rfl) (by kernel_rfl) rfl (by kernel_rfl) (by kernel_rfl) rfl rfl h) h : Arg cx 40 24 x0 → _) h0
    obtain ⟨a1, rfl, k1, m1, w1⟩ := (fun h => Aj9 (f := (fun l => T.sl 3 (List.map Go.Eva.Input.enc l))) (P := (fun l => (∀ a ∈ l, Go.Eva.Input.ok a) ∧ l.length ≤ maxLen ∧ l.length * bytesOf cx 61 ≤ reachBytes)) (i := ⟨.slice 26, 1, 24, false⟩) (e := 26) (s := 1) (by kernel_rfl) rfl (by kernel_rfl) (fun {_} h => Aj9 (f := Go.Eva.Input.enc) (P := Go.Eva.Input.ok) (i := ⟨.slice 61, 1, 24, false⟩) (e := 61) (s := 3) (by kernel_rfl) rfl (by kernel_rfl) (fun {_} h => AnT (f := Go.Eva.Input.enc) (P := Go.Eva.Input.ok) (i := ⟨.struct [(0, 3), (1, 3), (2, 4)], 3, 24, true⟩) (fs := [(0, 3), (1, 3), (2, 4)]) (by kernel_rfl) rfl (fun _ => ⟨_, rfl⟩) (fun {_} h => Al9 (k := 3) (j := ⟨.int .i64, 1, 8, false⟩) (u := 4) (v := ⟨.bool, 1, 1, false⟩) (i := ⟨.struct [(0, 3), (1, 3), (2, 4)], 3, 24, true⟩) (by kernel_rfl) rfl (by kernel_rfl) (by kernel_rfl) rfl (by kernel_rfl) (by kernel_rfl) rfl rfl h) h) h) h : Arg cx 40 41 x1 → _) h1
    obtain ⟨a2, rfl, k2⟩ := (fun h => Akr (i := ⟨.int .i64, 1, 8, false⟩) (by kernel_rfl) rfl h : Arg cx 40 3 x2 → _) h2
    obtain ⟨a3, rfl, k3⟩ := (fun h => Akr (i := ⟨.int .i64, 1, 8, false⟩) (by kernel_rfl) rfl h : Arg cx 40 3 x3 → _) h3
    obtain ⟨a4, rfl, k4⟩ := (fun h => Akr (i := ⟨.int .i64, 1, 8, false⟩) (by kernel_rfl) rfl h : Arg cx 40 3 x4 → _) h4
    obtain ⟨a5, rfl⟩ := (fun h => AnD (i := ⟨.bool, 1, 1, false⟩) (by kernel_rfl) rfl h : Arg cx 40 4 x5 → _) h5
    exact Adk a0 a1 a2 a3 a4 a5 m1 (fun x hx => (k1 x hx).2.1)
set_option maxRecDepth 100000 in
theorem lifted (os : Os) (started : os.Started) (H : Type) (enc : TypeId × Value → H) :
    ReturnsInHanded {} Tryz.checked os 12 .any (Rows.ghostTellsSpec.pre6 enc Tryz.prog Tryz.f12 Rows.ghostTellsRow.domain false) (Rows.ghostTellsSpec.post enc Tryz.prog Tryz.f12 false true false false) := by
  refine returnsInHanded_of_change_sized (C := Tryz.checked) own started (by kernel_rfl) Tryz.func12
    (ChangeSpec.witness6 (enc := enc) (C := Tryz.checked) false ⟨#[], #[.agg #[.int .i64 0, .int .i64 0, .int .i64 0, .int .i64 0, .int .u64 0], .slice none 0 0, .int .i64 0, .int .i64 0, .int .i64 0, .bool false], []⟩ 8 (by kernel_rfl) (by kernel_rfl) (by kernel_rfl) (by kernel_rfl)) ?_
  intro W base args ds gs before hval0 hW hcnd hsz0 _
  have hsz : (DataW.weightsEach Tryz.prog (Tryz.f12.params.toList ++ Rows.ghostTellsSpec.plain.varTypes Tryz.prog) (ds ++ gs)).all (· ≤ reachBytes) = true := hsz0
  have hval : ∀ (j : Nat) t v, Tryz.f12.params[j]? = some t → args[j]? = some v → Value.okWide Tryz.prog W .any base t v := hval0
  have hW' := hW
  obtain ⟨p, q, hA0, hV, rfl, hfz, hnd⟩ := hW
  have hA : DataW.TrodAll enc Tryz.prog W 0 (fun _ => true) true Tryz.f12.params.toList args.toList ds p := hA0
  rw [Tryz.params12] at hA hval hsz
  obtain ⟨rfl, rfl⟩ := trodVars_none hV
  have hA : DataW.TrodAll enc Tryz.prog W 0 (fun _ => true) true [24, 41, 3, 3, 3, 4] args.toList ds p := hA
  have hlen : ds.length = 6 := Alb hA
  obtain ⟨d0, d1, d2, d3, d4, d5, rfl⟩ : ∃ d0 d1 d2 d3 d4 d5, ds = [d0, d1, d2, d3, d4, d5] := by
    match ds, hlen with
    | [d0, d1, d2, d3, d4, d5], _ => exact ⟨d0, d1, d2, d3, d4, d5, rfl⟩
  have hsz2 : (DataW.weightsEach Tryz.prog [24, 41, 3, 3, 3, 4] [d0, d1, d2, d3, d4, d5]).all (· ≤ reachBytes) = true := hsz
  have hw : ∀ k ∈ DataW.weightsEach Tryz.prog [24, 41, 3, 3, 3, 4] [d0, d1, d2, d3, d4, d5], k ≤ reachBytes := fun k hk => by simpa using List.all_eq_true.1 hsz2 k hk
  obtain ⟨xs, hv, ha⟩ := Air (base := base) cxTy (m := 40) hA (by decide +kernel) hw (fun j t v ht hv => hval j t v (by simpa using ht) (by simpa using hv))
  refine (AmY cxTy fnsOK (read ha) hv).mono fun e W' ⟨he, bel⟩ => ?_
  subst he
  have hB := AlR laidOut bel hA (by decide +kernel)
  exact ⟨_, rfl, _, _, _, [], _, [], hW', trodAll_mk1 (shut_bool Tryz.underlying4 _), hB, rfl, bel.frame _, fun h => by cases h⟩
theorem over : Rows.ghostTellsRow.holds Tryz.pinned (OpenSpec.ofChange Rows.ghostTellsSpec) :=
  OpenClaim.holds_of_wide 12 Tryz.f12 rfl rfl rfl rfl rfl rfl rfl ⟨rfl, rfl, rfl, rfl, rfl⟩ rfl rfl rfl rfl rfl (by kernel_rfl) Tryz.func12 (by kernel_rfl)
    (of_decide_eq_true (by kernel_rfl)) (by unfold Func.isWrapper; first | (rw [if_pos (by decide +kernel)]; kernel_rfl) | (rw [if_neg (by decide +kernel)]; exact ⟨rfl, rfl⟩))
    (fun os started H enc _ => lifted os started H enc)
theorem proved : Rows.GhostTellsSaid := over
#print axioms proved
end Go.Proofs.YtdlmgaiiheeigaaGreat.ghostTells
