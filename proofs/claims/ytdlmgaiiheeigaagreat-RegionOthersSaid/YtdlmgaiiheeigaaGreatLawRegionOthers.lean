/- For every input the law RegionOthers returns true, and each argument reads behind the call as it read before. -/
import Derived.Test.YtdlmgaiiheeigaaGreatRows
import Derived.WalkKit
import Derived.ProofKit
import Derived.OpenShut
import Derived.ShutString
import Derived.ChangeOld
import Derived.Below
import Derived.SizedLaws
import Derived.Test.YtdlmgaiiheeigaaGreatEva3
namespace Go.Proofs.YtdlmgaiiheeigaaGreat.regionOthers
open Go.ChangeShapes Go.WideShapes Go.ChangeAt Go.RowKit Go.Eva Go.Eva.S5
theorem own : ownKnob Tryz.prog.godebug = none := by kernel_rfl
theorem laidOut : laidOutB Tryz.prog = true := by kernel_rfl
theorem read {xs : List T} (h : Args cx 40 [24, 3, 3, 25, 26, 26] xs) : Ev cx (.call 6 (xs.map .t) []) (· = ⟨.ret, [.t (.bool true)], []⟩) := by
    obtain ⟨x0, r0, rfl, h0, g0⟩ := AbA h
    obtain ⟨x1, r1, rfl, h1, g1⟩ := AbA g0
    obtain ⟨x2, r2, rfl, h2, g2⟩ := AbA g1
    obtain ⟨x3, r3, rfl, h3, g3⟩ := AbA g2
    obtain ⟨x4, r4, rfl, h4, g4⟩ := AbA g3
    obtain ⟨x5, r5, rfl, h5, g5⟩ := AbA g4
    obtain rfl := Aki g5
    obtain ⟨a0, rfl, k0⟩ := (fun h => AhW (f := Go.Eva.Config.enc) (P := Go.Eva.Config.ok) (i := ⟨.struct [(0, 3), (1, 3), (2, 3), (3, 3), (4, 22)], 5, 40, true⟩) (fs := [(0, 3), (1, 3), (2, 3), (3, 3), (4, 22)]) (by kernel_rfl) rfl (fun _ => ⟨_, rfl⟩) (fun {_} h => Ahe (k := 3) (j := ⟨.int .i64, 1, 8, false⟩) (u := 22) (v := ⟨.int .u64, 1, 8, false⟩) (i := ⟨.struct [(0, 3), (1, 3), (2, 3), (3, 3), (4, 22)], 5, 40, true⟩) (by kernel_rfl) rfl (by kernel_rfl) (by kernel_rfl) rfl (by kernel_rfl) (by kernel_rfl) rfl rfl h) h : Arg cx 40 24 x0 → _) h0
    obtain ⟨a1, rfl, k1⟩ := (fun h => AiY (i := ⟨.int .i64, 1, 8, false⟩) (by kernel_rfl) rfl h : Arg cx 40 3 x1 → _) h1
    obtain ⟨a2, rfl, k2⟩ := (fun h => AiY (i := ⟨.int .i64, 1, 8, false⟩) (by kernel_rfl) rfl h : Arg cx 40 3 x2 → _) h2
    obtain ⟨a3, rfl, k3, m3, w3⟩ := (fun h => AeZ (f := Go.Eva.Entity.enc) (P := Go.Eva.Entity.ok) (i := ⟨.slice 48, 1, 24, false⟩) (e := 48) (s := 9) (by kernel_rfl) rfl (by kernel_rfl) (fun {_} h => AhW (f := Go.Eva.Entity.enc) (P := Go.Eva.Entity.ok) (i := ⟨.struct [(0, 3), (1, 3), (2, 3), (3, 3), (4, 3), (5, 3), (6, 3), (7, 3), (8, 3)], 9, 72, true⟩) (fs := [(0, 3), (1, 3), (2, 3), (3, 3), (4, 3), (5, 3), (6, 3), (7, 3), (8, 3)]) (by kernel_rfl) rfl (fun _ => ⟨_, rfl⟩) (fun {_} h => Ahj (k := 3) (j := ⟨.int .i64, 1, 8, false⟩) (i := ⟨.struct [(0, 3), (1, 3), (2, 3), (3, 3), (4, 3), (5, 3), (6, 3), (7, 3), (8, 3)], 9, 72, true⟩) (by kernel_rfl) rfl (by kernel_rfl) (by kernel_rfl) rfl rfl h) h) h : Arg cx 40 25 x3 → _) h3
    obtain ⟨a4, rfl, k4, m4, w4⟩ := (fun h => AeZ (f := Go.Eva.Input.enc) (P := Go.Eva.Input.ok) (i := ⟨.slice 61, 1, 24, false⟩) (e := 61) (s := 3) (by kernel_rfl) rfl (by kernel_rfl) (fun {_} h => AhW (f := Go.Eva.Input.enc) (P := Go.Eva.Input.ok) (i := ⟨.struct [(0, 3), (1, 3), (2, 4)], 3, 24, true⟩) (fs := [(0, 3), (1, 3), (2, 4)]) (by kernel_rfl) rfl (fun _ => ⟨_, rfl⟩) (fun {_} h => Af4 (k := 3) (j := ⟨.int .i64, 1, 8, false⟩) (u := 4) (v := ⟨.bool, 1, 1, false⟩) (i := ⟨.struct [(0, 3), (1, 3), (2, 4)], 3, 24, true⟩) (by kernel_rfl) rfl (by kernel_rfl) (by kernel_rfl) rfl (by kernel_rfl) (by kernel_rfl) rfl rfl h) h) h : Arg cx 40 26 x4 → _) h4
    obtain ⟨a5, rfl, k5, m5, w5⟩ := (fun h => AeZ (f := Go.Eva.Input.enc) (P := Go.Eva.Input.ok) (i := ⟨.slice 61, 1, 24, false⟩) (e := 61) (s := 3) (by kernel_rfl) rfl (by kernel_rfl) (fun {_} h => AhW (f := Go.Eva.Input.enc) (P := Go.Eva.Input.ok) (i := ⟨.struct [(0, 3), (1, 3), (2, 4)], 3, 24, true⟩) (fs := [(0, 3), (1, 3), (2, 4)]) (by kernel_rfl) rfl (fun _ => ⟨_, rfl⟩) (fun {_} h => Af4 (k := 3) (j := ⟨.int .i64, 1, 8, false⟩) (u := 4) (v := ⟨.bool, 1, 1, false⟩) (i := ⟨.struct [(0, 3), (1, 3), (2, 4)], 3, 24, true⟩) (by kernel_rfl) rfl (by kernel_rfl) (by kernel_rfl) rfl (by kernel_rfl) (by kernel_rfl) rfl rfl h) h) h : Arg cx 40 26 x5 → _) h5
    exact Ab4 a0 a1 a2 a3 a4 a5 m3 m4 m5
set_option maxRecDepth 100000 in
theorem lifted (os : Os) (started : os.Started) (H : Type) (enc : TypeId × Value → H) :
    ReturnsInHanded {} Tryz.checked os 6 .any (Rows.regionOthersSpec.pre6 enc Tryz.prog Tryz.f6 Rows.regionOthersRow.domain false) (Rows.regionOthersSpec.post enc Tryz.prog Tryz.f6 false true false false) := by
  refine returnsInHanded_of_change_sized (C := Tryz.checked) own started (by kernel_rfl) Tryz.func6
    (ChangeSpec.witness6 (enc := enc) (C := Tryz.checked) false ⟨#[], #[.agg #[.int .i64 0, .int .i64 0, .int .i64 0, .int .i64 0, .int .u64 0], .int .i64 0, .int .i64 0, .slice none 0 0, .slice none 0 0, .slice none 0 0], []⟩ 8 (by kernel_rfl) (by kernel_rfl) (by kernel_rfl) (by kernel_rfl)) ?_
  intro W base args ds gs before hval0 hW hcnd hsz0 _
  have hsz : (DataW.weightsEach Tryz.prog (Tryz.f6.params.toList ++ Rows.regionOthersSpec.plain.varTypes Tryz.prog) (ds ++ gs)).all (· ≤ reachBytes) = true := hsz0
  have hval : ∀ (j : Nat) t v, Tryz.f6.params[j]? = some t → args[j]? = some v → Value.okWide Tryz.prog W .any base t v := hval0
  have hW' := hW
  obtain ⟨p, q, hA0, hV, rfl, hfz, hnd⟩ := hW
  have hA : DataW.TrodAll enc Tryz.prog W 0 (fun _ => true) true Tryz.f6.params.toList args.toList ds p := hA0
  rw [Tryz.params6] at hA hval hsz
  obtain ⟨rfl, rfl⟩ := trodVars_none hV
  have hA : DataW.TrodAll enc Tryz.prog W 0 (fun _ => true) true [24, 3, 3, 25, 26, 26] args.toList ds p := hA
  have hlen : ds.length = 6 := AhG hA
  obtain ⟨d0, d1, d2, d3, d4, d5, rfl⟩ : ∃ d0 d1 d2 d3 d4 d5, ds = [d0, d1, d2, d3, d4, d5] := by
    match ds, hlen with
    | [d0, d1, d2, d3, d4, d5], _ => exact ⟨d0, d1, d2, d3, d4, d5, rfl⟩
  have hsz2 : (DataW.weightsEach Tryz.prog [24, 3, 3, 25, 26, 26] [d0, d1, d2, d3, d4, d5]).all (· ≤ reachBytes) = true := hsz
  have hw : ∀ k ∈ DataW.weightsEach Tryz.prog [24, 3, 3, 25, 26, 26] [d0, d1, d2, d3, d4, d5], k ≤ reachBytes := fun k hk => by simpa using List.all_eq_true.1 hsz2 k hk
  obtain ⟨xs, hv, ha⟩ := AfA (base := base) cxTy (m := 40) hA (by decide +kernel) hw (fun j t v ht hv => hval j t v (by simpa using ht) (by simpa using hv))
  refine (Aju cxTy fnsOK (read ha) hv).mono fun e W' ⟨he, bel⟩ => ?_
  subst he
  have hB := Aj1 laidOut bel hA (by decide +kernel)
  exact ⟨_, rfl, _, _, _, [], _, [], hW', trodAll_mk1 (shut_bool Tryz.underlying4 _), hB, rfl, bel.frame _, fun h => by cases h⟩
theorem over : Rows.regionOthersRow.holds Tryz.pinned (OpenSpec.ofChange Rows.regionOthersSpec) :=
  OpenClaim.holds_of_wide 6 Tryz.f6 rfl rfl rfl rfl rfl rfl rfl ⟨rfl, rfl, rfl, rfl, rfl⟩ rfl rfl rfl rfl rfl (by kernel_rfl) Tryz.func6 (by kernel_rfl)
    (of_decide_eq_true (by kernel_rfl)) (by unfold Func.isWrapper; first | (rw [if_pos (by decide +kernel)]; kernel_rfl) | (rw [if_neg (by decide +kernel)]; exact ⟨rfl, rfl⟩))
    (fun os started H enc _ => lifted os started H enc)
theorem proved : Rows.RegionOthersSaid := over
#print axioms proved
end Go.Proofs.YtdlmgaiiheeigaaGreat.regionOthers
