/- For every input the law RollbackApart returns true, and each argument reads behind the call as it read before. -/
import Derived.Test.YtjkeffbjjepgdaaGreatRows
import Derived.WalkKit
import Derived.ProofKit
import Derived.OpenShut
import Derived.ShutString
import Derived.ChangeOld
import Derived.Below
import Derived.SizedLaws
import Derived.Test.YtjkeffbjjepgdaaGreatEva5
namespace Go.Proofs.YtjkeffbjjepgdaaGreat.rollbackApart
open Go.ChangeShapes Go.WideShapes Go.ChangeAt Go.RowKit Go.Eva Go.Eva.S8
theorem own : ownKnob Tryz.prog.godebug = none := by kernel_rfl
theorem laidOut : laidOutB Tryz.prog = true := by kernel_rfl
theorem read {xs : List T} (h : Args cx 40 [23, 3] xs) : Ev cx (.call 3 (xs.map .t) []) (· = ⟨.ret, [.t (.bool true)], []⟩) := by
    obtain ⟨x0, r0, rfl, h0, g0⟩ := AiU h
    obtain ⟨x1, r1, rfl, h1, g1⟩ := AiU g0
    obtain rfl := AoB g1
    obtain ⟨a0, rfl, k0⟩ := (fun h => Aq1 (f := Go.Eva.Input.enc) (P := Go.Eva.Input.ok) (i := ⟨.struct [(0, 3), (1, 3), (2, 4)], 3, 24, true⟩) (fs := [(0, 3), (1, 3), (2, 4)]) (by kernel_rfl) rfl (fun _ => ⟨_, rfl⟩) (fun {_} h => Amh (k := 3) (j := ⟨.int .i64, 1, 8, false⟩) (u := 4) (v := ⟨.bool, 1, 1, false⟩) (i := ⟨.struct [(0, 3), (1, 3), (2, 4)], 3, 24, true⟩) (by kernel_rfl) rfl (by kernel_rfl) (by kernel_rfl) rfl (by kernel_rfl) (by kernel_rfl) rfl rfl h) h : Arg cx 40 23 x0 → _) h0
    obtain ⟨a1, rfl, k1⟩ := (fun h => ApG (i := ⟨.int .i64, 1, 8, false⟩) (by kernel_rfl) rfl h : Arg cx 40 3 x1 → _) h1
    exact AbE a0 a1
set_option maxRecDepth 100000 in
theorem lifted (os : Os) (started : os.Started) (H : Type) (enc : TypeId × Value → H) :
    ReturnsInHanded {} Tryz.checked os 3 .any (Rows.rollbackApartSpec.pre6 enc Tryz.prog Tryz.f3 Rows.rollbackApartRow.domain false) (Rows.rollbackApartSpec.post enc Tryz.prog Tryz.f3 false true false false) := by
  refine returnsInHanded_of_change_sized (C := Tryz.checked) own started (by kernel_rfl) Tryz.func3
    (ChangeSpec.witness6 (enc := enc) (C := Tryz.checked) false ⟨#[], #[.agg #[.int .i64 0, .int .i64 0, .bool false], .int .i64 0], []⟩ 8 (by kernel_rfl) (by kernel_rfl) (by kernel_rfl) (by kernel_rfl)) ?_
  intro W base args ds gs before hval0 hW hcnd hsz0 _
  have hsz : (DataW.weightsEach Tryz.prog (Tryz.f3.params.toList ++ Rows.rollbackApartSpec.plain.varTypes Tryz.prog) (ds ++ gs)).all (· ≤ reachBytes) = true := hsz0
  have hval : ∀ (j : Nat) t v, Tryz.f3.params[j]? = some t → args[j]? = some v → Value.okWide Tryz.prog W .any base t v := hval0
  have hW' := hW
  obtain ⟨p, q, hA0, hV, rfl, hfz, hnd⟩ := hW
  have hA : DataW.TrodAll enc Tryz.prog W 0 (fun _ => true) true Tryz.f3.params.toList args.toList ds p := hA0
  rw [Tryz.params3] at hA hval hsz
  obtain ⟨rfl, rfl⟩ := trodVars_none hV
  have hA : DataW.TrodAll enc Tryz.prog W 0 (fun _ => true) true [23, 3] args.toList ds p := hA
  have hlen : ds.length = 2 := AlN hA
  obtain ⟨d0, d1, rfl⟩ : ∃ d0 d1, ds = [d0, d1] := by
    match ds, hlen with
    | [d0, d1], _ => exact ⟨d0, d1, rfl⟩
  have hsz2 : (DataW.weightsEach Tryz.prog [23, 3] [d0, d1]).all (· ≤ reachBytes) = true := hsz
  have hw : ∀ k ∈ DataW.weightsEach Tryz.prog [23, 3] [d0, d1], k ≤ reachBytes := fun k hk => by simpa using List.all_eq_true.1 hsz2 k hk
  obtain ⟨xs, hv, ha⟩ := AhR (base := base) cxTy (m := 40) hA (by decide +kernel) hw (fun j t v ht hv => hval j t v (by simpa using ht) (by simpa using hv))
  refine (AmR cxTy fnsOK (read ha) hv).mono fun e W' ⟨he, bel⟩ => ?_
  subst he
  have hB := AmN laidOut bel hA (by decide +kernel)
  exact ⟨_, rfl, _, _, _, [], _, [], hW', trodAll_mk1 (shut_bool Tryz.underlying4 _), hB, rfl, bel.frame _, fun h => by cases h⟩
theorem over : Rows.rollbackApartRow.holds Tryz.pinned (OpenSpec.ofChange Rows.rollbackApartSpec) :=
  OpenClaim.holds_of_wide 3 Tryz.f3 rfl rfl rfl rfl rfl rfl rfl ⟨rfl, rfl, rfl, rfl, rfl⟩ rfl rfl rfl rfl rfl (by kernel_rfl) Tryz.func3 (by kernel_rfl)
    (of_decide_eq_true (by kernel_rfl)) (by unfold Func.isWrapper; first | (rw [if_pos (by decide +kernel)]; kernel_rfl) | (rw [if_neg (by decide +kernel)]; exact ⟨rfl, rfl⟩))
    (fun os started H enc _ => lifted os started H enc)
theorem proved : Rows.RollbackApartSaid := over
#print axioms proved
end Go.Proofs.YtjkeffbjjepgdaaGreat.rollbackApart
