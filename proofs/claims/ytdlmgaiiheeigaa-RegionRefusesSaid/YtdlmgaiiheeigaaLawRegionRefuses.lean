/- For every input the law RegionRefuses returns true, and each argument reads behind the call as it read before. -/
import Derived.Test.YtdlmgaiiheeigaaRows
import Derived.WalkKit
import Derived.ProofKit
import Derived.OpenShut
import Derived.ShutString
import Derived.ChangeOld
import Derived.Below
import Derived.SizedLaws
import Derived.Test.YtdlmgaiiheeigaaEva3
namespace Go.Proofs.Ytdlmgaiiheeigaa.regionRefuses
open Go.ChangeShapes Go.WideShapes Go.ChangeAt Go.RowKit Go.Eva Go.Eva.S2
theorem own : ownKnob Try.prog.godebug = none := by kernel_rfl
theorem laidOut : laidOutB Try.prog = true := by kernel_rfl
theorem read {xs : List T} (h : Args cx 40 [3] xs) : Ev cx (.call 4 (xs.map .t) []) (· = ⟨.ret, [.t (.bool true)], []⟩) := by
    obtain ⟨x0, r0, rfl, h0, g0⟩ := Aif h
    obtain rfl := AiV g0
    obtain ⟨a0, rfl, k0⟩ := (fun h => Aj0 (i := ⟨.int .i64, 1, 8, false⟩) (by kernel_rfl) rfl h : Arg cx 40 3 x0 → _) h0
    exact Abc a0
set_option maxRecDepth 100000 in
theorem lifted (os : Os) (started : os.Started) (H : Type) (enc : TypeId × Value → H) :
    ReturnsInHanded {} Try.checked os 4 .any (Rows.regionRefusesSpec.pre6 enc Try.prog Try.f4 Rows.regionRefusesRow.domain false) (Rows.regionRefusesSpec.post enc Try.prog Try.f4 false true false false) := by
  refine returnsInHanded_of_change_sized (C := Try.checked) own started (by kernel_rfl) Try.func4
    (ChangeSpec.witness6 (enc := enc) (C := Try.checked) false ⟨#[], #[.int .i64 0], []⟩ 8 (by kernel_rfl) (by kernel_rfl) (by kernel_rfl) (by kernel_rfl)) ?_
  intro W base args ds gs before hval0 hW hcnd hsz0 _
  have hsz : (DataW.weightsEach Try.prog (Try.f4.params.toList ++ Rows.regionRefusesSpec.plain.varTypes Try.prog) (ds ++ gs)).all (· ≤ reachBytes) = true := hsz0
  have hval : ∀ (j : Nat) t v, Try.f4.params[j]? = some t → args[j]? = some v → Value.okWide Try.prog W .any base t v := hval0
  have hW' := hW
  obtain ⟨p, q, hA0, hV, rfl, hfz, hnd⟩ := hW
  have hA : DataW.TrodAll enc Try.prog W 0 (fun _ => true) true Try.f4.params.toList args.toList ds p := hA0
  rw [Try.params4] at hA hval hsz
  obtain ⟨rfl, rfl⟩ := trodVars_none hV
  have hA : DataW.TrodAll enc Try.prog W 0 (fun _ => true) true [3] args.toList ds p := hA
  have hlen : ds.length = 1 := AgZ hA
  obtain ⟨d0, rfl⟩ : ∃ d0, ds = [d0] := by
    match ds, hlen with
    | [d0], _ => exact ⟨d0, rfl⟩
  have hsz2 : (DataW.weightsEach Try.prog [3] [d0]).all (· ≤ reachBytes) = true := hsz
  have hw : ∀ k ∈ DataW.weightsEach Try.prog [3] [d0], k ≤ reachBytes := fun k hk => by simpa using List.all_eq_true.1 hsz2 k hk
  obtain ⟨xs, hv, ha⟩ := AeA (base := base) cxTy (m := 40) hA (by decide +kernel) hw (fun j t v ht hv => hval j t v (by simpa using ht) (by simpa using hv))
  refine (Aik cxTy fnsOK (read ha) hv).mono fun e W' ⟨he, bel⟩ => ?_
  subst he
  have hB := AhE laidOut bel hA (by decide +kernel)
  exact ⟨_, rfl, _, _, _, [], _, [], hW', trodAll_mk1 (shut_bool Try.underlying4 _), hB, rfl, bel.frame _, fun h => by cases h⟩
theorem over : Rows.regionRefusesRow.holds Try.pinned (OpenSpec.ofChange Rows.regionRefusesSpec) :=
  OpenClaim.holds_of_wide 4 Try.f4 rfl rfl rfl rfl rfl rfl rfl ⟨rfl, rfl, rfl, rfl, rfl⟩ rfl rfl rfl rfl rfl (by kernel_rfl) Try.func4 (by kernel_rfl)
    (of_decide_eq_true (by kernel_rfl)) (by unfold Func.isWrapper; first | (rw [if_pos (by decide +kernel)]; kernel_rfl) | (rw [if_neg (by decide +kernel)]; exact ⟨rfl, rfl⟩))
    (fun os started H enc _ => lifted os started H enc)
theorem proved : Rows.RegionRefusesSaid := over
#print axioms proved
end Go.Proofs.Ytdlmgaiiheeigaa.regionRefuses
