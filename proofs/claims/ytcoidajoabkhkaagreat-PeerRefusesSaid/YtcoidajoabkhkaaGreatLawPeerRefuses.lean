/- For every input the law PeerRefuses returns true, and each argument reads behind the call as it read before. -/
import Derived.Test.YtcoidajoabkhkaaGreatRows
import Derived.WalkKit
import Derived.ProofKit
import Derived.OpenShut
import Derived.ShutString
import Derived.ChangeOld
import Derived.Below
import Derived.SizedLaws
import Derived.Test.YtcoidajoabkhkaaGreatEva3
namespace Go.Proofs.YtcoidajoabkhkaaGreat.peerRefuses
open Go.ChangeShapes Go.WideShapes Go.ChangeAt Go.RowKit Go.Eva Go.Eva.S9
theorem own : ownKnob Tryz.prog.godebug = none := by kernel_rfl
theorem laidOut : laidOutB Tryz.prog = true := by kernel_rfl
theorem read {xs : List T} (h : Args cx 40 [3] xs) : Ev cx (.call 3 (xs.map .t) []) (· = ⟨.ret, [.t (.bool true)], []⟩) := by
    obtain ⟨x0, r0, rfl, h0, g0⟩ := Af8 h
    obtain rfl := AgD g0
    obtain ⟨a0, rfl, k0⟩ := (fun h => Ahk (i := ⟨.int .i64, 1, 8, false⟩) (by kernel_rfl) rfl h : Arg cx 40 3 x0 → _) h0
    exact AaK a0
set_option maxRecDepth 100000 in
theorem lifted (os : Os) (started : os.Started) (H : Type) (enc : TypeId × Value → H) :
    ReturnsInHanded {} Tryz.checked os 3 .any (Rows.peerRefusesSpec.pre6 enc Tryz.prog Tryz.f3 Rows.peerRefusesRow.domain false) (Rows.peerRefusesSpec.post enc Tryz.prog Tryz.f3 false true false false) := by
  refine returnsInHanded_of_change_sized (C := Tryz.checked) own started (by kernel_rfl) Tryz.func3
    (ChangeSpec.witness6 (enc := enc) (C := Tryz.checked) false ⟨#[], #[.int .i64 0], []⟩ 8 (by kernel_rfl) (by kernel_rfl) (by kernel_rfl) (by kernel_rfl)) ?_
  intro W base args ds gs before hval0 hW hcnd hsz0 _
  have hsz : (DataW.weightsEach Tryz.prog (Tryz.f3.params.toList ++ Rows.peerRefusesSpec.plain.varTypes Tryz.prog) (ds ++ gs)).all (· ≤ reachBytes) = true := hsz0
  have hval : ∀ (j : Nat) t v, Tryz.f3.params[j]? = some t → args[j]? = some v → Value.okWide Tryz.prog W .any base t v := hval0
  have hW' := hW
  obtain ⟨p, q, hA0, hV, rfl, hfz, hnd⟩ := hW
  have hA : DataW.TrodAll enc Tryz.prog W 0 (fun _ => true) true Tryz.f3.params.toList args.toList ds p := hA0
  rw [Tryz.params3] at hA hval hsz
  obtain ⟨rfl, rfl⟩ := trodVars_none hV
  have hA : DataW.TrodAll enc Tryz.prog W 0 (fun _ => true) true [3] args.toList ds p := hA
  have hlen : ds.length = 1 := AeS hA
  obtain ⟨d0, rfl⟩ : ∃ d0, ds = [d0] := by
    match ds, hlen with
    | [d0], _ => exact ⟨d0, rfl⟩
  have hsz2 : (DataW.weightsEach Tryz.prog [3] [d0]).all (· ≤ reachBytes) = true := hsz
  have hw : ∀ k ∈ DataW.weightsEach Tryz.prog [3] [d0], k ≤ reachBytes := fun k hk => by simpa using List.all_eq_true.1 hsz2 k hk
  obtain ⟨xs, hv, ha⟩ := Ac3 (base := base) cxTy (m := 40) hA (by decide +kernel) hw (fun j t v ht hv => hval j t v (by simpa using ht) (by simpa using hv))
  refine (Afx cxTy fnsOK (read ha) hv).mono fun e W' ⟨he, bel⟩ => ?_
  subst he
  have hB := Agg laidOut bel hA (by decide +kernel)
  exact ⟨_, rfl, _, _, _, [], _, [], hW', trodAll_mk1 (shut_bool Tryz.underlying4 _), hB, rfl, bel.frame _, fun h => by cases h⟩
theorem over : Rows.peerRefusesRow.holds Tryz.pinned (OpenSpec.ofChange Rows.peerRefusesSpec) :=
  OpenClaim.holds_of_wide 3 Tryz.f3 rfl rfl rfl rfl rfl rfl rfl ⟨rfl, rfl, rfl, rfl, rfl⟩ rfl rfl rfl rfl rfl (by kernel_rfl) Tryz.func3 (by kernel_rfl)
    (of_decide_eq_true (by kernel_rfl)) (by unfold Func.isWrapper; first | (rw [if_pos (by decide +kernel)]; kernel_rfl) | (rw [if_neg (by decide +kernel)]; exact ⟨rfl, rfl⟩))
    (fun os started H enc _ => lifted os started H enc)
theorem proved : Rows.PeerRefusesSaid := over
#print axioms proved
end Go.Proofs.YtcoidajoabkhkaaGreat.peerRefuses
