/- For every input the law ArenaBegins returns true, and each argument reads behind the call as it read before. -/
import Derived.Test.YtdlmgaiiheeigaaRows
import Derived.WalkKit
import Derived.ProofKit
import Derived.OpenShut
import Derived.ShutString
import Derived.ChangeOld
import Derived.Below
import Derived.SizedLaws
import Derived.Test.YtdlmgaiiheeigaaEva4
namespace Go.Proofs.Ytdlmgaiiheeigaa.arenaBegins
open Go.ChangeShapes Go.WideShapes Go.ChangeAt Go.RowKit Go.Eva Go.Eva.S2
theorem own : ownKnob Try.prog.godebug = none := by kernel_rfl
theorem laidOut : laidOutB Try.prog = true := by kernel_rfl
theorem read {xs : List T} (h : Args cx 40 [24] xs) : Ev cx (.call 3 (xs.map .t) []) (· = ⟨.ret, [.t (.bool true)], []⟩) := by
    obtain ⟨x0, r0, rfl, h0, g0⟩ := args_cons h
    obtain rfl := args_nil g0
    obtain ⟨a0, rfl, k0⟩ := (fun h => arg_of (f := Config.enc) (P := Config.ok) (i := ⟨.struct [(0, 3), (1, 3), (2, 3), (3, 3), (4, 22)], 5, 40, true⟩) (fs := [(0, 3), (1, 3), (2, 3), (3, 3), (4, 22)]) (by kernel_rfl) rfl (fun _ => ⟨_, rfl⟩) (fun {_} h => conf_config (k := 3) (j := ⟨.int .i64, 1, 8, false⟩) (u := 22) (v := ⟨.int .u64, 1, 8, false⟩) (i := ⟨.struct [(0, 3), (1, 3), (2, 3), (3, 3), (4, 22)], 5, 40, true⟩) (by kernel_rfl) rfl (by kernel_rfl) (by kernel_rfl) rfl (by kernel_rfl) (by kernel_rfl) rfl rfl h) h : Arg cx 40 24 x0 → _) h0
    exact f_joustlaw10_ArenaBegins a0
set_option maxRecDepth 100000 in
theorem lifted (os : Os) (started : os.Started) (H : Type) (enc : TypeId × Value → H) :
    ReturnsInHanded {} Try.checked os 3 .any (Rows.arenaBeginsSpec.pre6 enc Try.prog Try.f3 Rows.arenaBeginsRow.domain false) (Rows.arenaBeginsSpec.post enc Try.prog Try.f3 false true false false) := by
  refine returnsInHanded_of_change_sized (C := Try.checked) own started (by kernel_rfl) Try.func3
    (ChangeSpec.witness6 (enc := enc) (C := Try.checked) false ⟨#[], #[.agg #[.int .i64 0, .int .i64 0, .int .i64 0, .int .i64 0, .int .u64 0]], []⟩ 8 (by kernel_rfl) (by kernel_rfl) (by kernel_rfl) (by kernel_rfl)) ?_
  intro W base args ds gs before hval0 hW hcnd hsz0 _
  have hsz : (DataW.weightsEach Try.prog (Try.f3.params.toList ++ Rows.arenaBeginsSpec.plain.varTypes Try.prog) (ds ++ gs)).all (· ≤ reachBytes) = true := hsz0
  have hval : ∀ (j : Nat) t v, Try.f3.params[j]? = some t → args[j]? = some v → Value.okWide Try.prog W .any base t v := hval0
  have hW' := hW
  obtain ⟨p, q, hA0, hV, rfl, hfz, hnd⟩ := hW
  have hA : DataW.TrodAll enc Try.prog W 0 (fun _ => true) true Try.f3.params.toList args.toList ds p := hA0
  rw [Try.params3] at hA hval hsz
  obtain ⟨rfl, rfl⟩ := trodVars_none hV
  have hA : DataW.TrodAll enc Try.prog W 0 (fun _ => true) true [24] args.toList ds p := hA
  have hlen : ds.length = 1 := trod_len hA
  obtain ⟨d0, rfl⟩ : ∃ d0, ds = [d0] := by
    match ds, hlen with
    | [d0], _ => exact ⟨d0, rfl⟩
  have hsz2 : (DataW.weightsEach Try.prog [24] [d0]).all (· ≤ reachBytes) = true := hsz
  have hw : ∀ k ∈ DataW.weightsEach Try.prog [24] [d0], k ≤ reachBytes := fun k hk => by simpa using List.all_eq_true.1 hsz2 k hk
  obtain ⟨xs, hv, ha⟩ := rowArgs_ok (base := base) cxTy (m := 40) hA (by decide +kernel) hw (fun j t v ht hv => hval j t v (by simpa using ht) (by simpa using hv))
  refine (call_true cxTy fnsOK (read ha) hv).mono fun e W' ⟨he, bel⟩ => ?_
  subst he
  have hB := back_ok laidOut bel hA (by decide +kernel)
  exact ⟨_, rfl, _, _, _, [], _, [], hW', trodAll_mk1 (shut_bool Try.underlying4 _), hB, rfl, bel.frame _, fun h => by cases h⟩
theorem over : Rows.arenaBeginsRow.holds Try.pinned (OpenSpec.ofChange Rows.arenaBeginsSpec) :=
  OpenClaim.holds_of_wide 3 Try.f3 rfl rfl rfl rfl rfl rfl rfl ⟨rfl, rfl, rfl, rfl, rfl⟩ rfl rfl rfl rfl rfl (by kernel_rfl) Try.func3 (by kernel_rfl)
    (of_decide_eq_true (by kernel_rfl)) (by unfold Func.isWrapper; first | (rw [if_pos (by decide +kernel)]; kernel_rfl) | (rw [if_neg (by decide +kernel)]; exact ⟨rfl, rfl⟩))
    (fun os started H enc _ => lifted os started H enc)
theorem proved : Rows.ArenaBeginsSaid := over
#print axioms proved
end Go.Proofs.Ytdlmgaiiheeigaa.arenaBegins
