/-
  No cell of these rows narrows 'for every input' (looked for: loops, veiled, ifaces, maps, wideKeys, modest, calm, conditions, laid).
  DERIVED. THE GIVEN ROWS OF THIS SEAT. 10 by the template 'for every input the law returns true; each argument reads behind the call as it read before'; 0 by the template 'total and deterministic' (their statements: YtnoedioeadiafaaTotals.lean).
  GIVEN WITH THE SEED: the statements are not yours to turn. If you find one false, say at which input.
  Laid BY PROGRAM, IN A SANDBOX (cutbox-rows.mjs): the forced cells as the released guide's own fill.sh prints them over the translation 7b4a73140fb7e5d6… (all of the seat's roots in one cut). By AI agents, Wed Nov 11 2026. No macro, syntax, notation, axiom, sorry.
-/
import Derived.Test.YtnoedioeadiafaaChecked
import GoSem.Claim
import GoSem.ClaimJoined
import GoSem.ClaimMapViews
import Derived.JoinedTies
import Derived.KernelRfl
namespace Go.Proofs.Ytnoedioeadiafaa
/- THE CELL 'sum', in the pinned program and in every row, IS THE sha256 OF THE DUMP (.gsa) THAT YtnoedioeadiafaaProg.lean LOADS. Nothing in Lean hashes anything: it is a label: what it is worth is what the hold of that sum in a sandbox is worth. -/
noncomputable def Try.pinned : Pinned := { name := "ytnoedioeadiafaa", sum := "7b4a73140fb7e5d667616cf736877c8bd0c40595fa12a479c5b9786883edabf3", checked := Try.checked }
namespace Rows
def none {H : Type} : Left H := { results := [], args := [] }

/-- 'joustlaw05.EntitySorted': WHATEVER THE INPUT: true; the input reads as it did. -/
def entitySortedSpec : ChangeSpec := { name := "entitySorted", fn := fun _ => fun
  | [d] => { results := [.lit (.bool true)], args := [d] }
  | _ => none }
def entitySortedRow : OpenClaim := { program := "ytnoedioeadiafaa", sum := "7b4a73140fb7e5d667616cf736877c8bd0c40595fa12a479c5b9786883edabf3", func := "joust/joustlaw05.EntitySorted", spec := "entitySorted", inPlace := ["slices.overlaps[joust/api.Entity]"], unfollowed := true, recurses := true, apart := false }
def EntitySortedSaid : Prop := entitySortedRow.holds Try.pinned (OpenSpec.ofChange entitySortedSpec)

/-- ITS FALSE NEIGHBOUR: 'it returns false'. Refute it at one input. -/
def entitySortedWrong : ChangeSpec := { name := "entitySorted", fn := fun _ => fun
  | [d] => { results := [.lit (.bool false)], args := [d] }
  | _ => none }
def EntitySortedWrongFalsely : Prop := entitySortedRow.holds Try.pinned (OpenSpec.ofChange entitySortedWrong)

/-- 'joustlaw05.EntityCounts': WHATEVER THE INPUT: true; the input reads as it did. -/
def entityCountsSpec : ChangeSpec := { name := "entityCounts", fn := fun _ => fun
  | [d1, d2] => { results := [.lit (.bool true)], args := [d1, d2] }
  | _ => none }
def entityCountsRow : OpenClaim := { program := "ytnoedioeadiafaa", sum := "7b4a73140fb7e5d667616cf736877c8bd0c40595fa12a479c5b9786883edabf3", func := "joust/joustlaw05.EntityCounts", spec := "entityCounts", inPlace := ["slices.overlaps[joust/api.Entity]"], unfollowed := true, recurses := true, apart := false }
def EntityCountsSaid : Prop := entityCountsRow.holds Try.pinned (OpenSpec.ofChange entityCountsSpec)

/-- ITS FALSE NEIGHBOUR: 'it returns false'. Refute it at one input. -/
def entityCountsWrong : ChangeSpec := { name := "entityCounts", fn := fun _ => fun
  | [d1, d2] => { results := [.lit (.bool false)], args := [d1, d2] }
  | _ => none }
def EntityCountsWrongFalsely : Prop := entityCountsRow.holds Try.pinned (OpenSpec.ofChange entityCountsWrong)

/-- 'joustlaw05.EntityBounds': WHATEVER THE INPUT: true; the input reads as it did. -/
def entityBoundsSpec : ChangeSpec := { name := "entityBounds", fn := fun _ => fun
  | [d1, d2, d3, d4, d5] => { results := [.lit (.bool true)], args := [d1, d2, d3, d4, d5] }
  | _ => none }
def entityBoundsRow : OpenClaim := { program := "ytnoedioeadiafaa", sum := "7b4a73140fb7e5d667616cf736877c8bd0c40595fa12a479c5b9786883edabf3", func := "joust/joustlaw05.EntityBounds", spec := "entityBounds", inPlace := ["slices.overlaps[joust/api.Entity]"], unfollowed := true, recurses := true, apart := false }
def EntityBoundsSaid : Prop := entityBoundsRow.holds Try.pinned (OpenSpec.ofChange entityBoundsSpec)

/-- ITS FALSE NEIGHBOUR: 'it returns false'. Refute it at one input. -/
def entityBoundsWrong : ChangeSpec := { name := "entityBounds", fn := fun _ => fun
  | [d1, d2, d3, d4, d5] => { results := [.lit (.bool false)], args := [d1, d2, d3, d4, d5] }
  | _ => none }
def EntityBoundsWrongFalsely : Prop := entityBoundsRow.holds Try.pinned (OpenSpec.ofChange entityBoundsWrong)

/-- 'joustlaw05.EntityTells': WHATEVER THE INPUT: true; the input reads as it did. -/
def entityTellsSpec : ChangeSpec := { name := "entityTells", fn := fun _ => fun
  | [d1, d2, d3, d4, d5, d6] => { results := [.lit (.bool true)], args := [d1, d2, d3, d4, d5, d6] }
  | _ => none }
def entityTellsRow : OpenClaim := { program := "ytnoedioeadiafaa", sum := "7b4a73140fb7e5d667616cf736877c8bd0c40595fa12a479c5b9786883edabf3", func := "joust/joustlaw05.EntityTells", spec := "entityTells", inPlace := ["slices.overlaps[joust/api.Entity]"], unfollowed := true, recurses := true, apart := false }
def EntityTellsSaid : Prop := entityTellsRow.holds Try.pinned (OpenSpec.ofChange entityTellsSpec)

/-- ITS FALSE NEIGHBOUR: 'it returns false'. Refute it at one input. -/
def entityTellsWrong : ChangeSpec := { name := "entityTells", fn := fun _ => fun
  | [d1, d2, d3, d4, d5, d6] => { results := [.lit (.bool false)], args := [d1, d2, d3, d4, d5, d6] }
  | _ => none }
def EntityTellsWrongFalsely : Prop := entityTellsRow.holds Try.pinned (OpenSpec.ofChange entityTellsWrong)

/-- 'joustlaw06.CrossSorts': WHATEVER THE INPUT: true; the input reads as it did. -/
def crossSortsSpec : ChangeSpec := { name := "crossSorts", fn := fun _ => fun
  | [d1, d2] => { results := [.lit (.bool true)], args := [d1, d2] }
  | _ => none }
def crossSortsRow : OpenClaim := { program := "ytnoedioeadiafaa", sum := "7b4a73140fb7e5d667616cf736877c8bd0c40595fa12a479c5b9786883edabf3", func := "joust/joustlaw06.CrossSorts", spec := "crossSorts", unfollowed := true, recurses := true, apart := false }
def CrossSortsSaid : Prop := crossSortsRow.holds Try.pinned (OpenSpec.ofChange crossSortsSpec)

/-- ITS FALSE NEIGHBOUR: 'it returns false'. Refute it at one input. -/
def crossSortsWrong : ChangeSpec := { name := "crossSorts", fn := fun _ => fun
  | [d1, d2] => { results := [.lit (.bool false)], args := [d1, d2] }
  | _ => none }
def CrossSortsWrongFalsely : Prop := crossSortsRow.holds Try.pinned (OpenSpec.ofChange crossSortsWrong)

/-- 'joustlaw06.CrossOrder': WHATEVER THE INPUT: true; the input reads as it did. -/
def crossOrderSpec : ChangeSpec := { name := "crossOrder", fn := fun _ => fun
  | [d1, d2, d3] => { results := [.lit (.bool true)], args := [d1, d2, d3] }
  | _ => none }
def crossOrderRow : OpenClaim := { program := "ytnoedioeadiafaa", sum := "7b4a73140fb7e5d667616cf736877c8bd0c40595fa12a479c5b9786883edabf3", func := "joust/joustlaw06.CrossOrder", spec := "crossOrder", unfollowed := true, recurses := true, apart := false }
def CrossOrderSaid : Prop := crossOrderRow.holds Try.pinned (OpenSpec.ofChange crossOrderSpec)

/-- ITS FALSE NEIGHBOUR: 'it returns false'. Refute it at one input. -/
def crossOrderWrong : ChangeSpec := { name := "crossOrder", fn := fun _ => fun
  | [d1, d2, d3] => { results := [.lit (.bool false)], args := [d1, d2, d3] }
  | _ => none }
def CrossOrderWrongFalsely : Prop := crossOrderRow.holds Try.pinned (OpenSpec.ofChange crossOrderWrong)

/-- 'joustlaw06.CrossParts': WHATEVER THE INPUT: true; the input reads as it did. -/
def crossPartsSpec : ChangeSpec := { name := "crossParts", fn := fun _ => fun
  | [d] => { results := [.lit (.bool true)], args := [d] }
  | _ => none }
def crossPartsRow : OpenClaim := { program := "ytnoedioeadiafaa", sum := "7b4a73140fb7e5d667616cf736877c8bd0c40595fa12a479c5b9786883edabf3", func := "joust/joustlaw06.CrossParts", spec := "crossParts", unfollowed := true, recurses := true, apart := false }
def CrossPartsSaid : Prop := crossPartsRow.holds Try.pinned (OpenSpec.ofChange crossPartsSpec)

/-- ITS FALSE NEIGHBOUR: 'it returns false'. Refute it at one input. -/
def crossPartsWrong : ChangeSpec := { name := "crossParts", fn := fun _ => fun
  | [d] => { results := [.lit (.bool false)], args := [d] }
  | _ => none }
def CrossPartsWrongFalsely : Prop := crossPartsRow.holds Try.pinned (OpenSpec.ofChange crossPartsWrong)

/-- 'joustlaw06.CrossStable': WHATEVER THE INPUT: true; the input reads as it did. -/
def crossStableSpec : ChangeSpec := { name := "crossStable", fn := fun _ => fun
  | [d1, d2] => { results := [.lit (.bool true)], args := [d1, d2] }
  | _ => none }
def crossStableRow : OpenClaim := { program := "ytnoedioeadiafaa", sum := "7b4a73140fb7e5d667616cf736877c8bd0c40595fa12a479c5b9786883edabf3", func := "joust/joustlaw06.CrossStable", spec := "crossStable", unfollowed := true, recurses := true, apart := false }
def CrossStableSaid : Prop := crossStableRow.holds Try.pinned (OpenSpec.ofChange crossStableSpec)

/-- ITS FALSE NEIGHBOUR: 'it returns false'. Refute it at one input. -/
def crossStableWrong : ChangeSpec := { name := "crossStable", fn := fun _ => fun
  | [d1, d2] => { results := [.lit (.bool false)], args := [d1, d2] }
  | _ => none }
def CrossStableWrongFalsely : Prop := crossStableRow.holds Try.pinned (OpenSpec.ofChange crossStableWrong)

/-- 'joustlaw06.CrossTells': WHATEVER THE INPUT: true; the input reads as it did. -/
def crossTellsSpec : ChangeSpec := { name := "crossTells", fn := fun _ => fun
  | [d1, d2, d3, d4, d5, d6] => { results := [.lit (.bool true)], args := [d1, d2, d3, d4, d5, d6] }
  | _ => none }
def crossTellsRow : OpenClaim := { program := "ytnoedioeadiafaa", sum := "7b4a73140fb7e5d667616cf736877c8bd0c40595fa12a479c5b9786883edabf3", func := "joust/joustlaw06.CrossTells", spec := "crossTells", unfollowed := true, recurses := true, apart := false }
def CrossTellsSaid : Prop := crossTellsRow.holds Try.pinned (OpenSpec.ofChange crossTellsSpec)

/-- ITS FALSE NEIGHBOUR: 'it returns false'. Refute it at one input. -/
def crossTellsWrong : ChangeSpec := { name := "crossTells", fn := fun _ => fun
  | [d1, d2, d3, d4, d5, d6] => { results := [.lit (.bool false)], args := [d1, d2, d3, d4, d5, d6] }
  | _ => none }
def CrossTellsWrongFalsely : Prop := crossTellsRow.holds Try.pinned (OpenSpec.ofChange crossTellsWrong)

/-- 'joustlaw06.CrossNear': WHATEVER THE INPUT: true; the input reads as it did. -/
def crossNearSpec : ChangeSpec := { name := "crossNear", fn := fun _ => fun
  | [d1, d2] => { results := [.lit (.bool true)], args := [d1, d2] }
  | _ => none }
def crossNearRow : OpenClaim := { program := "ytnoedioeadiafaa", sum := "7b4a73140fb7e5d667616cf736877c8bd0c40595fa12a479c5b9786883edabf3", func := "joust/joustlaw06.CrossNear", spec := "crossNear", unfollowed := true, recurses := true, apart := false }
def CrossNearSaid : Prop := crossNearRow.holds Try.pinned (OpenSpec.ofChange crossNearSpec)

/-- ITS FALSE NEIGHBOUR: 'it returns false'. Refute it at one input. -/
def crossNearWrong : ChangeSpec := { name := "crossNear", fn := fun _ => fun
  | [d1, d2] => { results := [.lit (.bool false)], args := [d1, d2] }
  | _ => none }
def CrossNearWrongFalsely : Prop := crossNearRow.holds Try.pinned (OpenSpec.ofChange crossNearWrong)

/- THE SECOND FORM. 'bulk': how many values and letters a reading holds, each counted each time it is reached (what is shared counts as often as it is met; a slice's spare places count too). A statement '..UptoSaid' is the law's where the arguments, and the package variables that the reading takes, are together of bulk at most 1048576: NARROWER than '..Said'. Prove '..Said' where nothing that the law and all that it calls make is longer than what came in: it says more and counts as full. Else prove '..UptoSaid'. A law counts once. -/
mutual
def uptoBulk {H : Type} : DataW H → Nat
  | .lit (.string bytes) => bytes.length + 1
  | .lit _ => 1
  | .nil => 1
  | .ptr d => uptoBulk d + 1
  | .slice elems spare => uptoBulkAll elems + uptoBulkAll spare + 1
  | .agg parts => uptoBulkAll parts + 1
  | .iface _ d => uptoBulk d + 1
  | .map entries => uptoBulkEntries entries + 1
  | .held _ => 1
def uptoBulkAll {H : Type} : List (DataW H) → Nat
  | [] => 0
  | d :: r => uptoBulk d + uptoBulkAll r
def uptoBulkEntries {H : Type} : List (Lit × DataW H) → Nat
  | [] => 0
  | x :: r => uptoBulkEntry x + uptoBulkEntries r
def uptoBulkEntry {H : Type} : Lit × DataW H → Nat
  | (.string bytes, d) => bytes.length + uptoBulk d + 1
  | (_, d) => uptoBulk d + 1
 end
def uptoSmall : (H : Type) → List (DataW H) → Bool := fun _ ds => decide (uptoBulkAll ds ≤ 1048576)
def OpenSpec.upto (s : _root_.Go.ChangeSpec) : _root_.Go.OpenSpec := { _root_.Go.OpenSpec.ofChange s with cond := some uptoSmall }

/-- 'joustlaw05.EntitySorted', WHERE WHAT IT READS IS OF BULK AT MOST 1048576: true; the input reads as it did. -/
def entitySortedUptoRow : OpenClaim := { program := "ytnoedioeadiafaa", sum := "7b4a73140fb7e5d667616cf736877c8bd0c40595fa12a479c5b9786883edabf3", func := "joust/joustlaw05.EntitySorted", spec := "entitySorted", inPlace := ["slices.overlaps[joust/api.Entity]"], unfollowed := true, recurses := true, apart := false, narrowed := true }
def EntitySortedUptoSaid : Prop := entitySortedUptoRow.holds Try.pinned (OpenSpec.upto entitySortedSpec)

/-- 'joustlaw05.EntityCounts', WHERE WHAT IT READS IS OF BULK AT MOST 1048576: true; the input reads as it did. -/
def entityCountsUptoRow : OpenClaim := { program := "ytnoedioeadiafaa", sum := "7b4a73140fb7e5d667616cf736877c8bd0c40595fa12a479c5b9786883edabf3", func := "joust/joustlaw05.EntityCounts", spec := "entityCounts", inPlace := ["slices.overlaps[joust/api.Entity]"], unfollowed := true, recurses := true, apart := false, narrowed := true }
def EntityCountsUptoSaid : Prop := entityCountsUptoRow.holds Try.pinned (OpenSpec.upto entityCountsSpec)

/-- 'joustlaw05.EntityBounds', WHERE WHAT IT READS IS OF BULK AT MOST 1048576: true; the input reads as it did. -/
def entityBoundsUptoRow : OpenClaim := { program := "ytnoedioeadiafaa", sum := "7b4a73140fb7e5d667616cf736877c8bd0c40595fa12a479c5b9786883edabf3", func := "joust/joustlaw05.EntityBounds", spec := "entityBounds", inPlace := ["slices.overlaps[joust/api.Entity]"], unfollowed := true, recurses := true, apart := false, narrowed := true }
def EntityBoundsUptoSaid : Prop := entityBoundsUptoRow.holds Try.pinned (OpenSpec.upto entityBoundsSpec)

/-- 'joustlaw05.EntityTells', WHERE WHAT IT READS IS OF BULK AT MOST 1048576: true; the input reads as it did. -/
def entityTellsUptoRow : OpenClaim := { program := "ytnoedioeadiafaa", sum := "7b4a73140fb7e5d667616cf736877c8bd0c40595fa12a479c5b9786883edabf3", func := "joust/joustlaw05.EntityTells", spec := "entityTells", inPlace := ["slices.overlaps[joust/api.Entity]"], unfollowed := true, recurses := true, apart := false, narrowed := true }
def EntityTellsUptoSaid : Prop := entityTellsUptoRow.holds Try.pinned (OpenSpec.upto entityTellsSpec)

/-- 'joustlaw06.CrossSorts', WHERE WHAT IT READS IS OF BULK AT MOST 1048576: true; the input reads as it did. -/
def crossSortsUptoRow : OpenClaim := { program := "ytnoedioeadiafaa", sum := "7b4a73140fb7e5d667616cf736877c8bd0c40595fa12a479c5b9786883edabf3", func := "joust/joustlaw06.CrossSorts", spec := "crossSorts", unfollowed := true, recurses := true, apart := false, narrowed := true }
def CrossSortsUptoSaid : Prop := crossSortsUptoRow.holds Try.pinned (OpenSpec.upto crossSortsSpec)

/-- 'joustlaw06.CrossOrder', WHERE WHAT IT READS IS OF BULK AT MOST 1048576: true; the input reads as it did. -/
def crossOrderUptoRow : OpenClaim := { program := "ytnoedioeadiafaa", sum := "7b4a73140fb7e5d667616cf736877c8bd0c40595fa12a479c5b9786883edabf3", func := "joust/joustlaw06.CrossOrder", spec := "crossOrder", unfollowed := true, recurses := true, apart := false, narrowed := true }
def CrossOrderUptoSaid : Prop := crossOrderUptoRow.holds Try.pinned (OpenSpec.upto crossOrderSpec)

/-- 'joustlaw06.CrossParts', WHERE WHAT IT READS IS OF BULK AT MOST 1048576: true; the input reads as it did. -/
def crossPartsUptoRow : OpenClaim := { program := "ytnoedioeadiafaa", sum := "7b4a73140fb7e5d667616cf736877c8bd0c40595fa12a479c5b9786883edabf3", func := "joust/joustlaw06.CrossParts", spec := "crossParts", unfollowed := true, recurses := true, apart := false, narrowed := true }
def CrossPartsUptoSaid : Prop := crossPartsUptoRow.holds Try.pinned (OpenSpec.upto crossPartsSpec)

/-- 'joustlaw06.CrossStable', WHERE WHAT IT READS IS OF BULK AT MOST 1048576: true; the input reads as it did. -/
def crossStableUptoRow : OpenClaim := { program := "ytnoedioeadiafaa", sum := "7b4a73140fb7e5d667616cf736877c8bd0c40595fa12a479c5b9786883edabf3", func := "joust/joustlaw06.CrossStable", spec := "crossStable", unfollowed := true, recurses := true, apart := false, narrowed := true }
def CrossStableUptoSaid : Prop := crossStableUptoRow.holds Try.pinned (OpenSpec.upto crossStableSpec)

/-- 'joustlaw06.CrossTells', WHERE WHAT IT READS IS OF BULK AT MOST 1048576: true; the input reads as it did. -/
def crossTellsUptoRow : OpenClaim := { program := "ytnoedioeadiafaa", sum := "7b4a73140fb7e5d667616cf736877c8bd0c40595fa12a479c5b9786883edabf3", func := "joust/joustlaw06.CrossTells", spec := "crossTells", unfollowed := true, recurses := true, apart := false, narrowed := true }
def CrossTellsUptoSaid : Prop := crossTellsUptoRow.holds Try.pinned (OpenSpec.upto crossTellsSpec)

/-- 'joustlaw06.CrossNear', WHERE WHAT IT READS IS OF BULK AT MOST 1048576: true; the input reads as it did. -/
def crossNearUptoRow : OpenClaim := { program := "ytnoedioeadiafaa", sum := "7b4a73140fb7e5d667616cf736877c8bd0c40595fa12a479c5b9786883edabf3", func := "joust/joustlaw06.CrossNear", spec := "crossNear", unfollowed := true, recurses := true, apart := false, narrowed := true }
def CrossNearUptoSaid : Prop := crossNearUptoRow.holds Try.pinned (OpenSpec.upto crossNearSpec)

end Rows
end Go.Proofs.Ytnoedioeadiafaa
