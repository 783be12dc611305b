/-
  No cell of these rows narrows 'for every input' (looked for: loops, veiled, ifaces, maps, wideKeys, modest, calm, conditions, laid).
  DERIVED. THE GIVEN ROWS OF THIS SEAT. 4 by the template 'for every input the law returns true; each argument reads behind the call as it read before'; 0 by the template 'total and deterministic' (their statements: YtdlmgaiiheeigaaTotals.lean).
  GIVEN WITH THE SEED: the statements are not yours to turn. If you find one false, say at which input.
  Laid BY PROGRAM, IN A SANDBOX (cutbox-rows.mjs): the forced cells as the released guide's own fill.sh prints them over the translation 8d1336e69f92c3b2… (all of the seat's roots in one cut). By AI agents, Wed Nov 11 2026. No macro, syntax, notation, axiom, sorry.
-/
import Derived.Test.YtdlmgaiiheeigaaChecked
import GoSem.Claim
import GoSem.ClaimJoined
import GoSem.ClaimMapViews
import Derived.JoinedTies
import Derived.KernelRfl
namespace Go.Proofs.Ytdlmgaiiheeigaa
/- THE CELL 'sum', in the pinned program and in every row, IS THE sha256 OF THE DUMP (.gsa) THAT YtdlmgaiiheeigaaProg.lean LOADS. Nothing in Lean hashes anything: it is a label: what it is worth is what the hold of that sum in a sandbox is worth. -/
noncomputable def Try.pinned : Pinned := { name := "ytdlmgaiiheeigaa", sum := "8d1336e69f92c3b258e16f6a6c47ded229518021dff30e1a1422b7701c397eb1", checked := Try.checked }
namespace Rows
def none {H : Type} : Left H := { results := [], args := [] }

/-- 'joustlaw10.ArenaBegins': WHATEVER THE INPUT: true; the input reads as it did. -/
def arenaBeginsSpec : ChangeSpec := { name := "arenaBegins", fn := fun _ => fun
  | [d] => { results := [.lit (.bool true)], args := [d] }
  | _ => none }
def arenaBeginsRow : OpenClaim := { program := "ytdlmgaiiheeigaa", sum := "8d1336e69f92c3b258e16f6a6c47ded229518021dff30e1a1422b7701c397eb1", func := "joust/joustlaw10.ArenaBegins", spec := "arenaBegins", inPlace := ["slices.overlaps[joust/api.Entity]"], unfollowed := true, recurses := true, apart := false }
def ArenaBeginsSaid : Prop := arenaBeginsRow.holds Try.pinned (OpenSpec.ofChange arenaBeginsSpec)

/-- ITS FALSE NEIGHBOUR: 'it returns false'. Refute it at one input. -/
def arenaBeginsWrong : ChangeSpec := { name := "arenaBegins", fn := fun _ => fun
  | [d] => { results := [.lit (.bool false)], args := [d] }
  | _ => none }
def ArenaBeginsWrongFalsely : Prop := arenaBeginsRow.holds Try.pinned (OpenSpec.ofChange arenaBeginsWrong)

/-- 'joustlaw09.RegionRefuses': WHATEVER THE INPUT: true; the input reads as it did. -/
def regionRefusesSpec : ChangeSpec := { name := "regionRefuses", fn := fun _ => fun
  | [d] => { results := [.lit (.bool true)], args := [d] }
  | _ => none }
def regionRefusesRow : OpenClaim := { program := "ytdlmgaiiheeigaa", sum := "8d1336e69f92c3b258e16f6a6c47ded229518021dff30e1a1422b7701c397eb1", func := "joust/joustlaw09.RegionRefuses", spec := "regionRefuses", inPlace := ["slices.overlaps[joust/api.Entity]"], unfollowed := true, recurses := true, apart := false }
def RegionRefusesSaid : Prop := regionRefusesRow.holds Try.pinned (OpenSpec.ofChange regionRefusesSpec)

/-- ITS FALSE NEIGHBOUR: 'it returns false'. Refute it at one input. -/
def regionRefusesWrong : ChangeSpec := { name := "regionRefuses", fn := fun _ => fun
  | [d] => { results := [.lit (.bool false)], args := [d] }
  | _ => none }
def RegionRefusesWrongFalsely : Prop := regionRefusesRow.holds Try.pinned (OpenSpec.ofChange regionRefusesWrong)

/-- 'joustlaw09.RegionEmpty': WHATEVER THE INPUT: true; the input reads as it did. -/
def regionEmptySpec : ChangeSpec := { name := "regionEmpty", fn := fun _ => fun
  | [d1, d2, d3] => { results := [.lit (.bool true)], args := [d1, d2, d3] }
  | _ => none }
def regionEmptyRow : OpenClaim := { program := "ytdlmgaiiheeigaa", sum := "8d1336e69f92c3b258e16f6a6c47ded229518021dff30e1a1422b7701c397eb1", func := "joust/joustlaw09.RegionEmpty", spec := "regionEmpty", inPlace := ["slices.overlaps[joust/api.Entity]"], unfollowed := true, recurses := true, apart := false }
def RegionEmptySaid : Prop := regionEmptyRow.holds Try.pinned (OpenSpec.ofChange regionEmptySpec)

/-- ITS FALSE NEIGHBOUR: 'it returns false'. Refute it at one input. -/
def regionEmptyWrong : ChangeSpec := { name := "regionEmpty", fn := fun _ => fun
  | [d1, d2, d3] => { results := [.lit (.bool false)], args := [d1, d2, d3] }
  | _ => none }
def RegionEmptyWrongFalsely : Prop := regionEmptyRow.holds Try.pinned (OpenSpec.ofChange regionEmptyWrong)

/-- 'joustlaw09.RegionLeaves': WHATEVER THE INPUT: true; the input reads as it did. -/
def regionLeavesSpec : ChangeSpec := { name := "regionLeaves", fn := fun _ => fun
  | [d1, d2, d3, d4] => { results := [.lit (.bool true)], args := [d1, d2, d3, d4] }
  | _ => none }
def regionLeavesRow : OpenClaim := { program := "ytdlmgaiiheeigaa", sum := "8d1336e69f92c3b258e16f6a6c47ded229518021dff30e1a1422b7701c397eb1", func := "joust/joustlaw09.RegionLeaves", spec := "regionLeaves", inPlace := ["slices.overlaps[joust/api.Entity]"], unfollowed := true, recurses := true, apart := false }
def RegionLeavesSaid : Prop := regionLeavesRow.holds Try.pinned (OpenSpec.ofChange regionLeavesSpec)

/-- ITS FALSE NEIGHBOUR: 'it returns false'. Refute it at one input. -/
def regionLeavesWrong : ChangeSpec := { name := "regionLeaves", fn := fun _ => fun
  | [d1, d2, d3, d4] => { results := [.lit (.bool false)], args := [d1, d2, d3, d4] }
  | _ => none }
def RegionLeavesWrongFalsely : Prop := regionLeavesRow.holds Try.pinned (OpenSpec.ofChange regionLeavesWrong)

/- THE SECOND FORM. 'bulk': how many values and letters a reading holds, each counted each time it is reached (what is shared counts as often as it is met; a slice's spare places count too). A statement '..UptoSaid' is the law's where the arguments, and the package variables that the reading takes, are together of bulk at most 1048576: NARROWER than '..Said'. Prove '..Said' where nothing that the law and all that it calls make is longer than what came in: it says more and counts as full. Else prove '..UptoSaid'. A law counts once. -/
mutual
def uptoBulk {H : Type} : DataW H → Nat
  | .lit (.string bytes) => bytes.length + 1
  | .lit _ => 1
  | .nil => 1
  | .ptr d => uptoBulk d + 1
  | .slice elems spare => uptoBulkAll elems + uptoBulkAll spare + 1
  | .agg parts => uptoBulkAll parts + 1
  | .iface _ d => uptoBulk d + 1
  | .map entries => uptoBulkEntries entries + 1
  | .held _ => 1
def uptoBulkAll {H : Type} : List (DataW H) → Nat
  | [] => 0
  | d :: r => uptoBulk d + uptoBulkAll r
def uptoBulkEntries {H : Type} : List (Lit × DataW H) → Nat
  | [] => 0
  | x :: r => uptoBulkEntry x + uptoBulkEntries r
def uptoBulkEntry {H : Type} : Lit × DataW H → Nat
  | (.string bytes, d) => bytes.length + uptoBulk d + 1
  | (_, d) => uptoBulk d + 1
 end
def uptoSmall : (H : Type) → List (DataW H) → Bool := fun _ ds => decide (uptoBulkAll ds ≤ 1048576)
def OpenSpec.upto (s : _root_.Go.ChangeSpec) : _root_.Go.OpenSpec := { _root_.Go.OpenSpec.ofChange s with cond := some uptoSmall }

/-- 'joustlaw10.ArenaBegins', WHERE WHAT IT READS IS OF BULK AT MOST 1048576: true; the input reads as it did. -/
def arenaBeginsUptoRow : OpenClaim := { program := "ytdlmgaiiheeigaa", sum := "8d1336e69f92c3b258e16f6a6c47ded229518021dff30e1a1422b7701c397eb1", func := "joust/joustlaw10.ArenaBegins", spec := "arenaBegins", inPlace := ["slices.overlaps[joust/api.Entity]"], unfollowed := true, recurses := true, apart := false, narrowed := true }
def ArenaBeginsUptoSaid : Prop := arenaBeginsUptoRow.holds Try.pinned (OpenSpec.upto arenaBeginsSpec)

/-- 'joustlaw09.RegionRefuses', WHERE WHAT IT READS IS OF BULK AT MOST 1048576: true; the input reads as it did. -/
def regionRefusesUptoRow : OpenClaim := { program := "ytdlmgaiiheeigaa", sum := "8d1336e69f92c3b258e16f6a6c47ded229518021dff30e1a1422b7701c397eb1", func := "joust/joustlaw09.RegionRefuses", spec := "regionRefuses", inPlace := ["slices.overlaps[joust/api.Entity]"], unfollowed := true, recurses := true, apart := false, narrowed := true }
def RegionRefusesUptoSaid : Prop := regionRefusesUptoRow.holds Try.pinned (OpenSpec.upto regionRefusesSpec)

/-- 'joustlaw09.RegionEmpty', WHERE WHAT IT READS IS OF BULK AT MOST 1048576: true; the input reads as it did. -/
def regionEmptyUptoRow : OpenClaim := { program := "ytdlmgaiiheeigaa", sum := "8d1336e69f92c3b258e16f6a6c47ded229518021dff30e1a1422b7701c397eb1", func := "joust/joustlaw09.RegionEmpty", spec := "regionEmpty", inPlace := ["slices.overlaps[joust/api.Entity]"], unfollowed := true, recurses := true, apart := false, narrowed := true }
def RegionEmptyUptoSaid : Prop := regionEmptyUptoRow.holds Try.pinned (OpenSpec.upto regionEmptySpec)

/-- 'joustlaw09.RegionLeaves', WHERE WHAT IT READS IS OF BULK AT MOST 1048576: true; the input reads as it did. -/
def regionLeavesUptoRow : OpenClaim := { program := "ytdlmgaiiheeigaa", sum := "8d1336e69f92c3b258e16f6a6c47ded229518021dff30e1a1422b7701c397eb1", func := "joust/joustlaw09.RegionLeaves", spec := "regionLeaves", inPlace := ["slices.overlaps[joust/api.Entity]"], unfollowed := true, recurses := true, apart := false, narrowed := true }
def RegionLeavesUptoSaid : Prop := regionLeavesUptoRow.holds Try.pinned (OpenSpec.upto regionLeavesSpec)

end Rows
end Go.Proofs.Ytdlmgaiiheeigaa
