/-
  No cell of these rows narrows 'for every input' (looked for: loops, veiled, ifaces, maps, wideKeys, modest, calm, conditions, laid).
  DERIVED. THE GIVEN ROWS OF THIS SEAT. 8 by the template 'for every input the law returns true; each argument reads behind the call as it read before'; 0 by the template 'total and deterministic' (their statements: YtjkeffbjjepgdaaGreatTotals.lean).
  GIVEN WITH THE SEED: the statements are not yours to turn. If you find one false, say at which input.
  Laid BY PROGRAM, IN A SANDBOX (cutbox-rows.mjs): the forced cells as the released guide's own fill.sh prints them over the translation 330ae7c848a72f78… (all of the seat's roots in one cut). By AI agents, Wed Nov 11 2026. No macro, syntax, notation, axiom, sorry.
-/
import Derived.Test.YtjkeffbjjepgdaaGreatChecked
import GoSem.Claim
import GoSem.ClaimJoined
import GoSem.ClaimMapViews
import Derived.JoinedTies
import Derived.KernelRfl
namespace Go.Proofs.YtjkeffbjjepgdaaGreat
/- THE CELL 'sum', in the pinned program and in every row, IS THE sha256 OF THE DUMP (.gsa) THAT YtjkeffbjjepgdaaGreatProg.lean LOADS. Nothing in Lean hashes anything: it is a label: what it is worth is what the hold of that sum in a sandbox is worth. -/
noncomputable def Tryz.pinned : Pinned := { name := "ytjkeffbjjepgdaagreat", sum := "330ae7c848a72f7881651517e11bd048162843d885bce77da5a355c75de5a89b", checked := Tryz.checked }
namespace Rows
def none {H : Type} : Left H := { results := [], args := [] }

/-- 'joustlaw18.RollbackApart': WHATEVER THE INPUT: true; the input reads as it did. -/
def rollbackApartSpec : ChangeSpec := { name := "rollbackApart", fn := fun _ => fun
  | [d1, d2] => { results := [.lit (.bool true)], args := [d1, d2] }
  | _ => none }
def rollbackApartRow : OpenClaim := { program := "ytjkeffbjjepgdaagreat", sum := "330ae7c848a72f7881651517e11bd048162843d885bce77da5a355c75de5a89b", func := "joust/joustlaw18.RollbackApart", spec := "rollbackApart", inPlace := ["slices.overlaps[joust/api.Entity]"], unfollowed := true, recurses := true, apart := false }
def RollbackApartSaid : Prop := rollbackApartRow.holds Tryz.pinned (OpenSpec.ofChange rollbackApartSpec)

/-- ITS FALSE NEIGHBOUR: 'it returns false'. Refute it at one input. -/
def rollbackApartWrong : ChangeSpec := { name := "rollbackApart", fn := fun _ => fun
  | [d1, d2] => { results := [.lit (.bool false)], args := [d1, d2] }
  | _ => none }
def RollbackApartWrongFalsely : Prop := rollbackApartRow.holds Tryz.pinned (OpenSpec.ofChange rollbackApartWrong)

/-- 'joustlaw18.RollbackLate': WHATEVER THE INPUT: true; the input reads as it did. -/
def rollbackLateSpec : ChangeSpec := { name := "rollbackLate", fn := fun _ => fun
  | [d1, d2, d3, d4] => { results := [.lit (.bool true)], args := [d1, d2, d3, d4] }
  | _ => none }
def rollbackLateRow : OpenClaim := { program := "ytjkeffbjjepgdaagreat", sum := "330ae7c848a72f7881651517e11bd048162843d885bce77da5a355c75de5a89b", func := "joust/joustlaw18.RollbackLate", spec := "rollbackLate", inPlace := ["slices.overlaps[joust/api.Entity]"], unfollowed := true, recurses := true, apart := false }
def RollbackLateSaid : Prop := rollbackLateRow.holds Tryz.pinned (OpenSpec.ofChange rollbackLateSpec)

/-- ITS FALSE NEIGHBOUR: 'it returns false'. Refute it at one input. -/
def rollbackLateWrong : ChangeSpec := { name := "rollbackLate", fn := fun _ => fun
  | [d1, d2, d3, d4] => { results := [.lit (.bool false)], args := [d1, d2, d3, d4] }
  | _ => none }
def RollbackLateWrongFalsely : Prop := rollbackLateRow.holds Tryz.pinned (OpenSpec.ofChange rollbackLateWrong)

/-- 'joustlaw18.RollbackGuess': WHATEVER THE INPUT: true; the input reads as it did. -/
def rollbackGuessSpec : ChangeSpec := { name := "rollbackGuess", fn := fun _ => fun
  | [d1, d2, d3, d4] => { results := [.lit (.bool true)], args := [d1, d2, d3, d4] }
  | _ => none }
def rollbackGuessRow : OpenClaim := { program := "ytjkeffbjjepgdaagreat", sum := "330ae7c848a72f7881651517e11bd048162843d885bce77da5a355c75de5a89b", func := "joust/joustlaw18.RollbackGuess", spec := "rollbackGuess", inPlace := ["slices.overlaps[joust/api.Entity]"], unfollowed := true, recurses := true, apart := false }
def RollbackGuessSaid : Prop := rollbackGuessRow.holds Tryz.pinned (OpenSpec.ofChange rollbackGuessSpec)

/-- ITS FALSE NEIGHBOUR: 'it returns false'. Refute it at one input. -/
def rollbackGuessWrong : ChangeSpec := { name := "rollbackGuess", fn := fun _ => fun
  | [d1, d2, d3, d4] => { results := [.lit (.bool false)], args := [d1, d2, d3, d4] }
  | _ => none }
def RollbackGuessWrongFalsely : Prop := rollbackGuessRow.holds Tryz.pinned (OpenSpec.ofChange rollbackGuessWrong)

/-- 'joustlaw18.RollbackStill': WHATEVER THE INPUT: true; the input reads as it did. -/
def rollbackStillSpec : ChangeSpec := { name := "rollbackStill", fn := fun _ => fun
  | [d1, d2, d3] => { results := [.lit (.bool true)], args := [d1, d2, d3] }
  | _ => none }
def rollbackStillRow : OpenClaim := { program := "ytjkeffbjjepgdaagreat", sum := "330ae7c848a72f7881651517e11bd048162843d885bce77da5a355c75de5a89b", func := "joust/joustlaw18.RollbackStill", spec := "rollbackStill", inPlace := ["slices.overlaps[joust/api.Entity]"], unfollowed := true, recurses := true, apart := false }
def RollbackStillSaid : Prop := rollbackStillRow.holds Tryz.pinned (OpenSpec.ofChange rollbackStillSpec)

/-- ITS FALSE NEIGHBOUR: 'it returns false'. Refute it at one input. -/
def rollbackStillWrong : ChangeSpec := { name := "rollbackStill", fn := fun _ => fun
  | [d1, d2, d3] => { results := [.lit (.bool false)], args := [d1, d2, d3] }
  | _ => none }
def RollbackStillWrongFalsely : Prop := rollbackStillRow.holds Tryz.pinned (OpenSpec.ofChange rollbackStillWrong)

/-- 'joustlaw18.RollbackNever': WHATEVER THE INPUT: true; the input reads as it did. -/
def rollbackNeverSpec : ChangeSpec := { name := "rollbackNever", fn := fun _ => fun
  | [d1, d2, d3] => { results := [.lit (.bool true)], args := [d1, d2, d3] }
  | _ => none }
def rollbackNeverRow : OpenClaim := { program := "ytjkeffbjjepgdaagreat", sum := "330ae7c848a72f7881651517e11bd048162843d885bce77da5a355c75de5a89b", func := "joust/joustlaw18.RollbackNever", spec := "rollbackNever", inPlace := ["slices.overlaps[joust/api.Entity]"], unfollowed := true, recurses := true, apart := false }
def RollbackNeverSaid : Prop := rollbackNeverRow.holds Tryz.pinned (OpenSpec.ofChange rollbackNeverSpec)

/-- ITS FALSE NEIGHBOUR: 'it returns false'. Refute it at one input. -/
def rollbackNeverWrong : ChangeSpec := { name := "rollbackNever", fn := fun _ => fun
  | [d1, d2, d3] => { results := [.lit (.bool false)], args := [d1, d2, d3] }
  | _ => none }
def RollbackNeverWrongFalsely : Prop := rollbackNeverRow.holds Tryz.pinned (OpenSpec.ofChange rollbackNeverWrong)

/-- 'joustlaw18.RollbackTrue': WHATEVER THE INPUT: true; the input reads as it did. -/
def rollbackTrueSpec : ChangeSpec := { name := "rollbackTrue", fn := fun _ => fun
  | [d1, d2, d3] => { results := [.lit (.bool true)], args := [d1, d2, d3] }
  | _ => none }
def rollbackTrueRow : OpenClaim := { program := "ytjkeffbjjepgdaagreat", sum := "330ae7c848a72f7881651517e11bd048162843d885bce77da5a355c75de5a89b", func := "joust/joustlaw18.RollbackTrue", spec := "rollbackTrue", inPlace := ["slices.overlaps[joust/api.Entity]"], unfollowed := true, recurses := true, apart := false }
def RollbackTrueSaid : Prop := rollbackTrueRow.holds Tryz.pinned (OpenSpec.ofChange rollbackTrueSpec)

/-- ITS FALSE NEIGHBOUR: 'it returns false'. Refute it at one input. -/
def rollbackTrueWrong : ChangeSpec := { name := "rollbackTrue", fn := fun _ => fun
  | [d1, d2, d3] => { results := [.lit (.bool false)], args := [d1, d2, d3] }
  | _ => none }
def RollbackTrueWrongFalsely : Prop := rollbackTrueRow.holds Tryz.pinned (OpenSpec.ofChange rollbackTrueWrong)

/-- 'joustlaw18.RollbackRefuses': WHATEVER THE INPUT: true; the input reads as it did. -/
def rollbackRefusesSpec : ChangeSpec := { name := "rollbackRefuses", fn := fun _ => fun
  | [d1, d2, d3] => { results := [.lit (.bool true)], args := [d1, d2, d3] }
  | _ => none }
def rollbackRefusesRow : OpenClaim := { program := "ytjkeffbjjepgdaagreat", sum := "330ae7c848a72f7881651517e11bd048162843d885bce77da5a355c75de5a89b", func := "joust/joustlaw18.RollbackRefuses", spec := "rollbackRefuses", inPlace := ["slices.overlaps[joust/api.Entity]", "maps.clone"], unfollowed := true, recurses := true, apart := false }
def RollbackRefusesSaid : Prop := rollbackRefusesRow.holds Tryz.pinned (OpenSpec.ofChange rollbackRefusesSpec)

/-- ITS FALSE NEIGHBOUR: 'it returns false'. Refute it at one input. -/
def rollbackRefusesWrong : ChangeSpec := { name := "rollbackRefuses", fn := fun _ => fun
  | [d1, d2, d3] => { results := [.lit (.bool false)], args := [d1, d2, d3] }
  | _ => none }
def RollbackRefusesWrongFalsely : Prop := rollbackRefusesRow.holds Tryz.pinned (OpenSpec.ofChange rollbackRefusesWrong)

/-- 'joustlaw18.RollbackPlays': WHATEVER THE INPUT: true; the input reads as it did. -/
def rollbackPlaysSpec : ChangeSpec := { name := "rollbackPlays", fn := fun _ => fun
  | [d1, d2, d3] => { results := [.lit (.bool true)], args := [d1, d2, d3] }
  | _ => none }
def rollbackPlaysRow : OpenClaim := { program := "ytjkeffbjjepgdaagreat", sum := "330ae7c848a72f7881651517e11bd048162843d885bce77da5a355c75de5a89b", func := "joust/joustlaw18.RollbackPlays", spec := "rollbackPlays", inPlace := ["slices.overlaps[joust/api.Entity]", "maps.clone"], unfollowed := true, recurses := true, apart := false }
def RollbackPlaysSaid : Prop := rollbackPlaysRow.holds Tryz.pinned (OpenSpec.ofChange rollbackPlaysSpec)

/-- ITS FALSE NEIGHBOUR: 'it returns false'. Refute it at one input. -/
def rollbackPlaysWrong : ChangeSpec := { name := "rollbackPlays", fn := fun _ => fun
  | [d1, d2, d3] => { results := [.lit (.bool false)], args := [d1, d2, d3] }
  | _ => none }
def RollbackPlaysWrongFalsely : Prop := rollbackPlaysRow.holds Tryz.pinned (OpenSpec.ofChange rollbackPlaysWrong)

/- THE SECOND FORM. 'bulk': how many values and letters a reading holds, each counted each time it is reached (what is shared counts as often as it is met; a slice's spare places count too). A statement '..UptoSaid' is the law's where the arguments, and the package variables that the reading takes, are together of bulk at most 1048576: NARROWER than '..Said'. Prove '..Said' where nothing that the law and all that it calls make is longer than what came in: it says more and counts as full. Else prove '..UptoSaid'. A law counts once. -/
mutual
def uptoBulk {H : Type} : DataW H → Nat
  | .lit (.string bytes) => bytes.length + 1
  | .lit _ => 1
  | .nil => 1
  | .ptr d => uptoBulk d + 1
  | .slice elems spare => uptoBulkAll elems + uptoBulkAll spare + 1
  | .agg parts => uptoBulkAll parts + 1
  | .iface _ d => uptoBulk d + 1
  | .map entries => uptoBulkEntries entries + 1
  | .held _ => 1
def uptoBulkAll {H : Type} : List (DataW H) → Nat
  | [] => 0
  | d :: r => uptoBulk d + uptoBulkAll r
def uptoBulkEntries {H : Type} : List (Lit × DataW H) → Nat
  | [] => 0
  | x :: r => uptoBulkEntry x + uptoBulkEntries r
def uptoBulkEntry {H : Type} : Lit × DataW H → Nat
  | (.string bytes, d) => bytes.length + uptoBulk d + 1
  | (_, d) => uptoBulk d + 1
 end
def uptoSmall : (H : Type) → List (DataW H) → Bool := fun _ ds => decide (uptoBulkAll ds ≤ 1048576)
def OpenSpec.upto (s : _root_.Go.ChangeSpec) : _root_.Go.OpenSpec := { _root_.Go.OpenSpec.ofChange s with cond := some uptoSmall }

/-- 'joustlaw18.RollbackApart', WHERE WHAT IT READS IS OF BULK AT MOST 1048576: true; the input reads as it did. -/
def rollbackApartUptoRow : OpenClaim := { program := "ytjkeffbjjepgdaagreat", sum := "330ae7c848a72f7881651517e11bd048162843d885bce77da5a355c75de5a89b", func := "joust/joustlaw18.RollbackApart", spec := "rollbackApart", inPlace := ["slices.overlaps[joust/api.Entity]"], unfollowed := true, recurses := true, apart := false, narrowed := true }
def RollbackApartUptoSaid : Prop := rollbackApartUptoRow.holds Tryz.pinned (OpenSpec.upto rollbackApartSpec)

/-- 'joustlaw18.RollbackLate', WHERE WHAT IT READS IS OF BULK AT MOST 1048576: true; the input reads as it did. -/
def rollbackLateUptoRow : OpenClaim := { program := "ytjkeffbjjepgdaagreat", sum := "330ae7c848a72f7881651517e11bd048162843d885bce77da5a355c75de5a89b", func := "joust/joustlaw18.RollbackLate", spec := "rollbackLate", inPlace := ["slices.overlaps[joust/api.Entity]"], unfollowed := true, recurses := true, apart := false, narrowed := true }
def RollbackLateUptoSaid : Prop := rollbackLateUptoRow.holds Tryz.pinned (OpenSpec.upto rollbackLateSpec)

/-- 'joustlaw18.RollbackGuess', WHERE WHAT IT READS IS OF BULK AT MOST 1048576: true; the input reads as it did. -/
def rollbackGuessUptoRow : OpenClaim := { program := "ytjkeffbjjepgdaagreat", sum := "330ae7c848a72f7881651517e11bd048162843d885bce77da5a355c75de5a89b", func := "joust/joustlaw18.RollbackGuess", spec := "rollbackGuess", inPlace := ["slices.overlaps[joust/api.Entity]"], unfollowed := true, recurses := true, apart := false, narrowed := true }
def RollbackGuessUptoSaid : Prop := rollbackGuessUptoRow.holds Tryz.pinned (OpenSpec.upto rollbackGuessSpec)

/-- 'joustlaw18.RollbackStill', WHERE WHAT IT READS IS OF BULK AT MOST 1048576: true; the input reads as it did. -/
def rollbackStillUptoRow : OpenClaim := { program := "ytjkeffbjjepgdaagreat", sum := "330ae7c848a72f7881651517e11bd048162843d885bce77da5a355c75de5a89b", func := "joust/joustlaw18.RollbackStill", spec := "rollbackStill", inPlace := ["slices.overlaps[joust/api.Entity]"], unfollowed := true, recurses := true, apart := false, narrowed := true }
def RollbackStillUptoSaid : Prop := rollbackStillUptoRow.holds Tryz.pinned (OpenSpec.upto rollbackStillSpec)

/-- 'joustlaw18.RollbackNever', WHERE WHAT IT READS IS OF BULK AT MOST 1048576: true; the input reads as it did. -/
def rollbackNeverUptoRow : OpenClaim := { program := "ytjkeffbjjepgdaagreat", sum := "330ae7c848a72f7881651517e11bd048162843d885bce77da5a355c75de5a89b", func := "joust/joustlaw18.RollbackNever", spec := "rollbackNever", inPlace := ["slices.overlaps[joust/api.Entity]"], unfollowed := true, recurses := true, apart := false, narrowed := true }
def RollbackNeverUptoSaid : Prop := rollbackNeverUptoRow.holds Tryz.pinned (OpenSpec.upto rollbackNeverSpec)

/-- 'joustlaw18.RollbackTrue', WHERE WHAT IT READS IS OF BULK AT MOST 1048576: true; the input reads as it did. -/
def rollbackTrueUptoRow : OpenClaim := { program := "ytjkeffbjjepgdaagreat", sum := "330ae7c848a72f7881651517e11bd048162843d885bce77da5a355c75de5a89b", func := "joust/joustlaw18.RollbackTrue", spec := "rollbackTrue", inPlace := ["slices.overlaps[joust/api.Entity]"], unfollowed := true, recurses := true, apart := false, narrowed := true }
def RollbackTrueUptoSaid : Prop := rollbackTrueUptoRow.holds Tryz.pinned (OpenSpec.upto rollbackTrueSpec)

/-- 'joustlaw18.RollbackRefuses', WHERE WHAT IT READS IS OF BULK AT MOST 1048576: true; the input reads as it did. -/
def rollbackRefusesUptoRow : OpenClaim := { program := "ytjkeffbjjepgdaagreat", sum := "330ae7c848a72f7881651517e11bd048162843d885bce77da5a355c75de5a89b", func := "joust/joustlaw18.RollbackRefuses", spec := "rollbackRefuses", inPlace := ["slices.overlaps[joust/api.Entity]", "maps.clone"], unfollowed := true, recurses := true, apart := false, narrowed := true }
def RollbackRefusesUptoSaid : Prop := rollbackRefusesUptoRow.holds Tryz.pinned (OpenSpec.upto rollbackRefusesSpec)

/-- 'joustlaw18.RollbackPlays', WHERE WHAT IT READS IS OF BULK AT MOST 1048576: true; the input reads as it did. -/
def rollbackPlaysUptoRow : OpenClaim := { program := "ytjkeffbjjepgdaagreat", sum := "330ae7c848a72f7881651517e11bd048162843d885bce77da5a355c75de5a89b", func := "joust/joustlaw18.RollbackPlays", spec := "rollbackPlays", inPlace := ["slices.overlaps[joust/api.Entity]", "maps.clone"], unfollowed := true, recurses := true, apart := false, narrowed := true }
def RollbackPlaysUptoSaid : Prop := rollbackPlaysUptoRow.holds Tryz.pinned (OpenSpec.upto rollbackPlaysSpec)

end Rows
end Go.Proofs.YtjkeffbjjepgdaaGreat
