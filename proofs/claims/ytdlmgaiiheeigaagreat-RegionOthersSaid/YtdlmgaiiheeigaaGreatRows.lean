/-
  No cell of these rows narrows 'for every input' (looked for: loops, veiled, ifaces, maps, wideKeys, modest, calm, conditions, laid).
  DERIVED. THE GIVEN ROWS OF THIS SEAT. 13 by the template 'for every input the law returns true; each argument reads behind the call as it read before'; 0 by the template 'total and deterministic' (their statements: YtdlmgaiiheeigaaGreatTotals.lean).
  GIVEN WITH THE SEED: the statements are not yours to turn. If you find one false, say at which input.
  Laid BY PROGRAM, IN A SANDBOX (cutbox-rows.mjs): the forced cells as the released guide's own fill.sh prints them over the translation 955d1829137c3a44… (all of the seat's roots in one cut). By AI agents, Wed Nov 11 2026. No macro, syntax, notation, axiom, sorry.
-/
import Derived.Test.YtdlmgaiiheeigaaGreatChecked
import GoSem.Claim
import GoSem.ClaimJoined
import GoSem.ClaimMapViews
import Derived.JoinedTies
import Derived.KernelRfl
namespace Go.Proofs.YtdlmgaiiheeigaaGreat
/- THE CELL 'sum', in the pinned program and in every row, IS THE sha256 OF THE DUMP (.gsa) THAT YtdlmgaiiheeigaaGreatProg.lean LOADS. Nothing in Lean hashes anything: it is a label: what it is worth is what the hold of that sum in a sandbox is worth. -/
noncomputable def Tryz.pinned : Pinned := { name := "ytdlmgaiiheeigaagreat", sum := "955d1829137c3a444bee81cd779358b607fde5fd18324b8cd480bae9b9c7ff3a", checked := Tryz.checked }
namespace Rows
def none {H : Type} : Left H := { results := [], args := [] }

/-- 'joustlaw09.RegionRight': WHATEVER THE INPUT: true; the input reads as it did. -/
def regionRightSpec : ChangeSpec := { name := "regionRight", fn := fun _ => fun
  | [d1, d2, d3, d4, d5, d6] => { results := [.lit (.bool true)], args := [d1, d2, d3, d4, d5, d6] }
  | _ => none }
def regionRightRow : OpenClaim := { program := "ytdlmgaiiheeigaagreat", sum := "955d1829137c3a444bee81cd779358b607fde5fd18324b8cd480bae9b9c7ff3a", func := "joust/joustlaw09.RegionRight", spec := "regionRight", inPlace := ["slices.overlaps[joust/api.Entity]"], unfollowed := true, recurses := true, apart := false }
def RegionRightSaid : Prop := regionRightRow.holds Tryz.pinned (OpenSpec.ofChange regionRightSpec)

/-- ITS FALSE NEIGHBOUR: 'it returns false'. Refute it at one input. -/
def regionRightWrong : ChangeSpec := { name := "regionRight", fn := fun _ => fun
  | [d1, d2, d3, d4, d5, d6] => { results := [.lit (.bool false)], args := [d1, d2, d3, d4, d5, d6] }
  | _ => none }
def RegionRightWrongFalsely : Prop := regionRightRow.holds Tryz.pinned (OpenSpec.ofChange regionRightWrong)

/-- 'joustlaw09.RegionBlasts': WHATEVER THE INPUT: true; the input reads as it did. -/
def regionBlastsSpec : ChangeSpec := { name := "regionBlasts", fn := fun _ => fun
  | [d1, d2, d3, d4, d5, d6] => { results := [.lit (.bool true)], args := [d1, d2, d3, d4, d5, d6] }
  | _ => none }
def regionBlastsRow : OpenClaim := { program := "ytdlmgaiiheeigaagreat", sum := "955d1829137c3a444bee81cd779358b607fde5fd18324b8cd480bae9b9c7ff3a", func := "joust/joustlaw09.RegionBlasts", spec := "regionBlasts", inPlace := ["slices.overlaps[joust/api.Entity]"], unfollowed := true, recurses := true, apart := false }
def RegionBlastsSaid : Prop := regionBlastsRow.holds Tryz.pinned (OpenSpec.ofChange regionBlastsSpec)

/-- ITS FALSE NEIGHBOUR: 'it returns false'. Refute it at one input. -/
def regionBlastsWrong : ChangeSpec := { name := "regionBlasts", fn := fun _ => fun
  | [d1, d2, d3, d4, d5, d6] => { results := [.lit (.bool false)], args := [d1, d2, d3, d4, d5, d6] }
  | _ => none }
def RegionBlastsWrongFalsely : Prop := regionBlastsRow.holds Tryz.pinned (OpenSpec.ofChange regionBlastsWrong)

/-- 'joustlaw09.RegionKeeps': WHATEVER THE INPUT: true; the input reads as it did. -/
def regionKeepsSpec : ChangeSpec := { name := "regionKeeps", fn := fun _ => fun
  | [d1, d2, d3, d4, d5, d6] => { results := [.lit (.bool true)], args := [d1, d2, d3, d4, d5, d6] }
  | _ => none }
def regionKeepsRow : OpenClaim := { program := "ytdlmgaiiheeigaagreat", sum := "955d1829137c3a444bee81cd779358b607fde5fd18324b8cd480bae9b9c7ff3a", func := "joust/joustlaw09.RegionKeeps", spec := "regionKeeps", inPlace := ["slices.overlaps[joust/api.Entity]"], unfollowed := true, recurses := true, apart := false }
def RegionKeepsSaid : Prop := regionKeepsRow.holds Tryz.pinned (OpenSpec.ofChange regionKeepsSpec)

/-- ITS FALSE NEIGHBOUR: 'it returns false'. Refute it at one input. -/
def regionKeepsWrong : ChangeSpec := { name := "regionKeeps", fn := fun _ => fun
  | [d1, d2, d3, d4, d5, d6] => { results := [.lit (.bool false)], args := [d1, d2, d3, d4, d5, d6] }
  | _ => none }
def RegionKeepsWrongFalsely : Prop := regionKeepsRow.holds Tryz.pinned (OpenSpec.ofChange regionKeepsWrong)

/-- 'joustlaw09.RegionOthers': WHATEVER THE INPUT: true; the input reads as it did. -/
def regionOthersSpec : ChangeSpec := { name := "regionOthers", fn := fun _ => fun
  | [d1, d2, d3, d4, d5, d6] => { results := [.lit (.bool true)], args := [d1, d2, d3, d4, d5, d6] }
  | _ => none }
def regionOthersRow : OpenClaim := { program := "ytdlmgaiiheeigaagreat", sum := "955d1829137c3a444bee81cd779358b607fde5fd18324b8cd480bae9b9c7ff3a", func := "joust/joustlaw09.RegionOthers", spec := "regionOthers", inPlace := ["slices.overlaps[joust/api.Entity]"], unfollowed := true, recurses := true, apart := false }
def RegionOthersSaid : Prop := regionOthersRow.holds Tryz.pinned (OpenSpec.ofChange regionOthersSpec)

/-- ITS FALSE NEIGHBOUR: 'it returns false'. Refute it at one input. -/
def regionOthersWrong : ChangeSpec := { name := "regionOthers", fn := fun _ => fun
  | [d1, d2, d3, d4, d5, d6] => { results := [.lit (.bool false)], args := [d1, d2, d3, d4, d5, d6] }
  | _ => none }
def RegionOthersWrongFalsely : Prop := regionOthersRow.holds Tryz.pinned (OpenSpec.ofChange regionOthersWrong)

/-- 'joustlaw10.ArenaSteps': WHATEVER THE INPUT: true; the input reads as it did. -/
def arenaStepsSpec : ChangeSpec := { name := "arenaSteps", fn := fun _ => fun
  | [d1, d2, d3, d4] => { results := [.lit (.bool true)], args := [d1, d2, d3, d4] }
  | _ => none }
def arenaStepsRow : OpenClaim := { program := "ytdlmgaiiheeigaagreat", sum := "955d1829137c3a444bee81cd779358b607fde5fd18324b8cd480bae9b9c7ff3a", func := "joust/joustlaw10.ArenaSteps", spec := "arenaSteps", inPlace := ["slices.overlaps[joust/api.Entity]"], unfollowed := true, recurses := true, apart := false }
def ArenaStepsSaid : Prop := arenaStepsRow.holds Tryz.pinned (OpenSpec.ofChange arenaStepsSpec)

/-- ITS FALSE NEIGHBOUR: 'it returns false'. Refute it at one input. -/
def arenaStepsWrong : ChangeSpec := { name := "arenaSteps", fn := fun _ => fun
  | [d1, d2, d3, d4] => { results := [.lit (.bool false)], args := [d1, d2, d3, d4] }
  | _ => none }
def ArenaStepsWrongFalsely : Prop := arenaStepsRow.holds Tryz.pinned (OpenSpec.ofChange arenaStepsWrong)

/-- 'joustlaw10.ArenaSplits': WHATEVER THE INPUT: true; the input reads as it did. -/
def arenaSplitsSpec : ChangeSpec := { name := "arenaSplits", fn := fun _ => fun
  | [d1, d2] => { results := [.lit (.bool true)], args := [d1, d2] }
  | _ => none }
def arenaSplitsRow : OpenClaim := { program := "ytdlmgaiiheeigaagreat", sum := "955d1829137c3a444bee81cd779358b607fde5fd18324b8cd480bae9b9c7ff3a", func := "joust/joustlaw10.ArenaSplits", spec := "arenaSplits", inPlace := ["slices.overlaps[joust/api.Entity]"], unfollowed := true, recurses := true, apart := false }
def ArenaSplitsSaid : Prop := arenaSplitsRow.holds Tryz.pinned (OpenSpec.ofChange arenaSplitsSpec)

/-- ITS FALSE NEIGHBOUR: 'it returns false'. Refute it at one input. -/
def arenaSplitsWrong : ChangeSpec := { name := "arenaSplits", fn := fun _ => fun
  | [d1, d2] => { results := [.lit (.bool false)], args := [d1, d2] }
  | _ => none }
def ArenaSplitsWrongFalsely : Prop := arenaSplitsRow.holds Tryz.pinned (OpenSpec.ofChange arenaSplitsWrong)

/-- 'joustlaw10.ArenaRuns': WHATEVER THE INPUT: true; the input reads as it did. -/
def arenaRunsSpec : ChangeSpec := { name := "arenaRuns", fn := fun _ => fun
  | [d1, d2, d3, d4] => { results := [.lit (.bool true)], args := [d1, d2, d3, d4] }
  | _ => none }
def arenaRunsRow : OpenClaim := { program := "ytdlmgaiiheeigaagreat", sum := "955d1829137c3a444bee81cd779358b607fde5fd18324b8cd480bae9b9c7ff3a", func := "joust/joustlaw10.ArenaRuns", spec := "arenaRuns", inPlace := ["slices.overlaps[joust/api.Entity]"], unfollowed := true, recurses := true, apart := false }
def ArenaRunsSaid : Prop := arenaRunsRow.holds Tryz.pinned (OpenSpec.ofChange arenaRunsSpec)

/-- ITS FALSE NEIGHBOUR: 'it returns false'. Refute it at one input. -/
def arenaRunsWrong : ChangeSpec := { name := "arenaRuns", fn := fun _ => fun
  | [d1, d2, d3, d4] => { results := [.lit (.bool false)], args := [d1, d2, d3, d4] }
  | _ => none }
def ArenaRunsWrongFalsely : Prop := arenaRunsRow.holds Tryz.pinned (OpenSpec.ofChange arenaRunsWrong)

/-- 'joustlaw10.ArenaPlayers': WHATEVER THE INPUT: true; the input reads as it did. -/
def arenaPlayersSpec : ChangeSpec := { name := "arenaPlayers", fn := fun _ => fun
  | [d1, d2] => { results := [.lit (.bool true)], args := [d1, d2] }
  | _ => none }
def arenaPlayersRow : OpenClaim := { program := "ytdlmgaiiheeigaagreat", sum := "955d1829137c3a444bee81cd779358b607fde5fd18324b8cd480bae9b9c7ff3a", func := "joust/joustlaw10.ArenaPlayers", spec := "arenaPlayers", inPlace := ["slices.overlaps[joust/api.Entity]"], unfollowed := true, recurses := true, apart := false }
def ArenaPlayersSaid : Prop := arenaPlayersRow.holds Tryz.pinned (OpenSpec.ofChange arenaPlayersSpec)

/-- ITS FALSE NEIGHBOUR: 'it returns false'. Refute it at one input. -/
def arenaPlayersWrong : ChangeSpec := { name := "arenaPlayers", fn := fun _ => fun
  | [d1, d2] => { results := [.lit (.bool false)], args := [d1, d2] }
  | _ => none }
def ArenaPlayersWrongFalsely : Prop := arenaPlayersRow.holds Tryz.pinned (OpenSpec.ofChange arenaPlayersWrong)

/-- 'joustlaw10.ArenaPrefix': WHATEVER THE INPUT: true; the input reads as it did. -/
def arenaPrefixSpec : ChangeSpec := { name := "arenaPrefix", fn := fun _ => fun
  | [d1, d2, d3] => { results := [.lit (.bool true)], args := [d1, d2, d3] }
  | _ => none }
def arenaPrefixRow : OpenClaim := { program := "ytdlmgaiiheeigaagreat", sum := "955d1829137c3a444bee81cd779358b607fde5fd18324b8cd480bae9b9c7ff3a", func := "joust/joustlaw10.ArenaPrefix", spec := "arenaPrefix", inPlace := ["slices.overlaps[joust/api.Entity]"], unfollowed := true, recurses := true, apart := false }
def ArenaPrefixSaid : Prop := arenaPrefixRow.holds Tryz.pinned (OpenSpec.ofChange arenaPrefixSpec)

/-- ITS FALSE NEIGHBOUR: 'it returns false'. Refute it at one input. -/
def arenaPrefixWrong : ChangeSpec := { name := "arenaPrefix", fn := fun _ => fun
  | [d1, d2, d3] => { results := [.lit (.bool false)], args := [d1, d2, d3] }
  | _ => none }
def ArenaPrefixWrongFalsely : Prop := arenaPrefixRow.holds Tryz.pinned (OpenSpec.ofChange arenaPrefixWrong)

/-- 'joustlaw26.GhostTells': WHATEVER THE INPUT: true; the input reads as it did. -/
def ghostTellsSpec : ChangeSpec := { name := "ghostTells", fn := fun _ => fun
  | [d1, d2, d3, d4, d5, d6] => { results := [.lit (.bool true)], args := [d1, d2, d3, d4, d5, d6] }
  | _ => none }
def ghostTellsRow : OpenClaim := { program := "ytdlmgaiiheeigaagreat", sum := "955d1829137c3a444bee81cd779358b607fde5fd18324b8cd480bae9b9c7ff3a", func := "joust/joustlaw26.GhostTells", spec := "ghostTells", inPlace := ["slices.overlaps[joust/api.Entity]"], unfollowed := true, recurses := true, apart := false }
def GhostTellsSaid : Prop := ghostTellsRow.holds Tryz.pinned (OpenSpec.ofChange ghostTellsSpec)

/-- ITS FALSE NEIGHBOUR: 'it returns false'. Refute it at one input. -/
def ghostTellsWrong : ChangeSpec := { name := "ghostTells", fn := fun _ => fun
  | [d1, d2, d3, d4, d5, d6] => { results := [.lit (.bool false)], args := [d1, d2, d3, d4, d5, d6] }
  | _ => none }
def GhostTellsWrongFalsely : Prop := ghostTellsRow.holds Tryz.pinned (OpenSpec.ofChange ghostTellsWrong)

/-- 'joustlaw26.GhostPrefix': WHATEVER THE INPUT: true; the input reads as it did. -/
def ghostPrefixSpec : ChangeSpec := { name := "ghostPrefix", fn := fun _ => fun
  | [d1, d2, d3, d4, d5] => { results := [.lit (.bool true)], args := [d1, d2, d3, d4, d5] }
  | _ => none }
def ghostPrefixRow : OpenClaim := { program := "ytdlmgaiiheeigaagreat", sum := "955d1829137c3a444bee81cd779358b607fde5fd18324b8cd480bae9b9c7ff3a", func := "joust/joustlaw26.GhostPrefix", spec := "ghostPrefix", inPlace := ["slices.overlaps[joust/api.Entity]"], unfollowed := true, recurses := true, apart := false }
def GhostPrefixSaid : Prop := ghostPrefixRow.holds Tryz.pinned (OpenSpec.ofChange ghostPrefixSpec)

/-- ITS FALSE NEIGHBOUR: 'it returns false'. Refute it at one input. -/
def ghostPrefixWrong : ChangeSpec := { name := "ghostPrefix", fn := fun _ => fun
  | [d1, d2, d3, d4, d5] => { results := [.lit (.bool false)], args := [d1, d2, d3, d4, d5] }
  | _ => none }
def GhostPrefixWrongFalsely : Prop := ghostPrefixRow.holds Tryz.pinned (OpenSpec.ofChange ghostPrefixWrong)

/-- 'joustlaw26.GhostRefuses': WHATEVER THE INPUT: true; the input reads as it did. -/
def ghostRefusesSpec : ChangeSpec := { name := "ghostRefuses", fn := fun _ => fun
  | [d1, d2] => { results := [.lit (.bool true)], args := [d1, d2] }
  | _ => none }
def ghostRefusesRow : OpenClaim := { program := "ytdlmgaiiheeigaagreat", sum := "955d1829137c3a444bee81cd779358b607fde5fd18324b8cd480bae9b9c7ff3a", func := "joust/joustlaw26.GhostRefuses", spec := "ghostRefuses", inPlace := ["slices.overlaps[joust/api.Entity]"], unfollowed := true, recurses := true, apart := false }
def GhostRefusesSaid : Prop := ghostRefusesRow.holds Tryz.pinned (OpenSpec.ofChange ghostRefusesSpec)

/-- ITS FALSE NEIGHBOUR: 'it returns false'. Refute it at one input. -/
def ghostRefusesWrong : ChangeSpec := { name := "ghostRefuses", fn := fun _ => fun
  | [d1, d2] => { results := [.lit (.bool false)], args := [d1, d2] }
  | _ => none }
def GhostRefusesWrongFalsely : Prop := ghostRefusesRow.holds Tryz.pinned (OpenSpec.ofChange ghostRefusesWrong)

/-- 'joustlaw26.GhostSplit': WHATEVER THE INPUT: true; the input reads as it did. -/
def ghostSplitSpec : ChangeSpec := { name := "ghostSplit", fn := fun _ => fun
  | [d1, d2, d3] => { results := [.lit (.bool true)], args := [d1, d2, d3] }
  | _ => none }
def ghostSplitRow : OpenClaim := { program := "ytdlmgaiiheeigaagreat", sum := "955d1829137c3a444bee81cd779358b607fde5fd18324b8cd480bae9b9c7ff3a", func := "joust/joustlaw26.GhostSplit", spec := "ghostSplit", inPlace := ["slices.overlaps[joust/api.Entity]"], unfollowed := true, recurses := true, apart := false }
def GhostSplitSaid : Prop := ghostSplitRow.holds Tryz.pinned (OpenSpec.ofChange ghostSplitSpec)

/-- ITS FALSE NEIGHBOUR: 'it returns false'. Refute it at one input. -/
def ghostSplitWrong : ChangeSpec := { name := "ghostSplit", fn := fun _ => fun
  | [d1, d2, d3] => { results := [.lit (.bool false)], args := [d1, d2, d3] }
  | _ => none }
def GhostSplitWrongFalsely : Prop := ghostSplitRow.holds Tryz.pinned (OpenSpec.ofChange ghostSplitWrong)

/- THE SECOND FORM. 'bulk': how many values and letters a reading holds, each counted each time it is reached (what is shared counts as often as it is met; a slice's spare places count too). A statement '..UptoSaid' is the law's where the arguments, and the package variables that the reading takes, are together of bulk at most 1048576: NARROWER than '..Said'. Prove '..Said' where nothing that the law and all that it calls make is longer than what came in: it says more and counts as full. Else prove '..UptoSaid'. A law counts once. -/
mutual
def uptoBulk {H : Type} : DataW H → Nat
  | .lit (.string bytes) => bytes.length + 1
  | .lit _ => 1
  | .nil => 1
  | .ptr d => uptoBulk d + 1
  | .slice elems spare => uptoBulkAll elems + uptoBulkAll spare + 1
  | .agg parts => uptoBulkAll parts + 1
  | .iface _ d => uptoBulk d + 1
  | .map entries => uptoBulkEntries entries + 1
  | .held _ => 1
def uptoBulkAll {H : Type} : List (DataW H) → Nat
  | [] => 0
  | d :: r => uptoBulk d + uptoBulkAll r
def uptoBulkEntries {H : Type} : List (Lit × DataW H) → Nat
  | [] => 0
  | x :: r => uptoBulkEntry x + uptoBulkEntries r
def uptoBulkEntry {H : Type} : Lit × DataW H → Nat
  | (.string bytes, d) => bytes.length + uptoBulk d + 1
  | (_, d) => uptoBulk d + 1
 end
def uptoSmall : (H : Type) → List (DataW H) → Bool := fun _ ds => decide (uptoBulkAll ds ≤ 1048576)
def OpenSpec.upto (s : _root_.Go.ChangeSpec) : _root_.Go.OpenSpec := { _root_.Go.OpenSpec.ofChange s with cond := some uptoSmall }

/-- 'joustlaw09.RegionRight', WHERE WHAT IT READS IS OF BULK AT MOST 1048576: true; the input reads as it did. -/
def regionRightUptoRow : OpenClaim := { program := "ytdlmgaiiheeigaagreat", sum := "955d1829137c3a444bee81cd779358b607fde5fd18324b8cd480bae9b9c7ff3a", func := "joust/joustlaw09.RegionRight", spec := "regionRight", inPlace := ["slices.overlaps[joust/api.Entity]"], unfollowed := true, recurses := true, apart := false, narrowed := true }
def RegionRightUptoSaid : Prop := regionRightUptoRow.holds Tryz.pinned (OpenSpec.upto regionRightSpec)

/-- 'joustlaw09.RegionBlasts', WHERE WHAT IT READS IS OF BULK AT MOST 1048576: true; the input reads as it did. -/
def regionBlastsUptoRow : OpenClaim := { program := "ytdlmgaiiheeigaagreat", sum := "955d1829137c3a444bee81cd779358b607fde5fd18324b8cd480bae9b9c7ff3a", func := "joust/joustlaw09.RegionBlasts", spec := "regionBlasts", inPlace := ["slices.overlaps[joust/api.Entity]"], unfollowed := true, recurses := true, apart := false, narrowed := true }
def RegionBlastsUptoSaid : Prop := regionBlastsUptoRow.holds Tryz.pinned (OpenSpec.upto regionBlastsSpec)

/-- 'joustlaw09.RegionKeeps', WHERE WHAT IT READS IS OF BULK AT MOST 1048576: true; the input reads as it did. -/
def regionKeepsUptoRow : OpenClaim := { program := "ytdlmgaiiheeigaagreat", sum := "955d1829137c3a444bee81cd779358b607fde5fd18324b8cd480bae9b9c7ff3a", func := "joust/joustlaw09.RegionKeeps", spec := "regionKeeps", inPlace := ["slices.overlaps[joust/api.Entity]"], unfollowed := true, recurses := true, apart := false, narrowed := true }
def RegionKeepsUptoSaid : Prop := regionKeepsUptoRow.holds Tryz.pinned (OpenSpec.upto regionKeepsSpec)

/-- 'joustlaw09.RegionOthers', WHERE WHAT IT READS IS OF BULK AT MOST 1048576: true; the input reads as it did. -/
def regionOthersUptoRow : OpenClaim := { program := "ytdlmgaiiheeigaagreat", sum := "955d1829137c3a444bee81cd779358b607fde5fd18324b8cd480bae9b9c7ff3a", func := "joust/joustlaw09.RegionOthers", spec := "regionOthers", inPlace := ["slices.overlaps[joust/api.Entity]"], unfollowed := true, recurses := true, apart := false, narrowed := true }
def RegionOthersUptoSaid : Prop := regionOthersUptoRow.holds Tryz.pinned (OpenSpec.upto regionOthersSpec)

/-- 'joustlaw10.ArenaSteps', WHERE WHAT IT READS IS OF BULK AT MOST 1048576: true; the input reads as it did. -/
def arenaStepsUptoRow : OpenClaim := { program := "ytdlmgaiiheeigaagreat", sum := "955d1829137c3a444bee81cd779358b607fde5fd18324b8cd480bae9b9c7ff3a", func := "joust/joustlaw10.ArenaSteps", spec := "arenaSteps", inPlace := ["slices.overlaps[joust/api.Entity]"], unfollowed := true, recurses := true, apart := false, narrowed := true }
def ArenaStepsUptoSaid : Prop := arenaStepsUptoRow.holds Tryz.pinned (OpenSpec.upto arenaStepsSpec)

/-- 'joustlaw10.ArenaSplits', WHERE WHAT IT READS IS OF BULK AT MOST 1048576: true; the input reads as it did. -/
def arenaSplitsUptoRow : OpenClaim := { program := "ytdlmgaiiheeigaagreat", sum := "955d1829137c3a444bee81cd779358b607fde5fd18324b8cd480bae9b9c7ff3a", func := "joust/joustlaw10.ArenaSplits", spec := "arenaSplits", inPlace := ["slices.overlaps[joust/api.Entity]"], unfollowed := true, recurses := true, apart := false, narrowed := true }
def ArenaSplitsUptoSaid : Prop := arenaSplitsUptoRow.holds Tryz.pinned (OpenSpec.upto arenaSplitsSpec)

/-- 'joustlaw10.ArenaRuns', WHERE WHAT IT READS IS OF BULK AT MOST 1048576: true; the input reads as it did. -/
def arenaRunsUptoRow : OpenClaim := { program := "ytdlmgaiiheeigaagreat", sum := "955d1829137c3a444bee81cd779358b607fde5fd18324b8cd480bae9b9c7ff3a", func := "joust/joustlaw10.ArenaRuns", spec := "arenaRuns", inPlace := ["slices.overlaps[joust/api.Entity]"], unfollowed := true, recurses := true, apart := false, narrowed := true }
def ArenaRunsUptoSaid : Prop := arenaRunsUptoRow.holds Tryz.pinned (OpenSpec.upto arenaRunsSpec)

/-- 'joustlaw10.ArenaPlayers', WHERE WHAT IT READS IS OF BULK AT MOST 1048576: true; the input reads as it did. -/
def arenaPlayersUptoRow : OpenClaim := { program := "ytdlmgaiiheeigaagreat", sum := "955d1829137c3a444bee81cd779358b607fde5fd18324b8cd480bae9b9c7ff3a", func := "joust/joustlaw10.ArenaPlayers", spec := "arenaPlayers", inPlace := ["slices.overlaps[joust/api.Entity]"], unfollowed := true, recurses := true, apart := false, narrowed := true }
def ArenaPlayersUptoSaid : Prop := arenaPlayersUptoRow.holds Tryz.pinned (OpenSpec.upto arenaPlayersSpec)

/-- 'joustlaw10.ArenaPrefix', WHERE WHAT IT READS IS OF BULK AT MOST 1048576: true; the input reads as it did. -/
def arenaPrefixUptoRow : OpenClaim := { program := "ytdlmgaiiheeigaagreat", sum := "955d1829137c3a444bee81cd779358b607fde5fd18324b8cd480bae9b9c7ff3a", func := "joust/joustlaw10.ArenaPrefix", spec := "arenaPrefix", inPlace := ["slices.overlaps[joust/api.Entity]"], unfollowed := true, recurses := true, apart := false, narrowed := true }
def ArenaPrefixUptoSaid : Prop := arenaPrefixUptoRow.holds Tryz.pinned (OpenSpec.upto arenaPrefixSpec)

/-- 'joustlaw26.GhostTells', WHERE WHAT IT READS IS OF BULK AT MOST 1048576: true; the input reads as it did. -/
def ghostTellsUptoRow : OpenClaim := { program := "ytdlmgaiiheeigaagreat", sum := "955d1829137c3a444bee81cd779358b607fde5fd18324b8cd480bae9b9c7ff3a", func := "joust/joustlaw26.GhostTells", spec := "ghostTells", inPlace := ["slices.overlaps[joust/api.Entity]"], unfollowed := true, recurses := true, apart := false, narrowed := true }
def GhostTellsUptoSaid : Prop := ghostTellsUptoRow.holds Tryz.pinned (OpenSpec.upto ghostTellsSpec)

/-- 'joustlaw26.GhostPrefix', WHERE WHAT IT READS IS OF BULK AT MOST 1048576: true; the input reads as it did. -/
def ghostPrefixUptoRow : OpenClaim := { program := "ytdlmgaiiheeigaagreat", sum := "955d1829137c3a444bee81cd779358b607fde5fd18324b8cd480bae9b9c7ff3a", func := "joust/joustlaw26.GhostPrefix", spec := "ghostPrefix", inPlace := ["slices.overlaps[joust/api.Entity]"], unfollowed := true, recurses := true, apart := false, narrowed := true }
def GhostPrefixUptoSaid : Prop := ghostPrefixUptoRow.holds Tryz.pinned (OpenSpec.upto ghostPrefixSpec)

/-- 'joustlaw26.GhostRefuses', WHERE WHAT IT READS IS OF BULK AT MOST 1048576: true; the input reads as it did. -/
def ghostRefusesUptoRow : OpenClaim := { program := "ytdlmgaiiheeigaagreat", sum := "955d1829137c3a444bee81cd779358b607fde5fd18324b8cd480bae9b9c7ff3a", func := "joust/joustlaw26.GhostRefuses", spec := "ghostRefuses", inPlace := ["slices.overlaps[joust/api.Entity]"], unfollowed := true, recurses := true, apart := false, narrowed := true }
def GhostRefusesUptoSaid : Prop := ghostRefusesUptoRow.holds Tryz.pinned (OpenSpec.upto ghostRefusesSpec)

/-- 'joustlaw26.GhostSplit', WHERE WHAT IT READS IS OF BULK AT MOST 1048576: true; the input reads as it did. -/
def ghostSplitUptoRow : OpenClaim := { program := "ytdlmgaiiheeigaagreat", sum := "955d1829137c3a444bee81cd779358b607fde5fd18324b8cd480bae9b9c7ff3a", func := "joust/joustlaw26.GhostSplit", spec := "ghostSplit", inPlace := ["slices.overlaps[joust/api.Entity]"], unfollowed := true, recurses := true, apart := false, narrowed := true }
def GhostSplitUptoSaid : Prop := ghostSplitUptoRow.holds Tryz.pinned (OpenSpec.upto ghostSplitSpec)

end Rows
end Go.Proofs.YtdlmgaiiheeigaaGreat
