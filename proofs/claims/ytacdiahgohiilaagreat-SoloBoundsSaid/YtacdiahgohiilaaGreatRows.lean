/-
  No cell of these rows narrows 'for every input' (looked for: loops, veiled, ifaces, maps, wideKeys, modest, calm, conditions, laid).
  DERIVED. THE GIVEN ROWS OF THIS SEAT. 17 by the template 'for every input the law returns true; each argument reads behind the call as it read before'; 0 by the template 'total and deterministic' (their statements: YtacdiahgohiilaaGreatTotals.lean).
  GIVEN WITH THE SEED: the statements are not yours to turn. If you find one false, say at which input.
  Laid BY PROGRAM, IN A SANDBOX (cutbox-rows.mjs): the forced cells as the released guide's own fill.sh prints them over the translation e4f96c95d87707ea… (all of the seat's roots in one cut). By AI agents, Wed Nov 11 2026. No macro, syntax, notation, axiom, sorry.
-/
import Derived.Test.YtacdiahgohiilaaGreatChecked
import GoSem.Claim
import GoSem.ClaimJoined
import GoSem.ClaimMapViews
import Derived.JoinedTies
import Derived.KernelRfl
namespace Go.Proofs.YtacdiahgohiilaaGreat
/- THE CELL 'sum', in the pinned program and in every row, IS THE sha256 OF THE DUMP (.gsa) THAT YtacdiahgohiilaaGreatProg.lean LOADS. Nothing in Lean hashes anything: it is a label: what it is worth is what the hold of that sum in a sandbox is worth. -/
noncomputable def Tryz.pinned : Pinned := { name := "ytacdiahgohiilaagreat", sum := "e4f96c95d87707ea2ce1fe005699e93c4bfec143bebe5c1e176f7a60e2adb41a", checked := Tryz.checked }
namespace Rows
def none {H : Type} : Left H := { results := [], args := [] }

/-- 'deadwoodlaw28.ScanCuts': WHATEVER THE INPUT: true; the input reads as it did. -/
def scanCutsSpec : ChangeSpec := { name := "scanCuts", fn := fun _ => fun
  | [d1, d2] => { results := [.lit (.bool true)], args := [d1, d2] }
  | _ => none }
def scanCutsRow : OpenClaim := { program := "ytacdiahgohiilaagreat", sum := "e4f96c95d87707ea2ce1fe005699e93c4bfec143bebe5c1e176f7a60e2adb41a", func := "deadwood/deadwoodlaw28.ScanCuts", spec := "scanCuts", inPlace := ["slices.overlaps[deadwood/api.Pair]"], unfollowed := true, recurses := true, apart := false }
def ScanCutsSaid : Prop := scanCutsRow.holds Tryz.pinned (OpenSpec.ofChange scanCutsSpec)

/-- ITS FALSE NEIGHBOUR: 'it returns false'. Refute it at one input. -/
def scanCutsWrong : ChangeSpec := { name := "scanCuts", fn := fun _ => fun
  | [d1, d2] => { results := [.lit (.bool false)], args := [d1, d2] }
  | _ => none }
def ScanCutsWrongFalsely : Prop := scanCutsRow.holds Tryz.pinned (OpenSpec.ofChange scanCutsWrong)

/-- 'deadwoodlaw28.ScanSpent': WHATEVER THE INPUT: true; the input reads as it did. -/
def scanSpentSpec : ChangeSpec := { name := "scanSpent", fn := fun _ => fun
  | [d1, d2, d3] => { results := [.lit (.bool true)], args := [d1, d2, d3] }
  | _ => none }
def scanSpentRow : OpenClaim := { program := "ytacdiahgohiilaagreat", sum := "e4f96c95d87707ea2ce1fe005699e93c4bfec143bebe5c1e176f7a60e2adb41a", func := "deadwood/deadwoodlaw28.ScanSpent", spec := "scanSpent", inPlace := ["slices.overlaps[deadwood/api.Pair]"], unfollowed := true, recurses := true, apart := false }
def ScanSpentSaid : Prop := scanSpentRow.holds Tryz.pinned (OpenSpec.ofChange scanSpentSpec)

/-- ITS FALSE NEIGHBOUR: 'it returns false'. Refute it at one input. -/
def scanSpentWrong : ChangeSpec := { name := "scanSpent", fn := fun _ => fun
  | [d1, d2, d3] => { results := [.lit (.bool false)], args := [d1, d2, d3] }
  | _ => none }
def ScanSpentWrongFalsely : Prop := scanSpentRow.holds Tryz.pinned (OpenSpec.ofChange scanSpentWrong)

/-- 'deadwoodlaw29.AskAnswers': WHATEVER THE INPUT: true; the input reads as it did. -/
def askAnswersSpec : ChangeSpec := { name := "askAnswers", fn := fun _ => fun
  | [d1, d2, d3] => { results := [.lit (.bool true)], args := [d1, d2, d3] }
  | _ => none }
def askAnswersRow : OpenClaim := { program := "ytacdiahgohiilaagreat", sum := "e4f96c95d87707ea2ce1fe005699e93c4bfec143bebe5c1e176f7a60e2adb41a", func := "deadwood/deadwoodlaw29.AskAnswers", spec := "askAnswers", inPlace := ["slices.overlaps[deadwood/api.Pair]"], unfollowed := true, recurses := true, apart := false }
def AskAnswersSaid : Prop := askAnswersRow.holds Tryz.pinned (OpenSpec.ofChange askAnswersSpec)

/-- ITS FALSE NEIGHBOUR: 'it returns false'. Refute it at one input. -/
def askAnswersWrong : ChangeSpec := { name := "askAnswers", fn := fun _ => fun
  | [d1, d2, d3] => { results := [.lit (.bool false)], args := [d1, d2, d3] }
  | _ => none }
def AskAnswersWrongFalsely : Prop := askAnswersRow.holds Tryz.pinned (OpenSpec.ofChange askAnswersWrong)

/-- 'deadwoodlaw31.IndexBegins': WHATEVER THE INPUT: true; the input reads as it did. -/
def indexBeginsSpec : ChangeSpec := { name := "indexBegins", fn := fun _ => fun
  | [d1, d2, d3] => { results := [.lit (.bool true)], args := [d1, d2, d3] }
  | _ => none }
def indexBeginsRow : OpenClaim := { program := "ytacdiahgohiilaagreat", sum := "e4f96c95d87707ea2ce1fe005699e93c4bfec143bebe5c1e176f7a60e2adb41a", func := "deadwood/deadwoodlaw31.IndexBegins", spec := "indexBegins", inPlace := ["slices.overlaps[deadwood/api.Pair]"], unfollowed := true, recurses := true, apart := false }
def IndexBeginsSaid : Prop := indexBeginsRow.holds Tryz.pinned (OpenSpec.ofChange indexBeginsSpec)

/-- ITS FALSE NEIGHBOUR: 'it returns false'. Refute it at one input. -/
def indexBeginsWrong : ChangeSpec := { name := "indexBegins", fn := fun _ => fun
  | [d1, d2, d3] => { results := [.lit (.bool false)], args := [d1, d2, d3] }
  | _ => none }
def IndexBeginsWrongFalsely : Prop := indexBeginsRow.holds Tryz.pinned (OpenSpec.ofChange indexBeginsWrong)

/-- 'deadwoodlaw31.IndexAlone': WHATEVER THE INPUT: true; the input reads as it did. -/
def indexAloneSpec : ChangeSpec := { name := "indexAlone", fn := fun _ => fun
  | [d1, d2] => { results := [.lit (.bool true)], args := [d1, d2] }
  | _ => none }
def indexAloneRow : OpenClaim := { program := "ytacdiahgohiilaagreat", sum := "e4f96c95d87707ea2ce1fe005699e93c4bfec143bebe5c1e176f7a60e2adb41a", func := "deadwood/deadwoodlaw31.IndexAlone", spec := "indexAlone", inPlace := ["slices.overlaps[deadwood/api.Pair]"], unfollowed := true, recurses := true, apart := false }
def IndexAloneSaid : Prop := indexAloneRow.holds Tryz.pinned (OpenSpec.ofChange indexAloneSpec)

/-- ITS FALSE NEIGHBOUR: 'it returns false'. Refute it at one input. -/
def indexAloneWrong : ChangeSpec := { name := "indexAlone", fn := fun _ => fun
  | [d1, d2] => { results := [.lit (.bool false)], args := [d1, d2] }
  | _ => none }
def IndexAloneWrongFalsely : Prop := indexAloneRow.holds Tryz.pinned (OpenSpec.ofChange indexAloneWrong)

/-- 'deadwoodlaw34.SoloRoom': WHATEVER THE INPUT: true; the input reads as it did. -/
def soloRoomSpec : ChangeSpec := { name := "soloRoom", fn := fun _ => fun
  | [d1, d2] => { results := [.lit (.bool true)], args := [d1, d2] }
  | _ => none }
def soloRoomRow : OpenClaim := { program := "ytacdiahgohiilaagreat", sum := "e4f96c95d87707ea2ce1fe005699e93c4bfec143bebe5c1e176f7a60e2adb41a", func := "deadwood/deadwoodlaw34.SoloRoom", spec := "soloRoom", inPlace := ["slices.overlaps[deadwood/api.Pair]"], unfollowed := true, recurses := true, apart := false }
def SoloRoomSaid : Prop := soloRoomRow.holds Tryz.pinned (OpenSpec.ofChange soloRoomSpec)

/-- ITS FALSE NEIGHBOUR: 'it returns false'. Refute it at one input. -/
def soloRoomWrong : ChangeSpec := { name := "soloRoom", fn := fun _ => fun
  | [d1, d2] => { results := [.lit (.bool false)], args := [d1, d2] }
  | _ => none }
def SoloRoomWrongFalsely : Prop := soloRoomRow.holds Tryz.pinned (OpenSpec.ofChange soloRoomWrong)

/-- 'deadwoodlaw39.BackMap': WHATEVER THE INPUT: true; the input reads as it did. -/
def backMapSpec : ChangeSpec := { name := "backMap", fn := fun _ => fun
  | [d1, d2, d3] => { results := [.lit (.bool true)], args := [d1, d2, d3] }
  | _ => none }
def backMapRow : OpenClaim := { program := "ytacdiahgohiilaagreat", sum := "e4f96c95d87707ea2ce1fe005699e93c4bfec143bebe5c1e176f7a60e2adb41a", func := "deadwood/deadwoodlaw39.BackMap", spec := "backMap", inPlace := ["slices.overlaps[deadwood/api.Pair]"], unfollowed := true, recurses := true, apart := false }
def BackMapSaid : Prop := backMapRow.holds Tryz.pinned (OpenSpec.ofChange backMapSpec)

/-- ITS FALSE NEIGHBOUR: 'it returns false'. Refute it at one input. -/
def backMapWrong : ChangeSpec := { name := "backMap", fn := fun _ => fun
  | [d1, d2, d3] => { results := [.lit (.bool false)], args := [d1, d2, d3] }
  | _ => none }
def BackMapWrongFalsely : Prop := backMapRow.holds Tryz.pinned (OpenSpec.ofChange backMapWrong)

/-- 'deadwoodlaw34.SoloBounds': WHATEVER THE INPUT: true; the input reads as it did. -/
def soloBoundsSpec : ChangeSpec := { name := "soloBounds", fn := fun _ => fun
  | [d1, d2, d3] => { results := [.lit (.bool true)], args := [d1, d2, d3] }
  | _ => none }
def soloBoundsRow : OpenClaim := { program := "ytacdiahgohiilaagreat", sum := "e4f96c95d87707ea2ce1fe005699e93c4bfec143bebe5c1e176f7a60e2adb41a", func := "deadwood/deadwoodlaw34.SoloBounds", spec := "soloBounds", inPlace := ["maps.clone", "slices.overlaps[deadwood/api.Pair]"], unfollowed := true, recurses := true, apart := false }
def SoloBoundsSaid : Prop := soloBoundsRow.holds Tryz.pinned (OpenSpec.ofChange soloBoundsSpec)

/-- ITS FALSE NEIGHBOUR: 'it returns false'. Refute it at one input. -/
def soloBoundsWrong : ChangeSpec := { name := "soloBounds", fn := fun _ => fun
  | [d1, d2, d3] => { results := [.lit (.bool false)], args := [d1, d2, d3] }
  | _ => none }
def SoloBoundsWrongFalsely : Prop := soloBoundsRow.holds Tryz.pinned (OpenSpec.ofChange soloBoundsWrong)

/-- 'deadwoodlaw34.SoloGap': WHATEVER THE INPUT: true; the input reads as it did. -/
def soloGapSpec : ChangeSpec := { name := "soloGap", fn := fun _ => fun
  | [d] => { results := [.lit (.bool true)], args := [d] }
  | _ => none }
def soloGapRow : OpenClaim := { program := "ytacdiahgohiilaagreat", sum := "e4f96c95d87707ea2ce1fe005699e93c4bfec143bebe5c1e176f7a60e2adb41a", func := "deadwood/deadwoodlaw34.SoloGap", spec := "soloGap", inPlace := ["slices.overlaps[deadwood/api.Pair]"], unfollowed := true, recurses := true, apart := false }
def SoloGapSaid : Prop := soloGapRow.holds Tryz.pinned (OpenSpec.ofChange soloGapSpec)

/-- ITS FALSE NEIGHBOUR: 'it returns false'. Refute it at one input. -/
def soloGapWrong : ChangeSpec := { name := "soloGap", fn := fun _ => fun
  | [d] => { results := [.lit (.bool false)], args := [d] }
  | _ => none }
def SoloGapWrongFalsely : Prop := soloGapRow.holds Tryz.pinned (OpenSpec.ofChange soloGapWrong)

/-- 'deadwoodlaw33.RestLooks': WHATEVER THE INPUT: true; the input reads as it did. -/
def restLooksSpec : ChangeSpec := { name := "restLooks", fn := fun _ => fun
  | [d1, d2, d3] => { results := [.lit (.bool true)], args := [d1, d2, d3] }
  | _ => none }
def restLooksRow : OpenClaim := { program := "ytacdiahgohiilaagreat", sum := "e4f96c95d87707ea2ce1fe005699e93c4bfec143bebe5c1e176f7a60e2adb41a", func := "deadwood/deadwoodlaw33.RestLooks", spec := "restLooks", inPlace := ["slices.overlaps[deadwood/api.Pair]"], unfollowed := true, recurses := true, apart := false }
def RestLooksSaid : Prop := restLooksRow.holds Tryz.pinned (OpenSpec.ofChange restLooksSpec)

/-- ITS FALSE NEIGHBOUR: 'it returns false'. Refute it at one input. -/
def restLooksWrong : ChangeSpec := { name := "restLooks", fn := fun _ => fun
  | [d1, d2, d3] => { results := [.lit (.bool false)], args := [d1, d2, d3] }
  | _ => none }
def RestLooksWrongFalsely : Prop := restLooksRow.holds Tryz.pinned (OpenSpec.ofChange restLooksWrong)

/-- 'deadwoodlaw42.ShrinkHolds': WHATEVER THE INPUT: true; the input reads as it did. -/
def shrinkHoldsSpec : ChangeSpec := { name := "shrinkHolds", fn := fun _ => fun
  | [d1, d2] => { results := [.lit (.bool true)], args := [d1, d2] }
  | _ => none }
def shrinkHoldsRow : OpenClaim := { program := "ytacdiahgohiilaagreat", sum := "e4f96c95d87707ea2ce1fe005699e93c4bfec143bebe5c1e176f7a60e2adb41a", func := "deadwood/deadwoodlaw42.ShrinkHolds", spec := "shrinkHolds", inPlace := ["slices.overlaps[deadwood/api.Pair]"], unfollowed := true, recurses := true, apart := false }
def ShrinkHoldsSaid : Prop := shrinkHoldsRow.holds Tryz.pinned (OpenSpec.ofChange shrinkHoldsSpec)

/-- ITS FALSE NEIGHBOUR: 'it returns false'. Refute it at one input. -/
def shrinkHoldsWrong : ChangeSpec := { name := "shrinkHolds", fn := fun _ => fun
  | [d1, d2] => { results := [.lit (.bool false)], args := [d1, d2] }
  | _ => none }
def ShrinkHoldsWrongFalsely : Prop := shrinkHoldsRow.holds Tryz.pinned (OpenSpec.ofChange shrinkHoldsWrong)

/-- 'deadwoodlaw32.RunNone': WHATEVER THE INPUT: true; the input reads as it did. -/
def runNoneSpec : ChangeSpec := { name := "runNone", fn := fun _ => fun
  | [d1, d2] => { results := [.lit (.bool true)], args := [d1, d2] }
  | _ => none }
def runNoneRow : OpenClaim := { program := "ytacdiahgohiilaagreat", sum := "e4f96c95d87707ea2ce1fe005699e93c4bfec143bebe5c1e176f7a60e2adb41a", func := "deadwood/deadwoodlaw32.RunNone", spec := "runNone", inPlace := ["slices.overlaps[deadwood/api.Pair]", "maps.clone"], unfollowed := true, recurses := true, apart := false }
def RunNoneSaid : Prop := runNoneRow.holds Tryz.pinned (OpenSpec.ofChange runNoneSpec)

/-- ITS FALSE NEIGHBOUR: 'it returns false'. Refute it at one input. -/
def runNoneWrong : ChangeSpec := { name := "runNone", fn := fun _ => fun
  | [d1, d2] => { results := [.lit (.bool false)], args := [d1, d2] }
  | _ => none }
def RunNoneWrongFalsely : Prop := runNoneRow.holds Tryz.pinned (OpenSpec.ofChange runNoneWrong)

/-- 'deadwoodlaw38.StatsAlone': WHATEVER THE INPUT: true; the input reads as it did. -/
def statsAloneSpec : ChangeSpec := { name := "statsAlone", fn := fun _ => fun
  | [d] => { results := [.lit (.bool true)], args := [d] }
  | _ => none }
def statsAloneRow : OpenClaim := { program := "ytacdiahgohiilaagreat", sum := "e4f96c95d87707ea2ce1fe005699e93c4bfec143bebe5c1e176f7a60e2adb41a", func := "deadwood/deadwoodlaw38.StatsAlone", spec := "statsAlone", inPlace := ["slices.overlaps[deadwood/api.Pair]"], unfollowed := true, recurses := true, apart := false }
def StatsAloneSaid : Prop := statsAloneRow.holds Tryz.pinned (OpenSpec.ofChange statsAloneSpec)

/-- ITS FALSE NEIGHBOUR: 'it returns false'. Refute it at one input. -/
def statsAloneWrong : ChangeSpec := { name := "statsAlone", fn := fun _ => fun
  | [d] => { results := [.lit (.bool false)], args := [d] }
  | _ => none }
def StatsAloneWrongFalsely : Prop := statsAloneRow.holds Tryz.pinned (OpenSpec.ofChange statsAloneWrong)

/-- 'deadwoodlaw32.RunPlays': WHATEVER THE INPUT: true; the input reads as it did. -/
def runPlaysSpec : ChangeSpec := { name := "runPlays", fn := fun _ => fun
  | [d] => { results := [.lit (.bool true)], args := [d] }
  | _ => none }
def runPlaysRow : OpenClaim := { program := "ytacdiahgohiilaagreat", sum := "e4f96c95d87707ea2ce1fe005699e93c4bfec143bebe5c1e176f7a60e2adb41a", func := "deadwood/deadwoodlaw32.RunPlays", spec := "runPlays", inPlace := ["slices.overlaps[deadwood/api.Pair]", "maps.clone"], unfollowed := true, recurses := true, apart := false }
def RunPlaysSaid : Prop := runPlaysRow.holds Tryz.pinned (OpenSpec.ofChange runPlaysSpec)

/-- ITS FALSE NEIGHBOUR: 'it returns false'. Refute it at one input. -/
def runPlaysWrong : ChangeSpec := { name := "runPlays", fn := fun _ => fun
  | [d] => { results := [.lit (.bool false)], args := [d] }
  | _ => none }
def RunPlaysWrongFalsely : Prop := runPlaysRow.holds Tryz.pinned (OpenSpec.ofChange runPlaysWrong)

/-- 'deadwoodlaw34.SoloEnds': WHATEVER THE INPUT: true; the input reads as it did. -/
def soloEndsSpec : ChangeSpec := { name := "soloEnds", fn := fun _ => fun
  | [d] => { results := [.lit (.bool true)], args := [d] }
  | _ => none }
def soloEndsRow : OpenClaim := { program := "ytacdiahgohiilaagreat", sum := "e4f96c95d87707ea2ce1fe005699e93c4bfec143bebe5c1e176f7a60e2adb41a", func := "deadwood/deadwoodlaw34.SoloEnds", spec := "soloEnds", inPlace := ["slices.overlaps[deadwood/api.Pair]", "maps.clone"], unfollowed := true, recurses := true, apart := false }
def SoloEndsSaid : Prop := soloEndsRow.holds Tryz.pinned (OpenSpec.ofChange soloEndsSpec)

/-- ITS FALSE NEIGHBOUR: 'it returns false'. Refute it at one input. -/
def soloEndsWrong : ChangeSpec := { name := "soloEnds", fn := fun _ => fun
  | [d] => { results := [.lit (.bool false)], args := [d] }
  | _ => none }
def SoloEndsWrongFalsely : Prop := soloEndsRow.holds Tryz.pinned (OpenSpec.ofChange soloEndsWrong)

/-- 'deadwoodlaw34.SoloTells': WHATEVER THE INPUT: true; the input reads as it did. -/
def soloTellsSpec : ChangeSpec := { name := "soloTells", fn := fun _ => fun
  | [d1, d2, d3] => { results := [.lit (.bool true)], args := [d1, d2, d3] }
  | _ => none }
def soloTellsRow : OpenClaim := { program := "ytacdiahgohiilaagreat", sum := "e4f96c95d87707ea2ce1fe005699e93c4bfec143bebe5c1e176f7a60e2adb41a", func := "deadwood/deadwoodlaw34.SoloTells", spec := "soloTells", inPlace := ["slices.overlaps[deadwood/api.Pair]", "maps.clone"], unfollowed := true, recurses := true, apart := false }
def SoloTellsSaid : Prop := soloTellsRow.holds Tryz.pinned (OpenSpec.ofChange soloTellsSpec)

/-- ITS FALSE NEIGHBOUR: 'it returns false'. Refute it at one input. -/
def soloTellsWrong : ChangeSpec := { name := "soloTells", fn := fun _ => fun
  | [d1, d2, d3] => { results := [.lit (.bool false)], args := [d1, d2, d3] }
  | _ => none }
def SoloTellsWrongFalsely : Prop := soloTellsRow.holds Tryz.pinned (OpenSpec.ofChange soloTellsWrong)

/-- 'deadwoodlaw33.RestCounts': WHATEVER THE INPUT: true; the input reads as it did. -/
def restCountsSpec : ChangeSpec := { name := "restCounts", fn := fun _ => fun
  | [d] => { results := [.lit (.bool true)], args := [d] }
  | _ => none }
def restCountsRow : OpenClaim := { program := "ytacdiahgohiilaagreat", sum := "e4f96c95d87707ea2ce1fe005699e93c4bfec143bebe5c1e176f7a60e2adb41a", func := "deadwood/deadwoodlaw33.RestCounts", spec := "restCounts", inPlace := ["slices.overlaps[deadwood/api.Pair]"], unfollowed := true, recurses := true, apart := false }
def RestCountsSaid : Prop := restCountsRow.holds Tryz.pinned (OpenSpec.ofChange restCountsSpec)

/-- ITS FALSE NEIGHBOUR: 'it returns false'. Refute it at one input. -/
def restCountsWrong : ChangeSpec := { name := "restCounts", fn := fun _ => fun
  | [d] => { results := [.lit (.bool false)], args := [d] }
  | _ => none }
def RestCountsWrongFalsely : Prop := restCountsRow.holds Tryz.pinned (OpenSpec.ofChange restCountsWrong)

/- THE SECOND FORM. 'bulk': how many values and letters a reading holds, each counted each time it is reached (what is shared counts as often as it is met; a slice's spare places count too). A statement '..UptoSaid' is the law's where the arguments, and the package variables that the reading takes, are together of bulk at most 1048576: NARROWER than '..Said'. Prove '..Said' where nothing that the law and all that it calls make is longer than what came in: it says more and counts as full. Else prove '..UptoSaid'. A law counts once. -/
mutual
def uptoBulk {H : Type} : DataW H → Nat
  | .lit (.string bytes) => bytes.length + 1
  | .lit _ => 1
  | .nil => 1
  | .ptr d => uptoBulk d + 1
  | .slice elems spare => uptoBulkAll elems + uptoBulkAll spare + 1
  | .agg parts => uptoBulkAll parts + 1
  | .iface _ d => uptoBulk d + 1
  | .map entries => uptoBulkEntries entries + 1
  | .held _ => 1
def uptoBulkAll {H : Type} : List (DataW H) → Nat
  | [] => 0
  | d :: r => uptoBulk d + uptoBulkAll r
def uptoBulkEntries {H : Type} : List (Lit × DataW H) → Nat
  | [] => 0
  | x :: r => uptoBulkEntry x + uptoBulkEntries r
def uptoBulkEntry {H : Type} : Lit × DataW H → Nat
  | (.string bytes, d) => bytes.length + uptoBulk d + 1
  | (_, d) => uptoBulk d + 1
 end
def uptoSmall : (H : Type) → List (DataW H) → Bool := fun _ ds => decide (uptoBulkAll ds ≤ 1048576)
def OpenSpec.upto (s : _root_.Go.ChangeSpec) : _root_.Go.OpenSpec := { _root_.Go.OpenSpec.ofChange s with cond := some uptoSmall }

/-- 'deadwoodlaw28.ScanCuts', WHERE WHAT IT READS IS OF BULK AT MOST 1048576: true; the input reads as it did. -/
def scanCutsUptoRow : OpenClaim := { program := "ytacdiahgohiilaagreat", sum := "e4f96c95d87707ea2ce1fe005699e93c4bfec143bebe5c1e176f7a60e2adb41a", func := "deadwood/deadwoodlaw28.ScanCuts", spec := "scanCuts", inPlace := ["slices.overlaps[deadwood/api.Pair]"], unfollowed := true, recurses := true, apart := false, narrowed := true }
def ScanCutsUptoSaid : Prop := scanCutsUptoRow.holds Tryz.pinned (OpenSpec.upto scanCutsSpec)

/-- 'deadwoodlaw28.ScanSpent', WHERE WHAT IT READS IS OF BULK AT MOST 1048576: true; the input reads as it did. -/
def scanSpentUptoRow : OpenClaim := { program := "ytacdiahgohiilaagreat", sum := "e4f96c95d87707ea2ce1fe005699e93c4bfec143bebe5c1e176f7a60e2adb41a", func := "deadwood/deadwoodlaw28.ScanSpent", spec := "scanSpent", inPlace := ["slices.overlaps[deadwood/api.Pair]"], unfollowed := true, recurses := true, apart := false, narrowed := true }
def ScanSpentUptoSaid : Prop := scanSpentUptoRow.holds Tryz.pinned (OpenSpec.upto scanSpentSpec)

/-- 'deadwoodlaw29.AskAnswers', WHERE WHAT IT READS IS OF BULK AT MOST 1048576: true; the input reads as it did. -/
def askAnswersUptoRow : OpenClaim := { program := "ytacdiahgohiilaagreat", sum := "e4f96c95d87707ea2ce1fe005699e93c4bfec143bebe5c1e176f7a60e2adb41a", func := "deadwood/deadwoodlaw29.AskAnswers", spec := "askAnswers", inPlace := ["slices.overlaps[deadwood/api.Pair]"], unfollowed := true, recurses := true, apart := false, narrowed := true }
def AskAnswersUptoSaid : Prop := askAnswersUptoRow.holds Tryz.pinned (OpenSpec.upto askAnswersSpec)

/-- 'deadwoodlaw31.IndexBegins', WHERE WHAT IT READS IS OF BULK AT MOST 1048576: true; the input reads as it did. -/
def indexBeginsUptoRow : OpenClaim := { program := "ytacdiahgohiilaagreat", sum := "e4f96c95d87707ea2ce1fe005699e93c4bfec143bebe5c1e176f7a60e2adb41a", func := "deadwood/deadwoodlaw31.IndexBegins", spec := "indexBegins", inPlace := ["slices.overlaps[deadwood/api.Pair]"], unfollowed := true, recurses := true, apart := false, narrowed := true }
def IndexBeginsUptoSaid : Prop := indexBeginsUptoRow.holds Tryz.pinned (OpenSpec.upto indexBeginsSpec)

/-- 'deadwoodlaw31.IndexAlone', WHERE WHAT IT READS IS OF BULK AT MOST 1048576: true; the input reads as it did. -/
def indexAloneUptoRow : OpenClaim := { program := "ytacdiahgohiilaagreat", sum := "e4f96c95d87707ea2ce1fe005699e93c4bfec143bebe5c1e176f7a60e2adb41a", func := "deadwood/deadwoodlaw31.IndexAlone", spec := "indexAlone", inPlace := ["slices.overlaps[deadwood/api.Pair]"], unfollowed := true, recurses := true, apart := false, narrowed := true }
def IndexAloneUptoSaid : Prop := indexAloneUptoRow.holds Tryz.pinned (OpenSpec.upto indexAloneSpec)

/-- 'deadwoodlaw34.SoloRoom', WHERE WHAT IT READS IS OF BULK AT MOST 1048576: true; the input reads as it did. -/
def soloRoomUptoRow : OpenClaim := { program := "ytacdiahgohiilaagreat", sum := "e4f96c95d87707ea2ce1fe005699e93c4bfec143bebe5c1e176f7a60e2adb41a", func := "deadwood/deadwoodlaw34.SoloRoom", spec := "soloRoom", inPlace := ["slices.overlaps[deadwood/api.Pair]"], unfollowed := true, recurses := true, apart := false, narrowed := true }
def SoloRoomUptoSaid : Prop := soloRoomUptoRow.holds Tryz.pinned (OpenSpec.upto soloRoomSpec)

/-- 'deadwoodlaw39.BackMap', WHERE WHAT IT READS IS OF BULK AT MOST 1048576: true; the input reads as it did. -/
def backMapUptoRow : OpenClaim := { program := "ytacdiahgohiilaagreat", sum := "e4f96c95d87707ea2ce1fe005699e93c4bfec143bebe5c1e176f7a60e2adb41a", func := "deadwood/deadwoodlaw39.BackMap", spec := "backMap", inPlace := ["slices.overlaps[deadwood/api.Pair]"], unfollowed := true, recurses := true, apart := false, narrowed := true }
def BackMapUptoSaid : Prop := backMapUptoRow.holds Tryz.pinned (OpenSpec.upto backMapSpec)

/-- 'deadwoodlaw34.SoloBounds', WHERE WHAT IT READS IS OF BULK AT MOST 1048576: true; the input reads as it did. -/
def soloBoundsUptoRow : OpenClaim := { program := "ytacdiahgohiilaagreat", sum := "e4f96c95d87707ea2ce1fe005699e93c4bfec143bebe5c1e176f7a60e2adb41a", func := "deadwood/deadwoodlaw34.SoloBounds", spec := "soloBounds", inPlace := ["maps.clone", "slices.overlaps[deadwood/api.Pair]"], unfollowed := true, recurses := true, apart := false, narrowed := true }
def SoloBoundsUptoSaid : Prop := soloBoundsUptoRow.holds Tryz.pinned (OpenSpec.upto soloBoundsSpec)

/-- 'deadwoodlaw34.SoloGap', WHERE WHAT IT READS IS OF BULK AT MOST 1048576: true; the input reads as it did. -/
def soloGapUptoRow : OpenClaim := { program := "ytacdiahgohiilaagreat", sum := "e4f96c95d87707ea2ce1fe005699e93c4bfec143bebe5c1e176f7a60e2adb41a", func := "deadwood/deadwoodlaw34.SoloGap", spec := "soloGap", inPlace := ["slices.overlaps[deadwood/api.Pair]"], unfollowed := true, recurses := true, apart := false, narrowed := true }
def SoloGapUptoSaid : Prop := soloGapUptoRow.holds Tryz.pinned (OpenSpec.upto soloGapSpec)

/-- 'deadwoodlaw33.RestLooks', WHERE WHAT IT READS IS OF BULK AT MOST 1048576: true; the input reads as it did. -/
def restLooksUptoRow : OpenClaim := { program := "ytacdiahgohiilaagreat", sum := "e4f96c95d87707ea2ce1fe005699e93c4bfec143bebe5c1e176f7a60e2adb41a", func := "deadwood/deadwoodlaw33.RestLooks", spec := "restLooks", inPlace := ["slices.overlaps[deadwood/api.Pair]"], unfollowed := true, recurses := true, apart := false, narrowed := true }
def RestLooksUptoSaid : Prop := restLooksUptoRow.holds Tryz.pinned (OpenSpec.upto restLooksSpec)

/-- 'deadwoodlaw42.ShrinkHolds', WHERE WHAT IT READS IS OF BULK AT MOST 1048576: true; the input reads as it did. -/
def shrinkHoldsUptoRow : OpenClaim := { program := "ytacdiahgohiilaagreat", sum := "e4f96c95d87707ea2ce1fe005699e93c4bfec143bebe5c1e176f7a60e2adb41a", func := "deadwood/deadwoodlaw42.ShrinkHolds", spec := "shrinkHolds", inPlace := ["slices.overlaps[deadwood/api.Pair]"], unfollowed := true, recurses := true, apart := false, narrowed := true }
def ShrinkHoldsUptoSaid : Prop := shrinkHoldsUptoRow.holds Tryz.pinned (OpenSpec.upto shrinkHoldsSpec)

/-- 'deadwoodlaw32.RunNone', WHERE WHAT IT READS IS OF BULK AT MOST 1048576: true; the input reads as it did. -/
def runNoneUptoRow : OpenClaim := { program := "ytacdiahgohiilaagreat", sum := "e4f96c95d87707ea2ce1fe005699e93c4bfec143bebe5c1e176f7a60e2adb41a", func := "deadwood/deadwoodlaw32.RunNone", spec := "runNone", inPlace := ["slices.overlaps[deadwood/api.Pair]", "maps.clone"], unfollowed := true, recurses := true, apart := false, narrowed := true }
def RunNoneUptoSaid : Prop := runNoneUptoRow.holds Tryz.pinned (OpenSpec.upto runNoneSpec)

/-- 'deadwoodlaw38.StatsAlone', WHERE WHAT IT READS IS OF BULK AT MOST 1048576: true; the input reads as it did. -/
def statsAloneUptoRow : OpenClaim := { program := "ytacdiahgohiilaagreat", sum := "e4f96c95d87707ea2ce1fe005699e93c4bfec143bebe5c1e176f7a60e2adb41a", func := "deadwood/deadwoodlaw38.StatsAlone", spec := "statsAlone", inPlace := ["slices.overlaps[deadwood/api.Pair]"], unfollowed := true, recurses := true, apart := false, narrowed := true }
def StatsAloneUptoSaid : Prop := statsAloneUptoRow.holds Tryz.pinned (OpenSpec.upto statsAloneSpec)

/-- 'deadwoodlaw32.RunPlays', WHERE WHAT IT READS IS OF BULK AT MOST 1048576: true; the input reads as it did. -/
def runPlaysUptoRow : OpenClaim := { program := "ytacdiahgohiilaagreat", sum := "e4f96c95d87707ea2ce1fe005699e93c4bfec143bebe5c1e176f7a60e2adb41a", func := "deadwood/deadwoodlaw32.RunPlays", spec := "runPlays", inPlace := ["slices.overlaps[deadwood/api.Pair]", "maps.clone"], unfollowed := true, recurses := true, apart := false, narrowed := true }
def RunPlaysUptoSaid : Prop := runPlaysUptoRow.holds Tryz.pinned (OpenSpec.upto runPlaysSpec)

/-- 'deadwoodlaw34.SoloEnds', WHERE WHAT IT READS IS OF BULK AT MOST 1048576: true; the input reads as it did. -/
def soloEndsUptoRow : OpenClaim := { program := "ytacdiahgohiilaagreat", sum := "e4f96c95d87707ea2ce1fe005699e93c4bfec143bebe5c1e176f7a60e2adb41a", func := "deadwood/deadwoodlaw34.SoloEnds", spec := "soloEnds", inPlace := ["slices.overlaps[deadwood/api.Pair]", "maps.clone"], unfollowed := true, recurses := true, apart := false, narrowed := true }
def SoloEndsUptoSaid : Prop := soloEndsUptoRow.holds Tryz.pinned (OpenSpec.upto soloEndsSpec)

/-- 'deadwoodlaw34.SoloTells', WHERE WHAT IT READS IS OF BULK AT MOST 1048576: true; the input reads as it did. -/
def soloTellsUptoRow : OpenClaim := { program := "ytacdiahgohiilaagreat", sum := "e4f96c95d87707ea2ce1fe005699e93c4bfec143bebe5c1e176f7a60e2adb41a", func := "deadwood/deadwoodlaw34.SoloTells", spec := "soloTells", inPlace := ["slices.overlaps[deadwood/api.Pair]", "maps.clone"], unfollowed := true, recurses := true, apart := false, narrowed := true }
def SoloTellsUptoSaid : Prop := soloTellsUptoRow.holds Tryz.pinned (OpenSpec.upto soloTellsSpec)

/-- 'deadwoodlaw33.RestCounts', WHERE WHAT IT READS IS OF BULK AT MOST 1048576: true; the input reads as it did. -/
def restCountsUptoRow : OpenClaim := { program := "ytacdiahgohiilaagreat", sum := "e4f96c95d87707ea2ce1fe005699e93c4bfec143bebe5c1e176f7a60e2adb41a", func := "deadwood/deadwoodlaw33.RestCounts", spec := "restCounts", inPlace := ["slices.overlaps[deadwood/api.Pair]"], unfollowed := true, recurses := true, apart := false, narrowed := true }
def RestCountsUptoSaid : Prop := restCountsUptoRow.holds Tryz.pinned (OpenSpec.upto restCountsSpec)

end Rows
end Go.Proofs.YtacdiahgohiilaaGreat
