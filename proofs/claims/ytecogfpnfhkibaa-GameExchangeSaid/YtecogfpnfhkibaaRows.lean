/-
  No cell of these rows narrows 'for every input' (looked for: loops, veiled, ifaces, maps, wideKeys, modest, calm, conditions, laid).
  DERIVED. THE GIVEN ROWS OF THIS SEAT. 9 by the template 'for every input the law returns true; each argument reads behind the call as it read before'; 0 by the template 'total and deterministic' (their statements: YtecogfpnfhkibaaTotals.lean).
  GIVEN WITH THE SEED: the statements are not yours to turn. If you find one false, say at which input.
  Laid BY PROGRAM, IN A SANDBOX (cutbox-rows.mjs): the forced cells as the released guide's own fill.sh prints them over the translation eb3ef9aede37435b… (all of the seat's roots in one cut). By AI agents, Wed Nov 11 2026. No macro, syntax, notation, axiom, sorry.
-/
import Derived.Test.YtecogfpnfhkibaaChecked
import GoSem.Claim
import GoSem.ClaimJoined
import GoSem.ClaimMapViews
import Derived.JoinedTies
import Derived.KernelRfl
namespace Go.Proofs.Ytecogfpnfhkibaa
/- THE CELL 'sum', in the pinned program and in every row, IS THE sha256 OF THE DUMP (.gsa) THAT YtecogfpnfhkibaaProg.lean LOADS. Nothing in Lean hashes anything: it is a label: what it is worth is what the hold of that sum in a sandbox is worth. -/
noncomputable def Try.pinned : Pinned := { name := "ytecogfpnfhkibaa", sum := "eb3ef9aede37435bae51ccbaacaf08fcc10e40cde9062d72fd81a4b7eca8fe20", checked := Try.checked }
namespace Rows
def none {H : Type} : Left H := { results := [], args := [] }

/-- 'aloeswoodlaw02.GameChecks': WHATEVER THE INPUT: true; the input reads as it did. -/
def gameChecksSpec : ChangeSpec := { name := "gameChecks", fn := fun _ => fun
  | [d1, d2, d3, d4] => { results := [.lit (.bool true)], args := [d1, d2, d3, d4] }
  | _ => none }
def gameChecksRow : OpenClaim := { program := "ytecogfpnfhkibaa", sum := "eb3ef9aede37435bae51ccbaacaf08fcc10e40cde9062d72fd81a4b7eca8fe20", func := "aloeswood/aloeswoodlaw02.GameChecks", spec := "gameChecks", inPlace := ["slices.overlaps[[]int]", "slices.overlaps[int]"], unfollowed := true, recurses := true, plainKeys := false, apart := false }
def GameChecksSaid : Prop := gameChecksRow.holds Try.pinned (OpenSpec.ofChange gameChecksSpec)

/-- ITS FALSE NEIGHBOUR: 'it returns false'. Refute it at one input. -/
def gameChecksWrong : ChangeSpec := { name := "gameChecks", fn := fun _ => fun
  | [d1, d2, d3, d4] => { results := [.lit (.bool false)], args := [d1, d2, d3, d4] }
  | _ => none }
def GameChecksWrongFalsely : Prop := gameChecksRow.holds Try.pinned (OpenSpec.ofChange gameChecksWrong)

/-- 'aloeswoodlaw02.GameCourses': WHATEVER THE INPUT: true; the input reads as it did. -/
def gameCoursesSpec : ChangeSpec := { name := "gameCourses", fn := fun _ => fun
  | [d1, d2] => { results := [.lit (.bool true)], args := [d1, d2] }
  | _ => none }
def gameCoursesRow : OpenClaim := { program := "ytecogfpnfhkibaa", sum := "eb3ef9aede37435bae51ccbaacaf08fcc10e40cde9062d72fd81a4b7eca8fe20", func := "aloeswood/aloeswoodlaw02.GameCourses", spec := "gameCourses", inPlace := ["slices.overlaps[[]int]", "slices.overlaps[int]"], unfollowed := true, recurses := true, plainKeys := false, apart := false }
def GameCoursesSaid : Prop := gameCoursesRow.holds Try.pinned (OpenSpec.ofChange gameCoursesSpec)

/-- ITS FALSE NEIGHBOUR: 'it returns false'. Refute it at one input. -/
def gameCoursesWrong : ChangeSpec := { name := "gameCourses", fn := fun _ => fun
  | [d1, d2] => { results := [.lit (.bool false)], args := [d1, d2] }
  | _ => none }
def GameCoursesWrongFalsely : Prop := gameCoursesRow.holds Try.pinned (OpenSpec.ofChange gameCoursesWrong)

/-- 'aloeswoodlaw02.GameCounted': WHATEVER THE INPUT: true; the input reads as it did. -/
def gameCountedSpec : ChangeSpec := { name := "gameCounted", fn := fun _ => fun
  | [d] => { results := [.lit (.bool true)], args := [d] }
  | _ => none }
def gameCountedRow : OpenClaim := { program := "ytecogfpnfhkibaa", sum := "eb3ef9aede37435bae51ccbaacaf08fcc10e40cde9062d72fd81a4b7eca8fe20", func := "aloeswood/aloeswoodlaw02.GameCounted", spec := "gameCounted", inPlace := ["slices.overlaps[[]int]", "slices.overlaps[int]"], unfollowed := true, recurses := true, plainKeys := false, apart := false }
def GameCountedSaid : Prop := gameCountedRow.holds Try.pinned (OpenSpec.ofChange gameCountedSpec)

/-- ITS FALSE NEIGHBOUR: 'it returns false'. Refute it at one input. -/
def gameCountedWrong : ChangeSpec := { name := "gameCounted", fn := fun _ => fun
  | [d] => { results := [.lit (.bool false)], args := [d] }
  | _ => none }
def GameCountedWrongFalsely : Prop := gameCountedRow.holds Try.pinned (OpenSpec.ofChange gameCountedWrong)

/-- 'aloeswoodlaw02.GamePoured': WHATEVER THE INPUT: true; the input reads as it did. -/
def gamePouredSpec : ChangeSpec := { name := "gamePoured", fn := fun _ => fun
  | [d] => { results := [.lit (.bool true)], args := [d] }
  | _ => none }
def gamePouredRow : OpenClaim := { program := "ytecogfpnfhkibaa", sum := "eb3ef9aede37435bae51ccbaacaf08fcc10e40cde9062d72fd81a4b7eca8fe20", func := "aloeswood/aloeswoodlaw02.GamePoured", spec := "gamePoured", inPlace := ["slices.overlaps[[]int]", "slices.overlaps[int]"], unfollowed := true, recurses := true, plainKeys := false, apart := false }
def GamePouredSaid : Prop := gamePouredRow.holds Try.pinned (OpenSpec.ofChange gamePouredSpec)

/-- ITS FALSE NEIGHBOUR: 'it returns false'. Refute it at one input. -/
def gamePouredWrong : ChangeSpec := { name := "gamePoured", fn := fun _ => fun
  | [d] => { results := [.lit (.bool false)], args := [d] }
  | _ => none }
def GamePouredWrongFalsely : Prop := gamePouredRow.holds Try.pinned (OpenSpec.ofChange gamePouredWrong)

/-- 'aloeswoodlaw02.GameSpared': WHATEVER THE INPUT: true; the input reads as it did. -/
def gameSparedSpec : ChangeSpec := { name := "gameSpared", fn := fun _ => fun
  | [d] => { results := [.lit (.bool true)], args := [d] }
  | _ => none }
def gameSparedRow : OpenClaim := { program := "ytecogfpnfhkibaa", sum := "eb3ef9aede37435bae51ccbaacaf08fcc10e40cde9062d72fd81a4b7eca8fe20", func := "aloeswood/aloeswoodlaw02.GameSpared", spec := "gameSpared", inPlace := ["slices.overlaps[[]int]", "slices.overlaps[int]"], unfollowed := true, recurses := true, plainKeys := false, apart := false }
def GameSparedSaid : Prop := gameSparedRow.holds Try.pinned (OpenSpec.ofChange gameSparedSpec)

/-- ITS FALSE NEIGHBOUR: 'it returns false'. Refute it at one input. -/
def gameSparedWrong : ChangeSpec := { name := "gameSpared", fn := fun _ => fun
  | [d] => { results := [.lit (.bool false)], args := [d] }
  | _ => none }
def GameSparedWrongFalsely : Prop := gameSparedRow.holds Try.pinned (OpenSpec.ofChange gameSparedWrong)

/-- 'aloeswoodlaw02.GameNamed': WHATEVER THE INPUT: true; the input reads as it did. -/
def gameNamedSpec : ChangeSpec := { name := "gameNamed", fn := fun _ => fun
  | [d] => { results := [.lit (.bool true)], args := [d] }
  | _ => none }
def gameNamedRow : OpenClaim := { program := "ytecogfpnfhkibaa", sum := "eb3ef9aede37435bae51ccbaacaf08fcc10e40cde9062d72fd81a4b7eca8fe20", func := "aloeswood/aloeswoodlaw02.GameNamed", spec := "gameNamed", inPlace := ["slices.overlaps[[]int]", "slices.overlaps[int]"], unfollowed := true, recurses := true, plainKeys := false, apart := false }
def GameNamedSaid : Prop := gameNamedRow.holds Try.pinned (OpenSpec.ofChange gameNamedSpec)

/-- ITS FALSE NEIGHBOUR: 'it returns false'. Refute it at one input. -/
def gameNamedWrong : ChangeSpec := { name := "gameNamed", fn := fun _ => fun
  | [d] => { results := [.lit (.bool false)], args := [d] }
  | _ => none }
def GameNamedWrongFalsely : Prop := gameNamedRow.holds Try.pinned (OpenSpec.ofChange gameNamedWrong)

/-- 'aloeswoodlaw02.GameTruth': WHATEVER THE INPUT: true; the input reads as it did. -/
def gameTruthSpec : ChangeSpec := { name := "gameTruth", fn := fun _ => fun
  | [d] => { results := [.lit (.bool true)], args := [d] }
  | _ => none }
def gameTruthRow : OpenClaim := { program := "ytecogfpnfhkibaa", sum := "eb3ef9aede37435bae51ccbaacaf08fcc10e40cde9062d72fd81a4b7eca8fe20", func := "aloeswood/aloeswoodlaw02.GameTruth", spec := "gameTruth", inPlace := ["slices.overlaps[[]int]", "slices.overlaps[int]"], unfollowed := true, recurses := true, plainKeys := false, apart := false }
def GameTruthSaid : Prop := gameTruthRow.holds Try.pinned (OpenSpec.ofChange gameTruthSpec)

/-- ITS FALSE NEIGHBOUR: 'it returns false'. Refute it at one input. -/
def gameTruthWrong : ChangeSpec := { name := "gameTruth", fn := fun _ => fun
  | [d] => { results := [.lit (.bool false)], args := [d] }
  | _ => none }
def GameTruthWrongFalsely : Prop := gameTruthRow.holds Try.pinned (OpenSpec.ofChange gameTruthWrong)

/-- 'aloeswoodlaw02.GameExchange': WHATEVER THE INPUT: true; the input reads as it did. -/
def gameExchangeSpec : ChangeSpec := { name := "gameExchange", fn := fun _ => fun
  | [d] => { results := [.lit (.bool true)], args := [d] }
  | _ => none }
def gameExchangeRow : OpenClaim := { program := "ytecogfpnfhkibaa", sum := "eb3ef9aede37435bae51ccbaacaf08fcc10e40cde9062d72fd81a4b7eca8fe20", func := "aloeswood/aloeswoodlaw02.GameExchange", spec := "gameExchange", inPlace := ["slices.overlaps[[]int]", "slices.overlaps[int]"], unfollowed := true, recurses := true, plainKeys := false, apart := false }
def GameExchangeSaid : Prop := gameExchangeRow.holds Try.pinned (OpenSpec.ofChange gameExchangeSpec)

/-- ITS FALSE NEIGHBOUR: 'it returns false'. Refute it at one input. -/
def gameExchangeWrong : ChangeSpec := { name := "gameExchange", fn := fun _ => fun
  | [d] => { results := [.lit (.bool false)], args := [d] }
  | _ => none }
def GameExchangeWrongFalsely : Prop := gameExchangeRow.holds Try.pinned (OpenSpec.ofChange gameExchangeWrong)

/-- 'aloeswoodlaw02.GameAnswers': WHATEVER THE INPUT: true; the input reads as it did. -/
def gameAnswersSpec : ChangeSpec := { name := "gameAnswers", fn := fun _ => fun
  | [d] => { results := [.lit (.bool true)], args := [d] }
  | _ => none }
def gameAnswersRow : OpenClaim := { program := "ytecogfpnfhkibaa", sum := "eb3ef9aede37435bae51ccbaacaf08fcc10e40cde9062d72fd81a4b7eca8fe20", func := "aloeswood/aloeswoodlaw02.GameAnswers", spec := "gameAnswers", inPlace := ["slices.overlaps[[]int]", "slices.overlaps[int]"], unfollowed := true, recurses := true, plainKeys := false, apart := false }
def GameAnswersSaid : Prop := gameAnswersRow.holds Try.pinned (OpenSpec.ofChange gameAnswersSpec)

/-- ITS FALSE NEIGHBOUR: 'it returns false'. Refute it at one input. -/
def gameAnswersWrong : ChangeSpec := { name := "gameAnswers", fn := fun _ => fun
  | [d] => { results := [.lit (.bool false)], args := [d] }
  | _ => none }
def GameAnswersWrongFalsely : Prop := gameAnswersRow.holds Try.pinned (OpenSpec.ofChange gameAnswersWrong)

/- THE SECOND FORM. 'bulk': how many values and letters a reading holds, each counted each time it is reached (what is shared counts as often as it is met; a slice's spare places count too). A statement '..UptoSaid' is the law's where the arguments, and the package variables that the reading takes, are together of bulk at most 1048576: NARROWER than '..Said'. Prove '..Said' where nothing that the law and all that it calls make is longer than what came in: it says more and counts as full. Else prove '..UptoSaid'. A law counts once. -/
mutual
def uptoBulk {H : Type} : DataW H → Nat
  | .lit (.string bytes) => bytes.length + 1
  | .lit _ => 1
  | .nil => 1
  | .ptr d => uptoBulk d + 1
  | .slice elems spare => uptoBulkAll elems + uptoBulkAll spare + 1
  | .agg parts => uptoBulkAll parts + 1
  | .iface _ d => uptoBulk d + 1
  | .map entries => uptoBulkEntries entries + 1
  | .held _ => 1
def uptoBulkAll {H : Type} : List (DataW H) → Nat
  | [] => 0
  | d :: r => uptoBulk d + uptoBulkAll r
def uptoBulkEntries {H : Type} : List (Lit × DataW H) → Nat
  | [] => 0
  | x :: r => uptoBulkEntry x + uptoBulkEntries r
def uptoBulkEntry {H : Type} : Lit × DataW H → Nat
  | (.string bytes, d) => bytes.length + uptoBulk d + 1
  | (_, d) => uptoBulk d + 1
 end
def uptoSmall : (H : Type) → List (DataW H) → Bool := fun _ ds => decide (uptoBulkAll ds ≤ 1048576)
def OpenSpec.upto (s : _root_.Go.ChangeSpec) : _root_.Go.OpenSpec := { _root_.Go.OpenSpec.ofChange s with cond := some uptoSmall }

/-- 'aloeswoodlaw02.GameChecks', WHERE WHAT IT READS IS OF BULK AT MOST 1048576: true; the input reads as it did. -/
def gameChecksUptoRow : OpenClaim := { program := "ytecogfpnfhkibaa", sum := "eb3ef9aede37435bae51ccbaacaf08fcc10e40cde9062d72fd81a4b7eca8fe20", func := "aloeswood/aloeswoodlaw02.GameChecks", spec := "gameChecks", inPlace := ["slices.overlaps[[]int]", "slices.overlaps[int]"], unfollowed := true, recurses := true, plainKeys := false, apart := false, narrowed := true }
def GameChecksUptoSaid : Prop := gameChecksUptoRow.holds Try.pinned (OpenSpec.upto gameChecksSpec)

/-- 'aloeswoodlaw02.GameCourses', WHERE WHAT IT READS IS OF BULK AT MOST 1048576: true; the input reads as it did. -/
def gameCoursesUptoRow : OpenClaim := { program := "ytecogfpnfhkibaa", sum := "eb3ef9aede37435bae51ccbaacaf08fcc10e40cde9062d72fd81a4b7eca8fe20", func := "aloeswood/aloeswoodlaw02.GameCourses", spec := "gameCourses", inPlace := ["slices.overlaps[[]int]", "slices.overlaps[int]"], unfollowed := true, recurses := true, plainKeys := false, apart := false, narrowed := true }
def GameCoursesUptoSaid : Prop := gameCoursesUptoRow.holds Try.pinned (OpenSpec.upto gameCoursesSpec)

/-- 'aloeswoodlaw02.GameCounted', WHERE WHAT IT READS IS OF BULK AT MOST 1048576: true; the input reads as it did. -/
def gameCountedUptoRow : OpenClaim := { program := "ytecogfpnfhkibaa", sum := "eb3ef9aede37435bae51ccbaacaf08fcc10e40cde9062d72fd81a4b7eca8fe20", func := "aloeswood/aloeswoodlaw02.GameCounted", spec := "gameCounted", inPlace := ["slices.overlaps[[]int]", "slices.overlaps[int]"], unfollowed := true, recurses := true, plainKeys := false, apart := false, narrowed := true }
def GameCountedUptoSaid : Prop := gameCountedUptoRow.holds Try.pinned (OpenSpec.upto gameCountedSpec)

/-- 'aloeswoodlaw02.GamePoured', WHERE WHAT IT READS IS OF BULK AT MOST 1048576: true; the input reads as it did. -/
def gamePouredUptoRow : OpenClaim := { program := "ytecogfpnfhkibaa", sum := "eb3ef9aede37435bae51ccbaacaf08fcc10e40cde9062d72fd81a4b7eca8fe20", func := "aloeswood/aloeswoodlaw02.GamePoured", spec := "gamePoured", inPlace := ["slices.overlaps[[]int]", "slices.overlaps[int]"], unfollowed := true, recurses := true, plainKeys := false, apart := false, narrowed := true }
def GamePouredUptoSaid : Prop := gamePouredUptoRow.holds Try.pinned (OpenSpec.upto gamePouredSpec)

/-- 'aloeswoodlaw02.GameSpared', WHERE WHAT IT READS IS OF BULK AT MOST 1048576: true; the input reads as it did. -/
def gameSparedUptoRow : OpenClaim := { program := "ytecogfpnfhkibaa", sum := "eb3ef9aede37435bae51ccbaacaf08fcc10e40cde9062d72fd81a4b7eca8fe20", func := "aloeswood/aloeswoodlaw02.GameSpared", spec := "gameSpared", inPlace := ["slices.overlaps[[]int]", "slices.overlaps[int]"], unfollowed := true, recurses := true, plainKeys := false, apart := false, narrowed := true }
def GameSparedUptoSaid : Prop := gameSparedUptoRow.holds Try.pinned (OpenSpec.upto gameSparedSpec)

/-- 'aloeswoodlaw02.GameNamed', WHERE WHAT IT READS IS OF BULK AT MOST 1048576: true; the input reads as it did. -/
def gameNamedUptoRow : OpenClaim := { program := "ytecogfpnfhkibaa", sum := "eb3ef9aede37435bae51ccbaacaf08fcc10e40cde9062d72fd81a4b7eca8fe20", func := "aloeswood/aloeswoodlaw02.GameNamed", spec := "gameNamed", inPlace := ["slices.overlaps[[]int]", "slices.overlaps[int]"], unfollowed := true, recurses := true, plainKeys := false, apart := false, narrowed := true }
def GameNamedUptoSaid : Prop := gameNamedUptoRow.holds Try.pinned (OpenSpec.upto gameNamedSpec)

/-- 'aloeswoodlaw02.GameTruth', WHERE WHAT IT READS IS OF BULK AT MOST 1048576: true; the input reads as it did. -/
def gameTruthUptoRow : OpenClaim := { program := "ytecogfpnfhkibaa", sum := "eb3ef9aede37435bae51ccbaacaf08fcc10e40cde9062d72fd81a4b7eca8fe20", func := "aloeswood/aloeswoodlaw02.GameTruth", spec := "gameTruth", inPlace := ["slices.overlaps[[]int]", "slices.overlaps[int]"], unfollowed := true, recurses := true, plainKeys := false, apart := false, narrowed := true }
def GameTruthUptoSaid : Prop := gameTruthUptoRow.holds Try.pinned (OpenSpec.upto gameTruthSpec)

/-- 'aloeswoodlaw02.GameExchange', WHERE WHAT IT READS IS OF BULK AT MOST 1048576: true; the input reads as it did. -/
def gameExchangeUptoRow : OpenClaim := { program := "ytecogfpnfhkibaa", sum := "eb3ef9aede37435bae51ccbaacaf08fcc10e40cde9062d72fd81a4b7eca8fe20", func := "aloeswood/aloeswoodlaw02.GameExchange", spec := "gameExchange", inPlace := ["slices.overlaps[[]int]", "slices.overlaps[int]"], unfollowed := true, recurses := true, plainKeys := false, apart := false, narrowed := true }
def GameExchangeUptoSaid : Prop := gameExchangeUptoRow.holds Try.pinned (OpenSpec.upto gameExchangeSpec)

/-- 'aloeswoodlaw02.GameAnswers', WHERE WHAT IT READS IS OF BULK AT MOST 1048576: true; the input reads as it did. -/
def gameAnswersUptoRow : OpenClaim := { program := "ytecogfpnfhkibaa", sum := "eb3ef9aede37435bae51ccbaacaf08fcc10e40cde9062d72fd81a4b7eca8fe20", func := "aloeswood/aloeswoodlaw02.GameAnswers", spec := "gameAnswers", inPlace := ["slices.overlaps[[]int]", "slices.overlaps[int]"], unfollowed := true, recurses := true, plainKeys := false, apart := false, narrowed := true }
def GameAnswersUptoSaid : Prop := gameAnswersUptoRow.holds Try.pinned (OpenSpec.upto gameAnswersSpec)

end Rows
end Go.Proofs.Ytecogfpnfhkibaa
