/-
  No cell of these rows narrows 'for every input' (looked for: loops, veiled, ifaces, maps, wideKeys, modest, calm, conditions, laid).
  DERIVED. THE GIVEN ROWS OF THIS SEAT. 12 by the template 'for every input the law returns true; each argument reads behind the call as it read before'; 0 by the template 'total and deterministic' (their statements: YtioggblimkgioaaGreatTotals.lean).
  GIVEN WITH THE SEED: the statements are not yours to turn. If you find one false, say at which input.
  Laid BY PROGRAM, IN A SANDBOX (cutbox-rows.mjs): the forced cells as the released guide's own fill.sh prints them over the translation d008302037e26712… (all of the seat's roots in one cut). By AI agents, Wed Nov 11 2026. No macro, syntax, notation, axiom, sorry.
-/
import Derived.Test.YtioggblimkgioaaGreatChecked
import GoSem.Claim
import GoSem.ClaimJoined
import GoSem.ClaimMapViews
import Derived.JoinedTies
import Derived.KernelRfl
namespace Go.Proofs.YtioggblimkgioaaGreat
/- THE CELL 'sum', in the pinned program and in every row, IS THE sha256 OF THE DUMP (.gsa) THAT YtioggblimkgioaaGreatProg.lean LOADS. Nothing in Lean hashes anything: it is a label: what it is worth is what the hold of that sum in a sandbox is worth. -/
noncomputable def Tryz.pinned : Pinned := { name := "ytioggblimkgioaagreat", sum := "d008302037e267129579ff9c8cb1bad965d801e1efd467e53b40c124bdd3124d", checked := Tryz.checked }
namespace Rows
def none {H : Type} : Left H := { results := [], args := [] }

/-- 'aloeswoodlaw04.KnowOrder': WHATEVER THE INPUT: true; the input reads as it did. -/
def knowOrderSpec : ChangeSpec := { name := "knowOrder", fn := fun _ => fun
  | [d] => { results := [.lit (.bool true)], args := [d] }
  | _ => none }
def knowOrderRow : OpenClaim := { program := "ytioggblimkgioaagreat", sum := "d008302037e267129579ff9c8cb1bad965d801e1efd467e53b40c124bdd3124d", func := "aloeswood/aloeswoodlaw04.KnowOrder", spec := "knowOrder", inPlace := ["slices.overlaps[[]int]", "slices.overlaps[int]"], unfollowed := true, recurses := true, plainKeys := false, apart := false }
def KnowOrderSaid : Prop := knowOrderRow.holds Tryz.pinned (OpenSpec.ofChange knowOrderSpec)

/-- ITS FALSE NEIGHBOUR: 'it returns false'. Refute it at one input. -/
def knowOrderWrong : ChangeSpec := { name := "knowOrder", fn := fun _ => fun
  | [d] => { results := [.lit (.bool false)], args := [d] }
  | _ => none }
def KnowOrderWrongFalsely : Prop := knowOrderRow.holds Tryz.pinned (OpenSpec.ofChange knowOrderWrong)

/-- 'aloeswoodlaw04.KnowChecks': WHATEVER THE INPUT: true; the input reads as it did. -/
def knowChecksSpec : ChangeSpec := { name := "knowChecks", fn := fun _ => fun
  | [d1, d2] => { results := [.lit (.bool true)], args := [d1, d2] }
  | _ => none }
def knowChecksRow : OpenClaim := { program := "ytioggblimkgioaagreat", sum := "d008302037e267129579ff9c8cb1bad965d801e1efd467e53b40c124bdd3124d", func := "aloeswood/aloeswoodlaw04.KnowChecks", spec := "knowChecks", inPlace := ["slices.overlaps[[]int]", "slices.overlaps[int]"], unfollowed := true, recurses := true, plainKeys := false, apart := false }
def KnowChecksSaid : Prop := knowChecksRow.holds Tryz.pinned (OpenSpec.ofChange knowChecksSpec)

/-- ITS FALSE NEIGHBOUR: 'it returns false'. Refute it at one input. -/
def knowChecksWrong : ChangeSpec := { name := "knowChecks", fn := fun _ => fun
  | [d1, d2] => { results := [.lit (.bool false)], args := [d1, d2] }
  | _ => none }
def KnowChecksWrongFalsely : Prop := knowChecksRow.holds Tryz.pinned (OpenSpec.ofChange knowChecksWrong)

/-- 'aloeswoodlaw04.KnowPoints': WHATEVER THE INPUT: true; the input reads as it did. -/
def knowPointsSpec : ChangeSpec := { name := "knowPoints", fn := fun _ => fun
  | [d1, d2, d3, d4, d5, d6] => { results := [.lit (.bool true)], args := [d1, d2, d3, d4, d5, d6] }
  | _ => none }
def knowPointsRow : OpenClaim := { program := "ytioggblimkgioaagreat", sum := "d008302037e267129579ff9c8cb1bad965d801e1efd467e53b40c124bdd3124d", func := "aloeswood/aloeswoodlaw04.KnowPoints", spec := "knowPoints", inPlace := ["slices.overlaps[[]int]", "slices.overlaps[int]"], unfollowed := true, recurses := true, plainKeys := false, apart := false }
def KnowPointsSaid : Prop := knowPointsRow.holds Tryz.pinned (OpenSpec.ofChange knowPointsSpec)

/-- ITS FALSE NEIGHBOUR: 'it returns false'. Refute it at one input. -/
def knowPointsWrong : ChangeSpec := { name := "knowPoints", fn := fun _ => fun
  | [d1, d2, d3, d4, d5, d6] => { results := [.lit (.bool false)], args := [d1, d2, d3, d4, d5, d6] }
  | _ => none }
def KnowPointsWrongFalsely : Prop := knowPointsRow.holds Tryz.pinned (OpenSpec.ofChange knowPointsWrong)

/-- 'aloeswoodlaw04.KnowAnswers': WHATEVER THE INPUT: true; the input reads as it did. -/
def knowAnswersSpec : ChangeSpec := { name := "knowAnswers", fn := fun _ => fun
  | [d1, d2, d3, d4] => { results := [.lit (.bool true)], args := [d1, d2, d3, d4] }
  | _ => none }
def knowAnswersRow : OpenClaim := { program := "ytioggblimkgioaagreat", sum := "d008302037e267129579ff9c8cb1bad965d801e1efd467e53b40c124bdd3124d", func := "aloeswood/aloeswoodlaw04.KnowAnswers", spec := "knowAnswers", inPlace := ["slices.overlaps[[]int]", "slices.overlaps[int]"], unfollowed := true, recurses := true, plainKeys := false, apart := false }
def KnowAnswersSaid : Prop := knowAnswersRow.holds Tryz.pinned (OpenSpec.ofChange knowAnswersSpec)

/-- ITS FALSE NEIGHBOUR: 'it returns false'. Refute it at one input. -/
def knowAnswersWrong : ChangeSpec := { name := "knowAnswers", fn := fun _ => fun
  | [d1, d2, d3, d4] => { results := [.lit (.bool false)], args := [d1, d2, d3, d4] }
  | _ => none }
def KnowAnswersWrongFalsely : Prop := knowAnswersRow.holds Tryz.pinned (OpenSpec.ofChange knowAnswersWrong)

/-- 'aloeswoodlaw04.KnowNoMore': WHATEVER THE INPUT: true; the input reads as it did. -/
def knowNoMoreSpec : ChangeSpec := { name := "knowNoMore", fn := fun _ => fun
  | [d] => { results := [.lit (.bool true)], args := [d] }
  | _ => none }
def knowNoMoreRow : OpenClaim := { program := "ytioggblimkgioaagreat", sum := "d008302037e267129579ff9c8cb1bad965d801e1efd467e53b40c124bdd3124d", func := "aloeswood/aloeswoodlaw04.KnowNoMore", spec := "knowNoMore", inPlace := ["slices.overlaps[[]int]", "slices.overlaps[int]"], unfollowed := true, recurses := true, plainKeys := false, apart := false }
def KnowNoMoreSaid : Prop := knowNoMoreRow.holds Tryz.pinned (OpenSpec.ofChange knowNoMoreSpec)

/-- ITS FALSE NEIGHBOUR: 'it returns false'. Refute it at one input. -/
def knowNoMoreWrong : ChangeSpec := { name := "knowNoMore", fn := fun _ => fun
  | [d] => { results := [.lit (.bool false)], args := [d] }
  | _ => none }
def KnowNoMoreWrongFalsely : Prop := knowNoMoreRow.holds Tryz.pinned (OpenSpec.ofChange knowNoMoreWrong)

/-- 'aloeswoodlaw04.KnowBest': WHATEVER THE INPUT: true; the input reads as it did. -/
def knowBestSpec : ChangeSpec := { name := "knowBest", fn := fun _ => fun
  | [d] => { results := [.lit (.bool true)], args := [d] }
  | _ => none }
def knowBestRow : OpenClaim := { program := "ytioggblimkgioaagreat", sum := "d008302037e267129579ff9c8cb1bad965d801e1efd467e53b40c124bdd3124d", func := "aloeswood/aloeswoodlaw04.KnowBest", spec := "knowBest", inPlace := ["slices.overlaps[[]int]", "slices.overlaps[int]"], unfollowed := true, recurses := true, plainKeys := false, apart := false }
def KnowBestSaid : Prop := knowBestRow.holds Tryz.pinned (OpenSpec.ofChange knowBestSpec)

/-- ITS FALSE NEIGHBOUR: 'it returns false'. Refute it at one input. -/
def knowBestWrong : ChangeSpec := { name := "knowBest", fn := fun _ => fun
  | [d] => { results := [.lit (.bool false)], args := [d] }
  | _ => none }
def KnowBestWrongFalsely : Prop := knowBestRow.holds Tryz.pinned (OpenSpec.ofChange knowBestWrong)

/-- 'aloeswoodlaw04.KnowSkill': WHATEVER THE INPUT: true; the input reads as it did. -/
def knowSkillSpec : ChangeSpec := { name := "knowSkill", fn := fun _ => fun
  | [d] => { results := [.lit (.bool true)], args := [d] }
  | _ => none }
def knowSkillRow : OpenClaim := { program := "ytioggblimkgioaagreat", sum := "d008302037e267129579ff9c8cb1bad965d801e1efd467e53b40c124bdd3124d", func := "aloeswood/aloeswoodlaw04.KnowSkill", spec := "knowSkill", inPlace := ["slices.overlaps[[]int]", "slices.overlaps[int]"], unfollowed := true, recurses := true, plainKeys := false, apart := false }
def KnowSkillSaid : Prop := knowSkillRow.holds Tryz.pinned (OpenSpec.ofChange knowSkillSpec)

/-- ITS FALSE NEIGHBOUR: 'it returns false'. Refute it at one input. -/
def knowSkillWrong : ChangeSpec := { name := "knowSkill", fn := fun _ => fun
  | [d] => { results := [.lit (.bool false)], args := [d] }
  | _ => none }
def KnowSkillWrongFalsely : Prop := knowSkillRow.holds Tryz.pinned (OpenSpec.ofChange knowSkillWrong)

/-- 'aloeswoodlaw04.KnowTruth': WHATEVER THE INPUT: true; the input reads as it did. -/
def knowTruthSpec : ChangeSpec := { name := "knowTruth", fn := fun _ => fun
  | [d] => { results := [.lit (.bool true)], args := [d] }
  | _ => none }
def knowTruthRow : OpenClaim := { program := "ytioggblimkgioaagreat", sum := "d008302037e267129579ff9c8cb1bad965d801e1efd467e53b40c124bdd3124d", func := "aloeswood/aloeswoodlaw04.KnowTruth", spec := "knowTruth", inPlace := ["slices.overlaps[[]int]", "slices.overlaps[int]"], unfollowed := true, recurses := true, plainKeys := false, apart := false }
def KnowTruthSaid : Prop := knowTruthRow.holds Tryz.pinned (OpenSpec.ofChange knowTruthSpec)

/-- ITS FALSE NEIGHBOUR: 'it returns false'. Refute it at one input. -/
def knowTruthWrong : ChangeSpec := { name := "knowTruth", fn := fun _ => fun
  | [d] => { results := [.lit (.bool false)], args := [d] }
  | _ => none }
def KnowTruthWrongFalsely : Prop := knowTruthRow.holds Tryz.pinned (OpenSpec.ofChange knowTruthWrong)

/-- 'aloeswoodlaw04.KnowCharts': WHATEVER THE INPUT: true; the input reads as it did. -/
def knowChartsSpec : ChangeSpec := { name := "knowCharts", fn := fun _ => fun
  | [d] => { results := [.lit (.bool true)], args := [d] }
  | _ => none }
def knowChartsRow : OpenClaim := { program := "ytioggblimkgioaagreat", sum := "d008302037e267129579ff9c8cb1bad965d801e1efd467e53b40c124bdd3124d", func := "aloeswood/aloeswoodlaw04.KnowCharts", spec := "knowCharts", inPlace := ["slices.overlaps[[]int]", "slices.overlaps[int]"], unfollowed := true, recurses := true, plainKeys := false, apart := false }
def KnowChartsSaid : Prop := knowChartsRow.holds Tryz.pinned (OpenSpec.ofChange knowChartsSpec)

/-- ITS FALSE NEIGHBOUR: 'it returns false'. Refute it at one input. -/
def knowChartsWrong : ChangeSpec := { name := "knowCharts", fn := fun _ => fun
  | [d] => { results := [.lit (.bool false)], args := [d] }
  | _ => none }
def KnowChartsWrongFalsely : Prop := knowChartsRow.holds Tryz.pinned (OpenSpec.ofChange knowChartsWrong)

/-- 'aloeswoodlaw04.KnowMore': WHATEVER THE INPUT: true; the input reads as it did. -/
def knowMoreSpec : ChangeSpec := { name := "knowMore", fn := fun _ => fun
  | [d] => { results := [.lit (.bool true)], args := [d] }
  | _ => none }
def knowMoreRow : OpenClaim := { program := "ytioggblimkgioaagreat", sum := "d008302037e267129579ff9c8cb1bad965d801e1efd467e53b40c124bdd3124d", func := "aloeswood/aloeswoodlaw04.KnowMore", spec := "knowMore", inPlace := ["slices.overlaps[[]int]", "slices.overlaps[int]"], unfollowed := true, recurses := true, plainKeys := false, apart := false }
def KnowMoreSaid : Prop := knowMoreRow.holds Tryz.pinned (OpenSpec.ofChange knowMoreSpec)

/-- ITS FALSE NEIGHBOUR: 'it returns false'. Refute it at one input. -/
def knowMoreWrong : ChangeSpec := { name := "knowMore", fn := fun _ => fun
  | [d] => { results := [.lit (.bool false)], args := [d] }
  | _ => none }
def KnowMoreWrongFalsely : Prop := knowMoreRow.holds Tryz.pinned (OpenSpec.ofChange knowMoreWrong)

/-- 'aloeswoodlaw04.KnowSures': WHATEVER THE INPUT: true; the input reads as it did. -/
def knowSuresSpec : ChangeSpec := { name := "knowSures", fn := fun _ => fun
  | [d1, d2, d3] => { results := [.lit (.bool true)], args := [d1, d2, d3] }
  | _ => none }
def knowSuresRow : OpenClaim := { program := "ytioggblimkgioaagreat", sum := "d008302037e267129579ff9c8cb1bad965d801e1efd467e53b40c124bdd3124d", func := "aloeswood/aloeswoodlaw04.KnowSures", spec := "knowSures", inPlace := ["slices.overlaps[[]int]", "slices.overlaps[int]"], unfollowed := true, recurses := true, plainKeys := false, apart := false }
def KnowSuresSaid : Prop := knowSuresRow.holds Tryz.pinned (OpenSpec.ofChange knowSuresSpec)

/-- ITS FALSE NEIGHBOUR: 'it returns false'. Refute it at one input. -/
def knowSuresWrong : ChangeSpec := { name := "knowSures", fn := fun _ => fun
  | [d1, d2, d3] => { results := [.lit (.bool false)], args := [d1, d2, d3] }
  | _ => none }
def KnowSuresWrongFalsely : Prop := knowSuresRow.holds Tryz.pinned (OpenSpec.ofChange knowSuresWrong)

/-- 'aloeswoodlaw04.KnowKnown': WHATEVER THE INPUT: true; the input reads as it did. -/
def knowKnownSpec : ChangeSpec := { name := "knowKnown", fn := fun _ => fun
  | [] => { results := [.lit (.bool true)], args := [] }
  | _ => none }
def knowKnownRow : OpenClaim := { program := "ytioggblimkgioaagreat", sum := "d008302037e267129579ff9c8cb1bad965d801e1efd467e53b40c124bdd3124d", func := "aloeswood/aloeswoodlaw04.KnowKnown", spec := "knowKnown", inPlace := ["slices.overlaps[[]int]", "slices.overlaps[int]"], unfollowed := true, recurses := true, plainKeys := false, apart := false }
def KnowKnownSaid : Prop := knowKnownRow.holds Tryz.pinned (OpenSpec.ofChange knowKnownSpec)

/-- ITS FALSE NEIGHBOUR: 'it returns false'. Refute it at one input. -/
def knowKnownWrong : ChangeSpec := { name := "knowKnown", fn := fun _ => fun
  | [] => { results := [.lit (.bool false)], args := [] }
  | _ => none }
def KnowKnownWrongFalsely : Prop := knowKnownRow.holds Tryz.pinned (OpenSpec.ofChange knowKnownWrong)

/- THE SECOND FORM. 'bulk': how many values and letters a reading holds, each counted each time it is reached (what is shared counts as often as it is met; a slice's spare places count too). A statement '..UptoSaid' is the law's where the arguments, and the package variables that the reading takes, are together of bulk at most 1048576: NARROWER than '..Said'. Prove '..Said' where nothing that the law and all that it calls make is longer than what came in: it says more and counts as full. Else prove '..UptoSaid'. A law counts once. -/
mutual
def uptoBulk {H : Type} : DataW H → Nat
  | .lit (.string bytes) => bytes.length + 1
  | .lit _ => 1
  | .nil => 1
  | .ptr d => uptoBulk d + 1
  | .slice elems spare => uptoBulkAll elems + uptoBulkAll spare + 1
  | .agg parts => uptoBulkAll parts + 1
  | .iface _ d => uptoBulk d + 1
  | .map entries => uptoBulkEntries entries + 1
  | .held _ => 1
def uptoBulkAll {H : Type} : List (DataW H) → Nat
  | [] => 0
  | d :: r => uptoBulk d + uptoBulkAll r
def uptoBulkEntries {H : Type} : List (Lit × DataW H) → Nat
  | [] => 0
  | x :: r => uptoBulkEntry x + uptoBulkEntries r
def uptoBulkEntry {H : Type} : Lit × DataW H → Nat
  | (.string bytes, d) => bytes.length + uptoBulk d + 1
  | (_, d) => uptoBulk d + 1
 end
def uptoSmall : (H : Type) → List (DataW H) → Bool := fun _ ds => decide (uptoBulkAll ds ≤ 1048576)
def OpenSpec.upto (s : _root_.Go.ChangeSpec) : _root_.Go.OpenSpec := { _root_.Go.OpenSpec.ofChange s with cond := some uptoSmall }

/-- 'aloeswoodlaw04.KnowOrder', WHERE WHAT IT READS IS OF BULK AT MOST 1048576: true; the input reads as it did. -/
def knowOrderUptoRow : OpenClaim := { program := "ytioggblimkgioaagreat", sum := "d008302037e267129579ff9c8cb1bad965d801e1efd467e53b40c124bdd3124d", func := "aloeswood/aloeswoodlaw04.KnowOrder", spec := "knowOrder", inPlace := ["slices.overlaps[[]int]", "slices.overlaps[int]"], unfollowed := true, recurses := true, plainKeys := false, apart := false, narrowed := true }
def KnowOrderUptoSaid : Prop := knowOrderUptoRow.holds Tryz.pinned (OpenSpec.upto knowOrderSpec)

/-- 'aloeswoodlaw04.KnowChecks', WHERE WHAT IT READS IS OF BULK AT MOST 1048576: true; the input reads as it did. -/
def knowChecksUptoRow : OpenClaim := { program := "ytioggblimkgioaagreat", sum := "d008302037e267129579ff9c8cb1bad965d801e1efd467e53b40c124bdd3124d", func := "aloeswood/aloeswoodlaw04.KnowChecks", spec := "knowChecks", inPlace := ["slices.overlaps[[]int]", "slices.overlaps[int]"], unfollowed := true, recurses := true, plainKeys := false, apart := false, narrowed := true }
def KnowChecksUptoSaid : Prop := knowChecksUptoRow.holds Tryz.pinned (OpenSpec.upto knowChecksSpec)

/-- 'aloeswoodlaw04.KnowPoints', WHERE WHAT IT READS IS OF BULK AT MOST 1048576: true; the input reads as it did. -/
def knowPointsUptoRow : OpenClaim := { program := "ytioggblimkgioaagreat", sum := "d008302037e267129579ff9c8cb1bad965d801e1efd467e53b40c124bdd3124d", func := "aloeswood/aloeswoodlaw04.KnowPoints", spec := "knowPoints", inPlace := ["slices.overlaps[[]int]", "slices.overlaps[int]"], unfollowed := true, recurses := true, plainKeys := false, apart := false, narrowed := true }
def KnowPointsUptoSaid : Prop := knowPointsUptoRow.holds Tryz.pinned (OpenSpec.upto knowPointsSpec)

/-- 'aloeswoodlaw04.KnowAnswers', WHERE WHAT IT READS IS OF BULK AT MOST 1048576: true; the input reads as it did. -/
def knowAnswersUptoRow : OpenClaim := { program := "ytioggblimkgioaagreat", sum := "d008302037e267129579ff9c8cb1bad965d801e1efd467e53b40c124bdd3124d", func := "aloeswood/aloeswoodlaw04.KnowAnswers", spec := "knowAnswers", inPlace := ["slices.overlaps[[]int]", "slices.overlaps[int]"], unfollowed := true, recurses := true, plainKeys := false, apart := false, narrowed := true }
def KnowAnswersUptoSaid : Prop := knowAnswersUptoRow.holds Tryz.pinned (OpenSpec.upto knowAnswersSpec)

/-- 'aloeswoodlaw04.KnowNoMore', WHERE WHAT IT READS IS OF BULK AT MOST 1048576: true; the input reads as it did. -/
def knowNoMoreUptoRow : OpenClaim := { program := "ytioggblimkgioaagreat", sum := "d008302037e267129579ff9c8cb1bad965d801e1efd467e53b40c124bdd3124d", func := "aloeswood/aloeswoodlaw04.KnowNoMore", spec := "knowNoMore", inPlace := ["slices.overlaps[[]int]", "slices.overlaps[int]"], unfollowed := true, recurses := true, plainKeys := false, apart := false, narrowed := true }
def KnowNoMoreUptoSaid : Prop := knowNoMoreUptoRow.holds Tryz.pinned (OpenSpec.upto knowNoMoreSpec)

/-- 'aloeswoodlaw04.KnowBest', WHERE WHAT IT READS IS OF BULK AT MOST 1048576: true; the input reads as it did. -/
def knowBestUptoRow : OpenClaim := { program := "ytioggblimkgioaagreat", sum := "d008302037e267129579ff9c8cb1bad965d801e1efd467e53b40c124bdd3124d", func := "aloeswood/aloeswoodlaw04.KnowBest", spec := "knowBest", inPlace := ["slices.overlaps[[]int]", "slices.overlaps[int]"], unfollowed := true, recurses := true, plainKeys := false, apart := false, narrowed := true }
def KnowBestUptoSaid : Prop := knowBestUptoRow.holds Tryz.pinned (OpenSpec.upto knowBestSpec)

/-- 'aloeswoodlaw04.KnowSkill', WHERE WHAT IT READS IS OF BULK AT MOST 1048576: true; the input reads as it did. -/
def knowSkillUptoRow : OpenClaim := { program := "ytioggblimkgioaagreat", sum := "d008302037e267129579ff9c8cb1bad965d801e1efd467e53b40c124bdd3124d", func := "aloeswood/aloeswoodlaw04.KnowSkill", spec := "knowSkill", inPlace := ["slices.overlaps[[]int]", "slices.overlaps[int]"], unfollowed := true, recurses := true, plainKeys := false, apart := false, narrowed := true }
def KnowSkillUptoSaid : Prop := knowSkillUptoRow.holds Tryz.pinned (OpenSpec.upto knowSkillSpec)

/-- 'aloeswoodlaw04.KnowTruth', WHERE WHAT IT READS IS OF BULK AT MOST 1048576: true; the input reads as it did. -/
def knowTruthUptoRow : OpenClaim := { program := "ytioggblimkgioaagreat", sum := "d008302037e267129579ff9c8cb1bad965d801e1efd467e53b40c124bdd3124d", func := "aloeswood/aloeswoodlaw04.KnowTruth", spec := "knowTruth", inPlace := ["slices.overlaps[[]int]", "slices.overlaps[int]"], unfollowed := true, recurses := true, plainKeys := false, apart := false, narrowed := true }
def KnowTruthUptoSaid : Prop := knowTruthUptoRow.holds Tryz.pinned (OpenSpec.upto knowTruthSpec)

/-- 'aloeswoodlaw04.KnowCharts', WHERE WHAT IT READS IS OF BULK AT MOST 1048576: true; the input reads as it did. -/
def knowChartsUptoRow : OpenClaim := { program := "ytioggblimkgioaagreat", sum := "d008302037e267129579ff9c8cb1bad965d801e1efd467e53b40c124bdd3124d", func := "aloeswood/aloeswoodlaw04.KnowCharts", spec := "knowCharts", inPlace := ["slices.overlaps[[]int]", "slices.overlaps[int]"], unfollowed := true, recurses := true, plainKeys := false, apart := false, narrowed := true }
def KnowChartsUptoSaid : Prop := knowChartsUptoRow.holds Tryz.pinned (OpenSpec.upto knowChartsSpec)

/-- 'aloeswoodlaw04.KnowMore', WHERE WHAT IT READS IS OF BULK AT MOST 1048576: true; the input reads as it did. -/
def knowMoreUptoRow : OpenClaim := { program := "ytioggblimkgioaagreat", sum := "d008302037e267129579ff9c8cb1bad965d801e1efd467e53b40c124bdd3124d", func := "aloeswood/aloeswoodlaw04.KnowMore", spec := "knowMore", inPlace := ["slices.overlaps[[]int]", "slices.overlaps[int]"], unfollowed := true, recurses := true, plainKeys := false, apart := false, narrowed := true }
def KnowMoreUptoSaid : Prop := knowMoreUptoRow.holds Tryz.pinned (OpenSpec.upto knowMoreSpec)

/-- 'aloeswoodlaw04.KnowSures', WHERE WHAT IT READS IS OF BULK AT MOST 1048576: true; the input reads as it did. -/
def knowSuresUptoRow : OpenClaim := { program := "ytioggblimkgioaagreat", sum := "d008302037e267129579ff9c8cb1bad965d801e1efd467e53b40c124bdd3124d", func := "aloeswood/aloeswoodlaw04.KnowSures", spec := "knowSures", inPlace := ["slices.overlaps[[]int]", "slices.overlaps[int]"], unfollowed := true, recurses := true, plainKeys := false, apart := false, narrowed := true }
def KnowSuresUptoSaid : Prop := knowSuresUptoRow.holds Tryz.pinned (OpenSpec.upto knowSuresSpec)

/-- 'aloeswoodlaw04.KnowKnown', WHERE WHAT IT READS IS OF BULK AT MOST 1048576: true; the input reads as it did. -/
def knowKnownUptoRow : OpenClaim := { program := "ytioggblimkgioaagreat", sum := "d008302037e267129579ff9c8cb1bad965d801e1efd467e53b40c124bdd3124d", func := "aloeswood/aloeswoodlaw04.KnowKnown", spec := "knowKnown", inPlace := ["slices.overlaps[[]int]", "slices.overlaps[int]"], unfollowed := true, recurses := true, plainKeys := false, apart := false, narrowed := true }
def KnowKnownUptoSaid : Prop := knowKnownUptoRow.holds Tryz.pinned (OpenSpec.upto knowKnownSpec)

end Rows
end Go.Proofs.YtioggblimkgioaaGreat
