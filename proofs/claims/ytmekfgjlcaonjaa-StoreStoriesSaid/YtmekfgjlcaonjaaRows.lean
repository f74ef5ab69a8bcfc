/-
  No cell of these rows narrows 'for every input' (looked for: loops, veiled, ifaces, maps, wideKeys, modest, calm, conditions, laid).
  DERIVED. THE GIVEN ROWS OF THIS SEAT. 12 by the template 'for every input the law returns true; each argument reads behind the call as it read before'; 0 by the template 'total and deterministic' (their statements: YtmekfgjlcaonjaaTotals.lean).
  GIVEN WITH THE SEED: the statements are not yours to turn. If you find one false, say at which input.
  Laid BY PROGRAM, IN A SANDBOX (cutbox-rows.mjs): the forced cells as the released guide's own fill.sh prints them over the translation 6ddc1c1ddb2e3d62… (all of the seat's roots in one cut). By AI agents, Wed Nov 11 2026. No macro, syntax, notation, axiom, sorry.
-/
import Derived.Test.YtmekfgjlcaonjaaChecked
import GoSem.Claim
import GoSem.ClaimJoined
import GoSem.ClaimMapViews
import Derived.JoinedTies
import Derived.KernelRfl
namespace Go.Proofs.Ytmekfgjlcaonjaa
/- THE CELL 'sum', in the pinned program and in every row, IS THE sha256 OF THE DUMP (.gsa) THAT YtmekfgjlcaonjaaProg.lean LOADS. Nothing in Lean hashes anything: it is a label: what it is worth is what the hold of that sum in a sandbox is worth. -/
noncomputable def Try.pinned : Pinned := { name := "ytmekfgjlcaonjaa", sum := "6ddc1c1ddb2e3d628061cc07d056e6d210de32cdc94b92bbd34de3a6d9de4791", checked := Try.checked }
namespace Rows
def none {H : Type} : Left H := { results := [], args := [] }

/-- 'aloeswoodlaw09.StoreChains': WHATEVER THE INPUT: true; the input reads as it did. -/
def storeChainsSpec : ChangeSpec := { name := "storeChains", fn := fun _ => fun
  | [d1, d2, d3] => { results := [.lit (.bool true)], args := [d1, d2, d3] }
  | _ => none }
def storeChainsRow : OpenClaim := { program := "ytmekfgjlcaonjaa", sum := "6ddc1c1ddb2e3d628061cc07d056e6d210de32cdc94b92bbd34de3a6d9de4791", func := "aloeswood/aloeswoodlaw09.StoreChains", spec := "storeChains", unfollowed := true, recurses := true, plainKeys := false, apart := false }
def StoreChainsSaid : Prop := storeChainsRow.holds Try.pinned (OpenSpec.ofChange storeChainsSpec)

/-- ITS FALSE NEIGHBOUR: 'it returns false'. Refute it at one input. -/
def storeChainsWrong : ChangeSpec := { name := "storeChains", fn := fun _ => fun
  | [d1, d2, d3] => { results := [.lit (.bool false)], args := [d1, d2, d3] }
  | _ => none }
def StoreChainsWrongFalsely : Prop := storeChainsRow.holds Try.pinned (OpenSpec.ofChange storeChainsWrong)

/-- 'aloeswoodlaw09.StoreStories': WHATEVER THE INPUT: true; the input reads as it did. -/
def storeStoriesSpec : ChangeSpec := { name := "storeStories", fn := fun _ => fun
  | [d] => { results := [.lit (.bool true)], args := [d] }
  | _ => none }
def storeStoriesRow : OpenClaim := { program := "ytmekfgjlcaonjaa", sum := "6ddc1c1ddb2e3d628061cc07d056e6d210de32cdc94b92bbd34de3a6d9de4791", func := "aloeswood/aloeswoodlaw09.StoreStories", spec := "storeStories", unfollowed := true, recurses := true, plainKeys := false, apart := false }
def StoreStoriesSaid : Prop := storeStoriesRow.holds Try.pinned (OpenSpec.ofChange storeStoriesSpec)

/-- ITS FALSE NEIGHBOUR: 'it returns false'. Refute it at one input. -/
def storeStoriesWrong : ChangeSpec := { name := "storeStories", fn := fun _ => fun
  | [d] => { results := [.lit (.bool false)], args := [d] }
  | _ => none }
def StoreStoriesWrongFalsely : Prop := storeStoriesRow.holds Try.pinned (OpenSpec.ofChange storeStoriesWrong)

/-- 'aloeswoodlaw09.StoreNarrows': WHATEVER THE INPUT: true; the input reads as it did. -/
def storeNarrowsSpec : ChangeSpec := { name := "storeNarrows", fn := fun _ => fun
  | [d] => { results := [.lit (.bool true)], args := [d] }
  | _ => none }
def storeNarrowsRow : OpenClaim := { program := "ytmekfgjlcaonjaa", sum := "6ddc1c1ddb2e3d628061cc07d056e6d210de32cdc94b92bbd34de3a6d9de4791", func := "aloeswood/aloeswoodlaw09.StoreNarrows", spec := "storeNarrows", unfollowed := true, recurses := true, plainKeys := false, apart := false }
def StoreNarrowsSaid : Prop := storeNarrowsRow.holds Try.pinned (OpenSpec.ofChange storeNarrowsSpec)

/-- ITS FALSE NEIGHBOUR: 'it returns false'. Refute it at one input. -/
def storeNarrowsWrong : ChangeSpec := { name := "storeNarrows", fn := fun _ => fun
  | [d] => { results := [.lit (.bool false)], args := [d] }
  | _ => none }
def StoreNarrowsWrongFalsely : Prop := storeNarrowsRow.holds Try.pinned (OpenSpec.ofChange storeNarrowsWrong)

/-- 'aloeswoodlaw09.StorePlans': WHATEVER THE INPUT: true; the input reads as it did. -/
def storePlansSpec : ChangeSpec := { name := "storePlans", fn := fun _ => fun
  | [d1, d2] => { results := [.lit (.bool true)], args := [d1, d2] }
  | _ => none }
def storePlansRow : OpenClaim := { program := "ytmekfgjlcaonjaa", sum := "6ddc1c1ddb2e3d628061cc07d056e6d210de32cdc94b92bbd34de3a6d9de4791", func := "aloeswood/aloeswoodlaw09.StorePlans", spec := "storePlans", unfollowed := true, recurses := true, plainKeys := false, apart := false }
def StorePlansSaid : Prop := storePlansRow.holds Try.pinned (OpenSpec.ofChange storePlansSpec)

/-- ITS FALSE NEIGHBOUR: 'it returns false'. Refute it at one input. -/
def storePlansWrong : ChangeSpec := { name := "storePlans", fn := fun _ => fun
  | [d1, d2] => { results := [.lit (.bool false)], args := [d1, d2] }
  | _ => none }
def StorePlansWrongFalsely : Prop := storePlansRow.holds Try.pinned (OpenSpec.ofChange storePlansWrong)

/-- 'aloeswoodlaw09.StoreFresh': WHATEVER THE INPUT: true; the input reads as it did. -/
def storeFreshSpec : ChangeSpec := { name := "storeFresh", fn := fun _ => fun
  | [d] => { results := [.lit (.bool true)], args := [d] }
  | _ => none }
def storeFreshRow : OpenClaim := { program := "ytmekfgjlcaonjaa", sum := "6ddc1c1ddb2e3d628061cc07d056e6d210de32cdc94b92bbd34de3a6d9de4791", func := "aloeswood/aloeswoodlaw09.StoreFresh", spec := "storeFresh", unfollowed := true, recurses := true, plainKeys := false, apart := false }
def StoreFreshSaid : Prop := storeFreshRow.holds Try.pinned (OpenSpec.ofChange storeFreshSpec)

/-- ITS FALSE NEIGHBOUR: 'it returns false'. Refute it at one input. -/
def storeFreshWrong : ChangeSpec := { name := "storeFresh", fn := fun _ => fun
  | [d] => { results := [.lit (.bool false)], args := [d] }
  | _ => none }
def StoreFreshWrongFalsely : Prop := storeFreshRow.holds Try.pinned (OpenSpec.ofChange storeFreshWrong)

/-- 'aloeswoodlaw09.StoreHolders': WHATEVER THE INPUT: true; the input reads as it did. -/
def storeHoldersSpec : ChangeSpec := { name := "storeHolders", fn := fun _ => fun
  | [d1, d2, d3, d4, d5] => { results := [.lit (.bool true)], args := [d1, d2, d3, d4, d5] }
  | _ => none }
def storeHoldersRow : OpenClaim := { program := "ytmekfgjlcaonjaa", sum := "6ddc1c1ddb2e3d628061cc07d056e6d210de32cdc94b92bbd34de3a6d9de4791", func := "aloeswood/aloeswoodlaw09.StoreHolders", spec := "storeHolders", unfollowed := true, recurses := true, plainKeys := false, apart := false }
def StoreHoldersSaid : Prop := storeHoldersRow.holds Try.pinned (OpenSpec.ofChange storeHoldersSpec)

/-- ITS FALSE NEIGHBOUR: 'it returns false'. Refute it at one input. -/
def storeHoldersWrong : ChangeSpec := { name := "storeHolders", fn := fun _ => fun
  | [d1, d2, d3, d4, d5] => { results := [.lit (.bool false)], args := [d1, d2, d3, d4, d5] }
  | _ => none }
def StoreHoldersWrongFalsely : Prop := storeHoldersRow.holds Try.pinned (OpenSpec.ofChange storeHoldersWrong)

/-- 'aloeswoodlaw09.StoreVerdicts': WHATEVER THE INPUT: true; the input reads as it did. -/
def storeVerdictsSpec : ChangeSpec := { name := "storeVerdicts", fn := fun _ => fun
  | [d] => { results := [.lit (.bool true)], args := [d] }
  | _ => none }
def storeVerdictsRow : OpenClaim := { program := "ytmekfgjlcaonjaa", sum := "6ddc1c1ddb2e3d628061cc07d056e6d210de32cdc94b92bbd34de3a6d9de4791", func := "aloeswood/aloeswoodlaw09.StoreVerdicts", spec := "storeVerdicts", unfollowed := true, recurses := true, plainKeys := false, apart := false }
def StoreVerdictsSaid : Prop := storeVerdictsRow.holds Try.pinned (OpenSpec.ofChange storeVerdictsSpec)

/-- ITS FALSE NEIGHBOUR: 'it returns false'. Refute it at one input. -/
def storeVerdictsWrong : ChangeSpec := { name := "storeVerdicts", fn := fun _ => fun
  | [d] => { results := [.lit (.bool false)], args := [d] }
  | _ => none }
def StoreVerdictsWrongFalsely : Prop := storeVerdictsRow.holds Try.pinned (OpenSpec.ofChange storeVerdictsWrong)

/-- 'aloeswoodlaw09.StoreSeasons': WHATEVER THE INPUT: true; the input reads as it did. -/
def storeSeasonsSpec : ChangeSpec := { name := "storeSeasons", fn := fun _ => fun
  | [d1, d2, d3, d4] => { results := [.lit (.bool true)], args := [d1, d2, d3, d4] }
  | _ => none }
def storeSeasonsRow : OpenClaim := { program := "ytmekfgjlcaonjaa", sum := "6ddc1c1ddb2e3d628061cc07d056e6d210de32cdc94b92bbd34de3a6d9de4791", func := "aloeswood/aloeswoodlaw09.StoreSeasons", spec := "storeSeasons", unfollowed := true, recurses := true, plainKeys := false, apart := false }
def StoreSeasonsSaid : Prop := storeSeasonsRow.holds Try.pinned (OpenSpec.ofChange storeSeasonsSpec)

/-- ITS FALSE NEIGHBOUR: 'it returns false'. Refute it at one input. -/
def storeSeasonsWrong : ChangeSpec := { name := "storeSeasons", fn := fun _ => fun
  | [d1, d2, d3, d4] => { results := [.lit (.bool false)], args := [d1, d2, d3, d4] }
  | _ => none }
def StoreSeasonsWrongFalsely : Prop := storeSeasonsRow.holds Try.pinned (OpenSpec.ofChange storeSeasonsWrong)

/-- 'aloeswoodlaw09.StoreGuests': WHATEVER THE INPUT: true; the input reads as it did. -/
def storeGuestsSpec : ChangeSpec := { name := "storeGuests", fn := fun _ => fun
  | [d] => { results := [.lit (.bool true)], args := [d] }
  | _ => none }
def storeGuestsRow : OpenClaim := { program := "ytmekfgjlcaonjaa", sum := "6ddc1c1ddb2e3d628061cc07d056e6d210de32cdc94b92bbd34de3a6d9de4791", func := "aloeswood/aloeswoodlaw09.StoreGuests", spec := "storeGuests", unfollowed := true, recurses := true, plainKeys := false, apart := false }
def StoreGuestsSaid : Prop := storeGuestsRow.holds Try.pinned (OpenSpec.ofChange storeGuestsSpec)

/-- ITS FALSE NEIGHBOUR: 'it returns false'. Refute it at one input. -/
def storeGuestsWrong : ChangeSpec := { name := "storeGuests", fn := fun _ => fun
  | [d] => { results := [.lit (.bool false)], args := [d] }
  | _ => none }
def StoreGuestsWrongFalsely : Prop := storeGuestsRow.holds Try.pinned (OpenSpec.ofChange storeGuestsWrong)

/-- 'aloeswoodlaw09.StoreFewest': WHATEVER THE INPUT: true; the input reads as it did. -/
def storeFewestSpec : ChangeSpec := { name := "storeFewest", fn := fun _ => fun
  | [d] => { results := [.lit (.bool true)], args := [d] }
  | _ => none }
def storeFewestRow : OpenClaim := { program := "ytmekfgjlcaonjaa", sum := "6ddc1c1ddb2e3d628061cc07d056e6d210de32cdc94b92bbd34de3a6d9de4791", func := "aloeswood/aloeswoodlaw09.StoreFewest", spec := "storeFewest", unfollowed := true, recurses := true, plainKeys := false, apart := false }
def StoreFewestSaid : Prop := storeFewestRow.holds Try.pinned (OpenSpec.ofChange storeFewestSpec)

/-- ITS FALSE NEIGHBOUR: 'it returns false'. Refute it at one input. -/
def storeFewestWrong : ChangeSpec := { name := "storeFewest", fn := fun _ => fun
  | [d] => { results := [.lit (.bool false)], args := [d] }
  | _ => none }
def StoreFewestWrongFalsely : Prop := storeFewestRow.holds Try.pinned (OpenSpec.ofChange storeFewestWrong)

/-- 'aloeswoodlaw09.StoreLoans': WHATEVER THE INPUT: true; the input reads as it did. -/
def storeLoansSpec : ChangeSpec := { name := "storeLoans", fn := fun _ => fun
  | [d1, d2] => { results := [.lit (.bool true)], args := [d1, d2] }
  | _ => none }
def storeLoansRow : OpenClaim := { program := "ytmekfgjlcaonjaa", sum := "6ddc1c1ddb2e3d628061cc07d056e6d210de32cdc94b92bbd34de3a6d9de4791", func := "aloeswood/aloeswoodlaw09.StoreLoans", spec := "storeLoans", unfollowed := true, recurses := true, plainKeys := false, apart := false }
def StoreLoansSaid : Prop := storeLoansRow.holds Try.pinned (OpenSpec.ofChange storeLoansSpec)

/-- ITS FALSE NEIGHBOUR: 'it returns false'. Refute it at one input. -/
def storeLoansWrong : ChangeSpec := { name := "storeLoans", fn := fun _ => fun
  | [d1, d2] => { results := [.lit (.bool false)], args := [d1, d2] }
  | _ => none }
def StoreLoansWrongFalsely : Prop := storeLoansRow.holds Try.pinned (OpenSpec.ofChange storeLoansWrong)

/-- 'aloeswoodlaw09.StoreLent': WHATEVER THE INPUT: true; the input reads as it did. -/
def storeLentSpec : ChangeSpec := { name := "storeLent", fn := fun _ => fun
  | [d] => { results := [.lit (.bool true)], args := [d] }
  | _ => none }
def storeLentRow : OpenClaim := { program := "ytmekfgjlcaonjaa", sum := "6ddc1c1ddb2e3d628061cc07d056e6d210de32cdc94b92bbd34de3a6d9de4791", func := "aloeswood/aloeswoodlaw09.StoreLent", spec := "storeLent", unfollowed := true, recurses := true, plainKeys := false, apart := false }
def StoreLentSaid : Prop := storeLentRow.holds Try.pinned (OpenSpec.ofChange storeLentSpec)

/-- ITS FALSE NEIGHBOUR: 'it returns false'. Refute it at one input. -/
def storeLentWrong : ChangeSpec := { name := "storeLent", fn := fun _ => fun
  | [d] => { results := [.lit (.bool false)], args := [d] }
  | _ => none }
def StoreLentWrongFalsely : Prop := storeLentRow.holds Try.pinned (OpenSpec.ofChange storeLentWrong)

/- THE SECOND FORM. 'bulk': how many values and letters a reading holds, each counted each time it is reached (what is shared counts as often as it is met; a slice's spare places count too). A statement '..UptoSaid' is the law's where the arguments, and the package variables that the reading takes, are together of bulk at most 1048576: NARROWER than '..Said'. Prove '..Said' where nothing that the law and all that it calls make is longer than what came in: it says more and counts as full. Else prove '..UptoSaid'. A law counts once. -/
mutual
def uptoBulk {H : Type} : DataW H → Nat
  | .lit (.string bytes) => bytes.length + 1
  | .lit _ => 1
  | .nil => 1
  | .ptr d => uptoBulk d + 1
  | .slice elems spare => uptoBulkAll elems + uptoBulkAll spare + 1
  | .agg parts => uptoBulkAll parts + 1
  | .iface _ d => uptoBulk d + 1
  | .map entries => uptoBulkEntries entries + 1
  | .held _ => 1
def uptoBulkAll {H : Type} : List (DataW H) → Nat
  | [] => 0
  | d :: r => uptoBulk d + uptoBulkAll r
def uptoBulkEntries {H : Type} : List (Lit × DataW H) → Nat
  | [] => 0
  | x :: r => uptoBulkEntry x + uptoBulkEntries r
def uptoBulkEntry {H : Type} : Lit × DataW H → Nat
  | (.string bytes, d) => bytes.length + uptoBulk d + 1
  | (_, d) => uptoBulk d + 1
 end
def uptoSmall : (H : Type) → List (DataW H) → Bool := fun _ ds => decide (uptoBulkAll ds ≤ 1048576)
def OpenSpec.upto (s : _root_.Go.ChangeSpec) : _root_.Go.OpenSpec := { _root_.Go.OpenSpec.ofChange s with cond := some uptoSmall }

/-- 'aloeswoodlaw09.StoreChains', WHERE WHAT IT READS IS OF BULK AT MOST 1048576: true; the input reads as it did. -/
def storeChainsUptoRow : OpenClaim := { program := "ytmekfgjlcaonjaa", sum := "6ddc1c1ddb2e3d628061cc07d056e6d210de32cdc94b92bbd34de3a6d9de4791", func := "aloeswood/aloeswoodlaw09.StoreChains", spec := "storeChains", unfollowed := true, recurses := true, plainKeys := false, apart := false, narrowed := true }
def StoreChainsUptoSaid : Prop := storeChainsUptoRow.holds Try.pinned (OpenSpec.upto storeChainsSpec)

/-- 'aloeswoodlaw09.StoreStories', WHERE WHAT IT READS IS OF BULK AT MOST 1048576: true; the input reads as it did. -/
def storeStoriesUptoRow : OpenClaim := { program := "ytmekfgjlcaonjaa", sum := "6ddc1c1ddb2e3d628061cc07d056e6d210de32cdc94b92bbd34de3a6d9de4791", func := "aloeswood/aloeswoodlaw09.StoreStories", spec := "storeStories", unfollowed := true, recurses := true, plainKeys := false, apart := false, narrowed := true }
def StoreStoriesUptoSaid : Prop := storeStoriesUptoRow.holds Try.pinned (OpenSpec.upto storeStoriesSpec)

/-- 'aloeswoodlaw09.StoreNarrows', WHERE WHAT IT READS IS OF BULK AT MOST 1048576: true; the input reads as it did. -/
def storeNarrowsUptoRow : OpenClaim := { program := "ytmekfgjlcaonjaa", sum := "6ddc1c1ddb2e3d628061cc07d056e6d210de32cdc94b92bbd34de3a6d9de4791", func := "aloeswood/aloeswoodlaw09.StoreNarrows", spec := "storeNarrows", unfollowed := true, recurses := true, plainKeys := false, apart := false, narrowed := true }
def StoreNarrowsUptoSaid : Prop := storeNarrowsUptoRow.holds Try.pinned (OpenSpec.upto storeNarrowsSpec)

/-- 'aloeswoodlaw09.StorePlans', WHERE WHAT IT READS IS OF BULK AT MOST 1048576: true; the input reads as it did. -/
def storePlansUptoRow : OpenClaim := { program := "ytmekfgjlcaonjaa", sum := "6ddc1c1ddb2e3d628061cc07d056e6d210de32cdc94b92bbd34de3a6d9de4791", func := "aloeswood/aloeswoodlaw09.StorePlans", spec := "storePlans", unfollowed := true, recurses := true, plainKeys := false, apart := false, narrowed := true }
def StorePlansUptoSaid : Prop := storePlansUptoRow.holds Try.pinned (OpenSpec.upto storePlansSpec)

/-- 'aloeswoodlaw09.StoreFresh', WHERE WHAT IT READS IS OF BULK AT MOST 1048576: true; the input reads as it did. -/
def storeFreshUptoRow : OpenClaim := { program := "ytmekfgjlcaonjaa", sum := "6ddc1c1ddb2e3d628061cc07d056e6d210de32cdc94b92bbd34de3a6d9de4791", func := "aloeswood/aloeswoodlaw09.StoreFresh", spec := "storeFresh", unfollowed := true, recurses := true, plainKeys := false, apart := false, narrowed := true }
def StoreFreshUptoSaid : Prop := storeFreshUptoRow.holds Try.pinned (OpenSpec.upto storeFreshSpec)

/-- 'aloeswoodlaw09.StoreHolders', WHERE WHAT IT READS IS OF BULK AT MOST 1048576: true; the input reads as it did. -/
def storeHoldersUptoRow : OpenClaim := { program := "ytmekfgjlcaonjaa", sum := "6ddc1c1ddb2e3d628061cc07d056e6d210de32cdc94b92bbd34de3a6d9de4791", func := "aloeswood/aloeswoodlaw09.StoreHolders", spec := "storeHolders", unfollowed := true, recurses := true, plainKeys := false, apart := false, narrowed := true }
def StoreHoldersUptoSaid : Prop := storeHoldersUptoRow.holds Try.pinned (OpenSpec.upto storeHoldersSpec)

/-- 'aloeswoodlaw09.StoreVerdicts', WHERE WHAT IT READS IS OF BULK AT MOST 1048576: true; the input reads as it did. -/
def storeVerdictsUptoRow : OpenClaim := { program := "ytmekfgjlcaonjaa", sum := "6ddc1c1ddb2e3d628061cc07d056e6d210de32cdc94b92bbd34de3a6d9de4791", func := "aloeswood/aloeswoodlaw09.StoreVerdicts", spec := "storeVerdicts", unfollowed := true, recurses := true, plainKeys := false, apart := false, narrowed := true }
def StoreVerdictsUptoSaid : Prop := storeVerdictsUptoRow.holds Try.pinned (OpenSpec.upto storeVerdictsSpec)

/-- 'aloeswoodlaw09.StoreSeasons', WHERE WHAT IT READS IS OF BULK AT MOST 1048576: true; the input reads as it did. -/
def storeSeasonsUptoRow : OpenClaim := { program := "ytmekfgjlcaonjaa", sum := "6ddc1c1ddb2e3d628061cc07d056e6d210de32cdc94b92bbd34de3a6d9de4791", func := "aloeswood/aloeswoodlaw09.StoreSeasons", spec := "storeSeasons", unfollowed := true, recurses := true, plainKeys := false, apart := false, narrowed := true }
def StoreSeasonsUptoSaid : Prop := storeSeasonsUptoRow.holds Try.pinned (OpenSpec.upto storeSeasonsSpec)

/-- 'aloeswoodlaw09.StoreGuests', WHERE WHAT IT READS IS OF BULK AT MOST 1048576: true; the input reads as it did. -/
def storeGuestsUptoRow : OpenClaim := { program := "ytmekfgjlcaonjaa", sum := "6ddc1c1ddb2e3d628061cc07d056e6d210de32cdc94b92bbd34de3a6d9de4791", func := "aloeswood/aloeswoodlaw09.StoreGuests", spec := "storeGuests", unfollowed := true, recurses := true, plainKeys := false, apart := false, narrowed := true }
def StoreGuestsUptoSaid : Prop := storeGuestsUptoRow.holds Try.pinned (OpenSpec.upto storeGuestsSpec)

/-- 'aloeswoodlaw09.StoreFewest', WHERE WHAT IT READS IS OF BULK AT MOST 1048576: true; the input reads as it did. -/
def storeFewestUptoRow : OpenClaim := { program := "ytmekfgjlcaonjaa", sum := "6ddc1c1ddb2e3d628061cc07d056e6d210de32cdc94b92bbd34de3a6d9de4791", func := "aloeswood/aloeswoodlaw09.StoreFewest", spec := "storeFewest", unfollowed := true, recurses := true, plainKeys := false, apart := false, narrowed := true }
def StoreFewestUptoSaid : Prop := storeFewestUptoRow.holds Try.pinned (OpenSpec.upto storeFewestSpec)

/-- 'aloeswoodlaw09.StoreLoans', WHERE WHAT IT READS IS OF BULK AT MOST 1048576: true; the input reads as it did. -/
def storeLoansUptoRow : OpenClaim := { program := "ytmekfgjlcaonjaa", sum := "6ddc1c1ddb2e3d628061cc07d056e6d210de32cdc94b92bbd34de3a6d9de4791", func := "aloeswood/aloeswoodlaw09.StoreLoans", spec := "storeLoans", unfollowed := true, recurses := true, plainKeys := false, apart := false, narrowed := true }
def StoreLoansUptoSaid : Prop := storeLoansUptoRow.holds Try.pinned (OpenSpec.upto storeLoansSpec)

/-- 'aloeswoodlaw09.StoreLent', WHERE WHAT IT READS IS OF BULK AT MOST 1048576: true; the input reads as it did. -/
def storeLentUptoRow : OpenClaim := { program := "ytmekfgjlcaonjaa", sum := "6ddc1c1ddb2e3d628061cc07d056e6d210de32cdc94b92bbd34de3a6d9de4791", func := "aloeswood/aloeswoodlaw09.StoreLent", spec := "storeLent", unfollowed := true, recurses := true, plainKeys := false, apart := false, narrowed := true }
def StoreLentUptoSaid : Prop := storeLentUptoRow.holds Try.pinned (OpenSpec.upto storeLentSpec)

end Rows
end Go.Proofs.Ytmekfgjlcaonjaa
