/-
  No cell of these rows narrows 'for every input' (looked for: loops, veiled, ifaces, maps, wideKeys, modest, calm, conditions, laid).
  DERIVED. THE GIVEN ROWS OF THIS SEAT. 12 by the template 'for every input the law returns true; each argument reads behind the call as it read before'; 0 by the template 'total and deterministic' (their statements: YtcgcciegekaliaaTotals.lean).
  GIVEN WITH THE SEED: the statements are not yours to turn. If you find one false, say at which input.
  Laid BY PROGRAM, IN A SANDBOX (cutbox-rows.mjs): the forced cells as the released guide's own fill.sh prints them over the translation 6418a58e66755bc7… (all of the seat's roots in one cut). By AI agents, Wed Nov 11 2026. No macro, syntax, notation, axiom, sorry.
-/
import Derived.Test.YtcgcciegekaliaaChecked
import GoSem.Claim
import GoSem.ClaimJoined
import GoSem.ClaimMapViews
import Derived.JoinedTies
import Derived.KernelRfl
namespace Go.Proofs.Ytcgcciegekaliaa
/- THE CELL 'sum', in the pinned program and in every row, IS THE sha256 OF THE DUMP (.gsa) THAT YtcgcciegekaliaaProg.lean LOADS. Nothing in Lean hashes anything: it is a label: what it is worth is what the hold of that sum in a sandbox is worth. -/
noncomputable def Try.pinned : Pinned := { name := "ytcgcciegekaliaa", sum := "6418a58e66755bc7f5d120e44fe087ab2b3f38382ebfab72ed08b5b0f5de5f9c", checked := Try.checked }
namespace Rows
def none {H : Type} : Left H := { results := [], args := [] }

/-- 'aloeswoodlaw08.SeatMenus': WHATEVER THE INPUT: true; the input reads as it did. -/
def seatMenusSpec : ChangeSpec := { name := "seatMenus", fn := fun _ => fun
  | [d1, d2, d3, d4, d5, d6, d7] => { results := [.lit (.bool true)], args := [d1, d2, d3, d4, d5, d6, d7] }
  | _ => none }
def seatMenusRow : OpenClaim := { program := "ytcgcciegekaliaa", sum := "6418a58e66755bc7f5d120e44fe087ab2b3f38382ebfab72ed08b5b0f5de5f9c", func := "aloeswood/aloeswoodlaw08.SeatMenus", spec := "seatMenus", unfollowed := true, recurses := true, apart := false }
def SeatMenusSaid : Prop := seatMenusRow.holds Try.pinned (OpenSpec.ofChange seatMenusSpec)

/-- ITS FALSE NEIGHBOUR: 'it returns false'. Refute it at one input. -/
def seatMenusWrong : ChangeSpec := { name := "seatMenus", fn := fun _ => fun
  | [d1, d2, d3, d4, d5, d6, d7] => { results := [.lit (.bool false)], args := [d1, d2, d3, d4, d5, d6, d7] }
  | _ => none }
def SeatMenusWrongFalsely : Prop := seatMenusRow.holds Try.pinned (OpenSpec.ofChange seatMenusWrong)

/-- 'aloeswoodlaw08.SeatMenu': WHATEVER THE INPUT: true; the input reads as it did. -/
def seatMenuSpec : ChangeSpec := { name := "seatMenu", fn := fun _ => fun
  | [d] => { results := [.lit (.bool true)], args := [d] }
  | _ => none }
def seatMenuRow : OpenClaim := { program := "ytcgcciegekaliaa", sum := "6418a58e66755bc7f5d120e44fe087ab2b3f38382ebfab72ed08b5b0f5de5f9c", func := "aloeswood/aloeswoodlaw08.SeatMenu", spec := "seatMenu", unfollowed := true, recurses := true, apart := false }
def SeatMenuSaid : Prop := seatMenuRow.holds Try.pinned (OpenSpec.ofChange seatMenuSpec)

/-- ITS FALSE NEIGHBOUR: 'it returns false'. Refute it at one input. -/
def seatMenuWrong : ChangeSpec := { name := "seatMenu", fn := fun _ => fun
  | [d] => { results := [.lit (.bool false)], args := [d] }
  | _ => none }
def SeatMenuWrongFalsely : Prop := seatMenuRow.holds Try.pinned (OpenSpec.ofChange seatMenuWrong)

/-- 'aloeswoodlaw08.SeatMore': WHATEVER THE INPUT: true; the input reads as it did. -/
def seatMoreSpec : ChangeSpec := { name := "seatMore", fn := fun _ => fun
  | [d] => { results := [.lit (.bool true)], args := [d] }
  | _ => none }
def seatMoreRow : OpenClaim := { program := "ytcgcciegekaliaa", sum := "6418a58e66755bc7f5d120e44fe087ab2b3f38382ebfab72ed08b5b0f5de5f9c", func := "aloeswood/aloeswoodlaw08.SeatMore", spec := "seatMore", unfollowed := true, recurses := true, apart := false }
def SeatMoreSaid : Prop := seatMoreRow.holds Try.pinned (OpenSpec.ofChange seatMoreSpec)

/-- ITS FALSE NEIGHBOUR: 'it returns false'. Refute it at one input. -/
def seatMoreWrong : ChangeSpec := { name := "seatMore", fn := fun _ => fun
  | [d] => { results := [.lit (.bool false)], args := [d] }
  | _ => none }
def SeatMoreWrongFalsely : Prop := seatMoreRow.holds Try.pinned (OpenSpec.ofChange seatMoreWrong)

/-- 'aloeswoodlaw08.SeatChecks': WHATEVER THE INPUT: true; the input reads as it did. -/
def seatChecksSpec : ChangeSpec := { name := "seatChecks", fn := fun _ => fun
  | [d1, d2, d3] => { results := [.lit (.bool true)], args := [d1, d2, d3] }
  | _ => none }
def seatChecksRow : OpenClaim := { program := "ytcgcciegekaliaa", sum := "6418a58e66755bc7f5d120e44fe087ab2b3f38382ebfab72ed08b5b0f5de5f9c", func := "aloeswood/aloeswoodlaw08.SeatChecks", spec := "seatChecks", unfollowed := true, recurses := true, apart := false }
def SeatChecksSaid : Prop := seatChecksRow.holds Try.pinned (OpenSpec.ofChange seatChecksSpec)

/-- ITS FALSE NEIGHBOUR: 'it returns false'. Refute it at one input. -/
def seatChecksWrong : ChangeSpec := { name := "seatChecks", fn := fun _ => fun
  | [d1, d2, d3] => { results := [.lit (.bool false)], args := [d1, d2, d3] }
  | _ => none }
def SeatChecksWrongFalsely : Prop := seatChecksRow.holds Try.pinned (OpenSpec.ofChange seatChecksWrong)

/-- 'aloeswoodlaw08.SeatTurned': WHATEVER THE INPUT: true; the input reads as it did. -/
def seatTurnedSpec : ChangeSpec := { name := "seatTurned", fn := fun _ => fun
  | [d] => { results := [.lit (.bool true)], args := [d] }
  | _ => none }
def seatTurnedRow : OpenClaim := { program := "ytcgcciegekaliaa", sum := "6418a58e66755bc7f5d120e44fe087ab2b3f38382ebfab72ed08b5b0f5de5f9c", func := "aloeswood/aloeswoodlaw08.SeatTurned", spec := "seatTurned", unfollowed := true, recurses := true, apart := false }
def SeatTurnedSaid : Prop := seatTurnedRow.holds Try.pinned (OpenSpec.ofChange seatTurnedSpec)

/-- ITS FALSE NEIGHBOUR: 'it returns false'. Refute it at one input. -/
def seatTurnedWrong : ChangeSpec := { name := "seatTurned", fn := fun _ => fun
  | [d] => { results := [.lit (.bool false)], args := [d] }
  | _ => none }
def SeatTurnedWrongFalsely : Prop := seatTurnedRow.holds Try.pinned (OpenSpec.ofChange seatTurnedWrong)

/-- 'aloeswoodlaw08.SeatOrders': WHATEVER THE INPUT: true; the input reads as it did. -/
def seatOrdersSpec : ChangeSpec := { name := "seatOrders", fn := fun _ => fun
  | [d1, d2] => { results := [.lit (.bool true)], args := [d1, d2] }
  | _ => none }
def seatOrdersRow : OpenClaim := { program := "ytcgcciegekaliaa", sum := "6418a58e66755bc7f5d120e44fe087ab2b3f38382ebfab72ed08b5b0f5de5f9c", func := "aloeswood/aloeswoodlaw08.SeatOrders", spec := "seatOrders", unfollowed := true, recurses := true, apart := false }
def SeatOrdersSaid : Prop := seatOrdersRow.holds Try.pinned (OpenSpec.ofChange seatOrdersSpec)

/-- ITS FALSE NEIGHBOUR: 'it returns false'. Refute it at one input. -/
def seatOrdersWrong : ChangeSpec := { name := "seatOrders", fn := fun _ => fun
  | [d1, d2] => { results := [.lit (.bool false)], args := [d1, d2] }
  | _ => none }
def SeatOrdersWrongFalsely : Prop := seatOrdersRow.holds Try.pinned (OpenSpec.ofChange seatOrdersWrong)

/-- 'aloeswoodlaw08.SeatAll': WHATEVER THE INPUT: true; the input reads as it did. -/
def seatAllSpec : ChangeSpec := { name := "seatAll", fn := fun _ => fun
  | [d] => { results := [.lit (.bool true)], args := [d] }
  | _ => none }
def seatAllRow : OpenClaim := { program := "ytcgcciegekaliaa", sum := "6418a58e66755bc7f5d120e44fe087ab2b3f38382ebfab72ed08b5b0f5de5f9c", func := "aloeswood/aloeswoodlaw08.SeatAll", spec := "seatAll", unfollowed := true, recurses := true, apart := false }
def SeatAllSaid : Prop := seatAllRow.holds Try.pinned (OpenSpec.ofChange seatAllSpec)

/-- ITS FALSE NEIGHBOUR: 'it returns false'. Refute it at one input. -/
def seatAllWrong : ChangeSpec := { name := "seatAll", fn := fun _ => fun
  | [d] => { results := [.lit (.bool false)], args := [d] }
  | _ => none }
def SeatAllWrongFalsely : Prop := seatAllRow.holds Try.pinned (OpenSpec.ofChange seatAllWrong)

/-- 'aloeswoodlaw08.SeatConflicts': WHATEVER THE INPUT: true; the input reads as it did. -/
def seatConflictsSpec : ChangeSpec := { name := "seatConflicts", fn := fun _ => fun
  | [d1, d2] => { results := [.lit (.bool true)], args := [d1, d2] }
  | _ => none }
def seatConflictsRow : OpenClaim := { program := "ytcgcciegekaliaa", sum := "6418a58e66755bc7f5d120e44fe087ab2b3f38382ebfab72ed08b5b0f5de5f9c", func := "aloeswood/aloeswoodlaw08.SeatConflicts", spec := "seatConflicts", unfollowed := true, recurses := true, apart := false }
def SeatConflictsSaid : Prop := seatConflictsRow.holds Try.pinned (OpenSpec.ofChange seatConflictsSpec)

/-- ITS FALSE NEIGHBOUR: 'it returns false'. Refute it at one input. -/
def seatConflictsWrong : ChangeSpec := { name := "seatConflicts", fn := fun _ => fun
  | [d1, d2] => { results := [.lit (.bool false)], args := [d1, d2] }
  | _ => none }
def SeatConflictsWrongFalsely : Prop := seatConflictsRow.holds Try.pinned (OpenSpec.ofChange seatConflictsWrong)

/-- 'aloeswoodlaw08.SeatConflict': WHATEVER THE INPUT: true; the input reads as it did. -/
def seatConflictSpec : ChangeSpec := { name := "seatConflict", fn := fun _ => fun
  | [d] => { results := [.lit (.bool true)], args := [d] }
  | _ => none }
def seatConflictRow : OpenClaim := { program := "ytcgcciegekaliaa", sum := "6418a58e66755bc7f5d120e44fe087ab2b3f38382ebfab72ed08b5b0f5de5f9c", func := "aloeswood/aloeswoodlaw08.SeatConflict", spec := "seatConflict", unfollowed := true, recurses := true, apart := false }
def SeatConflictSaid : Prop := seatConflictRow.holds Try.pinned (OpenSpec.ofChange seatConflictSpec)

/-- ITS FALSE NEIGHBOUR: 'it returns false'. Refute it at one input. -/
def seatConflictWrong : ChangeSpec := { name := "seatConflict", fn := fun _ => fun
  | [d] => { results := [.lit (.bool false)], args := [d] }
  | _ => none }
def SeatConflictWrongFalsely : Prop := seatConflictRow.holds Try.pinned (OpenSpec.ofChange seatConflictWrong)

/-- 'aloeswoodlaw08.SeatNamed': WHATEVER THE INPUT: true; the input reads as it did. -/
def seatNamedSpec : ChangeSpec := { name := "seatNamed", fn := fun _ => fun
  | [d] => { results := [.lit (.bool true)], args := [d] }
  | _ => none }
def seatNamedRow : OpenClaim := { program := "ytcgcciegekaliaa", sum := "6418a58e66755bc7f5d120e44fe087ab2b3f38382ebfab72ed08b5b0f5de5f9c", func := "aloeswood/aloeswoodlaw08.SeatNamed", spec := "seatNamed", unfollowed := true, recurses := true, apart := false }
def SeatNamedSaid : Prop := seatNamedRow.holds Try.pinned (OpenSpec.ofChange seatNamedSpec)

/-- ITS FALSE NEIGHBOUR: 'it returns false'. Refute it at one input. -/
def seatNamedWrong : ChangeSpec := { name := "seatNamed", fn := fun _ => fun
  | [d] => { results := [.lit (.bool false)], args := [d] }
  | _ => none }
def SeatNamedWrongFalsely : Prop := seatNamedRow.holds Try.pinned (OpenSpec.ofChange seatNamedWrong)

/-- 'aloeswoodlaw08.SeatInvites': WHATEVER THE INPUT: true; the input reads as it did. -/
def seatInvitesSpec : ChangeSpec := { name := "seatInvites", fn := fun _ => fun
  | [d1, d2, d3, d4] => { results := [.lit (.bool true)], args := [d1, d2, d3, d4] }
  | _ => none }
def seatInvitesRow : OpenClaim := { program := "ytcgcciegekaliaa", sum := "6418a58e66755bc7f5d120e44fe087ab2b3f38382ebfab72ed08b5b0f5de5f9c", func := "aloeswood/aloeswoodlaw08.SeatInvites", spec := "seatInvites", unfollowed := true, recurses := true, apart := false }
def SeatInvitesSaid : Prop := seatInvitesRow.holds Try.pinned (OpenSpec.ofChange seatInvitesSpec)

/-- ITS FALSE NEIGHBOUR: 'it returns false'. Refute it at one input. -/
def seatInvitesWrong : ChangeSpec := { name := "seatInvites", fn := fun _ => fun
  | [d1, d2, d3, d4] => { results := [.lit (.bool false)], args := [d1, d2, d3, d4] }
  | _ => none }
def SeatInvitesWrongFalsely : Prop := seatInvitesRow.holds Try.pinned (OpenSpec.ofChange seatInvitesWrong)

/-- 'aloeswoodlaw08.SeatInvited': WHATEVER THE INPUT: true; the input reads as it did. -/
def seatInvitedSpec : ChangeSpec := { name := "seatInvited", fn := fun _ => fun
  | [d] => { results := [.lit (.bool true)], args := [d] }
  | _ => none }
def seatInvitedRow : OpenClaim := { program := "ytcgcciegekaliaa", sum := "6418a58e66755bc7f5d120e44fe087ab2b3f38382ebfab72ed08b5b0f5de5f9c", func := "aloeswood/aloeswoodlaw08.SeatInvited", spec := "seatInvited", unfollowed := true, recurses := true, apart := false }
def SeatInvitedSaid : Prop := seatInvitedRow.holds Try.pinned (OpenSpec.ofChange seatInvitedSpec)

/-- ITS FALSE NEIGHBOUR: 'it returns false'. Refute it at one input. -/
def seatInvitedWrong : ChangeSpec := { name := "seatInvited", fn := fun _ => fun
  | [d] => { results := [.lit (.bool false)], args := [d] }
  | _ => none }
def SeatInvitedWrongFalsely : Prop := seatInvitedRow.holds Try.pinned (OpenSpec.ofChange seatInvitedWrong)

/- THE SECOND FORM. 'bulk': how many values and letters a reading holds, each counted each time it is reached (what is shared counts as often as it is met; a slice's spare places count too). A statement '..UptoSaid' is the law's where the arguments, and the package variables that the reading takes, are together of bulk at most 1048576: NARROWER than '..Said'. Prove '..Said' where nothing that the law and all that it calls make is longer than what came in: it says more and counts as full. Else prove '..UptoSaid'. A law counts once. -/
mutual
def uptoBulk {H : Type} : DataW H → Nat
  | .lit (.string bytes) => bytes.length + 1
  | .lit _ => 1
  | .nil => 1
  | .ptr d => uptoBulk d + 1
  | .slice elems spare => uptoBulkAll elems + uptoBulkAll spare + 1
  | .agg parts => uptoBulkAll parts + 1
  | .iface _ d => uptoBulk d + 1
  | .map entries => uptoBulkEntries entries + 1
  | .held _ => 1
def uptoBulkAll {H : Type} : List (DataW H) → Nat
  | [] => 0
  | d :: r => uptoBulk d + uptoBulkAll r
def uptoBulkEntries {H : Type} : List (Lit × DataW H) → Nat
  | [] => 0
  | x :: r => uptoBulkEntry x + uptoBulkEntries r
def uptoBulkEntry {H : Type} : Lit × DataW H → Nat
  | (.string bytes, d) => bytes.length + uptoBulk d + 1
  | (_, d) => uptoBulk d + 1
 end
def uptoSmall : (H : Type) → List (DataW H) → Bool := fun _ ds => decide (uptoBulkAll ds ≤ 1048576)
def OpenSpec.upto (s : _root_.Go.ChangeSpec) : _root_.Go.OpenSpec := { _root_.Go.OpenSpec.ofChange s with cond := some uptoSmall }

/-- 'aloeswoodlaw08.SeatMenus', WHERE WHAT IT READS IS OF BULK AT MOST 1048576: true; the input reads as it did. -/
def seatMenusUptoRow : OpenClaim := { program := "ytcgcciegekaliaa", sum := "6418a58e66755bc7f5d120e44fe087ab2b3f38382ebfab72ed08b5b0f5de5f9c", func := "aloeswood/aloeswoodlaw08.SeatMenus", spec := "seatMenus", unfollowed := true, recurses := true, apart := false, narrowed := true }
def SeatMenusUptoSaid : Prop := seatMenusUptoRow.holds Try.pinned (OpenSpec.upto seatMenusSpec)

/-- 'aloeswoodlaw08.SeatMenu', WHERE WHAT IT READS IS OF BULK AT MOST 1048576: true; the input reads as it did. -/
def seatMenuUptoRow : OpenClaim := { program := "ytcgcciegekaliaa", sum := "6418a58e66755bc7f5d120e44fe087ab2b3f38382ebfab72ed08b5b0f5de5f9c", func := "aloeswood/aloeswoodlaw08.SeatMenu", spec := "seatMenu", unfollowed := true, recurses := true, apart := false, narrowed := true }
def SeatMenuUptoSaid : Prop := seatMenuUptoRow.holds Try.pinned (OpenSpec.upto seatMenuSpec)

/-- 'aloeswoodlaw08.SeatMore', WHERE WHAT IT READS IS OF BULK AT MOST 1048576: true; the input reads as it did. -/
def seatMoreUptoRow : OpenClaim := { program := "ytcgcciegekaliaa", sum := "6418a58e66755bc7f5d120e44fe087ab2b3f38382ebfab72ed08b5b0f5de5f9c", func := "aloeswood/aloeswoodlaw08.SeatMore", spec := "seatMore", unfollowed := true, recurses := true, apart := false, narrowed := true }
def SeatMoreUptoSaid : Prop := seatMoreUptoRow.holds Try.pinned (OpenSpec.upto seatMoreSpec)

/-- 'aloeswoodlaw08.SeatChecks', WHERE WHAT IT READS IS OF BULK AT MOST 1048576: true; the input reads as it did. -/
def seatChecksUptoRow : OpenClaim := { program := "ytcgcciegekaliaa", sum := "6418a58e66755bc7f5d120e44fe087ab2b3f38382ebfab72ed08b5b0f5de5f9c", func := "aloeswood/aloeswoodlaw08.SeatChecks", spec := "seatChecks", unfollowed := true, recurses := true, apart := false, narrowed := true }
def SeatChecksUptoSaid : Prop := seatChecksUptoRow.holds Try.pinned (OpenSpec.upto seatChecksSpec)

/-- 'aloeswoodlaw08.SeatTurned', WHERE WHAT IT READS IS OF BULK AT MOST 1048576: true; the input reads as it did. -/
def seatTurnedUptoRow : OpenClaim := { program := "ytcgcciegekaliaa", sum := "6418a58e66755bc7f5d120e44fe087ab2b3f38382ebfab72ed08b5b0f5de5f9c", func := "aloeswood/aloeswoodlaw08.SeatTurned", spec := "seatTurned", unfollowed := true, recurses := true, apart := false, narrowed := true }
def SeatTurnedUptoSaid : Prop := seatTurnedUptoRow.holds Try.pinned (OpenSpec.upto seatTurnedSpec)

/-- 'aloeswoodlaw08.SeatOrders', WHERE WHAT IT READS IS OF BULK AT MOST 1048576: true; the input reads as it did. -/
def seatOrdersUptoRow : OpenClaim := { program := "ytcgcciegekaliaa", sum := "6418a58e66755bc7f5d120e44fe087ab2b3f38382ebfab72ed08b5b0f5de5f9c", func := "aloeswood/aloeswoodlaw08.SeatOrders", spec := "seatOrders", unfollowed := true, recurses := true, apart := false, narrowed := true }
def SeatOrdersUptoSaid : Prop := seatOrdersUptoRow.holds Try.pinned (OpenSpec.upto seatOrdersSpec)

/-- 'aloeswoodlaw08.SeatAll', WHERE WHAT IT READS IS OF BULK AT MOST 1048576: true; the input reads as it did. -/
def seatAllUptoRow : OpenClaim := { program := "ytcgcciegekaliaa", sum := "6418a58e66755bc7f5d120e44fe087ab2b3f38382ebfab72ed08b5b0f5de5f9c", func := "aloeswood/aloeswoodlaw08.SeatAll", spec := "seatAll", unfollowed := true, recurses := true, apart := false, narrowed := true }
def SeatAllUptoSaid : Prop := seatAllUptoRow.holds Try.pinned (OpenSpec.upto seatAllSpec)

/-- 'aloeswoodlaw08.SeatConflicts', WHERE WHAT IT READS IS OF BULK AT MOST 1048576: true; the input reads as it did. -/
def seatConflictsUptoRow : OpenClaim := { program := "ytcgcciegekaliaa", sum := "6418a58e66755bc7f5d120e44fe087ab2b3f38382ebfab72ed08b5b0f5de5f9c", func := "aloeswood/aloeswoodlaw08.SeatConflicts", spec := "seatConflicts", unfollowed := true, recurses := true, apart := false, narrowed := true }
def SeatConflictsUptoSaid : Prop := seatConflictsUptoRow.holds Try.pinned (OpenSpec.upto seatConflictsSpec)

/-- 'aloeswoodlaw08.SeatConflict', WHERE WHAT IT READS IS OF BULK AT MOST 1048576: true; the input reads as it did. -/
def seatConflictUptoRow : OpenClaim := { program := "ytcgcciegekaliaa", sum := "6418a58e66755bc7f5d120e44fe087ab2b3f38382ebfab72ed08b5b0f5de5f9c", func := "aloeswood/aloeswoodlaw08.SeatConflict", spec := "seatConflict", unfollowed := true, recurses := true, apart := false, narrowed := true }
def SeatConflictUptoSaid : Prop := seatConflictUptoRow.holds Try.pinned (OpenSpec.upto seatConflictSpec)

/-- 'aloeswoodlaw08.SeatNamed', WHERE WHAT IT READS IS OF BULK AT MOST 1048576: true; the input reads as it did. -/
def seatNamedUptoRow : OpenClaim := { program := "ytcgcciegekaliaa", sum := "6418a58e66755bc7f5d120e44fe087ab2b3f38382ebfab72ed08b5b0f5de5f9c", func := "aloeswood/aloeswoodlaw08.SeatNamed", spec := "seatNamed", unfollowed := true, recurses := true, apart := false, narrowed := true }
def SeatNamedUptoSaid : Prop := seatNamedUptoRow.holds Try.pinned (OpenSpec.upto seatNamedSpec)

/-- 'aloeswoodlaw08.SeatInvites', WHERE WHAT IT READS IS OF BULK AT MOST 1048576: true; the input reads as it did. -/
def seatInvitesUptoRow : OpenClaim := { program := "ytcgcciegekaliaa", sum := "6418a58e66755bc7f5d120e44fe087ab2b3f38382ebfab72ed08b5b0f5de5f9c", func := "aloeswood/aloeswoodlaw08.SeatInvites", spec := "seatInvites", unfollowed := true, recurses := true, apart := false, narrowed := true }
def SeatInvitesUptoSaid : Prop := seatInvitesUptoRow.holds Try.pinned (OpenSpec.upto seatInvitesSpec)

/-- 'aloeswoodlaw08.SeatInvited', WHERE WHAT IT READS IS OF BULK AT MOST 1048576: true; the input reads as it did. -/
def seatInvitedUptoRow : OpenClaim := { program := "ytcgcciegekaliaa", sum := "6418a58e66755bc7f5d120e44fe087ab2b3f38382ebfab72ed08b5b0f5de5f9c", func := "aloeswood/aloeswoodlaw08.SeatInvited", spec := "seatInvited", unfollowed := true, recurses := true, apart := false, narrowed := true }
def SeatInvitedUptoSaid : Prop := seatInvitedUptoRow.holds Try.pinned (OpenSpec.upto seatInvitedSpec)

end Rows
end Go.Proofs.Ytcgcciegekaliaa
