/- A part of the proofs of the laws of this seat: contracts of the functions that they reach, each proved of the program's form in Lean. No condition beyond those that each contract names. -/
import Derived.Test.YtmekfgjlcaonjaaB9
import Derived.Test.YtmekfgjlcaonjaaB11
import Derived.Test.YtmekfgjlcaonjaaB0
import Derived.Test.YtmekfgjlcaonjaaB16
import Derived.Test.YtmekfgjlcaonjaaB8
import Derived.Test.YtmekfgjlcaonjaaB12
import Derived.Test.YtmekfgjlcaonjaaB2
import Derived.Test.YtmekfgjlcaonjaaB21
import Derived.Test.YtmekfgjlcaonjaaB20
import Derived.Test.YtmekfgjlcaonjaaB10
set_option linter.unusedVariables false
set_option linter.unusedSimpArgs false
set_option maxRecDepth 20000
set_option maxHeartbeats 4000000
/-! ### Orders, on the reference's side: those that are allowed, the best one -/
namespace Go.Abs
open Go.Proofs
abbrev brP (gs : List Guest) (l : List Int) (r : Rule) : Bool := !keepsB gs (atL l) r
theorem plc_alw (gs : List Guest) (rs : List Rule) (l : List Int) : ((plcF (brP gs l) 0 rs).all fun i => decide (wAt rs i ≠ 0)) = alwB gs rs l := by
  have h := plc_all (q := fun r => decide (r.weight ≠ 0)) (brP gs l) rs []
  rw [List.nil_append, List.length_nil] at h
  have h2 : (rs.all fun r => !brP gs l r || decide (r.weight ≠ 0)) = alwB gs rs l := by
    rw [alwB]
    congr 1
    funext r
    simp [brP, Bool.or_comm]
  rw [← h2, ← h, Bool.eq_iff_iff, List.all_eq_true, List.all_eq_true]
  have key : ∀ i ∈ plcF (brP gs l) 0 rs, (decide (wAt rs i ≠ 0) = true ↔ ((rs[i.toNat]?).map fun r => decide (r.weight ≠ 0)).getD true = true) := by
    intro i hi
    have hb := plcF_mem _ rs 0 hi
    have hlt : i.toNat < rs.length := by omega
    simp [wAt, List.getElem?_eq_getElem hlt]
  exact ⟨fun h3 i hi => (key i hi).1 (h3 i hi), fun h3 i hi => (key i hi).2 (h3 i hi)⟩
end Go.Abs
