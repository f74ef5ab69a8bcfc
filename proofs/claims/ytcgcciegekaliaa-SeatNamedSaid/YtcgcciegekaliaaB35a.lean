/- A part of the proofs of the laws of this seat: contracts of the functions that they reach, each proved of the program's form in Lean. No condition beyond those that each contract names. -/
import Derived.Test.YtcgcciegekaliaaB0
import Derived.Test.YtcgcciegekaliaaB8
set_option linter.unusedVariables false
set_option linter.unusedSimpArgs false
set_option maxRecDepth 20000
set_option maxHeartbeats 4000000
/-! ### What a valid rule has -/
namespace Go.Abs
open Go.Proofs
structure rInv (r : Rule) (n : Int) : Prop where
  k : 1 ≤ r.kind ∧ r.kind ≤ 6
  a : nmV r.kind ≠ 0 → 0 ≤ r.a ∧ r.a < n
  a0 : nmV r.kind = 0 → r.a = 0
  b : nmV r.kind = 2 → 0 ≤ r.b ∧ r.b < n ∧ r.a ≠ r.b
  b0 : nmV r.kind ≠ 2 → r.b = 0
  w : 0 ≤ r.weight ∧ r.weight ≤ 1000
theorem rErr_inv {r : Rule} {n : Int} (h : rErr r n = 0) : rInv r n := by
  have hn := nmV_bd r.kind
  unfold rErr at h
  split at h
  · rename_i hk
    split at h
    · rename_i h0
      split at h
      · rename_i h1
        split at h
        · cases h
        · rename_i h2
          split at h
          · rename_i hw
            unfold argE at h0 h1
            have hk' := inB_t.1 hk
            refine ⟨hk', fun h3 => ?_, fun h3 => ?_, fun h3 => ?_, fun h3 => ?_, inB_t.1 hw⟩
            · rw [if_pos (by omega)] at h0
              split at h0
              · rename_i h4; have := inB_t.1 h4; omega
              · cases h0
            · rw [if_neg (by omega)] at h0
              split at h0
              · assumption
              · cases h0
            · rw [if_pos (by omega)] at h1
              split at h1
              · rename_i h4
                have := inB_t.1 h4
                exact ⟨by omega, by omega, fun e => h2 ⟨h3, e⟩⟩
              · cases h1
            · rw [if_neg (by omega)] at h1
              split at h1
              · assumption
              · cases h1
          · cases h
      · rename_i h1; exact absurd h h1
    · rename_i h1; exact absurd h h1
  · cases h
end Go.Abs
