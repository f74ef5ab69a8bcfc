/- A part of the proofs of the laws of this seat: contracts of the functions that they reach, each proved of the program's form in Lean. No condition beyond those that each contract names. -/
import Derived.Test.YtmekfgjlcaonjaaB0
import Derived.Test.YtmekfgjlcaonjaaB9
import Derived.Test.YtmekfgjlcaonjaaB8
import Derived.Test.YtmekfgjlcaonjaaB2
set_option linter.unusedVariables false
set_option linter.unusedSimpArgs false
set_option maxRecDepth 20000
set_option maxHeartbeats 4000000
/-! ### What an order breaks -/
namespace Go.Abs
open Go.Proofs
/-- A valid rule, for so many guests. -/
structure rOK (r : Rule) (n : Int) : Prop where
  kind : 1 ≤ r.kind ∧ r.kind ≤ 6
  a : r.kind ≠ 6 → 0 ≤ r.a ∧ r.a < n
  b : r.kind ≤ 3 → 0 ≤ r.b ∧ r.b < n
  weight : 0 ≤ r.weight ∧ r.weight ≤ 1000
theorem rOK_of {r : Rule} {n : Int} (h : rErr r n = 0) : rOK r n := by
  unfold rErr at h
  split at h
  · rename_i hk
    have hk' := inB_t.1 hk
    have n1 : r.kind = 4 ∨ r.kind = 5 → nmV r.kind = 1 := fun h => by unfold nmV; rw [if_pos h]
    have n2 : r.kind ≤ 3 → nmV r.kind = 2 := fun h => by unfold nmV; rw [if_neg (by omega), if_neg (by omega)]
    split at h
    · rename_i h0
      split at h
      · rename_i h1
        split at h
        · cases h
        · split at h
          · rename_i hw
            refine ⟨hk', fun h6 => ?_, fun h3 => ?_, inB_t.1 hw⟩
            · have hn : 0 < nmV r.kind := by
                by_cases h45 : r.kind = 4 ∨ r.kind = 5
                · rw [n1 h45]; omega
                · rw [n2 (by omega)]; omega
              rw [argE, if_pos hn] at h0
              split at h0
              · rename_i h; have := inB_t.1 h; omega
              · cases h0
            · rw [argE, if_pos (by rw [n2 h3]; omega)] at h1
              split at h1
              · rename_i h; have := inB_t.1 h; omega
              · cases h1
          · cases h
      · rename_i h1; exact absurd h h1
    · rename_i h1; exact absurd h h1
  · cases h
/-- The rules of a kind, one bit each. -/
def bitsF (p : Rule → Bool) : Nat → List Rule → Nat
  | _, [] => 0
  | i, r :: rs => (if p r = true then 2 ^ i else 0) ||| bitsF p (i + 1) rs
theorem bitsF_lt (p : Rule → Bool) : ∀ (i : Nat) (rs : List Rule) (n : Nat), i + rs.length ≤ n → bitsF p i rs < 2 ^ n
  | i, [], n, h => by simp [bitsF, Nat.pow_pos]
  | i, r :: rs, n, h => by
    simp only [List.length_cons] at h
    refine Nat.or_lt_two_pow ?_ (bitsF_lt p (i + 1) rs n (by omega))
    split
    · exact Nat.pow_lt_pow_right (by omega) (by omega)
    · exact Nat.pow_pos (by omega)
theorem shl_one (i : Nat) (h : i < 60) : (1 : Int) * 2 ^ min ((i : Int)).toNat IntKind.i64.bits = ((2 ^ i : Nat) : Int) := by
  have : min ((i : Int)).toNat IntKind.i64.bits = i := by simp [IntKind.bits]; omega
  rw [this]; simp
theorem pow_bd (i : Nat) (h : i < 60) : 2 ^ i ≤ 2 ^ 59 := Nat.pow_le_pow_right (by omega) (by omega)
end Go.Abs
