/- A part of the proofs of the laws of this seat: contracts of the functions that they reach, each proved of the program's form in Lean. No condition beyond those that each contract names. -/
import Derived.Test.YtmekfgjlcaonjaaB9
import Derived.Test.YtmekfgjlcaonjaaB0
import Derived.Test.YtmekfgjlcaonjaaB8
import Derived.Test.YtmekfgjlcaonjaaB16
import Derived.Test.YtmekfgjlcaonjaaB22
import Derived.Test.YtmekfgjlcaonjaaB11
import Derived.Test.YtmekfgjlcaonjaaB20
import Derived.Test.YtmekfgjlcaonjaaB12
import Derived.Test.YtmekfgjlcaonjaaB5
import Derived.Test.YtmekfgjlcaonjaaB29
import Derived.Test.YtmekfgjlcaonjaaB21
import Derived.Test.YtmekfgjlcaonjaaB10
import Derived.Test.YtmekfgjlcaonjaaB2
set_option linter.unusedVariables false
set_option linter.unusedSimpArgs false
set_option maxRecDepth 20000
set_option maxHeartbeats 4000000
/-! ### Price, both sides -/
namespace Go.Abs
open Go.Proofs
/-- What the program asks of an order, one number after the other. -/
def ordB (n : Int) : List Int → List Int → Bool
  | _, [] => true
  | pre, g :: r => inB g 0 (n - 1) && !decide (0 ≤ idxI pre g) && ordB n (pre ++ [g]) r
theorem ordB_iff {n : Nat} : ∀ (r pre : List Int), pre.Nodup → (ordB n pre r = true ↔ (pre ++ r).Nodup ∧ ∀ x ∈ r, 0 ≤ x ∧ x < n)
  | [], pre, h => by simp [ordB, h]
  | g :: r, pre, h => by
    rw [ordB, Bool.and_eq_true, Bool.and_eq_true, inB_t]
    by_cases hm : g ∈ pre
    · have h1 : (!decide (0 ≤ idxI pre g)) = false := by simp [idx_mem.2 hm]
      rw [h1]
      constructor
      · intro hh; exact absurd hh.1.2 (by simp)
      · intro hh
        exfalso
        have := (List.nodup_append.1 hh.1).2.2 g hm g (by simp)
        exact this rfl
    · have h1 : (!decide (0 ≤ idxI pre g)) = true := by
        have : ¬ 0 ≤ idxI pre g := fun hc => hm (idx_mem.1 hc)
        simp [this]
      have hn : (pre ++ [g]).Nodup := by
        rw [List.nodup_append]
        exact ⟨h, by simp, fun a ha b hb => by simp at hb; subst hb; exact fun e => hm (e ▸ ha)⟩
      rw [h1, ordB_iff r (pre ++ [g]) hn]
      rw [show pre ++ [g] ++ r = pre ++ g :: r by simp]
      constructor
      · rintro ⟨⟨h2, _⟩, h3, h4⟩
        exact ⟨h3, fun x hx => by
          rcases List.mem_cons.1 hx with rfl | hx
          · omega
          · exact h4 x hx⟩
      · rintro ⟨h3, h4⟩
        exact ⟨⟨by have := h4 g (by simp); omega, rfl⟩, h3, fun x hx => h4 x (by simp [hx])⟩
theorem ordB_perm {n : Nat} {l : List Int} (hl : l.length = n) : ordB n [] l = true ↔ isPerm n l := by
  rw [ordB_iff l [] List.nodup_nil, List.nil_append]
  exact ⟨fun h => ⟨hl, h.1, h.2⟩, fun h => ⟨h.nd, h.bd⟩⟩
/-- Price: the rules that are broken, what they cost, the error. -/
def priceP (gs : List Guest) (rs : List Rule) (l : List Int) : Option (List Int) × Int × Int :=
  if pErr gs rs = 0 then (if l.length = gs.length ∧ ordB gs.length [] l = true then (some (plcF (brP gs l) 0 rs), prS gs rs l, 0) else (none, 0, 3)) else (none, 0, pErr gs rs)
end Go.Abs
