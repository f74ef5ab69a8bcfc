/- A part of the proofs of the laws of this seat: contracts of the functions that they reach, each proved of the program's form in Lean. No condition beyond those that each contract names. -/
import Derived.Test.YtmekfgjlcaonjaaK13
import Derived.Test.YtmekfgjlcaonjaaK14
import Derived.Test.YtmekfgjlcaonjaaD1
import Derived.Test.YtmekfgjlcaonjaaC6
import Derived.Test.YtmekfgjlcaonjaaC5
import Derived.Test.YtmekfgjlcaonjaaC4
import Derived.Test.YtmekfgjlcaonjaaC3
import Derived.Test.YtmekfgjlcaonjaaC2
import Derived.Test.YtmekfgjlcaonjaaC1
import Derived.Test.YtmekfgjlcaonjaaB
import Derived.Test.YtmekfgjlcaonjaaD8
set_option linter.unusedVariables false
set_option linter.unusedSimpArgs false
set_option maxRecDepth 20000
set_option maxHeartbeats 4000000
namespace Go.Abs
theorem getI_cz (d : Int) (r : List Int) : getI (d :: r) ((0 : Nat) : Int) = d := by simp [getI]
theorem getI_cs (d : Int) (r : List Int) (b : Nat) : getI (d :: r) ((b + 1 : Nat) : Int) = getI r (b : Int) := by
  unfold getI
  rw [Int.toNat_natCast, Int.toNat_natCast, List.getElem?_cons_succ]
theorem hoR_eq (c : Chn) (o : List Int) (day : Int) : ∀ (ds : List Int) (h : Int) (i m : Nat), m ≤ ds.length → (∀ a : Nat, a < m → getI ds (a : Int) ≤ day) → (m < ds.length → day < getI ds (m : Int)) → hoR c o h i ds day = if m = 0 then h else whoAt c o (i + (m - 1))
  | [], h, i, m, hm, _, _ => by
    obtain rfl : m = 0 := by simpa using hm
    rfl
  | d :: r, h, i, 0, _, _, h3 => by
    have h3 := h3 (by simp)
    rw [getI_cz] at h3
    rw [hoR, if_pos h3, if_pos rfl]
  | d :: r, h, i, m + 1, hm, h2, h3 => by
    have h4 := h2 0 (by omega)
    rw [getI_cz] at h4
    have ih := hoR_eq c o day r (whoAt c o i) (i + 1) m (by simpa using hm) (fun a ha => by have := h2 (a + 1) (by omega); rw [getI_cs] at this; exact this) (fun hl => by have := h3 (by simp; omega); rw [getI_cs] at this; exact this)
    rw [hoR, if_neg (show ¬day < d by omega), ih, if_neg (Nat.succ_ne_zero m)]
    by_cases h0 : m = 0
    · rw [if_pos h0, h0]; rfl
    · rw [if_neg h0]
      refine congrArg _ ?_
      omega
theorem hoR_ex (day : Int) : ∀ ds : List Int, ∃ m, m ≤ ds.length ∧ (∀ a : Nat, a < m → getI ds (a : Int) ≤ day) ∧ (m < ds.length → day < getI ds (m : Int))
  | [] => ⟨0, by simp, fun a h => by omega, fun h => by simp at h⟩
  | d :: r => by
    by_cases h : day < d
    · exact ⟨0, by simp, fun a h => by omega, fun _ => by rw [getI_cz]; exact h⟩
    · obtain ⟨m, h1, h2, h3⟩ := hoR_ex day r
      refine ⟨m + 1, by simpa using h1, fun a ha => ?_, fun hl => ?_⟩
      · cases a with
        | zero => rw [getI_cz]; omega
        | succ a => rw [getI_cs]; exact h2 a (by omega)
      · rw [getI_cs]; exact h3 (by simpa using hl)
end Go.Abs
