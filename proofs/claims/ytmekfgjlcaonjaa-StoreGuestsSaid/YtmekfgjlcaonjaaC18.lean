/- A part of the proofs of the laws of this seat: contracts of the functions that they reach, each proved of the program's form in Lean. No condition beyond those that each contract names. -/
import Derived.Test.YtmekfgjlcaonjaaC15
import Derived.Test.YtmekfgjlcaonjaaC14
import Derived.Test.YtmekfgjlcaonjaaC13
import Derived.Test.YtmekfgjlcaonjaaC12
import Derived.Test.YtmekfgjlcaonjaaC11
import Derived.Test.YtmekfgjlcaonjaaC10
import Derived.Test.YtmekfgjlcaonjaaC9
import Derived.Test.YtmekfgjlcaonjaaC8
import Derived.Test.YtmekfgjlcaonjaaC7
import Derived.Test.YtmekfgjlcaonjaaC5
import Derived.Test.YtmekfgjlcaonjaaC4
import Derived.Test.YtmekfgjlcaonjaaC2
import Derived.Test.YtmekfgjlcaonjaaC1
import Derived.Test.YtmekfgjlcaonjaaB0
import Derived.Test.YtmekfgjlcaonjaaB1
import Derived.Test.YtmekfgjlcaonjaaB9
import Derived.Test.YtmekfgjlcaonjaaB4
import Derived.Test.YtmekfgjlcaonjaaB11
import Derived.Test.YtmekfgjlcaonjaaB20
import Derived.Test.YtmekfgjlcaonjaaB25
import Derived.Test.YtmekfgjlcaonjaaB29
import Derived.Test.YtmekfgjlcaonjaaB36
set_option linter.unusedVariables false
set_option linter.unusedSimpArgs false
set_option maxRecDepth 20000
set_option maxHeartbeats 4000000
/-! ### Combinations in order -/
namespace Go.Abs
open Go.Proofs
/-- How many combinations there are, from the end. -/
def prodR : List Int → Int
  | [] => 1
  | a :: r => prodR r * a
theorem foldl_mul : ∀ (l : List Int) (x : Int), l.foldl (· * ·) x = x * prodR l
  | [], x => by simp [prodR]
  | a :: r, x => by
    rw [List.foldl_cons, foldl_mul r, prodR, Int.mul_assoc, Int.mul_comm a]
theorem combF_prod (l : List Int) : combF l = prodR l := by rw [combF, foldl_mul, Int.one_mul]
theorem prodR_pos : ∀ {l : List Int}, (∀ x ∈ l, 1 ≤ x ∧ x ≤ 6) → 1 ≤ prodR l
  | [], _ => by simp [prodR]
  | a :: r, h => by
    have h1 := prodR_pos (l := r) fun x hx => h x (by simp [hx])
    have h2 := h a (by simp)
    have := Int.mul_le_mul h1 h2.1 (by omega) (by omega)
    simp only [prodR]; omega
theorem quo_le : ∀ {l : List Int} {n : Int}, (∀ x ∈ l, 1 ≤ x ∧ x ≤ 6) → 0 ≤ n → prodR l * (comR l n).2 ≤ n
  | [], n, _, _ => by simp [prodR, comR]
  | a :: r, n, h, hn => by
    have hr : ∀ x ∈ r, 1 ≤ x ∧ x ≤ 6 := fun x hx => h x (by simp [hx])
    have ih := quo_le (l := r) hr hn
    have hp := prodR_pos hr
    have hb := comR_bd r n hr hn
    have ha := h a (by simp)
    simp only [prodR, comR]
    rw [Int.tdiv_eq_ediv_of_nonneg hb.1, Int.mul_assoc]
    have h1 : a * ((comR r n).2 / a) ≤ (comR r n).2 := Int.mul_ediv_self_le (by omega)
    have h2 := Int.mul_le_mul_of_nonneg_left h1 (show 0 ≤ prodR r by omega)
    omega
theorem quo_zero {l : List Int} {n : Int} (h : ∀ x ∈ l, 1 ≤ x ∧ x ≤ 6) (hn : 0 ≤ n ∧ n < prodR l) : (comR l n).2 = 0 := by
  have h1 := quo_le h hn.1
  have h2 := (comR_bd l n h hn.1).1
  have h3 := prodR_pos h
  rcases (by omega : (comR l n).2 = 0 ∨ 1 ≤ (comR l n).2) with h4 | h4
  · exact h4
  · have := Int.mul_le_mul_of_nonneg_left h4 (show 0 ≤ prodR l by omega)
    omega
theorem succ_bef : ∀ {l : List Int} {n : Int}, (∀ x ∈ l, 1 ≤ x ∧ x ≤ 6) → 0 ≤ n → ((comR l (n + 1)).2 = (comR l n).2 ∧ befF (comR l n).1 (comR l (n + 1)).1 = true) ∨ (comR l (n + 1)).2 = (comR l n).2 + 1
  | [], n, _, _ => .inr rfl
  | a :: r, n, h, hn => by
    have hr : ∀ x ∈ r, 1 ≤ x ∧ x ≤ 6 := fun x hx => h x (by simp [hx])
    have hb := comR_bd r n hr hn
    have ha := h a (by simp)
    simp only [comR]
    rcases succ_bef (l := r) hr hn with ⟨h1, h2⟩ | h1
    · rw [h1]
      exact .inl ⟨rfl, by rw [befF, if_pos rfl]; exact h2⟩
    · rw [h1, Int.tdiv_eq_ediv_of_nonneg hb.1, Int.tdiv_eq_ediv_of_nonneg (by omega), Int.tmod_eq_emod_of_nonneg hb.1, Int.tmod_eq_emod_of_nonneg (by omega)]
      generalize (comR r n).2 = q at *
      have e1 := Int.emod_add_mul_ediv q a
      have e2 := Int.emod_add_mul_ediv (q + 1) a
      have b1 := Int.emod_nonneg q (show a ≠ 0 by omega)
      have b2 := Int.emod_lt_of_pos q (show 0 < a by omega)
      have c1 := Int.emod_nonneg (q + 1) (show a ≠ 0 by omega)
      have c2 := Int.emod_lt_of_pos (q + 1) (show 0 < a by omega)
      rcases (by omega : q % a + 1 < a ∨ q % a + 1 = a) with h3 | h3
      · have hd : (q + 1) / a = q / a := by
          have : q + 1 = (q % a + 1) + a * (q / a) := by omega
          rw [this, Int.add_mul_ediv_left _ _ (by omega), Int.ediv_eq_zero_of_lt (by omega) h3]; omega
        left
        refine ⟨hd, ?_⟩
        rw [hd] at e2
        rw [befF, if_neg (by omega)]
        exact decide_eq_true (by omega)
      · right
        have : q + 1 = 0 + a * (q / a + 1) := by rw [Int.mul_add]; omega
        rw [this, Int.add_mul_ediv_left _ _ (by omega)]; simp
theorem comR_next {l : List Int} {n : Int} (h : ∀ x ∈ l, 1 ≤ x ∧ x ≤ 6) (hn : 0 ≤ n ∧ n + 1 < combF l) : befF (comR l n).1 (comR l (n + 1)).1 = true := by
  rw [combF_prod] at hn
  rcases succ_bef h hn.1 with ⟨_, h1⟩ | h1
  · exact h1
  · rw [quo_zero h ⟨by omega, hn.2⟩, quo_zero h ⟨hn.1, by omega⟩] at h1
    exact absurd h1 (by decide)
theorem comR_dig : ∀ {l : List Int} {n : Int}, (∀ x ∈ l, 1 ≤ x ∧ x ≤ 6) → 0 ≤ n → ∀ (k : Nat) (hk : k < (comR l n).1.length) (hk2 : k < l.length), 0 ≤ (comR l n).1[k] ∧ (comR l n).1[k] < l[k]
  | [], n, _, _, k, _, hk => absurd hk (by simp)
  | a :: r, n, h, hn, k, hk, hk2 => by
    have hr : ∀ x ∈ r, 1 ≤ x ∧ x ≤ 6 := fun x hx => h x (by simp [hx])
    have hb := comR_bd r n hr hn
    cases k with
    | zero => exact tmod_bd hb.1 (h a (by simp)).1
    | succ k => exact comR_dig hr hn k (by simpa [comR] using hk) (by simpa using hk2)
end Go.Abs
