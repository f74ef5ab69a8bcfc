/- A part of the proofs of the laws of this seat: contracts of the functions that they reach, each proved of the program's form in Lean. No condition beyond those that each contract names. -/
import Derived.Test.YtcgcciegekaliaaB0
import Derived.Test.YtcgcciegekaliaaB9
import Derived.Test.YtcgcciegekaliaaB12
set_option linter.unusedVariables false
set_option linter.unusedSimpArgs false
set_option maxRecDepth 20000
set_option maxHeartbeats 4000000
/-! ### Lists of guests: shorter ones first, then in order -/
namespace Go.Abs
open Go.Proofs
def cmpI (x y : Int) : Int := if x < y then -1 else if y < x then 1 else 0
theorem cmpI_eq {x y : Int} : cmpI x y = 0 ↔ x = y := by unfold cmpI; split <;> (try split) <;> simp <;> omega
theorem cmpI_lt {x y : Int} : cmpI x y < 0 ↔ x < y := by unfold cmpI; split <;> (try split) <;> simp <;> omega
theorem cmpI_anti (x y : Int) : cmpI y x = - cmpI x y := by
  unfold cmpI
  by_cases h1 : x < y
  · rw [if_neg (by omega), if_pos h1, if_pos h1]; omega
  · by_cases h2 : y < x
    · rw [if_pos h2, if_neg h1, if_pos h2]
    · rw [if_neg h2, if_neg h1, if_neg h1, if_neg h2]; omega
def lexI : List Int → List Int → Int
  | [], [] => 0
  | [], _ :: _ => -1
  | _ :: _, [] => 1
  | x :: a, y :: b => if cmpI x y = 0 then lexI a b else cmpI x y
theorem lexI_eq : ∀ {a b : List Int}, lexI a b = 0 ↔ a = b
  | [], [] => by simp [lexI]
  | [], _ :: _ => by simp [lexI]
  | _ :: _, [] => by simp [lexI]
  | x :: a, y :: b => by
    rw [lexI]
    split
    · rename_i h; rw [lexI_eq, cmpI_eq.1 h]; simp
    · rename_i h
      refine ⟨fun h2 => absurd h2 h, fun h2 => ?_⟩
      cases h2
      exact absurd (cmpI_eq.2 rfl) h
theorem lexI_anti : ∀ (a b : List Int), lexI b a = - lexI a b
  | [], [] => by simp [lexI]
  | [], _ :: _ => by simp [lexI]
  | _ :: _, [] => by simp [lexI]
  | x :: a, y :: b => by
    rw [lexI, lexI, lexI_anti a b, cmpI_anti x y]
    by_cases h : cmpI x y = 0
    · rw [if_pos h, if_pos (by rw [h]; rfl)]
    · rw [if_neg h, if_neg (by omega)]
theorem lexI_trans : ∀ {a b c : List Int}, lexI a b < 0 → lexI b c < 0 → lexI a c < 0
  | [], [], _, h, _ => by simp [lexI] at h
  | _ :: _, [], _, h, _ => by simp [lexI] at h
  | _, _ :: _, [], _, h => by simp [lexI] at h
  | [], _ :: _, _ :: _, _, _ => by simp [lexI]
  | x :: a, y :: b, z :: c, h1, h2 => by
    rw [lexI] at h1 h2 ⊢
    by_cases e1 : cmpI x y = 0
    · rw [if_pos e1] at h1
      obtain rfl := cmpI_eq.1 e1
      by_cases e2 : cmpI x z = 0
      · rw [if_pos e2] at h2 ⊢; exact lexI_trans h1 h2
      · rw [if_neg e2] at h2 ⊢; exact h2
    · rw [if_neg e1] at h1
      have h1' := cmpI_lt.1 h1
      by_cases e2 : cmpI y z = 0
      · obtain rfl := cmpI_eq.1 e2
        rw [if_neg e1]; exact h1
      · rw [if_neg e2] at h2
        have h2' := cmpI_lt.1 h2
        have h3 : cmpI x z < 0 := cmpI_lt.2 (by omega)
        rw [if_neg (by omega)]; exact h3
/-- Shorter lists first, then in order. -/
def lsI (a b : List Int) : Int := if cmpI a.length b.length = 0 then lexI a b else cmpI a.length b.length
theorem lsI_eq {a b : List Int} : lsI a b = 0 ↔ a = b := by
  unfold lsI
  split
  · exact lexI_eq
  · rename_i h
    exact ⟨fun h2 => absurd h2 h, fun h2 => absurd (by rw [h2]; exact cmpI_eq.2 rfl) h⟩
theorem lsI_anti (a b : List Int) : lsI b a = - lsI a b := by
  unfold lsI
  rw [cmpI_anti a.length b.length, lexI_anti a b]
  by_cases h : cmpI a.length b.length = 0
  · rw [if_pos h, if_pos (by rw [h]; rfl)]
  · rw [if_neg h, if_neg (by omega)]
theorem lsI_trans {a b c : List Int} (h1 : lsI a b < 0) (h2 : lsI b c < 0) : lsI a c < 0 := by
  unfold lsI at *
  by_cases e1 : cmpI a.length b.length = 0
  · rw [if_pos e1] at h1
    have q1 := cmpI_eq.1 e1
    rw [q1]
    by_cases e2 : cmpI b.length c.length = 0
    · rw [if_pos e2] at h2 ⊢; exact lexI_trans h1 h2
    · rw [if_neg e2] at h2 ⊢; exact h2
  · rw [if_neg e1] at h1
    have h1' := cmpI_lt.1 h1
    by_cases e2 : cmpI b.length c.length = 0
    · rw [← cmpI_eq.1 e2, if_neg e1]; exact h1
    · rw [if_neg e2] at h2
      have h2' := cmpI_lt.1 h2
      have h3 : cmpI a.length c.length < 0 := cmpI_lt.2 (by omega)
      rw [if_neg (by omega)]; exact h3
/-- Numbers below n, in order. -/
structure inc (n : Nat) (l : List Int) : Prop where
  lt : l.Pairwise (· < ·)
  bd : ∀ x ∈ l, 0 ≤ x ∧ x < n
theorem inc_ext : ∀ {a b : List Int}, a.Pairwise (· < ·) → b.Pairwise (· < ·) → (∀ x, x ∈ a ↔ x ∈ b) → a = b
  | [], [], _, _, _ => rfl
  | [], y :: b, _, _, h => absurd ((h y).2 (by simp)) (by simp)
  | x :: a, [], _, _, h => absurd ((h x).1 (by simp)) (by simp)
  | x :: a, y :: b, ha, hb, h => by
    obtain ⟨ha1, ha2⟩ := List.pairwise_cons.1 ha
    obtain ⟨hb1, hb2⟩ := List.pairwise_cons.1 hb
    have hxy : x = y := by
      rcases List.mem_cons.1 ((h x).1 (by simp)) with e | e
      · exact e
      · rcases List.mem_cons.1 ((h y).2 (by simp)) with e2 | e2
        · exact e2.symm
        · have := hb1 _ e; have := ha1 _ e2; omega
    subst hxy
    rw [inc_ext ha2 hb2 fun z => ?_]
    have hz := h z
    constructor
    · intro hm
      rcases List.mem_cons.1 (hz.1 (by simp [hm])) with e | e
      · subst e; have := ha1 _ hm; omega
      · exact e
    · intro hm
      rcases List.mem_cons.1 (hz.2 (by simp [hm])) with e | e
      · subst e; have := hb1 _ hm; omega
      · exact e
theorem mem_bits {set n : Nat} {x : Int} : x ∈ bitsL set n ↔ ∃ k : Nat, x = k ∧ k < n ∧ set.testBit k = true := by
  unfold bitsL
  rw [List.mem_map]
  constructor
  · rintro ⟨k, hk, rfl⟩
    rw [List.mem_filter, List.mem_range] at hk
    exact ⟨k, rfl, hk⟩
  · rintro ⟨k, rfl, h⟩
    exact ⟨k, by rw [List.mem_filter, List.mem_range]; exact h, rfl⟩
theorem bits_lt (set n : Nat) : (bitsL set n).Pairwise (· < ·) := by
  unfold bitsL
  rw [List.pairwise_map]
  exact (List.Pairwise.filter _ List.pairwise_lt_range).imp fun h => by omega
theorem mem_members {set : Nat} (hs : set < 2 ^ 62) {x : Int} (h0 : 0 ≤ x) : x ∈ membersL set ↔ set.testBit x.toNat = true := by
  rw [mem_bits]
  constructor
  · rintro ⟨k, rfl, _, h⟩; exact h
  · intro h
    refine ⟨x.toNat, by omega, ?_, h⟩
    refine Decidable.byContradiction fun hc => ?_
    rw [Nat.testBit_lt_two_pow (Nat.lt_of_lt_of_le hs (Nat.pow_le_pow_right (by omega) (by omega)))] at h
    cases h
theorem inc_members {n set : Nat} (h : set < 2 ^ n) : inc n (membersL set) :=
  ⟨bits_lt _ _, fun x hx => members_lt h hx⟩
theorem bits_of (p : Nat → Bool) : ∀ n : Nat, ∃ set, set < 2 ^ n ∧ ∀ k, k < n → set.testBit k = p k
  | 0 => ⟨0, by simp, by simp⟩
  | n + 1 => by
    obtain ⟨s, h1, h2⟩ := bits_of p n
    cases hp : p n with
    | false =>
      refine ⟨s, by rw [Nat.pow_succ]; omega, fun k hk => ?_⟩
      by_cases e : k = n
      · subst e; rw [hp]; exact Nat.testBit_lt_two_pow h1
      · exact h2 k (by omega)
    | true =>
      refine ⟨2 ^ n + s, by rw [Nat.pow_succ]; omega, fun k hk => ?_⟩
      by_cases e : k = n
      · subst e; rw [hp, Nat.testBit_two_pow_add_eq, Nat.testBit_lt_two_pow h1]; rfl
      · rw [Nat.testBit_two_pow_add_gt (by omega)]; exact h2 k (by omega)
theorem members_onto {n : Nat} (hn : n ≤ 62) {l : List Int} (h : inc n l) : ∃ set, set < 2 ^ n ∧ membersL set = l := by
  obtain ⟨s, h1, h2⟩ := bits_of (fun k => decide ((k : Int) ∈ l)) n
  have hs : s < 2 ^ 62 := Nat.lt_of_lt_of_le h1 (Nat.pow_le_pow_right (by omega) hn)
  refine ⟨s, h1, inc_ext (bits_lt _ _) h.lt fun x => ?_⟩
  constructor
  · intro hx
    have hb := (inc_members h1).bd x hx
    have := (mem_members hs hb.1).1 hx
    rw [h2 _ (by omega)] at this
    have := of_decide_eq_true this
    rwa [Int.toNat_of_nonneg hb.1] at this
  · intro hx
    have hb := h.bd x hx
    rw [mem_members hs hb.1, h2 _ (by omega)]
    exact decide_eq_true (by rw [Int.toNat_of_nonneg hb.1]; exact hx)
theorem members_0 : membersL 0 = [] := by decide +kernel
theorem members_ne {set : Nat} (hs : set < 2 ^ 62) (h : set ≠ 0) : membersL set ≠ [] := by
  intro hc
  obtain ⟨i, hi⟩ := Nat.exists_testBit_of_ne_zero h
  have := (mem_members hs (x := (i : Int)) (by omega)).2 (by simpa using hi)
  rw [hc] at this; cases this
end Go.Abs
