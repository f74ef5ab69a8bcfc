/- A part of the proofs of the laws of this seat: contracts of the functions that they reach, each proved of the program's form in Lean. No condition beyond those that each contract names. -/
import Derived.Test.YtmekfgjlcaonjaaB8
import Derived.Test.YtmekfgjlcaonjaaB0
import Derived.Test.YtmekfgjlcaonjaaB10
import Derived.Test.YtmekfgjlcaonjaaB9
import Derived.Test.YtmekfgjlcaonjaaB11
import Derived.Test.YtmekfgjlcaonjaaB5
set_option linter.unusedVariables false
set_option linter.unusedSimpArgs false
set_option maxRecDepth 20000
set_option maxHeartbeats 4000000
/-! ### The best order -/
namespace Go.Abs
open Go.Proofs
def wAt (rs : List Rule) (i : Int) : Int := ((rs[i.toNat]?).map (·.weight)).getD 0
def priceF (rs : List Rule) : List Int → Int
  | [] => 0
  | i :: r => wAt rs i + priceF rs r
theorem priceF_snoc (rs : List Rule) (i : Int) : ∀ m, priceF rs (m ++ [i]) = priceF rs m + wAt rs i
  | [] => by simp [priceF]
  | x :: m => by simp only [List.cons_append, priceF, priceF_snoc rs i m]; omega
theorem wAt_bd {rs : List Rule} (h : ∀ r ∈ rs, 0 ≤ r.weight ∧ r.weight ≤ 1000) (i : Int) : 0 ≤ wAt rs i ∧ wAt rs i ≤ 1000 := by
  unfold wAt
  cases hi : rs[i.toNat]? with
  | none => simp
  | some d => exact h d (List.mem_of_getElem? hi)
theorem priceF_bd {rs : List Rule} (h : ∀ r ∈ rs, 0 ≤ r.weight ∧ r.weight ≤ 1000) : ∀ m, 0 ≤ priceF rs m ∧ priceF rs m ≤ 1000 * m.length
  | [] => by simp [priceF]
  | i :: m => by
    have := priceF_bd h m
    have := wAt_bd h i
    simp only [priceF, List.length_cons]; omega
theorem members_lt {set n : Nat} (h : set < 2 ^ n) {i : Int} (hi : i ∈ membersL set) : 0 ≤ i ∧ i < n := by
  unfold membersL bitsL at hi
  obtain ⟨j, hj, rfl⟩ := List.mem_map.1 hi
  have hb := (List.mem_filter.1 hj).2
  refine ⟨by omega, ?_⟩
  refine Decidable.byContradiction fun hc => ?_
  have := Nat.testBit_lt_two_pow (Nat.lt_of_lt_of_le h (Nat.pow_le_pow_right (by omega) (show n ≤ j by omega)))
  rw [this] at hb; cases hb
/-- The best order so far, and its price. -/
def stepB (rs : List Rule) (acc : Option (List Int) × Int) (x : List Int × Nat) : Option (List Int) × Int :=
  if acc.1 = none ∨ priceF rs (membersL x.2) < acc.2 then (some x.1, priceF rs (membersL x.2)) else acc
def bestB (gs : List Guest) (rs : List Rule) : Option (List Int) × Int := (allowF gs rs (perms gs.length)).foldl (stepB rs) (none, 0)
/-- Best: the order, its price, the error. -/
def bestP (gs : List Guest) (rs : List Rule) : Option (List Int) × Int × Int :=
  if pErr gs rs = 0 then (if (bestB gs rs).1 = none then (none, 0, 12) else ((bestB gs rs).1, (bestB gs rs).2, 0)) else (none, 0, pErr gs rs)
theorem rsErr_each {n : Int} : ∀ {rs : List Rule}, rsErr n rs = 0 → ∀ r ∈ rs, rErr r n = 0
  | [], _, r, h => by cases h
  | x :: rs, h, r, hr => by
    rw [rsErr] at h
    split at h
    · rename_i h0
      rcases List.mem_cons.1 hr with rfl | hr
      · exact h0
      · exact rsErr_each h r hr
    · rename_i h0; exact absurd h h0
structure pOK (gs : List Guest) (rs : List Rule) : Prop where
  g1 : 1 ≤ gs.length
  g7 : gs.length ≤ 7
  r12 : rs.length ≤ 12
  r : ∀ r ∈ rs, rOK r gs.length
theorem pOK_of {gs : List Guest} {rs : List Rule} (h : pErr gs rs = 0) : pOK gs rs := by
  unfold pErr at h
  split at h
  · cases h
  split at h
  · cases h
  split at h
  · split at h
    · cases h
    · exact ⟨by omega, by omega, by omega, fun r hr => rOK_of (rsErr_each h r hr)⟩
  · rename_i h0; exact absurd h h0
theorem allowF_mem {gs : List Guest} {rs : List Rule} : ∀ {ls : List (List Int)} {x}, x ∈ allowF gs rs ls → x.1 ∈ ls ∧ x.2 < 2 ^ rs.length
  | l :: ls, x, h => by
    rw [allowF] at h
    split at h
    · rcases List.mem_cons.1 h with rfl | h
      · exact ⟨by simp, brk_lt gs rs l⟩
      · have := allowF_mem h; exact ⟨by simp [this.1], this.2⟩
    · have := allowF_mem h; exact ⟨by simp [this.1], this.2⟩
end Go.Abs
