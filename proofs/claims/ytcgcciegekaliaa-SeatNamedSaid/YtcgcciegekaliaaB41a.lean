/- A part of the proofs of the laws of this seat: contracts of the functions that they reach, each proved of the program's form in Lean. No condition beyond those that each contract names. -/
import Derived.Test.YtcgcciegekaliaaB0
import Derived.Test.YtcgcciegekaliaaB9
import Derived.Test.YtcgcciegekaliaaB37
import Derived.Test.YtcgcciegekaliaaB41
set_option linter.unusedVariables false
set_option linter.unusedSimpArgs false
set_option maxRecDepth 20000
set_option maxHeartbeats 4000000
/-! ### Choices of numbers, in order -/
namespace Go.Abs
open Go.Proofs
theorem chK_sub : ∀ {l : List Int} {k : Nat} {y : List Int}, y ∈ chK l k → List.Sublist y l
  | _, 0, y, h => by rw [chK] at h; simp at h; subst h; exact List.nil_sublist _
  | [], k + 1, y, h => by rw [chK] at h; cases h
  | x :: r, k + 1, y, h => by
    rw [chK, List.mem_append, List.mem_map] at h
    rcases h with ⟨z, hz, rfl⟩ | h
    · exact (chK_sub hz).cons_cons x
    · exact (chK_sub h).cons x
theorem chK_all : ∀ {l : List Int} {y : List Int}, List.Sublist y l → y ∈ chK l y.length
  | _, [], _ => by rw [List.length_nil, chK]; simp
  | [], y :: ys, h => by cases h
  | x :: r, y :: ys, h => by
    rw [List.length_cons, chK, List.mem_append, List.mem_map]
    cases h with
    | cons _ h => exact .inr (by have := chK_all h; rwa [List.length_cons] at this)
    | cons_cons _ h => exact .inl ⟨ys, chK_all h, rfl⟩
theorem sorted_sub : ∀ {l y : List Int}, l.Pairwise (· < ·) → y.Pairwise (· < ·) → (∀ x ∈ y, x ∈ l) → List.Sublist y l
  | _, [], _, _, _ => List.nil_sublist _
  | [], y :: ys, _, _, h => absurd (h y (by simp)) (by simp)
  | x :: r, y :: ys, hl, hy, h => by
    obtain ⟨hl1, hl2⟩ := List.pairwise_cons.1 hl
    obtain ⟨hy1, hy2⟩ := List.pairwise_cons.1 hy
    rcases List.mem_cons.1 (h y (by simp)) with e | e
    · subst e
      refine (sorted_sub hl2 hy2 fun z hz => ?_).cons_cons y
      rcases List.mem_cons.1 (h z (by simp [hz])) with e2 | e2
      · have := hy1 z hz; omega
      · exact e2
    · refine (sorted_sub hl2 hy fun z hz => ?_).cons x
      rcases List.mem_cons.1 (h z hz) with e2 | e2
      · have hxy := hl1 y e
        rcases List.mem_cons.1 hz with e3 | e3
        · omega
        · have := hy1 z e3; omega
      · exact e2
abbrev numsL (n : Nat) : List Int := (List.range n).map fun (i : Nat) => (i : Int)
theorem numsL_lt (n : Nat) : (numsL n).Pairwise (· < ·) := by
  rw [List.pairwise_map]; exact List.pairwise_lt_range.imp fun h => by omega
theorem mem_numsL {n : Nat} {x : Int} : x ∈ numsL n ↔ 0 ≤ x ∧ x < n := by
  rw [List.mem_map]
  constructor
  · rintro ⟨i, hi, rfl⟩; have := List.mem_range.1 hi; omega
  · intro h; exact ⟨x.toNat, List.mem_range.2 (by omega), by omega⟩
theorem chK_inc {n k : Nat} {y : List Int} (h : y ∈ chK (numsL n) k) : inc n y :=
  ⟨(numsL_lt n).sublist (chK_sub h), fun x hx => mem_numsL.1 ((chK_sub h).subset hx)⟩
theorem inc_chK {n : Nat} {y : List Int} (h : inc n y) : y ∈ chK (numsL n) y.length :=
  chK_all (sorted_sub (numsL_lt n) h.lt fun x hx => mem_numsL.2 (h.bd x hx))
theorem chK_sorted : ∀ {l : List Int} (k : Nat), l.Pairwise (· < ·) → (chK l k).Pairwise fun a b => lexI a b < 0
  | _, 0, _ => by rw [chK]; simp
  | [], k + 1, _ => by rw [chK]; exact .nil
  | x :: r, k + 1, h => by
    obtain ⟨h1, h2⟩ := List.pairwise_cons.1 h
    rw [chK, List.pairwise_append]
    refine ⟨?_, chK_sorted (k + 1) h2, fun a ha b hb => ?_⟩
    · rw [List.pairwise_map]
      exact (chK_sorted k h2).imp fun h => by rw [lexI, if_pos (cmpI_eq.2 rfl)]; exact h
    · obtain ⟨a', _, rfl⟩ := List.mem_map.1 ha
      have hl := chK_mem_len hb
      cases b with
      | nil => cases hl
      | cons y b =>
        have hy := h1 y ((chK_sub hb).subset (by simp))
        have hc : cmpI x y < 0 := cmpI_lt.2 hy
        rw [lexI, if_neg (by omega)]; exact hc
/-- All choices of 1 to m numbers, in order. -/
def chs (l : List Int) : Nat → List (List Int)
  | 0 => []
  | m + 1 => chs l m ++ chK l (m + 1)
theorem chs_mem {l : List Int} {y : List Int} : ∀ {m : Nat}, y ∈ chs l m ↔ 1 ≤ y.length ∧ y.length ≤ m ∧ y ∈ chK l y.length
  | 0 => by
    rw [chs]
    exact Iff.intro (fun h => absurd h List.not_mem_nil) (fun h => by omega)
  | m + 1 => by
    rw [chs, List.mem_append, chs_mem (m := m)]
    constructor
    · rintro (h | h)
      · exact ⟨h.1, by omega, h.2.2⟩
      · have := chK_mem_len h
        exact ⟨by omega, by omega, by rw [this]; exact h⟩
    · rintro ⟨h1, h2, h3⟩
      by_cases h4 : y.length = m + 1
      · exact .inr (by rw [h4] at h3; exact h3)
      · exact .inl ⟨h1, by omega, h3⟩
theorem chs_sorted {l : List Int} (h : l.Pairwise (· < ·)) : ∀ m, (chs l m).Pairwise fun a b => lsI a b < 0
  | 0 => .nil
  | m + 1 => by
    rw [chs, List.pairwise_append]
    refine ⟨chs_sorted h m, ?_, fun a ha b hb => ?_⟩
    · refine List.Pairwise.imp_of_mem (fun {a b} ha hb hab => ?_) (chK_sorted (m + 1) h)
      rw [lsI, chK_mem_len ha, chK_mem_len hb, if_pos (cmpI_eq.2 rfl)]; exact hab
    · have h1 := chs_mem.1 ha
      have h2 := chK_mem_len hb
      have hc : cmpI a.length b.length < 0 := cmpI_lt.2 (by omega)
      rw [lsI, if_neg (by omega)]; exact hc
end Go.Abs
