/- A part of the proofs of the laws of this seat: contracts of the functions that they reach, each proved of the program's form in Lean. No condition beyond those that each contract names. -/
import Derived.Test.YtcgcciegekaliaaB0
import Derived.Test.YtcgcciegekaliaaB10
import Derived.Test.YtcgcciegekaliaaB9
import Derived.Test.YtcgcciegekaliaaB33
import Derived.Test.YtcgcciegekaliaaB20
import Derived.Test.YtcgcciegekaliaaB11
import Derived.Test.YtcgcciegekaliaaB30
import Derived.Test.YtcgcciegekaliaaB29
set_option linter.unusedVariables false
set_option linter.unusedSimpArgs false
set_option maxRecDepth 20000
set_option maxHeartbeats 4000000
/-! ### Orders read from the last seat on -/
namespace Go.Abs
theorem candF_nodup (now : List Int) : ∀ (m s : Nat), (candF now m s).Nodup
  | 0, s => by simp [candF]
  | m + 1, s => by
    rw [candF]
    split
    · exact candF_nodup now m (s + 1)
    · rw [List.nodup_cons]
      exact ⟨fun h => by have := (candF_mem h).1; omega, candF_nodup now m (s + 1)⟩
theorem candF_all {now : List Int} : ∀ (m s : Nat) {x : Nat}, s ≤ x → x < s + m → (x : Int) ∉ now → (x : Int) ∈ candF now m s
  | 0, s, x, h1, h2, _ => by omega
  | m + 1, s, x, h1, h2, h3 => by
    rw [candF]
    by_cases e : s = x
    · subst e
      have : ¬ 0 ≤ idxI now s := fun h => h3 (idx_mem.1 h)
      rw [if_neg this]; simp
    · have ih := candF_all m (s + 1) (x := x) (by omega) (by omega) h3
      split
      · exact ih
      · simp [ih]
theorem permsK_pre {n : Nat} : ∀ {k : Nat} {now m : List Int}, m ∈ permsK n k now → ∃ s, m = now ++ s
  | 0, now, m, h => by simp [permsK] at h; exact ⟨[], by simp [h]⟩
  | k + 1, now, m, h => by
    simp only [permsK, List.mem_flatMap] at h
    obtain ⟨g, _, h⟩ := h
    obtain ⟨s, rfl⟩ := permsK_pre h
    exact ⟨g :: s, by simp⟩
theorem permsK_nd (n : Nat) : ∀ (k : Nat) (now : List Int), (permsK n k now).Nodup
  | 0, now => by simp [permsK]
  | k + 1, now => by
    rw [permsK, List.nodup_iff_pairwise_ne, List.pairwise_flatMap]
    refine ⟨fun g _ => permsK_nd n k _, ?_⟩
    refine List.Pairwise.imp ?_ (List.nodup_iff_pairwise_ne.1 (candF_nodup now n 0))
    intro a b hab x hx y hy e
    obtain ⟨s, rfl⟩ := permsK_pre hx
    obtain ⟨t, rfl⟩ := permsK_pre hy
    rw [List.append_assoc, List.append_assoc] at e
    have := List.append_cancel_left e
    simp at this
    exact hab this.1
theorem permsK_all {n : Nat} : ∀ (k : Nat) (now s : List Int), s.length = k → (now ++ s).Nodup → (∀ x ∈ s, 0 ≤ x ∧ x < n) → now ++ s ∈ permsK n k now
  | 0, now, s, hs, _, _ => by
    have : s = [] := List.length_eq_zero_iff.1 hs
    subst this; simp [permsK]
  | k + 1, now, [], hs, _, _ => by simp at hs
  | k + 1, now, g :: s, hs, hn, hb => by
    rw [permsK, List.mem_flatMap]
    have hg := hb g (by simp)
    have hm : g ∉ now := fun h => (List.nodup_append.1 hn).2.2 g h g (by simp) rfl
    obtain ⟨x, rfl⟩ := Int.eq_ofNat_of_zero_le hg.1
    refine ⟨(x : Int), candF_all n 0 (Nat.zero_le _) (by omega) hm, ?_⟩
    have e : now ++ (x : Int) :: s = (now ++ [(x : Int)]) ++ s := by simp
    have := permsK_all k (now ++ [(x : Int)]) s (by simpa using hs) (by rw [← e]; exact hn) fun y hy => hb y (by simp [hy])
    rw [← e] at this; exact this
theorem mem_perms {n : Nat} {l : List Int} : l ∈ perms n ↔ isPerm n l :=
  ⟨perm_of, fun h => permsK_all n [] l h.len h.nd h.bd⟩
theorem isPerm.rev {n : Nat} {l : List Int} (h : isPerm n l) : isPerm n l.reverse := h.of_perm (List.reverse_perm l)
/-- What is true of a list's orders, counted over all of them, and over all of them turned round. -/
theorem count_bij {n : Nat} (f : List Int → List Int) (hf : ∀ l, isPerm n l → isPerm n (f l)) (hi : ∀ a b, isPerm n a → isPerm n b → f a = f b → a = b) (hs : ∀ l, isPerm n l → ∃ m, isPerm n m ∧ f m = l) (p q : List Int → Bool) (hpq : ∀ l, isPerm n l → q (f l) = p l) :
    ((perms n).filter q).length = ((perms n).filter p).length := by
  have hnd : (perms n).Nodup := permsK_nd n n []
  have hnd2 : ((perms n).map f).Nodup := by
    rw [List.nodup_iff_pairwise_ne, List.pairwise_map]
    refine List.Pairwise.imp_of_mem ?_ (List.nodup_iff_pairwise_ne.1 hnd)
    intro a b ha hb hab e
    exact hab (hi a b (perm_of ha) (perm_of hb) e)
  have hp : List.Perm ((perms n).map f) (perms n) := by
    rw [List.perm_ext_iff_of_nodup hnd2 hnd]
    intro a
    rw [List.mem_map]
    constructor
    · rintro ⟨l, hl, rfl⟩; exact mem_perms.2 (hf l (perm_of hl))
    · intro ha
      obtain ⟨m, hm, rfl⟩ := hs a (perm_of ha)
      exact ⟨m, mem_perms.2 hm, rfl⟩
  have h1 := (hp.filter q).length_eq
  rw [← h1, List.filter_map, List.length_map]
  congr 1
  exact List.filter_congr fun l hl => hpq l (perm_of hl)
theorem idx_rev {n : Nat} {l : List Int} (h : isPerm n l) {g : Int} (hg : 0 ≤ g ∧ g < n) : idxI l.reverse g = n - 1 - idxI l g := by
  obtain ⟨i, hi, he⟩ := List.getElem_of_mem (h.all hg)
  have hl := h.len
  have h1 : idxI l g = i := by rw [← he, idxI, idx_get l 0 i hi h.nd]; simp
  have hi2 : n - 1 - i < l.reverse.length := by rw [List.length_reverse]; omega
  have he2 : l.reverse[n - 1 - i] = g := by
    rw [List.getElem_reverse]
    have : l.length - 1 - (n - 1 - i) = i := by omega
    simp only [this]; exact he
  have h2 : idxI l.reverse g = ((n - 1 - i : Nat) : Int) := by
    rw [← he2, idxI, idx_get l.reverse 0 (n - 1 - i) hi2 h.rev.nd]; simp
  rw [h1, h2]; omega
theorem at_rev {n : Nat} {l : List Int} (h : isPerm n l) {g : Int} (hg : 0 ≤ g ∧ g < n) : getI (atL l.reverse) g = n - 1 - getI (atL l) g := by
  rw [at_idx h.rev hg, at_idx h hg, idx_rev h hg]
theorem rank_turn (gs : List Guest) {a : Nat} (ha : a < gs.length) : rankAt (gs.map turnG) a = 9 - rankAt gs a := by
  simp [rankAt, keepsB.rankAt, List.getElem?_eq_getElem ha, turnG]
theorem rankB_turn {gs : List Guest} {l : List Int} (h : isPerm gs.length l) : rankB (gs.map turnG) (atL l.reverse) = rankB gs (atL l) := by
  have key : ∀ a b : Nat, a < gs.length → b < gs.length → ((getI (atL l.reverse) a < getI (atL l.reverse) b ∧ rankAt (gs.map turnG) a < rankAt (gs.map turnG) b) ↔ (getI (atL l) b < getI (atL l) a ∧ rankAt gs b < rankAt gs a)) := by
    intro a b ha hb
    rw [at_rev h (by omega), at_rev h (by omega), rank_turn gs ha, rank_turn gs hb]
    omega
  have e1 : ∀ (g : List Guest) (xs : List Int), rankB g xs = true ↔ ∀ a b : Nat, a < g.length → b < g.length → ¬ (getI xs a < getI xs b ∧ rankAt g a < rankAt g b) := by
    intro g xs
    rw [show rankB g xs = keepsB.rankB g xs from rfl, keepsB.rankB, List.all_eq_true]
    constructor
    · intro h1 a b ha hb ⟨h2, h3⟩
      have h4 := h1 a (List.mem_range.2 ha)
      rw [List.all_eq_true] at h4
      have h5 := h4 b (List.mem_range.2 hb)
      have h3' : keepsB.rankAt g a < keepsB.rankAt g b := h3
      simp [h2, h3'] at h5
    · intro h1 a ha
      rw [List.all_eq_true]
      intro b hb
      have h2 := h1 a b (List.mem_range.1 ha) (List.mem_range.1 hb)
      simp only [Bool.not_eq_true', Bool.and_eq_false_iff, decide_eq_false_iff_not]
      by_cases h3 : getI xs a < getI xs b
      · right; exact fun h4 => h2 ⟨h3, h4⟩
      · left; exact h3
  rw [Bool.eq_iff_iff, e1, e1, List.length_map]
  exact ⟨fun h1 a b ha hb h2 => h1 b a hb ha ((key b a hb ha).2 h2), fun h1 a b ha hb h2 => h1 b a hb ha ((key a b ha hb).1 h2)⟩
theorem keeps_turn {gs : List Guest} {l : List Int} (h : isPerm gs.length l) {r : Rule} (hr : rOK r gs.length) : keepsB (gs.map turnG) (atL l.reverse) (turnR r) = keepsB gs (atL l) r := by
  obtain ⟨k, a, b, w⟩ := r
  have hk := hr.kind
  have ha := hr.a
  have hb := hr.b
  dsimp only at hk ha hb
  have hln : ((atL l.reverse).length : Int) = gs.length := by rw [atL_len, List.length_reverse, h.len]
  have hln2 : ((atL l).length : Int) = gs.length := by rw [atL_len, h.len]
  have h0 : k = 1 ∨ k = 2 ∨ k = 3 ∨ k = 4 ∨ k = 5 ∨ k = 6 := by omega
  have ra : k ≠ 6 → getI (atL l.reverse) a = gs.length - 1 - getI (atL l) a := fun h6 => at_rev h (ha h6)
  have rb : k ≤ 3 → getI (atL l.reverse) b = gs.length - 1 - getI (atL l) b := fun h3 => at_rev h (hb h3)
  rcases h0 with rfl | rfl | rfl | rfl | rfl | rfl
  · have e1 : keepsB (gs.map turnG) (atL l.reverse) (turnR ⟨1, a, b, w⟩) = decide (getI (atL l.reverse) b < getI (atL l.reverse) a) := rfl
    have e2 : keepsB gs (atL l) ⟨1, a, b, w⟩ = decide (getI (atL l) a < getI (atL l) b) := rfl
    rw [e1, e2, ra (by omega), rb (by omega), Bool.eq_iff_iff]
    simp only [Bool.not_eq_true', decide_eq_false_iff_not, decide_eq_true_eq]
    omega
  · have e1 : keepsB (gs.map turnG) (atL l.reverse) (turnR ⟨2, a, b, w⟩) = decide (max (getI (atL l.reverse) a - getI (atL l.reverse) b) (getI (atL l.reverse) b - getI (atL l.reverse) a) = 1) := rfl
    have e2 : keepsB gs (atL l) ⟨2, a, b, w⟩ = decide (max (getI (atL l) a - getI (atL l) b) (getI (atL l) b - getI (atL l) a) = 1) := rfl
    rw [e1, e2, ra (by omega), rb (by omega), Bool.eq_iff_iff]
    simp only [Bool.not_eq_true', decide_eq_false_iff_not, decide_eq_true_eq]
    omega
  · have e1 : keepsB (gs.map turnG) (atL l.reverse) (turnR ⟨3, a, b, w⟩) = (!decide (max (getI (atL l.reverse) a - getI (atL l.reverse) b) (getI (atL l.reverse) b - getI (atL l.reverse) a) = 1)) := rfl
    have e2 : keepsB gs (atL l) ⟨3, a, b, w⟩ = (!decide (max (getI (atL l) a - getI (atL l) b) (getI (atL l) b - getI (atL l) a) = 1)) := rfl
    rw [e1, e2, ra (by omega), rb (by omega), Bool.eq_iff_iff]
    simp only [Bool.not_eq_true', decide_eq_false_iff_not, decide_eq_true_eq]
    omega
  · have e1 : keepsB (gs.map turnG) (atL l.reverse) (turnR ⟨4, a, b, w⟩) = decide (getI (atL l.reverse) a = (atL l.reverse).length - 1) := rfl
    have e2 : keepsB gs (atL l) ⟨4, a, b, w⟩ = decide (getI (atL l) a = 0) := rfl
    rw [e1, e2, ra (by omega), hln, Bool.eq_iff_iff]
    simp only [Bool.not_eq_true', decide_eq_false_iff_not, decide_eq_true_eq]
    omega
  · have e1 : keepsB (gs.map turnG) (atL l.reverse) (turnR ⟨5, a, b, w⟩) = decide (getI (atL l.reverse) a = 0) := rfl
    have e2 : keepsB gs (atL l) ⟨5, a, b, w⟩ = decide (getI (atL l) a = (atL l).length - 1) := rfl
    rw [e1, e2, ra (by omega), hln2, Bool.eq_iff_iff]
    simp only [Bool.not_eq_true', decide_eq_false_iff_not, decide_eq_true_eq]
    omega
  · exact rankB_turn h
end Go.Abs
