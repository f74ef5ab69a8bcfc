/- A part of the proofs of the laws of this seat: contracts of the functions that they reach, each proved of the program's form in Lean. No condition beyond those that each contract names. -/
import Derived.Test.YtmekfgjlcaonjaaB0
import Derived.Test.YtmekfgjlcaonjaaB9
import Derived.Test.YtmekfgjlcaonjaaB11
import Derived.Test.YtmekfgjlcaonjaaB20
set_option linter.unusedVariables false
set_option linter.unusedSimpArgs false
set_option maxRecDepth 20000
set_option maxHeartbeats 1600000
/-! ### All orders of some numbers -/
namespace Go.Abs
theorem candF_nodup (now : List Int) : ∀ (m s : Nat), (candF now m s).Nodup
  | 0, s => by simp [candF]
  | m + 1, s => by
    rw [candF]
    split
    · exact candF_nodup now m (s + 1)
    · rw [List.nodup_cons]
      exact ⟨fun h => by have := (candF_mem h).1; omega, candF_nodup now m (s + 1)⟩
theorem candF_all {now : List Int} : ∀ (m s : Nat) {x : Nat}, s ≤ x → x < s + m → (x : Int) ∉ now → (x : Int) ∈ candF now m s
  | 0, s, x, h1, h2, _ => by omega
  | m + 1, s, x, h1, h2, h3 => by
    rw [candF]
    by_cases e : s = x
    · subst e
      have : ¬ 0 ≤ idxI now s := fun h => h3 (idx_mem.1 h)
      rw [if_neg this]; simp
    · have ih := candF_all m (s + 1) (x := x) (by omega) (by omega) h3
      split
      · exact ih
      · simp [ih]
theorem permsK_pre {n : Nat} : ∀ {k : Nat} {now m : List Int}, m ∈ permsK n k now → ∃ s, m = now ++ s
  | 0, now, m, h => by simp [permsK] at h; exact ⟨[], by simp [h]⟩
  | k + 1, now, m, h => by
    simp only [permsK, List.mem_flatMap] at h
    obtain ⟨g, _, h⟩ := h
    obtain ⟨s, rfl⟩ := permsK_pre h
    exact ⟨g :: s, by simp⟩
theorem permsK_nd (n : Nat) : ∀ (k : Nat) (now : List Int), (permsK n k now).Nodup
  | 0, now => by simp [permsK]
  | k + 1, now => by
    rw [permsK, List.nodup_iff_pairwise_ne, List.pairwise_flatMap]
    refine ⟨fun g _ => permsK_nd n k _, ?_⟩
    refine List.Pairwise.imp ?_ (List.nodup_iff_pairwise_ne.1 (candF_nodup now n 0))
    intro a b hab x hx y hy e
    obtain ⟨s, rfl⟩ := permsK_pre hx
    obtain ⟨t, rfl⟩ := permsK_pre hy
    rw [List.append_assoc, List.append_assoc] at e
    have := List.append_cancel_left e
    simp at this
    exact hab this.1
theorem permsK_all {n : Nat} : ∀ (k : Nat) (now s : List Int), s.length = k → (now ++ s).Nodup → (∀ x ∈ s, 0 ≤ x ∧ x < n) → now ++ s ∈ permsK n k now
  | 0, now, s, hs, _, _ => by
    have : s = [] := List.length_eq_zero_iff.1 hs
    subst this; simp [permsK]
  | k + 1, now, [], hs, _, _ => by simp at hs
  | k + 1, now, g :: s, hs, hn, hb => by
    rw [permsK, List.mem_flatMap]
    have hg := hb g (by simp)
    have hm : g ∉ now := fun h => (List.nodup_append.1 hn).2.2 g h g (by simp) rfl
    obtain ⟨x, rfl⟩ := Int.eq_ofNat_of_zero_le hg.1
    refine ⟨(x : Int), candF_all n 0 (Nat.zero_le _) (by omega) hm, ?_⟩
    have e : now ++ (x : Int) :: s = (now ++ [(x : Int)]) ++ s := by simp
    have := permsK_all k (now ++ [(x : Int)]) s (by simpa using hs) (by rw [← e]; exact hn) fun y hy => hb y (by simp [hy])
    rw [← e] at this; exact this
theorem mem_perms {n : Nat} {l : List Int} : l ∈ perms n ↔ isPerm n l :=
  ⟨perm_of, fun h => permsK_all n [] l h.len h.nd h.bd⟩
/-- What is true of a list's orders, counted over all of them, and over all of them turned round. -/
theorem count_bij {n : Nat} (f : List Int → List Int) (hf : ∀ l, isPerm n l → isPerm n (f l)) (hi : ∀ a b, isPerm n a → isPerm n b → f a = f b → a = b) (hs : ∀ l, isPerm n l → ∃ m, isPerm n m ∧ f m = l) (p q : List Int → Bool) (hpq : ∀ l, isPerm n l → q (f l) = p l) :
    ((perms n).filter q).length = ((perms n).filter p).length := by
  have hnd : (perms n).Nodup := permsK_nd n n []
  have hnd2 : ((perms n).map f).Nodup := by
    rw [List.nodup_iff_pairwise_ne, List.pairwise_map]
    refine List.Pairwise.imp_of_mem ?_ (List.nodup_iff_pairwise_ne.1 hnd)
    intro a b ha hb hab e
    exact hab (hi a b (perm_of ha) (perm_of hb) e)
  have hp : List.Perm ((perms n).map f) (perms n) := by
    rw [List.perm_ext_iff_of_nodup hnd2 hnd]
    intro a
    rw [List.mem_map]
    constructor
    · rintro ⟨l, hl, rfl⟩; exact mem_perms.2 (hf l (perm_of hl))
    · intro ha
      obtain ⟨m, hm, rfl⟩ := hs a (perm_of ha)
      exact ⟨m, mem_perms.2 hm, rfl⟩
  have h1 := (hp.filter q).length_eq
  rw [← h1, List.filter_map, List.length_map]
  congr 1
  exact List.filter_congr fun l hl => hpq l (perm_of hl)
end Go.Abs
