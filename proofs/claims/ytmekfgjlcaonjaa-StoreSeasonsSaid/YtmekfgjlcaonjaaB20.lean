/- A part of the proofs of the laws of this seat: contracts of the functions that they reach, each proved of the program's form in Lean. No condition beyond those that each contract names. -/
import Derived.Test.YtmekfgjlcaonjaaB0
import Derived.Test.YtmekfgjlcaonjaaB9
import Derived.Test.YtmekfgjlcaonjaaB11
import Derived.Test.YtmekfgjlcaonjaaB16
set_option linter.unusedVariables false
set_option linter.unusedSimpArgs false
set_option maxRecDepth 20000
set_option maxHeartbeats 4000000
/-! ### Orders that are permutations -/
namespace Go.Abs
theorem idxF'_neg (g : Int) : ∀ (s : Nat) (l : List Int), idxF' g s l < 0 ↔ g ∉ l
  | s, [] => by simp [idxF']
  | s, x :: r => by
    simp only [idxF', List.mem_cons, not_or]
    split
    · rename_i h
      constructor
      · intro h2; omega
      · intro h2; exact absurd h.symm h2.1
    · rename_i h
      rw [idxF'_neg g (s + 1) r]
      exact ⟨fun h2 => ⟨fun h3 => h h3.symm, h2⟩, fun h2 => h2.2⟩
theorem idx_mem {l : List Int} {g : Int} : 0 ≤ idxI l g ↔ g ∈ l := by
  have := idxF'_neg g 0 l
  have h2 : idxI l g = idxF' g 0 l := rfl
  by_cases h : g ∈ l
  · exact ⟨fun _ => h, fun _ => by have := mt this.1 (fun hc => hc h); omega⟩
  · exact ⟨fun h3 => absurd (this.2 h) (by omega), fun h3 => absurd h3 h⟩
theorem nodup_len : ∀ (n : Nat) (l : List Int), l.Nodup → (∀ x ∈ l, 0 ≤ x ∧ x < n) → l.length ≤ n
  | 0, l, _, h => by
    cases l with
    | nil => simp
    | cons x l => have := h x (by simp); omega
  | n + 1, l, hn, h => by
    by_cases hm : (n : Int) ∈ l
    · have h1 := nodup_len n (l.erase (n : Int)) (hn.erase _) fun x hx => by
        have h2 := (hn.mem_erase_iff).1 hx
        have h3 := h x h2.2
        have := h2.1
        omega
      have := List.length_erase_of_mem hm
      omega
    · have h1 := nodup_len n l hn fun x hx => by
        have h3 := h x hx
        have : x ≠ n := fun e => hm (e ▸ hx)
        omega
      omega
/-- An order of n guests. -/
structure isPerm (n : Nat) (l : List Int) : Prop where
  len : l.length = n
  nd : l.Nodup
  bd : ∀ x ∈ l, 0 ≤ x ∧ x < n
theorem isPerm.all {n : Nat} {l : List Int} (h : isPerm n l) {g : Int} (hg : 0 ≤ g ∧ g < n) : g ∈ l := by
  refine Decidable.byContradiction fun hc => ?_
  have := nodup_len n (g :: l) (List.nodup_cons.2 ⟨hc, h.nd⟩) fun x hx => by
    rcases List.mem_cons.1 hx with rfl | hx
    · exact hg
    · exact h.bd x hx
  have h2 := h.len
  simp at this; omega
theorem permsK_nodup {n : Nat} : ∀ {k : Nat} {now m : List Int}, m ∈ permsK n k now → now.Nodup → m.Nodup
  | 0, now, m, h, hn => by simp [permsK] at h; subst h; exact hn
  | k + 1, now, m, h, hn => by
    simp only [permsK, List.mem_flatMap] at h
    obtain ⟨g, hg, h⟩ := h
    have hc := (candF_mem hg).2.2
    have hm := (idxF'_neg g 0 now).1 hc
    refine permsK_nodup h ?_
    rw [List.nodup_append]
    exact ⟨hn, by simp, fun a ha b hb => by simp at hb; subst hb; exact fun e => hm (e ▸ ha)⟩
theorem perm_of {n : Nat} {m : List Int} (h : m ∈ perms n) : isPerm n m := by
  have h1 := permsK_mem h
  exact ⟨by simpa using h1.1, permsK_nodup h List.nodup_nil, fun x hx => h1.2 (fun i hi => by cases hi) x hx⟩
theorem getI_set {xs : List Int} {i : Nat} {v g : Int} (hg : 0 ≤ g) (hi : i < xs.length) : getI (xs.set i v) g = if g = i then v else getI xs g := by
  unfold getI
  rw [List.getElem?_set]
  by_cases h : i = g.toNat
  · rw [if_pos h, if_pos hi, if_pos (by omega)]; rfl
  · rw [if_neg h, if_neg (by omega)]
theorem atF_get {g : Int} (hg : 0 ≤ g) : ∀ (l : List Int) (xs : List Int) (s : Nat), l.Nodup → (∀ x ∈ l, 0 ≤ x ∧ x < xs.length) → getI (atF xs s l) g = if g ∈ l then idxF' g s l else getI xs g
  | [], xs, s, _, _ => by simp [atF]
  | x :: r, xs, s, hn, hb => by
    have hx := hb x (by simp)
    obtain ⟨hn1, hn2⟩ := List.nodup_cons.1 hn
    rw [atF, atF_get hg r _ (s + 1) hn2 fun y hy => by rw [List.length_set]; exact hb y (by simp [hy])]
    rw [getI_set hg (by omega)]
    by_cases h : g = x
    · subst h
      rw [if_neg hn1, if_pos (by omega), if_pos (by simp), idxF', if_pos rfl]
    · have e1 : idxF' g s (x :: r) = idxF' g (s + 1) r := by rw [idxF', if_neg (fun e => h e.symm)]
      rw [e1]
      by_cases h2 : g ∈ r
      · rw [if_pos h2, if_pos (by simp [h2])]
      · rw [if_neg h2, if_neg (by omega), if_neg (by simp [h, h2])]
theorem at_idx {n : Nat} {l : List Int} (h : isPerm n l) {g : Int} (hg : 0 ≤ g ∧ g < n) : getI (atL l) g = idxI l g := by
  rw [atL, atF_get hg.1 l _ 0 h.nd fun x hx => by have := h.bd x hx; have := h.len; simp; omega, if_pos (h.all hg)]
/-- An element's place. -/
theorem idx_get : ∀ (l : List Int) (s : Nat) (i : Nat) (hi : i < l.length), l.Nodup → idxF' l[i] s l = (s : Int) + i
  | x :: r, s, 0, _, _ => by simp [idxF']
  | x :: r, s, i + 1, hi, hn => by
    obtain ⟨h1, h2⟩ := List.nodup_cons.1 hn
    have hi' : i < r.length := by simpa using hi
    have hne : x ≠ r[i] := fun e => h1 (e ▸ List.getElem_mem hi')
    rw [List.getElem_cons_succ, idxF', if_neg hne, idx_get r (s + 1) i hi' h2]; omega
theorem getI_nat {l : List Int} {i : Nat} (hi : i < l.length) : getI l i = l[i] := by simp [getI, hi]
theorem at_seat {n : Nat} {l : List Int} (h : isPerm n l) {i : Nat} (hi : i < n) : getI (atL l) (getI l i) = i := by
  have hl := h.len
  rw [getI_nat (by omega)]
  rw [at_idx h (h.bd _ (List.getElem_mem (by omega))), idxI, idx_get l 0 i (by omega) h.nd]; simp
theorem mem_seat {n : Nat} {l : List Int} (h : isPerm n l) {g : Nat} (hg : g < n) : ∃ i : Nat, i < n ∧ getI l i = g := by
  obtain ⟨i, hi, he⟩ := List.getElem_of_mem (h.all (g := g) (by omega))
  have := h.len
  exact ⟨i, by omega, by rw [getI_nat hi, he]⟩
/-- The rule of ranks, read off the order itself. -/
theorem rankB_order {gs : List Guest} {l : List Int} (h : isPerm gs.length l) : rankB gs (atL l) = true ↔ ∀ i k : Nat, i < k → k < gs.length → ¬ rankAt gs (getI l i).toNat < rankAt gs (getI l k).toNat := by
  have hb : ∀ i : Nat, i < gs.length → 0 ≤ getI l i ∧ getI l i < gs.length := fun i hi => by
    rw [getI_nat (by have := h.len; omega)]; exact h.bd _ (List.getElem_mem _)
  rw [show rankB gs (atL l) = keepsB.rankB gs (atL l) from rfl, keepsB.rankB, List.all_eq_true]
  constructor
  · intro h1 i k hik hk hr
    have b1 := hb i (by omega)
    have b2 := hb k hk
    have h2 := h1 (getI l i).toNat (List.mem_range.2 (by omega))
    rw [List.all_eq_true] at h2
    have h3 := h2 (getI l k).toNat (List.mem_range.2 (by omega))
    rw [Int.toNat_of_nonneg b1.1, Int.toNat_of_nonneg b2.1, at_seat h (by omega), at_seat h hk] at h3
    simp only [Bool.not_eq_true', Bool.and_eq_false_iff, decide_eq_false_iff_not] at h3
    rcases h3 with h3 | h3
    · omega
    · exact h3 hr
  · intro h1 a ha
    rw [List.all_eq_true]
    intro b hb'
    obtain ⟨i, hi, ei⟩ := mem_seat h (List.mem_range.1 ha)
    obtain ⟨k, hk, ek⟩ := mem_seat h (List.mem_range.1 hb')
    simp only [Bool.not_eq_true', Bool.and_eq_false_iff, decide_eq_false_iff_not]
    rw [← ei, ← ek, at_seat h hi, at_seat h hk]
    by_cases hik : i < k
    · right
      have := h1 i k hik hk
      rwa [ei, ek, Int.toNat_natCast, Int.toNat_natCast] at this
    · left; omega
/-- Rules that a party's order breaks weigh as much as the party's order costs. -/
theorem plc_all {q : Rule → Bool} (p : Rule → Bool) : ∀ (rs pre : List Rule), ((plcF p pre.length rs).all fun i => (((pre ++ rs)[i.toNat]?).map q).getD true) = rs.all fun r => !p r || q r
  | [], pre => rfl
  | r :: rs, pre => by
    have ih := plc_all (q := q) p rs (pre ++ [r])
    rw [List.append_assoc] at ih
    simp only [List.length_append, List.length_cons, List.length_nil, List.cons_append, List.nil_append] at ih
    rw [plcF, List.all_cons]
    split
    · rename_i hp
      rw [List.all_cons, show pre.length + 1 = pre.length + (0 + 1) from rfl, ih]
      simp [hp]
    · rename_i hp
      rw [show pre.length + 1 = pre.length + (0 + 1) from rfl, ih]
      simp [hp]
theorem plcF_mem (p : Rule → Bool) : ∀ (rs : List Rule) (i : Nat) {x : Int}, x ∈ plcF p i rs → (i : Int) ≤ x ∧ x < i + rs.length
  | [], i, x, h => by cases h
  | r :: rs, i, x, h => by
    rw [plcF] at h
    simp only [List.length_cons]
    split at h
    · rcases List.mem_cons.1 h with rfl | h
      · omega
      · have := plcF_mem p rs (i + 1) h; omega
    · have := plcF_mem p rs (i + 1) h; omega
end Go.Abs
