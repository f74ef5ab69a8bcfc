/- A part of the proofs of the laws of this seat: contracts of the functions that they reach, each proved of the program's form in Lean. No condition beyond those that each contract names. -/
import Derived.Test.YtmekfgjlcaonjaaB0
import Derived.Test.YtmekfgjlcaonjaaB10
import Derived.Test.YtmekfgjlcaonjaaB11
import Derived.Test.YtmekfgjlcaonjaaB9
import Derived.Test.YtmekfgjlcaonjaaB12
set_option linter.unusedVariables false
set_option linter.unusedSimpArgs false
set_option maxRecDepth 20000
set_option maxHeartbeats 4000000
/-! ### Orders: allowed, and their prices, without bits -/
namespace Go.Abs
theorem testBit_bitsF (p : Rule → Bool) : ∀ (rs : List Rule) (i k : Nat), (bitsF p i rs).testBit k = (decide (i ≤ k) && ((rs[k - i]?).map p).getD false)
  | [], i, k => by simp [bitsF]
  | r :: rs, i, k => by
    rw [bitsF, Nat.testBit_or, testBit_bitsF p rs (i + 1) k]
    rcases Nat.lt_trichotomy i k with h | h | h
    · have e : k - i = (k - (i + 1)) + 1 := by omega
      rw [e, List.getElem?_cons_succ]
      have : (if p r = true then 2 ^ i else 0).testBit k = false := by
        split
        · rw [Nat.testBit_two_pow]; simp; omega
        · simp
      rw [this, Bool.false_or, show decide (i + 1 ≤ k) = decide (i ≤ k) by simp; omega]
    · subst h
      have : (if p r = true then 2 ^ i else 0).testBit i = p r := by
        split
        · rename_i hp; rw [hp]; simp
        · rename_i hp; simp at hp; simp [hp]
      rw [this]; simp; omega
    · have : (if p r = true then 2 ^ i else 0).testBit k = false := by
        split
        · rw [Nat.testBit_two_pow]; simp; omega
        · simp
      rw [this]
      have h1 : ¬ i + 1 ≤ k := by omega
      have h2 : ¬ i ≤ k := by omega
      simp [h1, h2]
/-- The places of what has a property. -/
def plcF (p : Rule → Bool) : Nat → List Rule → List Int
  | _, [] => []
  | i, r :: rs => if p r = true then (i : Int) :: plcF p (i + 1) rs else plcF p (i + 1) rs
theorem plcF_filter (p : Rule → Bool) : ∀ (rs : List Rule) (i : Nat), plcF p i rs = ((List.range' i rs.length).filter fun k => ((rs[k - i]?).map p).getD false).map fun (k : Nat) => (k : Int)
  | [], i => rfl
  | r :: rs, i => by
    rw [plcF, plcF_filter p rs (i + 1), List.length_cons, List.range'_succ]
    have e : (List.range' (i + 1) rs.length).filter (fun k => ((rs[k - (i + 1)]?).map p).getD false) = (List.range' (i + 1) rs.length).filter (fun k => (((r :: rs)[k - i]?).map p).getD false) := by
      refine List.filter_congr fun k hk => ?_
      have := List.mem_range'_1.1 hk
      have h : k - i = (k - (i + 1)) + 1 := by omega
      rw [h, List.getElem?_cons_succ]
    rw [e, List.filter_cons]
    simp only [Nat.sub_self, List.getElem?_cons_zero, Option.map_some, Option.getD_some]
    split <;> rfl
theorem range_cut {f : Nat → Bool} {n : Nat} : ∀ m : Nat, (∀ k, n ≤ k → f k = false) → (List.range (n + m)).filter f = (List.range n).filter f
  | 0, _ => rfl
  | m + 1, h => by rw [← Nat.add_assoc, List.range_succ, List.filter_append, range_cut m h]; simp [h (n + m) (by omega)]
theorem members_bits (p : Rule → Bool) (rs : List Rule) (h : rs.length ≤ 62) : membersL (bitsF p 0 rs) = plcF p 0 rs := by
  rw [plcF_filter, ← List.range_eq_range']
  unfold membersL bitsL
  congr 1
  have e : (62 : Nat) = rs.length + (62 - rs.length) := by omega
  rw [e, range_cut]
  · refine List.filter_congr fun k _ => ?_
    rw [testBit_bitsF]; simp
  · intro k hk
    rw [testBit_bitsF]
    simp [List.getElem?_eq_none (show rs.length ≤ k by omega)]
/-- The weights of what has a property. -/
def wsum (p : Rule → Bool) : List Rule → Int
  | [] => 0
  | r :: rs => (if p r = true then r.weight else 0) + wsum p rs
theorem priceF_idx (p : Rule → Bool) : ∀ (rs pre : List Rule), priceF (pre ++ rs) (plcF p pre.length rs) = wsum p rs
  | [], pre => rfl
  | r :: rs, pre => by
    have ih := priceF_idx p rs (pre ++ [r])
    rw [List.append_assoc] at ih
    simp only [List.length_append, List.length_cons, List.length_nil, List.cons_append, List.nil_append] at ih
    rw [plcF, wsum]
    split
    · rw [priceF]
      rw [show pre.length + 1 = pre.length + (0 + 1) from rfl, ih]
      have : wAt (pre ++ r :: rs) (pre.length : Int) = r.weight := by simp [wAt]
      rw [this]
    · rw [show pre.length + 1 = pre.length + (0 + 1) from rfl, ih]; omega
/-- Whether an order is allowed; what it costs. -/
def alwB (gs : List Guest) (rs : List Rule) (l : List Int) : Bool := rs.all fun r => decide (r.weight ≠ 0) || keepsB gs (atL l) r
def prS (gs : List Guest) (rs : List Rule) (l : List Int) : Int := wsum (fun r => !keepsB gs (atL l) r) rs
theorem price_brk (gs : List Guest) (rs : List Rule) (l : List Int) (h : rs.length ≤ 62) : priceF rs (membersL (brk gs rs l)) = prS gs rs l := by
  rw [brk, members_bits _ _ h]
  exact priceF_idx _ rs []
theorem must_alw (gs : List Guest) (rs : List Rule) (l : List Int) : brk gs rs l &&& mustN rs = 0 ↔ alwB gs rs l = true := by
  have ht : ∀ k, (brk gs rs l &&& mustN rs).testBit k = ((rs[k]?).map fun r => !(decide (r.weight ≠ 0) || keepsB gs (atL l) r)).getD false := by
    intro k
    rw [Nat.testBit_and, brk, mustN, testBit_bitsF, testBit_bitsF]
    simp only [Nat.zero_le, decide_true, Bool.true_and, Nat.sub_zero]
    cases rs[k]? with
    | none => rfl
    | some r => simp [Bool.and_comm]
  constructor
  · intro h
    rw [alwB, List.all_eq_true]
    intro r hr
    obtain ⟨k, hk, rfl⟩ := List.getElem_of_mem hr
    have := ht k
    rw [h, List.getElem?_eq_getElem hk] at this
    simp only [Option.map_some, Option.getD_some, Nat.zero_testBit, Bool.not_eq_false'] at this
    cases hb : (decide (rs[k].weight ≠ 0) || keepsB gs (atL l) rs[k]) with
    | true => rfl
    | false => rw [hb] at this; cases this
  · intro h
    refine Nat.eq_of_testBit_eq fun k => ?_
    rw [ht k, Nat.zero_testBit]
    cases hk : rs[k]? with
    | none => rfl
    | some r =>
      rw [alwB, List.all_eq_true] at h
      have := h r (List.mem_of_getElem? hk)
      simp only [Option.map_some, Option.getD_some, this]; rfl
theorem allowF_eq (gs : List Guest) (rs : List Rule) : ∀ ls, allowF gs rs ls = (ls.filter (alwB gs rs)).map fun l => (l, brk gs rs l)
  | [] => rfl
  | l :: ls => by
    rw [allowF, List.filter_cons, allowF_eq gs rs ls]
    by_cases h : brk gs rs l &&& mustN rs = 0
    · rw [if_pos h, if_pos ((must_alw gs rs l).1 h)]; rfl
    · rw [if_neg h, if_neg fun h2 => h ((must_alw gs rs l).2 h2)]
def stepP (pr : List Int → Int) (acc : Option (List Int) × Int) (l : List Int) : Option (List Int) × Int := if acc.1 = none ∨ pr l < acc.2 then (some l, pr l) else acc
def bestL (pr : List Int → Int) (ls : List (List Int)) : Option (List Int) × Int := ls.foldl (stepP pr) (none, 0)
abbrev okL (gs : List Guest) (rs : List Rule) : List (List Int) := (perms gs.length).filter (alwB gs rs)
theorem bestB_eq (gs : List Guest) (rs : List Rule) (h : rs.length ≤ 62) : bestB gs rs = bestL (prS gs rs) (okL gs rs) := by
  rw [bestB, allowF_eq, List.foldl_map, bestL]
  congr 1
  funext acc l
  simp only [stepB, stepP, price_brk gs rs l h]
theorem foldP_spec (pr : List Int → Int) : ∀ (ls : List (List Int)) (acc : Option (List Int) × Int), acc.1 ≠ none →
    (ls.foldl (stepP pr) acc = acc ∧ ∀ x ∈ ls, acc.2 ≤ pr x) ∨ ∃ pre l post, ls = pre ++ l :: post ∧ ls.foldl (stepP pr) acc = (some l, pr l) ∧ (∀ x ∈ pre, pr l < pr x) ∧ pr l < acc.2 ∧ ∀ x ∈ post, pr l ≤ pr x
  | [], acc, _ => .inl ⟨rfl, fun x hx => by cases hx⟩
  | y :: ls, acc, ha => by
    rw [List.foldl_cons]
    by_cases h : pr y < acc.2
    · have hs : stepP pr acc y = (some y, pr y) := by rw [stepP, if_pos (.inr h)]
      rw [hs]
      rcases foldP_spec pr ls (some y, pr y) (by simp) with ⟨h1, h2⟩ | ⟨pre, l, post, h1, h2, h3, h4, h5⟩
      · exact .inr ⟨[], y, ls, rfl, h1, fun x hx => (by cases hx), h, h2⟩
      · refine .inr ⟨y :: pre, l, post, by rw [h1]; rfl, h2, fun x hx => ?_, by dsimp only at h4; omega, h5⟩
        rcases List.mem_cons.1 hx with rfl | hx
        · exact h4
        · exact h3 x hx
    · have hs : stepP pr acc y = acc := by rw [stepP, if_neg (by simp [ha, h])]
      rw [hs]
      rcases foldP_spec pr ls acc ha with ⟨h1, h2⟩ | ⟨pre, l, post, h1, h2, h3, h4, h5⟩
      · refine .inl ⟨h1, fun x hx => ?_⟩
        rcases List.mem_cons.1 hx with rfl | hx
        · omega
        · exact h2 x hx
      · refine .inr ⟨y :: pre, l, post, by rw [h1]; rfl, h2, fun x hx => ?_, h4, h5⟩
        rcases List.mem_cons.1 hx with rfl | hx
        · omega
        · exact h3 x hx
/-- The first of the cheapest. -/
theorem bestL_spec (pr : List Int → Int) {ls : List (List Int)} (h : ls ≠ []) : ∃ pre l post, ls = pre ++ l :: post ∧ bestL pr ls = (some l, pr l) ∧ (∀ x ∈ pre, pr l < pr x) ∧ ∀ x ∈ post, pr l ≤ pr x := by
  cases ls with
  | nil => exact absurd rfl h
  | cons y ls =>
    have hs : stepP pr (none, 0) y = (some y, pr y) := by rw [stepP, if_pos (.inl rfl)]
    rw [bestL, List.foldl_cons, hs]
    rcases foldP_spec pr ls (some y, pr y) (by simp) with ⟨h1, h2⟩ | ⟨pre, l, post, h1, h2, h3, h4, h5⟩
    · exact ⟨[], y, ls, rfl, h1, fun x hx => (by cases hx), h2⟩
    · refine ⟨y :: pre, l, post, by rw [h1]; rfl, h2, fun x hx => ?_, h5⟩
      rcases List.mem_cons.1 hx with rfl | hx
      · exact h4
      · exact h3 x hx
theorem bestL_least (pr : List Int → Int) {ls : List (List Int)} (h : ls ≠ []) : ∃ l ∈ ls, bestL pr ls = (some l, pr l) ∧ ∀ x ∈ ls, pr l ≤ pr x := by
  obtain ⟨pre, l, post, h1, h2, h3, h4⟩ := bestL_spec pr h
  refine ⟨l, by rw [h1]; simp, h2, fun x hx => ?_⟩
  rw [h1] at hx
  rcases List.mem_append.1 hx with hx | hx
  · have := h3 x hx; omega
  · rcases List.mem_cons.1 hx with rfl | hx
    · exact Int.le_refl _
    · exact h4 x hx
theorem bestL_nil (pr : List Int → Int) : bestL pr [] = (none, 0) := rfl
theorem candF_len (now : List Int) : ∀ (m s : Nat), (candF now m s).length ≤ m
  | 0, s => by simp [candF]
  | m + 1, s => by
    have := candF_len now m (s + 1)
    rw [candF]; split <;> (try simp only [List.length_cons]) <;> omega
theorem permsK_len (n : Nat) : ∀ (k : Nat) (now : List Int), (permsK n k now).length ≤ n ^ k
  | 0, now => by simp [permsK]
  | k + 1, now => by
    rw [permsK, List.length_flatMap]
    have h : ∀ x ∈ (candF now n 0).map (fun g => (permsK n k (now ++ [g])).length), x ≤ n ^ k := by
      intro x hx
      obtain ⟨g, _, rfl⟩ := List.mem_map.1 hx
      exact permsK_len n k _
    have hs : ∀ (l : List Nat) (b : Nat), (∀ x ∈ l, x ≤ b) → l.sum ≤ l.length * b := by
      intro l b
      induction l with
      | nil => simp
      | cons y l ih =>
        intro hl
        have := ih fun x hx => hl x (by simp [hx])
        have := hl y (by simp)
        simp only [List.sum_cons, List.length_cons, Nat.succ_mul]; omega
    have h2 := hs _ _ h
    rw [List.length_map] at h2
    have h3 := candF_len now n 0
    calc _ ≤ (candF now n 0).length * n ^ k := h2
      _ ≤ n * n ^ k := Nat.mul_le_mul_right _ h3
      _ = n ^ (k + 1) := by rw [Nat.pow_succ, Nat.mul_comm]
theorem okL_len (gs : List Guest) (rs : List Rule) (h : gs.length ≤ 7) : (okL gs rs).length ≤ 823543 := by
  have h1 := List.length_filter_le (alwB gs rs) (perms gs.length)
  have h2 : (perms gs.length).length ≤ gs.length ^ gs.length := permsK_len gs.length gs.length []
  have h3 : gs.length ^ gs.length ≤ 7 ^ 7 := Nat.le_trans (Nat.pow_le_pow_left h _) (Nat.pow_le_pow_right (by omega) h)
  have h4 : (7 : Nat) ^ 7 = 823543 := by decide
  show ((perms gs.length).filter (alwB gs rs)).length ≤ 823543
  omega
end Go.Abs
