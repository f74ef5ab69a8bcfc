/- A part of the proofs of the laws of this seat: contracts of the functions that they reach, each proved of the program's form in Lean. No condition beyond those that each contract names. -/
import Derived.Test.YtmekfgjlcaonjaaG2
import Derived.Test.YtmekfgjlcaonjaaG1
import Derived.Test.YtmekfgjlcaonjaaC14
import Derived.Test.YtmekfgjlcaonjaaC2
import Derived.Test.YtmekfgjlcaonjaaC1
import Derived.Test.YtmekfgjlcaonjaaB
set_option linter.unusedVariables false
set_option linter.unusedSimpArgs false
set_option maxRecDepth 20000
set_option maxHeartbeats 4000000
namespace Go.Abs
open Go.Proofs
theorem okS_app : ∀ (A B pre : List Lon), okS pre (A ++ B) = (okS pre A && okS (pre ++ A) B)
  | [], B, pre => by simp [okS]
  | x :: A, B, pre => by
    rw [List.cons_append, okS, okS, okS_app A B (pre ++ [x]), Bool.and_assoc, List.append_assoc]; rfl
theorem okS_snoc (A : List Lon) (y : Lon) : okS [] (A ++ [y]) = (okS [] A && A.all fun z => !agB y z) := by
  rw [okS_app, List.nil_append, okS, okS, Bool.and_true]
theorem bitsL_pre (set k : Nat) : ∀ n, k ≤ n → ∃ R, bitsL set n = bitsL set k ++ R
  | 0, h => ⟨[], by obtain rfl : k = 0 := by omega
                    rw [List.append_nil]⟩
  | n + 1, h => by
    by_cases hk : k = n + 1
    · exact ⟨[], by rw [hk, List.append_nil]⟩
    · obtain ⟨R, hR⟩ := bitsL_pre set k n (by omega)
      exact ⟨_, by rw [bitsL_succ, hR, List.append_assoc]⟩
theorem chT_bad {l : List Lon} {set k : Nat} (hk : k ≤ l.length) (h : okS [] ((bitsL set k).map (loAt l)) = false) : okS [] (chT l set) = false := by
  obtain ⟨R, hR⟩ := bitsL_pre set k _ hk
  rw [show chT l set = (bitsL set k).map (loAt l) ++ R.map (loAt l) by rw [← List.map_append, ← hR]]
  rw [okS_app, h, Bool.false_and]
theorem cmpI_0 {a b : Int} : cmpI a b = 0 ↔ a = b := by unfold cmpI; split <;> (try split) <;> omega
theorem cmpI_pos {a b : Int} : 0 < cmpI a b ↔ b < a := by unfold cmpI; split <;> (try split) <;> omega
theorem cmpL_bef : ∀ {a b : List Int}, a.length = b.length → (0 < cmpL b a ↔ befF a b = true)
  | [], [], _ => by simp [cmpL, befF]
  | x :: a, y :: b, h => by
    rw [cmpL, befF]
    by_cases e : x = y
    · subst e
      rw [if_pos (cmpI_0.2 rfl), if_pos rfl]
      exact cmpL_bef (by simpa using h)
    · rw [if_neg (by rw [cmpI_0]; exact fun h => e h.symm), if_neg e, decide_eq_true_iff, cmpI_pos]
theorem cmpL_self : ∀ a : List Int, cmpL a a = 0
  | [] => rfl
  | x :: a => by rw [cmpL, if_pos (cmpI_0.2 rfl)]; exact cmpL_self a
theorem cmpL_trans : ∀ {a b c : List Int}, 0 < cmpL a b → 0 < cmpL b c → 0 < cmpL a c
  | [], [], _, h, _ => by simp [cmpL] at h
  | [], _ :: _, _, h, _ => by simp [cmpL] at h
  | _ :: _, [], [], _, h => by simp [cmpL] at h
  | _ :: _, [], _ :: _, _, h => by simp [cmpL] at h
  | _ :: _, _ :: _, [], _, _ => by simp [cmpL]
  | x :: a, y :: b, z :: c, h, h2 => by
    rw [cmpL] at h h2 ⊢
    by_cases e : x = y
    · subst e
      rw [if_pos (cmpI_0.2 rfl)] at h
      by_cases e2 : x = z
      · subst e2
        rw [if_pos (cmpI_0.2 rfl)] at h2 ⊢
        exact cmpL_trans h h2
      · rw [if_neg (by rw [cmpI_0]; exact e2)] at h2 ⊢
        exact h2
    · rw [if_neg (by rw [cmpI_0]; exact e), cmpI_pos] at h
      by_cases e2 : y = z
      · subst e2
        rw [if_neg (by rw [cmpI_0]; exact e), cmpI_pos]; exact h
      · rw [if_neg (by rw [cmpI_0]; exact e2), cmpI_pos] at h2
        rw [if_neg (by rw [cmpI_0]; omega), cmpI_pos]; omega
/-- A choice is better. -/
def betO (n : Int) (N : List Int) (w : Int) (b : List Int) : Prop := 0 < orI (cmpI n w) (cmpI b.length N.length) (cmpL b N)
instance (n : Int) (N : List Int) (w : Int) (b : List Int) : Decidable (betO n N w b) := by unfold betO; infer_instance
theorem betO_iff {n w : Int} {N b : List Int} : betO n N w b ↔ (w < n ∨ (n = w ∧ (N.length < b.length ∨ (N.length = b.length ∧ 0 < cmpL b N)))) := by
  unfold betO orI
  by_cases h1 : n = w
  · rw [if_neg (by rw [cmpI_0.2 h1]; simp)]
    by_cases h2 : b.length = N.length
    · rw [if_neg (by rw [cmpI_0.2 (by omega)]; simp)]
      constructor
      · intro h; exact .inr ⟨h1, .inr ⟨h2.symm, h⟩⟩
      · rintro (h | ⟨_, h | ⟨_, h⟩⟩)
        · omega
        · omega
        · exact h
    · rw [if_pos (by rw [Ne, cmpI_0]; omega), cmpI_pos]
      constructor
      · intro h; exact .inr ⟨h1, .inl (by omega)⟩
      · rintro (h | ⟨_, h | ⟨h, _⟩⟩)
        · omega
        · omega
        · omega
  · rw [if_pos (by rw [Ne, cmpI_0]; exact h1), cmpI_pos]
    constructor
    · exact .inl
    · rintro (h | ⟨h, _⟩)
      · exact h
      · exact absurd h h1
theorem betO_bef {n w : Int} {N b : List Int} : betO n N w b ↔ (w < n ∨ (n = w ∧ (N.length < b.length ∨ (N.length = b.length ∧ befF N b = true)))) := by
  rw [betO_iff]
  constructor
  · rintro (h | ⟨h, h2 | ⟨h2, h3⟩⟩)
    · exact .inl h
    · exact .inr ⟨h, .inl h2⟩
    · exact .inr ⟨h, .inr ⟨h2, (cmpL_bef h2).1 h3⟩⟩
  · rintro (h | ⟨h, h2 | ⟨h2, h3⟩⟩)
    · exact .inl h
    · exact .inr ⟨h, .inl h2⟩
    · exact .inr ⟨h, .inr ⟨h2, (cmpL_bef h2).2 h3⟩⟩
theorem betO_trans {n m k : Int} {N M K : List Int} (h1 : betO n N m M) (h2 : betO m M k K) : betO n N k K := by
  rw [betO_iff] at *
  rcases h1 with h1 | ⟨h1, h1' | ⟨h1', h1''⟩⟩ <;> rcases h2 with h2 | ⟨h2, h2' | ⟨h2', h2''⟩⟩
  all_goals first
    | exact .inl (by omega)
    | exact .inr ⟨by omega, .inl (by omega)⟩
    | exact .inr ⟨by omega, .inr ⟨by omega, cmpL_trans h2'' h1''⟩⟩
theorem betO_irr {n : Int} {N : List Int} : ¬ betO n N n N := by
  rw [betO_iff, cmpL_self]; omega
theorem stepL_eq (l : List Lon) (st : List Int × Int) (set : Nat) : stepL l st set = if okS [] (chT l set) = true ∧ betO (sumL (chT l set)) (bitsL set l.length) st.2 st.1 then (bitsL set l.length, sumL (chT l set)) else st := rfl
/-- The best choice of those that were seen. -/
theorem lend_best {l : List Lon} : ∀ (m n : Nat) (st : List Int × Int),
    (st.1 = (foldI (stepL l) m n st).1 ∧ st.2 = (foldI (stepL l) m n st).2 ∨ betO (foldI (stepL l) m n st).2 (foldI (stepL l) m n st).1 st.2 st.1 ∧ ∃ set, n ≤ set ∧ set < n + m ∧ okS [] (chT l set) = true ∧ foldI (stepL l) m n st = (bitsL set l.length, sumL (chT l set))) ∧
    ∀ set, n ≤ set → set < n + m → okS [] (chT l set) = true → ¬ betO (sumL (chT l set)) (bitsL set l.length) (foldI (stepL l) m n st).2 (foldI (stepL l) m n st).1
  | 0, n, st => ⟨.inl ⟨rfl, rfl⟩, fun set h1 h2 => by omega⟩
  | m + 1, n, st => by
    rw [foldI]
    have ih := lend_best (l := l) m (n + 1) (stepL l st n)
    generalize hR : foldI (stepL l) m (n + 1) (stepL l st n) = R at *
    rw [stepL_eq] at ih
    by_cases hc : okS [] (chT l n) = true ∧ betO (sumL (chT l n)) (bitsL n l.length) st.2 st.1
    · rw [if_pos hc] at ih
      have hb : betO R.2 R.1 st.2 st.1 ∧ ¬ betO (sumL (chT l n)) (bitsL n l.length) R.2 R.1 := by
        rcases ih.1 with ⟨h1, h2⟩ | ⟨h1, _⟩
        · rw [← h1, ← h2]; exact ⟨hc.2, betO_irr⟩
        · exact ⟨betO_trans h1 hc.2, fun h => betO_irr (betO_trans h h1)⟩
      refine ⟨.inr ⟨hb.1, ?_⟩, ?_⟩
      · rcases ih.1 with ⟨h1, h2⟩ | ⟨_, set, h3, h4, h5⟩
        · exact ⟨n, Nat.le_refl _, by omega, hc.1, Prod.ext h1.symm h2.symm⟩
        · exact ⟨set, by omega, by omega, h5⟩
      · intro set h1 h2 h3
        by_cases e : set = n
        · rw [e]; exact hb.2
        · exact ih.2 set (by omega) (by omega) h3
    · rw [if_neg hc] at ih
      refine ⟨?_, ?_⟩
      · rcases ih.1 with h | ⟨h, set, h3, h4, h5⟩
        · exact .inl h
        · exact .inr ⟨h, set, by omega, by omega, h5⟩
      · intro set h1 h2 h3
        by_cases e : set = n
        · rw [e] at h3 ⊢
          intro h4
          rcases ih.1 with ⟨h5, h6⟩ | ⟨h5, _⟩
          · exact hc ⟨h3, by rw [h5, h6]; exact h4⟩
          · exact hc ⟨h3, betO_trans h4 h5⟩
        · exact ih.2 set (by omega) (by omega) h3
/-- Lend's choice is one of the choices, and no choice is better. -/
theorem bits0 (n : Nat) : bitsL 0 n = [] := by simp [bitsL]
theorem lendV_some {l : List Lon} (h : lendE l = 0) : ∃ set, set < 2 ^ l.length ∧ okS [] (chT l set) = true ∧ lendV l = (bitsL set l.length, sumL (chT l set)) := by
  rw [lendV, if_pos h]
  have hb := (lend_best (l := l) (2 ^ l.length) 0 ([], 0)).1
  rcases hb with ⟨h1, h2⟩ | ⟨_, set, _, h4, h5⟩
  · refine ⟨0, Nat.two_pow_pos _, ?_, ?_⟩
    · show okS [] ((bitsL 0 l.length).map _) = true; rw [bits0]; rfl
    · show _ = (bitsL 0 l.length, sumL ((bitsL 0 l.length).map _))
      rw [bits0]; exact Prod.ext h1.symm h2.symm
  · exact ⟨set, by omega, h5⟩
theorem lendV_best {l : List Lon} (h : lendE l = 0) {set : Nat} (hs : set < 2 ^ l.length) (ho : okS [] (chT l set) = true) : ¬ betO (sumL (chT l set)) (bitsL set l.length) (lendV l).2 (lendV l).1 := by
  rw [lendV, if_pos h]
  exact (lend_best (l := l) (2 ^ l.length) 0 ([], 0)).2 set (Nat.zero_le _) (by omega) ho
/-- With one more loan they are not worth less. -/
theorem lendV_more {l : List Lon} {y : Lon} (h : lendE l = 0) (h2 : lendE (l ++ [y]) = 0) : (lendV l).2 ≤ (lendV (l ++ [y])).2 := by
  obtain ⟨set, hs, ho, he⟩ := lendV_some h
  have hb : bitsL set (l ++ [y]).length = bitsL set l.length := by
    refine bitsL_high ?_ (by simp)
    rw [Nat.shiftRight_eq_div_pow]; exact Nat.div_eq_of_lt hs
  have hc : chT (l ++ [y]) set = chT l set := by
    show (bitsL set (l ++ [y]).length).map _ = _
    rw [hb]
    refine List.map_congr_left fun i hi => ?_
    have := bitsL_mem hi
    unfold loAt
    rw [List.getElem?_append_left (by omega)]
  have := lendV_best h2 (set := set) (by rw [List.length_append]; exact Nat.lt_of_lt_of_le hs (Nat.pow_le_pow_right (by omega) (by simp))) (by rw [hc]; exact ho)
  rw [hc, betO_iff] at this
  rw [he]
  show sumL (chT l set) ≤ _
  omega
end Go.Abs
