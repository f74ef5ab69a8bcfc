/- A part of the proofs of the laws of this seat: contracts of the functions that they reach, each proved of the program's form in Lean. No condition beyond those that each contract names. -/
import Derived.Test.YtmekfgjlcaonjaaC12
import Derived.Test.YtmekfgjlcaonjaaC11
import Derived.Test.YtmekfgjlcaonjaaC10
import Derived.Test.YtmekfgjlcaonjaaC9
import Derived.Test.YtmekfgjlcaonjaaC8
import Derived.Test.YtmekfgjlcaonjaaC7
import Derived.Test.YtmekfgjlcaonjaaC5
import Derived.Test.YtmekfgjlcaonjaaC4
import Derived.Test.YtmekfgjlcaonjaaC2
import Derived.Test.YtmekfgjlcaonjaaC1
import Derived.Test.YtmekfgjlcaonjaaB
import Derived.Test.YtmekfgjlcaonjaaC19
import Derived.Test.YtmekfgjlcaonjaaC17
import Derived.Test.YtmekfgjlcaonjaaC14
import Derived.Test.YtmekfgjlcaonjaaC13
import Derived.Test.YtmekfgjlcaonjaaC18
import Derived.Test.YtmekfgjlcaonjaaE7
set_option linter.unusedVariables false
set_option linter.unusedSimpArgs false
set_option maxRecDepth 20000
set_option maxHeartbeats 4000000
namespace Go.Abs
open Go.Proofs
/-- All ways to go on for some gatherings: a combination that was taken, or the first one that was not. -/
def rgsK : Nat → List Int → List (List Int)
  | 0, p => [p]
  | k + 1, p => (List.range (usedF p + 1).toNat).flatMap fun (n : Nat) => rgsK k (p ++ [(n : Int)])
/-- The repeats of a plan. -/
def rpS (s : Sea) (p : List Int) : Int := cntF s [] p
theorem cntF_snoc (s : Sea) (n : Int) : ∀ (r p : List Int), cntF s p (r ++ [n]) = cntF s p r + ((repL s (p ++ r) n).length : Int)
  | [], p => by simp [cntF]
  | x :: r, p => by
    rw [List.cons_append, cntF, cntF, cntF_snoc s n r, List.append_assoc]
    simp; omega
theorem rp_snoc (s : Sea) (p : List Int) (n : Int) : rpS s (p ++ [n]) = rpS s p + againN s.gs p n := by
  rw [rpS, cntF_snoc]; rfl
theorem againN_nn (gs : List (List Int)) (p : List Int) (n : Int) : 0 ≤ againN gs p n := by unfold againN; omega
structure ExtP (s : Sea) (k : Nat) (p q : List Int) : Prop where
  len : q.length = p.length + k
  rpS : rpS s p ≤ rpS s q
  used : usedF p ≤ usedF q
theorem rgsK_ext (s : Sea) : ∀ {k : Nat} {p q : List Int}, q ∈ rgsK k p → ExtP s k p q
  | 0, p, q, h => by
    rw [rgsK, List.mem_singleton] at h
    subst h; exact ⟨rfl, Int.le_refl _, Int.le_refl _⟩
  | k + 1, p, q, h => by
    rw [rgsK, List.mem_flatMap] at h
    obtain ⟨n, _, h⟩ := h
    have ih := rgsK_ext s h
    have h1 := ih.len
    have h2 := ih.rpS
    have h3 := ih.used
    have h4 := againN_nn s.gs p (n : Int)
    rw [List.length_append, List.length_singleton] at h1
    rw [rp_snoc] at h2
    rw [usedF_snoc] at h3
    exact ⟨by omega, by omega, by omega⟩
/-- The numbers of a plan. -/
theorem usedF_nn (p : List Int) : 0 ≤ usedF p := by
  suffices ∀ (q : List Int) (u : Int), 0 ≤ u → 0 ≤ q.foldl (fun u n => max u (n + 1)) u from this p 0 (by omega)
  intro q
  induction q with
  | nil => intro u h; exact h
  | cons x q ih => intro u h; exact ih _ (by show (0:Int) ≤ max u (x + 1); omega)
theorem rgsK_in : ∀ {k : Nat} {p q : List Int}, q ∈ rgsK k p → (∀ x ∈ p, 0 ≤ x ∧ x < usedF p) → ∀ x ∈ q, 0 ≤ x ∧ x < usedF q
  | 0, p, q, h, hp => by
    rw [rgsK, List.mem_singleton] at h
    subst h; exact hp
  | k + 1, p, q, h, hp => by
    rw [rgsK, List.mem_flatMap] at h
    obtain ⟨n, _, h⟩ := h
    refine rgsK_in h fun x hx => ?_
    rw [usedF_snoc]
    rcases List.mem_append.1 hx with hx | hx
    · have := hp x hx; omega
    · rw [List.mem_singleton] at hx; subst hx; omega
theorem rgsK_top {k : Nat} {q : List Int} (h : q ∈ rgsK k []) : q.length = k ∧ ∀ x ∈ q, 0 ≤ x ∧ x < usedF q :=
  ⟨by have := (rgsK_ext ⟨[], []⟩ h).len; simpa using this, rgsK_in h fun x hx => by cases hx⟩
/-- The first of a list that is so. -/
def Frst (P : List Int → Prop) (L : List (List Int)) (r : List Int) : Prop := ∃ A B, L = A ++ r :: B ∧ P r ∧ ∀ q ∈ A, ¬ P q
theorem Frst.app {P : List Int → Prop} {L M : List (List Int)} {r : List Int} (h : Frst P L r) : Frst P (L ++ M) r := by
  obtain ⟨A, B, h1, h2, h3⟩ := h
  exact ⟨A, B ++ M, by rw [h1]; simp, h2, h3⟩
theorem Frst.pre {P : List Int → Prop} {L M : List (List Int)} {r : List Int} (h : Frst P M r) (h2 : ∀ q ∈ L, ¬ P q) : Frst P (L ++ M) r := by
  obtain ⟨A, B, h1, h3, h4⟩ := h
  refine ⟨L ++ A, B, by rw [h1]; simp, h3, fun q hq => ?_⟩
  rcases List.mem_append.1 hq with hq | hq
  · exact h2 q hq
  · exact h4 q hq
theorem Frst.mem {P : List Int → Prop} {L : List (List Int)} {r : List Int} (h : Frst P L r) : r ∈ L ∧ P r := by
  obtain ⟨A, B, h1, h2, _⟩ := h
  exact ⟨by rw [h1]; simp, h2⟩
theorem Frst.one {P : List Int → Prop} {r : List Int} (h : P r) : Frst P [r] r := ⟨[], [], rfl, h, fun q hq => by cases hq⟩
def rngL (p : List Int) (j n m : Nat) : List (List Int) := (List.range' n m).flatMap fun (i : Nat) => rgsK j (p ++ [(i : Int)])
theorem rngL_succ (p : List Int) (j n m : Nat) : rngL p j n (m + 1) = rgsK j (p ++ [(n : Int)]) ++ rngL p j (n + 1) m := by
  rw [rngL, List.range'_succ, List.flatMap_cons]; rfl
theorem rngL_app (p : List Int) (j : Nat) : ∀ (m n k : Nat), rngL p j n (m + k) = rngL p j n m ++ rngL p j (n + m) k
  | 0, n, k => by rw [Nat.zero_add]; rfl
  | m + 1, n, k => by
    rw [show m + 1 + k = (m + k) + 1 by omega, rngL_succ, rngL_succ, rngL_app p j m (n + 1) k, List.append_assoc, show n + 1 + m = n + (m + 1) by omega]
theorem rgsK_rng (p : List Int) (j : Nat) : rgsK (j + 1) p = rngL p j 0 (usedF p + 1).toNat := by
  rw [rgsK, rngL, List.range_eq_range']
/-- Plans that may be: not too many combinations, no repeat. -/
def okQ (s : Sea) (q : List Int) : Prop := usedF q ≤ combF s.ss ∧ rpS s q = 0
theorem rng_big {s : Sea} {p : List Int} {j n m : Nat} (h : combF s.ss ≤ n) : ∀ q ∈ rngL p j n m, ¬ usedF q ≤ combF s.ss := by
  intro q hq h2
  obtain ⟨i, hi, hq⟩ := List.mem_flatMap.1 hq
  have h3 := (rgsK_ext s hq).used
  rw [usedF_snoc] at h3
  have := List.mem_range'_1.1 hi
  omega
theorem rgsK_split (s : Sea) (p : List Int) (j : Nat) (hc : 0 ≤ combF s.ss) : ∃ M, rgsK (j + 1) p = rngL p j 0 (min (combF s.ss) (usedF p + 1)).toNat ++ M ∧ ∀ q ∈ M, ¬ usedF q ≤ combF s.ss := by
  have hu := usedF_nn p
  obtain ⟨d, hd⟩ : ∃ d, (usedF p + 1).toNat = (min (combF s.ss) (usedF p + 1)).toNat + d := ⟨(usedF p + 1).toNat - (min (combF s.ss) (usedF p + 1)).toNat, by omega⟩
  refine ⟨rngL p j (0 + (min (combF s.ss) (usedF p + 1)).toNat) d, by rw [rgsK_rng, hd, rngL_app], ?_⟩
  by_cases h : combF s.ss ≤ usedF p + 1
  · exact rng_big (by omega)
  · have : d = 0 := by omega
    subst this
    intro q hq; cases hq
structure Lng (s : Sea) (k : Nat) (L : Nat → List (List Int)) (b R : List Int) : Prop where
  le : b.length ≤ R.length
  most : ∀ j, j ≤ k → ∀ q ∈ L j, okQ s q → q.length ≤ R.length
  at_ : R = b ∨ (b.length < R.length ∧ ∃ j, j ≤ k ∧ Frst (okQ s) (L j) R)
theorem long_best (s : Sea) (hc : 0 ≤ combF s.ss) : ∀ (k : Nat) (p b : List Int), p.length + k = s.gs.length → usedF p ≤ combF s.ss → rpS s p = 0 → b.length ≤ s.gs.length → Lng s k (fun j => rgsK j p) b (rlongF s k p b)
  | 0, p, b, hk, hu, hr, hb => by
    rw [rlongF]
    have hp : okQ s p := ⟨hu, hr⟩
    refine ⟨?_, ?_, ?_⟩
    · unfold rlB; split <;> omega
    · intro j hj q hq _
      obtain rfl : j = 0 := by omega
      rw [rgsK, List.mem_singleton] at hq
      subst hq
      unfold rlB; split <;> omega
    · unfold rlB; split
      · exact .inr ⟨by assumption, 0, Nat.le_refl _, Frst.one hp⟩
      · exact .inl rfl
  | k + 1, p, b, hk, hu, hr, hb => by
    rw [rlongF]
    have hp : okQ s p := ⟨hu, hr⟩
    have hB : (rlB p b).length ≤ s.gs.length := by unfold rlB; split <;> omega
    have key : ∀ (m n : Nat) (st : List Int), st.length ≤ s.gs.length → n + m ≤ (min (combF s.ss) (usedF p + 1)).toNat →
        Lng s k (fun j => rngL p j n m) st (foldI (fun st (n : Nat) => if st.length < s.gs.length then (if againN s.gs p (n : Int) = 0 then rlongF s k (p ++ [(n : Int)]) st else st) else st) m n st) := by
      intro m
      induction m with
      | zero => intro n st _ _; exact ⟨Nat.le_refl _, fun j _ q hq => (by cases hq), .inl rfl⟩
      | succ m ih =>
        intro n st hst hn
        rw [foldI]
        generalize hR1 : (if st.length < s.gs.length then (if againN s.gs p (n : Int) = 0 then rlongF s k (p ++ [(n : Int)]) st else st) else st) = R1
        have h1 : Lng s k (fun j => rgsK j (p ++ [(n : Int)])) st R1 ∧ R1.length ≤ s.gs.length := by
          have hpl : (p ++ [(n : Int)]).length = p.length + 1 := by simp
          by_cases hl : st.length < s.gs.length
          · rw [if_pos hl] at hR1
            by_cases ha : againN s.gs p (n : Int) = 0
            · rw [if_pos ha] at hR1
              rw [← hR1]
              exact ⟨long_best s hc k (p ++ [(n : Int)]) st (by omega) (by rw [usedF_snoc]; omega) (by rw [rp_snoc, hr, ha]; rfl) hst, (rlongF_eq s k _ st (by omega) hst).2⟩
            · rw [if_neg ha] at hR1
              subst hR1
              refine ⟨⟨Nat.le_refl _, fun j hj q hq ho => ?_, .inl rfl⟩, hst⟩
              have h2 := (rgsK_ext s hq).rpS
              have h3 := againN_nn s.gs p (n : Int)
              rw [rp_snoc, ho.2] at h2
              omega
          · rw [if_neg hl] at hR1
            subst hR1
            refine ⟨⟨Nat.le_refl _, fun j hj q hq ho => ?_, .inl rfl⟩, hst⟩
            have h2 := (rgsK_ext s hq).len
            omega
        have h2 := ih (n + 1) R1 h1.2 (by omega)
        have h1 := h1.1
        refine ⟨Nat.le_trans h1.le h2.le, fun j hj q hq ho => ?_, ?_⟩
        · try dsimp only at hq
          rw [rngL_succ] at hq
          rcases List.mem_append.1 hq with hq | hq
          · exact Nat.le_trans (h1.most j hj q hq ho) h2.le
          · exact h2.most j hj q hq ho
        · rcases h2.at_ with e | ⟨hlt, j, hj, hf⟩
          · rw [e]
            rcases h1.at_ with e1 | ⟨hlt1, j, hj, hf⟩
            · exact .inl e1
            · exact .inr ⟨hlt1, j, hj, by show Frst _ (rngL p j n (m + 1)) _; rw [rngL_succ]; exact hf.app⟩
          · refine .inr ⟨Nat.lt_of_le_of_lt h1.le hlt, j, hj, ?_⟩
            show Frst _ (rngL p j n (m + 1)) _
            rw [rngL_succ]
            refine hf.pre fun q hq ho => ?_
            have h3 := h1.most j hj q hq ho
            have h4 := (rgsK_ext s hq).len
            obtain ⟨i, _, h5⟩ := List.mem_flatMap.1 hf.mem.1
            have h6 := (rgsK_ext s h5).len
            rw [List.length_append, List.length_singleton] at h4 h6
            omega
    have h := key (min (combF s.ss) (usedF p + 1)).toNat 0 (rlB p b) hB (by omega)
    generalize foldI _ _ 0 (rlB p b) = R at *
    have hbB : b.length ≤ (rlB p b).length ∧ p.length ≤ (rlB p b).length := by unfold rlB; split <;> omega
    refine ⟨Nat.le_trans hbB.1 h.le, fun j hj q hq ho => ?_, ?_⟩
    · cases j with
      | zero =>
        try dsimp only at hq
        rw [rgsK, List.mem_singleton] at hq
        subst hq
        exact Nat.le_trans hbB.2 h.le
      | succ j =>
        obtain ⟨M, hM, hM2⟩ := rgsK_split s p j hc
        try dsimp only at hq
        rw [hM] at hq
        rcases List.mem_append.1 hq with hq | hq
        · exact h.most j (by omega) q hq ho
        · exact absurd ho.1 (hM2 q hq)
    · rcases h.at_ with e | ⟨hlt, j, hj, hf⟩
      · rw [e]
        unfold rlB
        split
        · exact .inr ⟨by assumption, 0, Nat.zero_le _, Frst.one hp⟩
        · exact .inl rfl
      · refine .inr ⟨by omega, j + 1, by omega, ?_⟩
        obtain ⟨M, hM, _⟩ := rgsK_split s p j hc
        show Frst _ (rgsK (j + 1) p) _
        rw [hM]; exact hf.app
theorem combF_nn {s : Sea} (he : seaE s = 0) : 1 ≤ combF s.ss := by
  have ok := okS_of he
  rw [combF_prod]; exact prodR_pos ok.s6
/-- Plan: the first one of the longest plans without repeats. -/
theorem plan_first {s : Sea} (he : seaE s = 0) : Frst (okQ s) (rgsK (planF s).length []) (planF s) ∧ (planF s).length ≤ s.gs.length ∧ ∀ j, j ≤ s.gs.length → ∀ q ∈ rgsK j [], okQ s q → j ≤ (planF s).length := by
  have hc := combF_nn he
  have hE := rlongF_eq s s.gs.length [] [] (by simp) (by simp)
  have h := long_best s (by omega) s.gs.length [] [] (by simp) (by show (0 : Int) ≤ _; omega) rfl (by simp)
  have hP : planF s = rlongF s s.gs.length [] [] := by rw [planF, if_pos he, hE.1]
  rw [← hP] at h
  have hl : (planF s).length ≤ s.gs.length := by rw [hP]; exact hE.2
  refine ⟨?_, hl, fun j hj q hq ho => ?_⟩
  · rcases h.at_ with e | ⟨_, j, hj, hf⟩
    · rw [e]; exact Frst.one ⟨by show (0 : Int) ≤ _; omega, rfl⟩
    · have : (planF s).length = j := (rgsK_top hf.mem.1).1
      rw [this]; exact hf
  · have := h.most j hj q hq ho
    rw [(rgsK_top hq).1] at this; exact this
/-- With more combinations the longest plan is not shorter. -/
theorem plan_more {s t : Sea} (he : seaE s = 0) (ht : seaE t = 0) (hg : t.gs = s.gs) (hc : combF s.ss ≤ combF t.ss) : (planF s).length ≤ (planF t).length := by
  have h := plan_first he
  have hr : ∀ p, rpS t p = rpS s p := fun p => by
    suffices ∀ r q, cntF t q r = cntF s q r from this p []
    intro r
    induction r with
    | nil => intro q; rfl
    | cons x r ih => intro q; rw [cntF, cntF, ih, repL, repL, hg]
  refine (plan_first ht).2.2 _ (by rw [hg]; exact h.2.1) _ h.1.mem.1 ⟨Int.le_trans h.1.mem.2.1 hc, ?_⟩
  rw [hr]; exact h.1.mem.2.2
end Go.Abs
