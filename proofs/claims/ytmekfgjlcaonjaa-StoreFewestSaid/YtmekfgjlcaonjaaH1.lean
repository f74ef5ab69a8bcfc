/- A part of the proofs of the laws of this seat: contracts of the functions that they reach, each proved of the program's form in Lean. No condition beyond those that each contract names. -/
import Derived.Test.YtmekfgjlcaonjaaE5
import Derived.Test.YtmekfgjlcaonjaaC19
import Derived.Test.YtmekfgjlcaonjaaC17
import Derived.Test.YtmekfgjlcaonjaaC14
import Derived.Test.YtmekfgjlcaonjaaC13
import Derived.Test.YtmekfgjlcaonjaaC12
import Derived.Test.YtmekfgjlcaonjaaC11
import Derived.Test.YtmekfgjlcaonjaaC10
import Derived.Test.YtmekfgjlcaonjaaC9
import Derived.Test.YtmekfgjlcaonjaaC8
import Derived.Test.YtmekfgjlcaonjaaC7
import Derived.Test.YtmekfgjlcaonjaaC5
import Derived.Test.YtmekfgjlcaonjaaC4
import Derived.Test.YtmekfgjlcaonjaaC2
import Derived.Test.YtmekfgjlcaonjaaC1
import Derived.Test.YtmekfgjlcaonjaaB
import Derived.Test.YtmekfgjlcaonjaaC18
import Derived.Test.YtmekfgjlcaonjaaE7
import Derived.Test.YtmekfgjlcaonjaaE6
set_option linter.unusedVariables false
set_option linter.unusedSimpArgs false
set_option maxRecDepth 20000
set_option maxHeartbeats 4000000
namespace Go.Abs
open Go.Proofs
/-- All ways to go on for some gatherings: a combination that was taken, or the first one that was not. -/
def rgsK : Nat → List Int → List (List Int)
  | 0, p => [p]
  | k + 1, p => (List.range (usedF p + 1).toNat).flatMap fun (n : Nat) => rgsK k (p ++ [(n : Int)])
/-- The repeats of a plan. -/
def rpS (s : Sea) (p : List Int) : Int := cntF s [] p
theorem cntF_snoc (s : Sea) (n : Int) : ∀ (r p : List Int), cntF s p (r ++ [n]) = cntF s p r + ((repL s (p ++ r) n).length : Int)
  | [], p => by simp [cntF]
  | x :: r, p => by
    rw [List.cons_append, cntF, cntF, cntF_snoc s n r, List.append_assoc]
    simp; omega
theorem rp_snoc (s : Sea) (p : List Int) (n : Int) : rpS s (p ++ [n]) = rpS s p + againN s.gs p n := by
  rw [rpS, cntF_snoc]; rfl
theorem againN_nn (gs : List (List Int)) (p : List Int) (n : Int) : 0 ≤ againN gs p n := by unfold againN; omega
theorem rp_nn (s : Sea) (p : List Int) : 0 ≤ rpS s p := by
  suffices ∀ r q, 0 ≤ cntF s q r from this p []
  intro r
  induction r with
  | nil => intro q; exact Int.le_refl _
  | cons x r ih => intro q; rw [cntF]; have := ih (q ++ [x]); omega
structure ExtP (s : Sea) (k : Nat) (p q : List Int) : Prop where
  len : q.length = p.length + k
  rpS : rpS s p ≤ rpS s q
  used : usedF p ≤ usedF q
theorem rgsK_ext (s : Sea) : ∀ {k : Nat} {p q : List Int}, q ∈ rgsK k p → ExtP s k p q
  | 0, p, q, h => by
    rw [rgsK, List.mem_singleton] at h
    subst h; exact ⟨rfl, Int.le_refl _, Int.le_refl _⟩
  | k + 1, p, q, h => by
    rw [rgsK, List.mem_flatMap] at h
    obtain ⟨n, _, h⟩ := h
    have ih := rgsK_ext s h
    have h1 := ih.len
    have h2 := ih.rpS
    have h3 := ih.used
    have h4 := againN_nn s.gs p (n : Int)
    rw [List.length_append, List.length_singleton] at h1
    rw [rp_snoc] at h2
    rw [usedF_snoc] at h3
    exact ⟨by omega, by omega, by omega⟩
/-- The numbers of a plan. -/
theorem usedF_nn (p : List Int) : 0 ≤ usedF p := by
  suffices ∀ (q : List Int) (u : Int), 0 ≤ u → 0 ≤ q.foldl (fun u n => max u (n + 1)) u from this p 0 (by omega)
  intro q
  induction q with
  | nil => intro u h; exact h
  | cons x q ih => intro u h; exact ih _ (by show (0:Int) ≤ max u (x + 1); omega)
theorem rgsK_in : ∀ {k : Nat} {p q : List Int}, q ∈ rgsK k p → (∀ x ∈ p, 0 ≤ x ∧ x < usedF p) → ∀ x ∈ q, 0 ≤ x ∧ x < usedF q
  | 0, p, q, h, hp => by
    rw [rgsK, List.mem_singleton] at h
    subst h; exact hp
  | k + 1, p, q, h, hp => by
    rw [rgsK, List.mem_flatMap] at h
    obtain ⟨n, _, h⟩ := h
    refine rgsK_in h fun x hx => ?_
    rw [usedF_snoc]
    rcases List.mem_append.1 hx with hx | hx
    · have := hp x hx; omega
    · rw [List.mem_singleton] at hx; subst hx; omega
theorem rgsK_top {k : Nat} {q : List Int} (h : q ∈ rgsK k []) : q.length = k ∧ ∀ x ∈ q, 0 ≤ x ∧ x < usedF q :=
  ⟨by have := (rgsK_ext ⟨[], []⟩ h).len; simpa using this, rgsK_in h fun x hx => by cases hx⟩
/-- The first of a list that is so. -/
def Frst (P : List Int → Prop) (L : List (List Int)) (r : List Int) : Prop := ∃ A B, L = A ++ r :: B ∧ P r ∧ ∀ q ∈ A, ¬ P q
theorem Frst.app {P : List Int → Prop} {L M : List (List Int)} {r : List Int} (h : Frst P L r) : Frst P (L ++ M) r := by
  obtain ⟨A, B, h1, h2, h3⟩ := h
  exact ⟨A, B ++ M, by rw [h1]; simp, h2, h3⟩
theorem Frst.pre {P : List Int → Prop} {L M : List (List Int)} {r : List Int} (h : Frst P M r) (h2 : ∀ q ∈ L, ¬ P q) : Frst P (L ++ M) r := by
  obtain ⟨A, B, h1, h3, h4⟩ := h
  refine ⟨L ++ A, B, by rw [h1]; simp, h3, fun q hq => ?_⟩
  rcases List.mem_append.1 hq with hq | hq
  · exact h2 q hq
  · exact h4 q hq
theorem Frst.mem {P : List Int → Prop} {L : List (List Int)} {r : List Int} (h : Frst P L r) : r ∈ L ∧ P r := by
  obtain ⟨A, B, h1, h2, _⟩ := h
  exact ⟨by rw [h1]; simp, h2⟩
theorem Frst.one {P : List Int → Prop} {r : List Int} (h : P r) : Frst P [r] r := ⟨[], [], rfl, h, fun q hq => by cases hq⟩
def rngL (p : List Int) (j n m : Nat) : List (List Int) := (List.range' n m).flatMap fun (i : Nat) => rgsK j (p ++ [(i : Int)])
theorem rngL_succ (p : List Int) (j n m : Nat) : rngL p j n (m + 1) = rgsK j (p ++ [(n : Int)]) ++ rngL p j (n + 1) m := by
  rw [rngL, List.range'_succ, List.flatMap_cons]; rfl
theorem rngL_app (p : List Int) (j : Nat) : ∀ (m n k : Nat), rngL p j n (m + k) = rngL p j n m ++ rngL p j (n + m) k
  | 0, n, k => by rw [Nat.zero_add]; rfl
  | m + 1, n, k => by
    rw [show m + 1 + k = (m + k) + 1 by omega, rngL_succ, rngL_succ, rngL_app p j m (n + 1) k, List.append_assoc, show n + 1 + m = n + (m + 1) by omega]
theorem rgsK_rng (p : List Int) (j : Nat) : rgsK (j + 1) p = rngL p j 0 (usedF p + 1).toNat := by
  rw [rgsK, rngL, List.range_eq_range']
/-- Plans that may be: not too many combinations, no repeat. -/
def okQ (s : Sea) (q : List Int) : Prop := usedF q ≤ combF s.ss ∧ rpS s q = 0
theorem rng_big {s : Sea} {p : List Int} {j n m : Nat} (h : combF s.ss ≤ n) : ∀ q ∈ rngL p j n m, ¬ usedF q ≤ combF s.ss := by
  intro q hq h2
  obtain ⟨i, hi, hq⟩ := List.mem_flatMap.1 hq
  have h3 := (rgsK_ext s hq).used
  rw [usedF_snoc] at h3
  have := List.mem_range'_1.1 hi
  omega
theorem rgsK_split (s : Sea) (p : List Int) (j : Nat) (hc : 0 ≤ combF s.ss) : ∃ M, rgsK (j + 1) p = rngL p j 0 (min (combF s.ss) (usedF p + 1)).toNat ++ M ∧ ∀ q ∈ M, ¬ usedF q ≤ combF s.ss := by
  have hu := usedF_nn p
  obtain ⟨d, hd⟩ : ∃ d, (usedF p + 1).toNat = (min (combF s.ss) (usedF p + 1)).toNat + d := ⟨(usedF p + 1).toNat - (min (combF s.ss) (usedF p + 1)).toNat, by omega⟩
  refine ⟨rngL p j (0 + (min (combF s.ss) (usedF p + 1)).toNat) d, by rw [rgsK_rng, hd, rngL_app], ?_⟩
  by_cases h : combF s.ss ≤ usedF p + 1
  · exact rng_big (by omega)
  · have : d = 0 := by omega
    subst this
    intro q hq; cases hq
structure Lng (s : Sea) (k : Nat) (L : Nat → List (List Int)) (b R : List Int) : Prop where
  le : b.length ≤ R.length
  most : ∀ j, j ≤ k → ∀ q ∈ L j, okQ s q → q.length ≤ R.length
  at_ : R = b ∨ (b.length < R.length ∧ ∃ j, j ≤ k ∧ Frst (okQ s) (L j) R)
theorem long_best (s : Sea) (hc : 0 ≤ combF s.ss) : ∀ (k : Nat) (p b : List Int), p.length + k = s.gs.length → usedF p ≤ combF s.ss → rpS s p = 0 → b.length ≤ s.gs.length → Lng s k (fun j => rgsK j p) b (rlongF s k p b)
  | 0, p, b, hk, hu, hr, hb => by
    rw [rlongF]
    have hp : okQ s p := ⟨hu, hr⟩
    refine ⟨?_, ?_, ?_⟩
    · unfold rlB; split <;> omega
    · intro j hj q hq _
      obtain rfl : j = 0 := by omega
      rw [rgsK, List.mem_singleton] at hq
      subst hq
      unfold rlB; split <;> omega
    · unfold rlB; split
      · exact .inr ⟨by assumption, 0, Nat.le_refl _, Frst.one hp⟩
      · exact .inl rfl
  | k + 1, p, b, hk, hu, hr, hb => by
    rw [rlongF]
    have hp : okQ s p := ⟨hu, hr⟩
    have hB : (rlB p b).length ≤ s.gs.length := by unfold rlB; split <;> omega
    have key : ∀ (m n : Nat) (st : List Int), st.length ≤ s.gs.length → n + m ≤ (min (combF s.ss) (usedF p + 1)).toNat →
        Lng s k (fun j => rngL p j n m) st (foldI (fun st (n : Nat) => if st.length < s.gs.length then (if againN s.gs p (n : Int) = 0 then rlongF s k (p ++ [(n : Int)]) st else st) else st) m n st) := by
      intro m
      induction m with
      | zero => intro n st _ _; exact ⟨Nat.le_refl _, fun j _ q hq => (by cases hq), .inl rfl⟩
      | succ m ih =>
        intro n st hst hn
        rw [foldI]
        generalize hR1 : (if st.length < s.gs.length then (if againN s.gs p (n : Int) = 0 then rlongF s k (p ++ [(n : Int)]) st else st) else st) = R1
        have h1 : Lng s k (fun j => rgsK j (p ++ [(n : Int)])) st R1 ∧ R1.length ≤ s.gs.length := by
          have hpl : (p ++ [(n : Int)]).length = p.length + 1 := by simp
          by_cases hl : st.length < s.gs.length
          · rw [if_pos hl] at hR1
            by_cases ha : againN s.gs p (n : Int) = 0
            · rw [if_pos ha] at hR1
              rw [← hR1]
              exact ⟨long_best s hc k (p ++ [(n : Int)]) st (by omega) (by rw [usedF_snoc]; omega) (by rw [rp_snoc, hr, ha]; rfl) hst, (rlongF_eq s k _ st (by omega) hst).2⟩
            · rw [if_neg ha] at hR1
              subst hR1
              refine ⟨⟨Nat.le_refl _, fun j hj q hq ho => ?_, .inl rfl⟩, hst⟩
              have h2 := (rgsK_ext s hq).rpS
              have h3 := againN_nn s.gs p (n : Int)
              rw [rp_snoc, ho.2] at h2
              omega
          · rw [if_neg hl] at hR1
            subst hR1
            refine ⟨⟨Nat.le_refl _, fun j hj q hq ho => ?_, .inl rfl⟩, hst⟩
            have h2 := (rgsK_ext s hq).len
            omega
        have h2 := ih (n + 1) R1 h1.2 (by omega)
        have h1 := h1.1
        refine ⟨Nat.le_trans h1.le h2.le, fun j hj q hq ho => ?_, ?_⟩
        · try dsimp only at hq
          rw [rngL_succ] at hq
          rcases List.mem_append.1 hq with hq | hq
          · exact Nat.le_trans (h1.most j hj q hq ho) h2.le
          · exact h2.most j hj q hq ho
        · rcases h2.at_ with e | ⟨hlt, j, hj, hf⟩
          · rw [e]
            rcases h1.at_ with e1 | ⟨hlt1, j, hj, hf⟩
            · exact .inl e1
            · exact .inr ⟨hlt1, j, hj, by show Frst _ (rngL p j n (m + 1)) _; rw [rngL_succ]; exact hf.app⟩
          · refine .inr ⟨Nat.lt_of_le_of_lt h1.le hlt, j, hj, ?_⟩
            show Frst _ (rngL p j n (m + 1)) _
            rw [rngL_succ]
            refine hf.pre fun q hq ho => ?_
            have h3 := h1.most j hj q hq ho
            have h4 := (rgsK_ext s hq).len
            obtain ⟨i, _, h5⟩ := List.mem_flatMap.1 hf.mem.1
            have h6 := (rgsK_ext s h5).len
            rw [List.length_append, List.length_singleton] at h4 h6
            omega
    have h := key (min (combF s.ss) (usedF p + 1)).toNat 0 (rlB p b) hB (by omega)
    generalize foldI _ _ 0 (rlB p b) = R at *
    have hbB : b.length ≤ (rlB p b).length ∧ p.length ≤ (rlB p b).length := by unfold rlB; split <;> omega
    refine ⟨Nat.le_trans hbB.1 h.le, fun j hj q hq ho => ?_, ?_⟩
    · cases j with
      | zero =>
        try dsimp only at hq
        rw [rgsK, List.mem_singleton] at hq
        subst hq
        exact Nat.le_trans hbB.2 h.le
      | succ j =>
        obtain ⟨M, hM, hM2⟩ := rgsK_split s p j hc
        try dsimp only at hq
        rw [hM] at hq
        rcases List.mem_append.1 hq with hq | hq
        · exact h.most j (by omega) q hq ho
        · exact absurd ho.1 (hM2 q hq)
    · rcases h.at_ with e | ⟨hlt, j, hj, hf⟩
      · rw [e]
        unfold rlB
        split
        · exact .inr ⟨by assumption, 0, Nat.zero_le _, Frst.one hp⟩
        · exact .inl rfl
      · refine .inr ⟨by omega, j + 1, by omega, ?_⟩
        obtain ⟨M, hM, _⟩ := rgsK_split s p j hc
        show Frst _ (rgsK (j + 1) p) _
        rw [hM]; exact hf.app
theorem combF_nn {s : Sea} (he : seaE s = 0) : 1 ≤ combF s.ss := by
  have ok := okS_of he
  rw [combF_prod]; exact prodR_pos ok.s6
/-- Plan: the first one of the longest plans without repeats. -/
theorem plan_first {s : Sea} (he : seaE s = 0) : Frst (okQ s) (rgsK (planF s).length []) (planF s) ∧ (planF s).length ≤ s.gs.length ∧ ∀ j, j ≤ s.gs.length → ∀ q ∈ rgsK j [], okQ s q → j ≤ (planF s).length := by
  have hc := combF_nn he
  have hE := rlongF_eq s s.gs.length [] [] (by simp) (by simp)
  have h := long_best s (by omega) s.gs.length [] [] (by simp) (by show (0 : Int) ≤ _; omega) rfl (by simp)
  have hP : planF s = rlongF s s.gs.length [] [] := by rw [planF, if_pos he, hE.1]
  rw [← hP] at h
  have hl : (planF s).length ≤ s.gs.length := by rw [hP]; exact hE.2
  refine ⟨?_, hl, fun j hj q hq ho => ?_⟩
  · rcases h.at_ with e | ⟨_, j, hj, hf⟩
    · rw [e]; exact Frst.one ⟨by show (0 : Int) ≤ _; omega, rfl⟩
    · have : (planF s).length = j := (rgsK_top hf.mem.1).1
      rw [this]; exact hf
  · have := h.most j hj q hq ho
    rw [(rgsK_top hq).1] at this; exact this
def lwQ (s : Sea) (m : Int) (q : List Int) : Prop := usedF q ≤ combF s.ss ∧ rpS s q ≤ m
structure Few (s : Sea) (L : List (List Int)) (st R : List Int × Int) : Prop where
  le : 0 ≤ st.2 → 0 ≤ R.2 ∧ R.2 ≤ st.2
  most : ∀ q ∈ L, usedF q ≤ combF s.ss → 0 ≤ R.2 ∧ R.2 ≤ rpS s q
  at_ : R = st ∨ ((st.2 < 0 ∨ R.2 < st.2) ∧ R.2 = rpS s R.1 ∧ Frst (lwQ s R.2) L R.1)
theorem few_best (s : Sea) (hc : 0 ≤ combF s.ss) : ∀ (k : Nat) (p : List Int) (st : List Int × Int), p.length + k = s.gs.length → usedF p ≤ combF s.ss → Few s (rgsK k p) st (growF s (want2 s) k p (rpS s p) st)
  | 0, p, st, hk, hu => by
    have hr := rp_nn s p
    rw [growF]
    unfold want2
    by_cases hz : 0 ≤ st.2 ∧ st.2 ≤ rpS s p
    · rw [if_pos hz]
      refine ⟨fun h => ⟨h, Int.le_refl _⟩, fun q hq _ => ?_, .inl rfl⟩
      rw [rgsK, List.mem_singleton] at hq
      subst hq; exact hz
    · rw [if_neg hz, if_pos (by omega)]
      refine ⟨fun h => ⟨hr, by dsimp only; omega⟩, fun q hq _ => ?_, .inr ⟨by dsimp only; omega, rfl, Frst.one ⟨hu, Int.le_refl _⟩⟩⟩
      rw [rgsK, List.mem_singleton] at hq
      subst hq; exact ⟨hr, Int.le_refl _⟩
  | k + 1, p, st, hk, hu => by
    have hr := rp_nn s p
    by_cases hz : 0 ≤ st.2 ∧ st.2 ≤ rpS s p
    · rw [growF, show want2 s st p (rpS s p) = (st, false) by rw [want2, if_pos hz], if_neg (by simp)]
      refine ⟨fun h => ⟨h, Int.le_refl _⟩, fun q hq _ => ?_, .inl rfl⟩
      have h1 := (rgsK_ext s hq).rpS
      exact ⟨hz.1, by dsimp only; omega⟩
    · rw [growF, show want2 s st p (rpS s p) = (st, true) by rw [want2, if_neg hz, if_neg (by omega)], if_pos rfl]
      have key : ∀ (m n : Nat) (st : List Int × Int), n + m ≤ (min (combF s.ss) (usedF p + 1)).toNat →
          Few s (rngL p k n m) st (foldI (fun st (n : Nat) => growF s (want2 s) k (p ++ [(n : Int)]) (rpS s p + againN s.gs p (n : Int)) st) m n st) := by
        intro m
        induction m with
        | zero => intro n st _; exact ⟨fun h => ⟨h, Int.le_refl _⟩, fun q hq => (by cases hq), .inl rfl⟩
        | succ m ih =>
          intro n st hn
          rw [foldI]
          have h1 := few_best s hc k (p ++ [(n : Int)]) st (by simp; omega) (by rw [usedF_snoc]; omega)
          rw [rp_snoc] at h1
          generalize growF s (want2 s) k (p ++ [(n : Int)]) (rpS s p + againN s.gs p (n : Int)) st = R1 at *
          have h2 := ih (n + 1) R1 (by omega)
          generalize foldI _ m (n + 1) R1 = R at *
          refine ⟨fun h => ?_, fun q hq hq2 => ?_, ?_⟩
          · have a := h1.le h
            have b := h2.le a.1
            omega
          · rw [rngL_succ] at hq
            rcases List.mem_append.1 hq with hq | hq
            · have a := h1.most q hq hq2
              have b := h2.le a.1
              omega
            · exact h2.most q hq hq2
          · rcases h2.at_ with e | ⟨hlt, he, hf⟩
            · rw [e]
              rcases h1.at_ with e1 | ⟨hlt1, he1, hf1⟩
              · exact .inl e1
              · exact .inr ⟨hlt1, he1, by rw [rngL_succ]; exact hf1.app⟩
            · refine .inr ⟨?_, he, ?_⟩
              · by_cases h0 : 0 ≤ st.2
                · have := h1.le h0; omega
                · exact .inl (by omega)
              · rw [rngL_succ]
                refine hf.pre fun q hq ho => ?_
                have h3 := h1.most q hq ho.1
                have h4 := ho.2
                omega
      have h := key (min (combF s.ss) (usedF p + 1)).toNat 0 st (by omega)
      generalize foldI _ _ 0 st = R at *
      obtain ⟨M, hM, hM2⟩ := rgsK_split s p k hc
      refine ⟨h.le, fun q hq hq2 => ?_, ?_⟩
      · rw [hM] at hq
        rcases List.mem_append.1 hq with hq | hq
        · exact h.most q hq hq2
        · exact absurd hq2 (hM2 q hq)
      · rcases h.at_ with e | ⟨h1, h2, h3⟩
        · exact .inl e
        · exact .inr ⟨h1, h2, by rw [hM]; exact h3.app⟩
theorem rgs_zero {s : Sea} (hc : 1 ≤ combF s.ss) : ∀ (k : Nat) (p : List Int), usedF p ≤ 1 → ∃ q ∈ rgsK k p, usedF q ≤ combF s.ss
  | 0, p, h => ⟨p, by rw [rgsK]; simp, by omega⟩
  | k + 1, p, h => by
    obtain ⟨q, hq, h2⟩ := rgs_zero hc k (p ++ [((0 : Nat) : Int)]) (by rw [usedF_snoc]; omega)
    have hu := usedF_nn p
    exact ⟨q, by rw [rgsK, List.mem_flatMap]; exact ⟨0, List.mem_range.2 (by omega), hq⟩, h2⟩
/-- Fewest: the first one of the plans with the fewest repeats. -/
theorem few_first {s : Sea} (he : seaE s = 0) : Frst (lwQ s (fewF s).2) (rgsK s.gs.length []) (fewF s).1 ∧ (fewF s).2 = rpS s (fewF s).1 ∧ ∀ q ∈ rgsK s.gs.length [], usedF q ≤ combF s.ss → (fewF s).2 ≤ rpS s q := by
  have hc := combF_nn he
  have h := few_best s (by omega) s.gs.length [] ([], -1) (by simp) (by show (0 : Int) ≤ _; omega)
  rw [show rpS s [] = 0 from rfl] at h
  have hP : fewF s = growF s (want2 s) s.gs.length [] 0 ([], -1) := by rw [fewF, if_pos he]
  rw [← hP] at h
  obtain ⟨q, hq, hq2⟩ := rgs_zero hc s.gs.length [] (by show (0 : Int) ≤ _; omega)
  have h0 := (h.most q hq hq2).1
  refine ⟨?_, ?_, fun q hq hq2 => (h.most q hq hq2).2⟩
  · rcases h.at_ with e | ⟨_, _, h3⟩
    · rw [e] at h0; exact absurd h0 (by decide)
    · exact h3
  · rcases h.at_ with e | ⟨_, h3, _⟩
    · rw [e] at h0; exact absurd h0 (by decide)
    · exact h3
theorem few_zero {s : Sea} (he : seaE s = 0) : (fewF s).2 = 0 ↔ (planF s).length = s.gs.length := by
  have hf := few_first he
  have hp := plan_first he
  constructor
  · intro h
    have := hp.2.2 s.gs.length (Nat.le_refl _) _ hf.1.mem.1 ⟨hf.1.mem.2.1, by rw [← hf.2.1, h]⟩
    omega
  · intro h
    have h1 := hp.1.mem
    rw [h] at h1
    have h2 := hf.2.2 _ h1.1 h1.2.1
    have h3 := rp_nn s (fewF s).1
    rw [h1.2.2] at h2
    rw [hf.2.1] at h2 ⊢
    omega
end Go.Abs
