/- A part of the proofs of the laws of this seat: contracts of the functions that they reach, each proved of the program's form in Lean. No condition beyond those that each contract names. -/
import Derived.Test.YtmekfgjlcaonjaaC17
import Derived.Test.YtmekfgjlcaonjaaC14
import Derived.Test.YtmekfgjlcaonjaaC13
import Derived.Test.YtmekfgjlcaonjaaC12
import Derived.Test.YtmekfgjlcaonjaaC11
import Derived.Test.YtmekfgjlcaonjaaC10
import Derived.Test.YtmekfgjlcaonjaaC9
import Derived.Test.YtmekfgjlcaonjaaC8
import Derived.Test.YtmekfgjlcaonjaaC7
import Derived.Test.YtmekfgjlcaonjaaC5
import Derived.Test.YtmekfgjlcaonjaaC4
import Derived.Test.YtmekfgjlcaonjaaC2
import Derived.Test.YtmekfgjlcaonjaaC1
import Derived.Test.YtmekfgjlcaonjaaB
set_option linter.unusedVariables false
set_option linter.unusedSimpArgs false
set_option maxRecDepth 20000
set_option maxHeartbeats 4000000
namespace Go.Abs
open Go.Proofs
def sumT (f : Nat → Int) : Nat → Int
  | 0 => 0
  | k + 1 => sumT f k + f k
theorem repT_sum (s : Sea) (p : List Int) : ∀ k, repT s p k = sumT (fun g => repg s.gs p g []) k
  | 0 => rfl
  | k + 1 => by simp only [repT, sumT, repT_sum s p k]
theorem sumT_add (f g : Nat → Int) : ∀ k, sumT (fun i => f i + g i) k = sumT f k + sumT g k
  | 0 => rfl
  | k + 1 => by simp only [sumT, sumT_add f g k]; omega
theorem sumT_congr {f g : Nat → Int} : ∀ k, (∀ i, i < k → f i = g i) → sumT f k = sumT g k
  | 0, _ => rfl
  | k + 1, h => by simp only [sumT]; rw [sumT_congr k fun i hi => h i (by omega), h k (by omega)]
theorem sumT_zero : ∀ k, sumT (fun _ => 0) k = 0
  | 0 => rfl
  | k + 1 => by simp only [sumT, sumT_zero k]; rfl
theorem sumT_one (a : Int) : ∀ k : Nat, sumT (fun i => if (i : Int) = a then 1 else 0) k = if 0 ≤ a ∧ a < k then 1 else 0
  | 0 => by simp only [sumT]; rw [if_neg (by omega)]
  | k + 1 => by
    simp only [sumT, sumT_one a k]
    by_cases h : (k : Int) = a
    · rw [if_pos h, if_neg (by omega), if_pos (by omega)]; rfl
    · rw [if_neg h]
      by_cases h2 : 0 ≤ a ∧ a < k
      · rw [if_pos h2, if_pos (by omega)]; rfl
      · rw [if_neg h2, if_neg (by omega)]; rfl
theorem sumT_filter (P : Int → Bool) : ∀ (G : List Int), G.Nodup → (∀ x ∈ G, 0 ≤ x ∧ x ≤ 11) → sumT (fun g => if ((g : Int) ∈ G ∧ P g = true) then 1 else 0) 12 = ((G.filter P).length : Int)
  | [], _, _ => by
    rw [sumT_congr (g := fun _ => 0) 12 fun i _ => by simp, sumT_zero]; rfl
  | a :: G, hn, hb => by
    rw [List.nodup_cons] at hn
    have ih := sumT_filter P G hn.2 fun x hx => hb x (by simp [hx])
    have ha := hb a (by simp)
    have : ∀ i : Nat, i < 12 → (if ((i : Int) ∈ a :: G ∧ P i = true) then (1 : Int) else 0) = (if (i : Int) = a then (if P a = true then 1 else 0) else 0) + (if ((i : Int) ∈ G ∧ P i = true) then 1 else 0) := by
      intro i _
      by_cases h : (i : Int) = a
      · rw [if_pos h, if_neg (c := (i : Int) ∈ G ∧ _) (fun hh => hn.1 (h ▸ hh.1))]
        rw [h]
        by_cases hp : P a = true
        · simp [hp]
        · simp [hp]
      · rw [if_neg h]
        have : ((i : Int) ∈ a :: G ∧ P i = true) ↔ ((i : Int) ∈ G ∧ P i = true) := by simp [h]
        simp only [this]; omega
    rw [sumT_congr 12 this, sumT_add, ih]
    by_cases hp : P a = true
    · rw [List.filter_cons]
      simp only [if_pos hp, List.length_cons]
      rw [sumT_one, if_pos (by omega)]; omega
    · rw [List.filter_cons]
      simp only [if_neg hp]
      rw [sumT_congr (g := fun _ => 0) 12 fun i _ => by simp, sumT_zero]; omega
theorem metN_nnC : ∀ (gs : List (List Int)) (p : List Int) (k : Int × Int), 0 ≤ metN gs p k
  | [], p, k => by cases p <;> simp [metN]
  | g :: gs, [], k => by simp [metN]
  | g :: gs, m :: p, k => by
    have ih := metN_nnC gs p k
    have : 0 ≤ cntI k.1 g := by unfold cntI; omega
    simp only [metN]
    split <;> omega
def cntF (s : Sea) : List Int → List Int → Int
  | _, [] => 0
  | p, n :: r => ((repL s p n).length : Int) + cntF s (p ++ [n]) r
theorem repF_many (s : Sea) : ∀ (r p : List Int) (st : Int × Int × Int), (repF s p r st).2.2 = st.2.2 + cntF s p r
  | [], _, st => by simp [repF, cntF]
  | n :: r, p, st => by
    rw [repF_cons, repF_many s r, cntF]
    unfold repS
    split
    · rename_i h; dsimp only; omega
    · dsimp only; omega
theorem gathE_nd0 {l : List Int} (h : gathE [] l = 0) : l.Nodup ∧ ∀ x ∈ l, 0 ≤ x ∧ x ≤ 11 := by
  have := gathE_nd l [] .nil (fun x h => by simp at h) h
  rwa [List.nil_append] at this
theorem gathsE_at : ∀ {gs : List (List Int)}, gathsE gs = 0 → ∀ l ∈ gs, gathE [] l = 0
  | [], _, l, h => by simp at h
  | g :: gs, h, l, hl => by
    rw [gathsE] at h
    by_cases h0 : g = []
    · rw [if_pos h0] at h; exact absurd h (by decide)
    rw [if_neg h0] at h
    by_cases h1 : gathE [] g = 0
    · rw [if_pos h1] at h
      rcases List.mem_cons.1 hl with rfl | hl
      · exact h1
      · exact gathsE_at h l hl
    · rw [if_neg h1] at h; exact absurd h h1
theorem cnt_sum {s : Sea} (hg : gathsE s.gs = 0) : ∀ (r p : List Int) (met : Nat → List Int), p.length + r.length ≤ s.gs.length → (∀ (k : Nat) (n : Int), n ∈ met k ↔ 0 < metN s.gs p ((k : Int), n)) → sumT (fun k => repg (s.gs.drop p.length) r k (met k)) 12 = cntF s p r
  | [], p, met, _, _ => by
    rw [sumT_congr (g := fun _ => 0) 12 fun i _ => by cases s.gs.drop p.length <;> rfl, sumT_zero]; rfl
  | n :: r, p, met, hl, hm => by
    simp only [List.length_cons] at hl
    have hlt : p.length < s.gs.length := by omega
    obtain ⟨hnd, hbd⟩ := gathE_nd0 (gathsE_at hg _ (gAt_mem hlt))
    have hlen : (p ++ [n]).length = p.length + 1 := by simp
    have ih := cnt_sum hg r (p ++ [n]) (fun k => if (k : Int) ∈ gAt s.gs p.length then met k ++ [n] else met k) (by rw [hlen]; omega) (by
      intro k m
      rw [metN_snoc _ _ _ _ hlt]
      have h0 := hm k m
      have hc : 0 < cntI (k : Int) (gAt s.gs p.length) ↔ (k : Int) ∈ gAt s.gs p.length := by
        unfold cntI; rw [Int.natCast_pos, List.count_pos_iff]
      have hc0 : 0 ≤ cntI (k : Int) (gAt s.gs p.length) := by unfold cntI; omega
      have hge : 0 ≤ metN s.gs p ((k : Int), m) := metN_nnC s.gs p _
      dsimp only
      by_cases hk : (k : Int) ∈ gAt s.gs p.length
      · rw [if_pos hk]
        have := hc.2 hk
        by_cases hmn : m = n
        · rw [if_pos hmn]; simp [hmn]; rw [hmn] at hge; omega
        · rw [if_neg hmn]; simp [hmn, h0]
      · rw [if_neg hk]
        have : cntI (k : Int) (gAt s.gs p.length) = 0 := by
          have := mt hc.1 hk; omega
        rw [h0, this]; split <;> omega)
    rw [hlen] at ih
    rw [cntF, ← ih]
    have hf := sumT_filter (fun g => decide (0 < metN s.gs p (g, n))) (gAt s.gs p.length) hnd hbd
    have hL : ((repL s p n).length : Int) = _ := hf.symm
    rw [hL, ← sumT_add]
    refine sumT_congr 12 fun k _ => ?_
    rw [drop_gAt hlt, repg]
    by_cases hk : (k : Int) ∈ gAt s.gs p.length
    · rw [if_pos hk, if_pos hk]
      by_cases hn : n ∈ met k
      · rw [if_pos hn, if_pos ⟨hk, decide_eq_true ((hm k n).1 hn)⟩]
      · rw [if_neg hn, if_neg (fun h => hn ((hm k n).2 (of_decide_eq_true h.2)))]
    · rw [if_neg hk, if_neg hk, if_neg (fun h => hk h.1), Int.zero_add]
theorem many_eq {s : Sea} {p : List Int} (hg : gathsE s.gs = 0) (hl : p.length ≤ s.gs.length) : (repF s [] p (-1, -1, 0)).2.2 = repT s p 12 := by
  have := cnt_sum hg p [] (fun _ => []) (by simpa using hl) (fun k n => by rw [metN_nil]; simp)
  rw [repF_many, repT_sum, ← this]
  simp
end Go.Abs
