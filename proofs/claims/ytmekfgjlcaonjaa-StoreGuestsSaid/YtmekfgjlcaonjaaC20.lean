/- A part of the proofs of the laws of this seat: contracts of the functions that they reach, each proved of the program's form in Lean. No condition beyond those that each contract names. -/
import Derived.Test.YtmekfgjlcaonjaaC19
import Derived.Test.YtmekfgjlcaonjaaC17
import Derived.Test.YtmekfgjlcaonjaaC15
import Derived.Test.YtmekfgjlcaonjaaC14
import Derived.Test.YtmekfgjlcaonjaaC13
import Derived.Test.YtmekfgjlcaonjaaC12
import Derived.Test.YtmekfgjlcaonjaaC11
import Derived.Test.YtmekfgjlcaonjaaC10
import Derived.Test.YtmekfgjlcaonjaaC9
import Derived.Test.YtmekfgjlcaonjaaC8
import Derived.Test.YtmekfgjlcaonjaaC7
import Derived.Test.YtmekfgjlcaonjaaC5
import Derived.Test.YtmekfgjlcaonjaaC4
import Derived.Test.YtmekfgjlcaonjaaC2
import Derived.Test.YtmekfgjlcaonjaaC1
import Derived.Test.YtmekfgjlcaonjaaB0
import Derived.Test.YtmekfgjlcaonjaaB1
import Derived.Test.YtmekfgjlcaonjaaB9
import Derived.Test.YtmekfgjlcaonjaaB4
import Derived.Test.YtmekfgjlcaonjaaB11
import Derived.Test.YtmekfgjlcaonjaaB20
import Derived.Test.YtmekfgjlcaonjaaB25
import Derived.Test.YtmekfgjlcaonjaaB29
import Derived.Test.YtmekfgjlcaonjaaB36
set_option linter.unusedVariables false
set_option linter.unusedSimpArgs false
set_option maxRecDepth 20000
set_option maxHeartbeats 4000000
/-! ### A guest who comes often -/
namespace Go.Abs
open Go.Proofs
def seenG : List (List Int) → List Int → Int → List Int
  | G :: gs, n :: p, g => if g ∈ G then n :: seenG gs p g else seenG gs p g
  | _, _, _ => []
/-- To how many gatherings a guest comes. -/
def comesF (gs : List (List Int)) (g : Int) : Nat := (gs.filter fun G => decide (g ∈ G)).length
theorem seenG_len : ∀ (gs : List (List Int)) (p : List Int) (g : Int), p.length = gs.length → (seenG gs p g).length = comesF gs g
  | [], p, g, h => by cases p <;> rfl
  | G :: gs, [], g, h => by simp at h
  | G :: gs, n :: p, g, h => by
    have ih := seenG_len gs p g (by simpa using h)
    unfold comesF at *
    by_cases hg : g ∈ G <;> simp [seenG, hg, ih]
theorem seenG_mem : ∀ {gs : List (List Int)} {p : List Int} {g x : Int}, x ∈ seenG gs p g → x ∈ p
  | [], p, g, x, h => by cases p <;> simp [seenG] at h
  | G :: gs, [], g, x, h => by simp [seenG] at h
  | G :: gs, n :: p, g, x, h => by
    by_cases hg : g ∈ G
    · simp only [seenG, if_pos hg] at h
      rcases List.mem_cons.1 h with rfl | h
      · simp
      · exact List.mem_cons_of_mem _ (seenG_mem h)
    · simp only [seenG, if_neg hg] at h
      exact List.mem_cons_of_mem _ (seenG_mem h)
theorem repg_nn : ∀ (gs : List (List Int)) (p : List Int) (g : Int) (met : List Int), 0 ≤ repg gs p g met
  | [], p, g, met => by cases p <;> simp [repg]
  | G :: gs, [], g, met => by simp [repg]
  | G :: gs, n :: p, g, met => by
    have h1 := repg_nn gs p g (met ++ [n])
    have h2 := repg_nn gs p g met
    simp only [repg]
    split
    · split <;> omega
    · exact h2
theorem repg_zero : ∀ (gs : List (List Int)) (p : List Int) (g : Int) (met : List Int), repg gs p g met = 0 → met.Nodup → (met ++ seenG gs p g).Nodup
  | [], p, g, met, _, hn => by cases p <;> simpa [seenG] using hn
  | G :: gs, [], g, met, _, hn => by simpa [seenG] using hn
  | G :: gs, n :: p, g, met, h, hn => by
    by_cases hg : g ∈ G
    · simp only [repg, if_pos hg] at h
      have h1 := repg_nn gs p g (met ++ [n])
      by_cases hm : n ∈ met
      · rw [if_pos hm] at h; omega
      · rw [if_neg hm] at h
        have := repg_zero gs p g (met ++ [n]) (by omega) (by
          rw [List.nodup_append]
          refine ⟨hn, by simp, fun a ha b hb e => ?_⟩
          have : b = n := by simpa using hb
          exact hm (by rw [← this, ← e]; exact ha))
        simp only [seenG, if_pos hg]
        rwa [List.append_assoc] at this
    · simp only [repg, if_neg hg] at h
      simp only [seenG, if_neg hg]
      exact repg_zero gs p g met h hn
theorem pigeon {gs : List (List Int)} {p : List Int} {g n : Int} (hl : p.length = gs.length) (hp : ∀ x ∈ p, 0 ≤ x ∧ x < n) (h : repg gs p g [] = 0) : (comesF gs g : Int) ≤ n ∨ comesF gs g = 0 := by
  have hn := repg_zero gs p g [] h .nil
  rw [List.nil_append] at hn
  have := nd_len (seenG gs p g) ((List.range n.toNat).map Int.ofNat) hn (by
    intro x hx
    have := hp x (seenG_mem hx)
    exact List.mem_map.2 ⟨x.toNat, List.mem_range.2 (by omega), by show ((x.toNat : Nat) : Int) = x; omega⟩)
  rw [seenG_len gs p g hl] at this
  simp at this
  omega
theorem sumT_nn {f : Nat → Int} (h : ∀ i, 0 ≤ f i) : ∀ k, 0 ≤ sumT f k
  | 0 => by simp [sumT]
  | k + 1 => by have := sumT_nn h k; have := h k; simp only [sumT]; omega
theorem sumT_eq0 {f : Nat → Int} (h : ∀ i, 0 ≤ f i) : ∀ k, sumT f k = 0 → ∀ i, i < k → f i = 0
  | 0, _, i, hi => by omega
  | k + 1, h0, i, hi => by
    have h1 := sumT_nn h k
    have h2 := h k
    simp only [sumT] at h0
    rcases (by omega : i < k ∨ i = k) with h3 | rfl
    · exact sumT_eq0 h k (by omega) i h3
    · omega
theorem fresh_le {s : Sea} {p : List Int} {n : Int} (hl : p.length = s.gs.length) (hp : ∀ x ∈ p, 0 ≤ x ∧ x < n) (h0 : 0 ≤ n) (hm : repT s p 12 = 0) (g : Nat) (hg : g < 12) : (comesF s.gs g : Int) ≤ n := by
  rw [repT_sum] at hm
  have := sumT_eq0 (fun i => repg_nn s.gs p i []) 12 hm g hg
  rcases pigeon hl hp this with h | h
  · exact h
  · rw [h]; exact h0
/-- There is a guest just if there are repeats. -/
theorem rep_gu {s : Sea} (hg : gathsE s.gs = 0) : ∀ (r p : List Int) (st : Int × Int × Int), p.length + r.length ≤ s.gs.length → 0 ≤ st.2.2 → (st.2.2 = 0 ↔ st.2.1 = -1) → ((repF s p r st).2.2 = 0 ↔ (repF s p r st).2.1 = -1)
  | [], p, st, _, _, h => h
  | n :: r, p, st, hl, h0, h => by
    simp only [List.length_cons] at hl
    have hlen : (p ++ [n]).length = p.length + 1 := by simp
    rw [repF_cons]
    have hlt : p.length < s.gs.length := by omega
    obtain ⟨_, hbd⟩ := gathE_nd0 (gathsE_at hg _ (gAt_mem hlt))
    refine rep_gu hg r (p ++ [n]) _ (by omega) ?_ ?_
    · unfold repS; split <;> dsimp only <;> omega
    · unfold repS
      split
      · rename_i hc
        have hpos : 0 < (repL s p n).length := by
          rcases (by omega : (repL s p n).length = 0 ∨ 0 < (repL s p n).length) with h1 | h1
          · exact absurd (List.length_eq_zero_iff.1 h1) hc.2
          · exact h1
        have hle : 0 ≤ leastI (repL s p n) := by
          have hm : leastI (repL s p n) ∈ repL s p n := by
            cases hr : repL s p n with
            | nil => exact absurd hr hc.2
            | cons a t =>
              obtain ⟨h1, _, _⟩ := foldl_min t a
              rcases h1 with h1 | h1
              · show t.foldl min a ∈ _; rw [h1]; simp
              · exact List.mem_cons_of_mem _ h1
          exact (hbd _ (List.mem_filter.1 hm).1).1
        dsimp only
        constructor <;> intro hh <;> omega
      · rename_i hc
        dsimp only
        by_cases hz : st.2.2 = 0
        · have hr : repL s p n = [] := Decidable.byContradiction fun hh => hc ⟨hz, hh⟩
          rw [hr]; simp; exact h
        · constructor
          · intro hh; omega
          · intro hh; exact absurd (h.2 hh) hz
end Go.Abs
