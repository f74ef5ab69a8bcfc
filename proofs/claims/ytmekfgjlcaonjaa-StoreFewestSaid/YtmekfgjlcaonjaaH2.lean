/- A part of the proofs of the laws of this seat: contracts of the functions that they reach, each proved of the program's form in Lean. No condition beyond those that each contract names. -/
import Derived.Test.YtmekfgjlcaonjaaH1
import Derived.Test.YtmekfgjlcaonjaaC11
import Derived.Test.YtmekfgjlcaonjaaB
set_option linter.unusedVariables false
set_option linter.unusedSimpArgs false
set_option maxRecDepth 20000
set_option maxHeartbeats 4000000
namespace Go.Abs
open Go.Proofs
/-- Nothing behind a beginning can be greater. -/
def maxR : List Int → List Int → Prop
  | _, [] => True
  | a, x :: r => ¬ x < usedF a ∧ maxR (a ++ [x]) r
abbrev zr (k : Nat) : List Int := List.replicate k 0
/-- The plan that comes next. -/
structure Nx (x y : List Int) : Prop where
  ex : ∃ (a : List Int) (v : Int) (r : List Int), x = a ++ v :: r ∧ v < usedF a ∧ maxR (a ++ [v]) r ∧ y = a ++ (v + 1) :: zr r.length
def chnL (R : List Int → List Int → Prop) : List (List Int) → Prop
  | x :: y :: r => R x y ∧ chnL R (y :: r)
  | _ => True
theorem chnL_app {R : List Int → List Int → Prop} {x y : List Int} : ∀ {A B : List (List Int)}, chnL R (A ++ [x]) → chnL R (y :: B) → R x y → chnL R ((A ++ [x]) ++ y :: B)
  | [], B, _, h2, h3 => ⟨h3, h2⟩
  | [a], B, h1, h2, h3 => ⟨h1.1, h3, h2⟩
  | a :: b :: A, B, h1, h2, h3 => ⟨h1.1, chnL_app (A := b :: A) h1.2 h2 h3⟩
theorem chnL_at {R : List Int → List Int → Prop} {x y : List Int} : ∀ {A B : List (List Int)}, chnL R (A ++ x :: y :: B) → R x y
  | [], B, h => h.1
  | [a], B, h => h.2.1
  | a :: b :: A, B, h => chnL_at (A := b :: A) h.2
/-- A list of plans in order: the first and the last one, and one after the other. -/
structure Ord (L : List (List Int)) (f : List Int) (p : List Int) : Prop where
  hd : ∃ B, L = f :: B
  ls : ∃ A r, L = A ++ [p ++ r] ∧ maxR p r
  ch : chnL Nx L
theorem ord_rgs : ∀ (k : Nat) (p : List Int), Ord (rgsK k p) (p ++ zr k) p
  | 0, p => by
    rw [rgsK]
    exact ⟨⟨[], by simp⟩, ⟨[], [], by simp, trivial⟩, trivial⟩
  | k + 1, p => by
    have hu := usedF_nn p
    have key : ∀ (m n : Nat), n + m ≤ usedF p → ∃ B A r, rngL p k n (m + 1) = (p ++ (n : Int) :: zr k) :: B ∧ rngL p k n (m + 1) = A ++ [p ++ ((n + m : Nat) : Int) :: r] ∧ maxR (p ++ [((n + m : Nat) : Int)]) r ∧ chnL Nx (rngL p k n (m + 1)) := by
      intro m
      induction m with
      | zero =>
        intro n _
        have h := ord_rgs k (p ++ [(n : Int)])
        obtain ⟨B, hB⟩ := h.hd
        obtain ⟨A, r, hA, hr⟩ := h.ls
        have e : rngL p k n 1 = rgsK k (p ++ [(n : Int)]) := by rw [rngL_succ]; simp [rngL]
        rw [e]
        exact ⟨B, A, r, by rw [hB]; simp, by rw [hA]; simp, hr, h.ch⟩
      | succ m ih =>
        intro n hn
        obtain ⟨B2, A2, r2, h1, h2, h3, h4⟩ := ih (n + 1) (by omega)
        have h := ord_rgs k (p ++ [(n : Int)])
        obtain ⟨B, hB⟩ := h.hd
        obtain ⟨A, r, hA, hr⟩ := h.ls
        have hlen : r.length = k := by
          have : p ++ [(n : Int)] ++ r ∈ rgsK k (p ++ [(n : Int)]) := by rw [hA]; simp
          have := (rgsK_ext ⟨[], []⟩ this).len
          simp at this; omega
        rw [rngL_succ]
        refine ⟨B ++ rngL p k (n + 1) (m + 1), rgsK k (p ++ [(n : Int)]) ++ A2, r2, by rw [hB]; simp, by rw [h2]; simp [Nat.add_assoc, Nat.add_comm 1 m], by rw [show n + (m + 1) = n + 1 + m by omega]; exact h3, ?_⟩
        rw [hA, h1]
        refine chnL_app (hA ▸ h.ch) (h1 ▸ h4) ⟨p, n, r, by simp, by omega, hr, ?_⟩
        rw [hlen]; simp
    obtain ⟨B, A, r, h1, h2, h3, h4⟩ := key (usedF p).toNat 0 (by omega)
    have e : (usedF p).toNat + 1 = (usedF p + 1).toNat := by omega
    rw [e, ← rgsK_rng] at h1 h2 h4
    refine ⟨⟨B, by rw [h1]; simp [zr, List.replicate_succ]⟩, ⟨A, _, h2, ?_⟩, h4⟩
    exact ⟨by rw [show 0 + (usedF p).toNat = (usedF p).toNat by omega]; omega, h3⟩
/-- What comes behind a plan, of all of them. -/
theorem rgs_step {k : Nat} {A B : List (List Int)} {x : List Int} (h : rgsK k [] = A ++ x :: B) : (B = [] ∧ maxR [] x) ∨ ∃ y C, B = y :: C ∧ Nx x y := by
  have o := ord_rgs k []
  cases B with
  | nil =>
    refine .inl ⟨rfl, ?_⟩
    obtain ⟨A2, r, h2, h3⟩ := o.ls
    rw [h] at h2
    have := List.append_inj' h2 rfl
    have h4 : x = [] ++ r := by simpa using this.2
    rw [h4]; exact h3
  | cons y C =>
    have hc := o.ch
    rw [h] at hc
    exact .inr ⟨y, C, rfl, chnL_at hc⟩
theorem rgs_head (k : Nat) : ∃ B, rgsK k [] = zr k :: B := (ord_rgs k []).hd
end Go.Abs
