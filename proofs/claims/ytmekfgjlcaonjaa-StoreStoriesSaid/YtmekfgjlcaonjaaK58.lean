/- A part of the proofs of the laws of this seat: contracts of the functions that they reach, each proved of the program's form in Lean. No condition beyond those that each contract names. -/
import Derived.Test.YtmekfgjlcaonjaaB
set_option linter.unusedVariables false
set_option linter.unusedSimpArgs false
set_option maxRecDepth 20000
set_option maxHeartbeats 1000000
namespace Go.Abs
open Go.Proofs
variable {P : Program}
theorem slots_iff {β : Type} {e : Nat → β} : ∀ {l : List (Nat × β)}, slots l e ↔ ∀ p ∈ l, e p.1 = p.2
  | [] => by simp [slots]
  | (i, v) :: r => by simp [slots, slots_iff (l := r)]
theorem updL_out {β : Type} {e : Nat → β} {i : Nat} : ∀ {l : List (Nat × β)}, (∀ p ∈ l, p.1 ≠ i) → updL l e i = e i
  | [], _ => rfl
  | (j, v) :: r, h => by
    rw [updL, upd_eq, if_neg (fun e => h (j, v) (by simp) e.symm), updL_out fun p hp => h p (by simp [hp])]
theorem updL_in {β : Type} {e : Nat → β} {i : Nat} {v : β} : ∀ {l : List (Nat × β)}, (∀ p ∈ l, p.1 = i → p.2 = v) → (∃ p ∈ l, p.1 = i) → updL l e i = v
  | [], _, ⟨p, hp, _⟩ => by cases hp
  | (j, w) :: r, h, hx => by
    rw [updL, upd_eq]
    by_cases e : i = j
    · rw [if_pos e]; exact h (j, w) (by simp) e.symm
    · rw [if_neg e]
      obtain ⟨p, hp, hpi⟩ := hx
      rcases List.mem_cons.1 hp with rfl | hp
      · exact absurd hpi.symm e
      · exact updL_in (fun p hp => h p (by simp [hp])) ⟨p, hp, hpi⟩
/-- Rows of numbers, each at a place of its own. -/
def rowZ (n : Nat) (f : Nat → Int) : List AV := (List.range n).map fun y => AV.int .i64 (f y)
theorem rowZ_set (n : Nat) (f : Nat → Int) (y : Nat) (v : Int) : (rowZ n f).set y (.int .i64 v) = rowZ n fun z => if z = y then v else f z := by
  apply List.ext_getElem?
  intro j
  rw [List.getElem?_set]
  unfold rowZ
  simp only [List.length_map, List.length_range, List.getElem?_map]
  by_cases h : y = j
  · subst h
    by_cases hj : y < n
    · simp [hj, List.getElem?_range hj]
    · simp [hj, List.getElem?_eq_none (show (List.range n).length ≤ y by simp; omega)]
  · rw [if_neg h]
    by_cases hj : j < n
    · simp [List.getElem?_range hj, Ne.symm h]
    · simp [List.getElem?_eq_none (show (List.range n).length ≤ j by simp; omega)]
theorem rowZ_len (n : Nat) (f : Nat → Int) : (rowZ n f).length = n := by simp [rowZ]
theorem rowZ_get {n : Nat} (f : Nat → Int) {y : Nat} (h : y < n) : (rowZ n f)[y]? = some (.int .i64 (f y)) := by simp [rowZ, List.getElem?_range h]
theorem w_ldAt {K : (Nat → AV) → Sig → Prop} {e : Nat → AV} {σ : Sig} {x : IOpd} {d : Nat} {r : List IStep} {i g off : Nat} {c : List AV} {v : AV} (hx : x.ev e = .ref i g off) (hσ : σ i = (g, .row c)) (hc : c[off]? = some v) (hv : forceA v = some v)
    (hk : stepsW P r K (upd e d v) σ) : stepsW P (⟨some d, none, .ld 1 false x⟩ :: r) K e σ := by
  refine w_val (p := g = g ∧ True) (v := v) ?_ ⟨rfl, trivial⟩ hk
  show ldO 1 false σ (x.ev e) = _
  rw [hx]
  simp only [ldO, hσ, partO, hc, hv, liftV, okV]
theorem mvL_map (i g j h : Nat) : ∀ l : List AV, mvL i g j h l = l.map (mvA i g j h)
  | [] => rfl
  | a :: l => by rw [mvL, mvL_map i g j h l]; rfl
theorem mvS_at {i g j h : Nat} {σ : Sig} {c : List AV} (hs : σ i = (g, .row c)) (hc : mvL i g j h c = c) : mvS i g j h σ j = (h, .row c) := by simp [mvS, hs, mvR, hc]
theorem mvE_keep {i g j h t : Nat} {e : Nat → AV} {a : AV} (he : e t = a) (ha : mvA i g j h a = a) : mvE i g j h e t = a := by simp [mvE, he, ha]
/-- The rows' places. -/
def cellR (n : Nat) (hs : Nat → Nat) (k : Nat) : AV := .msl (5000 + k) (hs k) n 1
def cellsR (n a : Nat) (hs : Nat → Nat) : List AV := (List.range a).map (cellR n hs)
theorem cellsR_len (n a : Nat) (hs : Nat → Nat) : (cellsR n a hs).length = a := by simp [cellsR]
theorem cellsR_get {n a : Nat} (hs : Nat → Nat) {k : Nat} (h : k < a) : (cellsR n a hs)[k]? = some (.msl (5000 + k) (hs k) n 1) := by simp [cellsR, List.getElem?_range h, cellR]
end Go.Abs
