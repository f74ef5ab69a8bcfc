/- A part of the proofs of the laws of this seat: contracts of the functions that they reach, each proved of the program's form in Lean. No condition beyond those that each contract names. -/
import Derived.Test.YtmekfgjlcaonjaaB0
set_option linter.unusedVariables false
set_option linter.unusedSimpArgs false
set_option maxRecDepth 20000
set_option maxHeartbeats 4000000
/-! ### Walks: maps -/
namespace Go.Abs
variable {P : Program}
theorem findI (a : Int) : ∀ (l : List Int) (n : Nat), findA .i (.int .i64 a) (l.map (AV.int .i64)) n = some (if a ∈ l then some (n + l.idxOf a) else none)
  | [], n => rfl
  | x :: l, n => by
    have hk : keyEq .i (.int .i64 a) (.int .i64 x) = some (decide (a = x)) := rfl
    rw [List.map_cons, findA, hk]
    by_cases h : a = x
    · subst h; simp
    · rw [decide_eq_false h]
      simp only
      rw [findI a l (n + 1)]
      have hx : ¬ x = a := fun e => h e.symm
      by_cases hm : a ∈ l
      · rw [if_pos hm, if_pos (by simp [hm]), List.idxOf_cons, show (x == a) = false by simp [hx]]
        simp only [cond_false]; congr 2; omega
      · rw [if_neg hm, if_neg (by simp [h, hm])]
/-- A key is put into a set. -/
def insI (l : List Int) (a : Int) : List Int := if a ∈ l then l else l ++ [a]
theorem mem_insI {l : List Int} {a x : Int} : x ∈ insI l a ↔ x ∈ l ∨ x = a := by
  unfold insI
  split
  · rename_i h
    exact ⟨.inl, fun hx => hx.elim id fun e => by rw [e]; exact h⟩
  · simp
abbrev trueL (l : List Int) : List AV := l.map fun _ => AV.bool true
theorem w_mupI {K : (Nat → AV) → Sig → Prop} {e : Nat → AV} {σ : Sig} {m k : IOpd} {r : List IStep} {i h : Nat} {l : List Int} {a : Int} (hm : m.ev e = .map i h) (hσ : σ i = (h, .row [.mpv (l.map (AV.int .i64)) (trueL l)])) (hk : k.ev e = .int .i64 a)
    (hK : stepsW P r K e (upd σ i (h, .row [.mpv ((insI l a).map (AV.int .i64)) (trueL (insI l a))]))) : stepsW P (⟨none, none, .mup .i m k (.k (.bool true))⟩ :: r) K e σ := by
  refine w_det0 (p := h = h) (v := .junk) (σ' := upd σ i (h, .row [.mpv ((insI l a).map (AV.int .i64)) (trueL (insI l a))])) (fun _ => ?_) rfl hK
  show mupO .i σ (k.ev e) (.bool true) (m.ev e) = _
  rw [hm, hk]
  simp only [mupO, mapW, hσ, forceA, findI]
  unfold insI
  by_cases h : a ∈ l
  · rw [if_pos h, if_pos h]
    simp only
    have hset : (trueL l).set (0 + l.idxOf a) (AV.bool true).norm = trueL l := by
      apply List.ext_getElem?
      intro j
      rw [List.getElem?_set]
      split
      · rename_i hj; subst hj
        split
        · rename_i hl
          simp only [trueL, List.length_map] at hl
          simp only [Nat.zero_add] at hl ⊢
          simp [trueL, hl, AV.norm, AV.strip]
        · rename_i hl
          rw [List.getElem?_eq_none (by simpa using hl)]
      · rfl
    rw [hset]
  · rw [if_neg h, if_neg h]
    simp [trueL, AV.norm, AV.strip]
theorem w_nxtE {K : (Nat → AV) → Sig → Prop} {e : Nat → AV} {σ : Sig} {x : IOpd} {d : Nat} {r : List IStep} {i h : Nat} {cur vs : List AV} (hx : x.ev e = .itr i h) (hσ : σ i = (h, .row [.itv cur [] vs])) (hk : stepsW P r K (upd e d (.tup [.bool false])) σ) : stepsW P (⟨some d, none, .nxt x⟩ :: r) K e σ := by
  refine w_det (p := h = h) (v := fun _ => .tup [.bool false]) (σ' := fun _ => σ) (fun g => ?_) rfl fun _ => hk
  show nxtO σ g (x.ev e) = _
  rw [hx]; simp only [nxtO, hσ]
theorem w_nxtC {K : (Nat → AV) → Sig → Prop} {e : Nat → AV} {σ : Sig} {x : IOpd} {d : Nat} {r : List IStep} {α : Type} (f v : α → AV) {l : List α} {i h : Nat} {cur : List AV} (hx : x.ev e = .itr i h) (hσ : σ i = (h, .row [.itv cur (l.map f) (l.map v)])) (hl : l ≠ [])
    (hk : ∀ j a, l[j]? = some a → stepsW P r K (upd e d (.tup [.bool true, f a, v a])) (upd σ i (h, .row [.itv [f a, v a] ((l.eraseIdx j).map f) ((l.eraseIdx j).map v)]))) : stepsW P (⟨some d, none, .nxt x⟩ :: r) K e σ := by
  have hpos : 0 < l.length := by cases l <;> simp at hl ⊢
  have hj : ∀ g, g % l.length < l.length := fun g => Nat.mod_lt _ hpos
  refine w_det (p := h = h) (v := fun g => .tup [.bool true, f (l[g % l.length]'(hj g)), v (l[g % l.length]'(hj g))]) (σ' := fun g => upd σ i (h, .row [.itv [f (l[g % l.length]'(hj g)), v (l[g % l.length]'(hj g))] ((l.eraseIdx (g % l.length)).map f) ((l.eraseIdx (g % l.length)).map v)])) (fun g => ?_) rfl fun g => hk _ _ (List.getElem?_eq_getElem (hj g))
  show nxtO σ g (x.ev e) = _
  rw [hx]
  have hg : ∀ u : α → AV, (l.map u).getD (g % l.length) .junk = u (l[g % l.length]'(hj g)) := fun u => by simp [List.getD_eq_getElem?_getD, hj g]
  cases hl' : l.map f with
  | nil => cases l <;> simp at hl hl'
  | cons a0 ar =>
    simp only [nxtO, hσ, hl']
    rw [← hl', List.length_map, hg, hg, eraseIdx_map, eraseIdx_map]
theorem frzMS_at {i g j h : Nat} {ks vs : List AV} {σ : Sig} (hs : σ j = (h, .row [.map i g])) (hj : j ≠ i) : frzMS i g ks vs σ j = (h, .row [.fmp ks vs]) := by
  simp [frzMS, hj, hs, frzMR, frzML, frzM]
theorem frzMS_keep {i g j h : Nat} {ks vs c : List AV} {σ : Sig} (hs : σ j = (h, .row c)) (hj : j ≠ i) (hc : frzML i g ks vs c = c) : frzMS i g ks vs σ j = (h, .row c) := by
  simp [frzMS, hj, hs, frzMR, hc]
/-- A map becomes persistent; F, S: what is kept in mind. -/
theorem w_frzM {Q : Post} {e : Nat → AV} {σ : Sig} {b : IR} {t i g : Nat} {ks vs : List AV} (F : List (Nat × AV)) (S : List (Nat × (Nat × Res))) (h1 : e t = .map i g) (hσ : σ i = (g, .row [.mpv ks vs])) (hF : slots F (frzME i g ks vs e)) (hS : slots S (frzMS i g ks vs σ))
    (hk : ∀ e' σ', awp P b Q (updL F e') (updL S σ')) : awp P (.seq (.frz (.t t)) b) Q e σ := by
  show frzW (e t) e σ (seqQ (awp P b Q) Q .nor)
  rw [h1]
  show (match σ i with | (g', .row [.mpv ks vs]) => g = g' ∧ seqQ (awp P b Q) Q .nor (frzME i g ks vs e) (frzMS i g ks vs σ) | _ => False)
  rw [hσ]
  refine ⟨rfl, ?_⟩
  have := hk (frzME i g ks vs e) (frzMS i g ks vs σ)
  rw [updL_slots hF, updL_slots hS] at this
  exact this
end Go.Abs
