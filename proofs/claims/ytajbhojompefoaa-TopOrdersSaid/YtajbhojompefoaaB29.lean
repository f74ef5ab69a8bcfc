/- A part of the proofs of the laws of this seat: contracts of the functions that they reach, each proved of the program's form in Lean. No condition beyond those that each contract names. -/
import Derived.Test.YtajbhojompefoaaB0
import Derived.Test.YtajbhojompefoaaB20
import Derived.Test.YtajbhojompefoaaB25
import Derived.Test.YtajbhojompefoaaB1
set_option linter.unusedVariables false
set_option linter.unusedSimpArgs false
set_option maxRecDepth 20000
set_option maxHeartbeats 4000000
/-! ### The box's orders; copies of numbers -/
namespace Go.Abs
open Go.Proofs
section
variable {P : Program}
theorem w_apmN {K : (Nat → AV) → Sig → Prop} {e : Nat → AV} {σ : Sig} {x y : IOpd} {r : List IStep} {d i : Nat} {a : Int} {t : Tag} (hx : x.ev e = .nsl) (hy : y.ev e = .slc 1 [[.int .i64 a]] t)
    (hk : ∀ g, stepsW P r K (upd e d (.msl i g 1 1)) (newS σ i g ([a].map (AV.int .i64)))) : stepsW P (⟨some d, none, .apm 1 8 x y i⟩ :: r) K e σ := by
  refine w_det (p := True ∧ 1 = 1 ∧ (0 + 1) * 8 ≤ 140737488355328) (v := fun g => .msl i g (0 + 1) 1) (σ' := fun g => newS σ i g ([] ++ [[AV.int .i64 a]].flatten)) (fun g => ?_) ⟨trivial, rfl, by omega⟩ hk
  show (match baseM 1 σ (x.ev e), rowsO 1 (y.ev e) with
    | some (p, n, c, σ'), some (q, ys) => (match ys with
      | [] => some (p ∧ q, x.ev e, σ)
      | _ :: _ => some (p ∧ q ∧ (n + ys.length) * 8 ≤ 140737488355328, AV.msl i g (n + ys.length) 1, newS σ' i g (c ++ ys.flatten)))
    | _, _ => none) = _
  rw [hx, hy]; rfl
theorem w_apmI {K : (Nat → AV) → Sig → Prop} {e : Nat → AV} {σ : Sig} {x y : IOpd} {r : List IStep} {d i i' g' n : Nat} {a : Int} {xs : List Int} {t : Tag} (hx : x.ev e = .msl i' g' n 1) (hσ : σ i' = (g', .row (xs.map (AV.int .i64)))) (hn : xs.length = n) (hn2 : n ≤ 1000000) (hy : y.ev e = .slc 1 [[.int .i64 a]] t)
    (hk : ∀ g, stepsW P r K (upd e d (.msl i g (n + 1) 1)) (newS (upd σ i' (g', .dead)) i g ((xs ++ [a]).map (AV.int .i64)))) : stepsW P (⟨some d, none, .apm 1 8 x y i⟩ :: r) K e σ := by
  refine w_det (p := (g' = g' ∧ 1 = 1 ∧ (xs.map (AV.int .i64)).length = n * 1) ∧ 1 = 1 ∧ (n + 1) * 8 ≤ 140737488355328) (v := fun g => .msl i g (n + 1) 1) (σ' := fun g => newS (upd σ i' (g', .dead)) i g (xs.map (AV.int .i64) ++ [[AV.int .i64 a]].flatten)) (fun g => ?_) ⟨⟨rfl, rfl, by simp; omega⟩, rfl, by omega⟩ fun g => ?_
  · show (match baseM 1 σ (x.ev e), rowsO 1 (y.ev e) with
      | some (p, n, c, σ'), some (q, ys) => (match ys with
        | [] => some (p ∧ q, x.ev e, σ)
        | _ :: _ => some (p ∧ q ∧ (n + ys.length) * 8 ≤ 140737488355328, AV.msl i g (n + ys.length) 1, newS σ' i g (c ++ ys.flatten)))
      | _, _ => none) = _
    rw [hx, hy]
    simp only [baseM, hσ, rowsO]; rfl
  · have := hk g
    rw [List.map_append] at this
    exact this
end
theorem isPerm.of_perm {n : Nat} {l l' : List Int} (h : isPerm n l) (hp : List.Perm l' l) : isPerm n l' :=
  ⟨by rw [hp.length_eq, h.len], hp.nodup_iff.2 h.nd, fun x hx => h.bd x (hp.mem_iff.1 hx)⟩
theorem isPerm.snoc {n : Nat} {l : List Int} (h : isPerm n l) : isPerm (n + 1) (l ++ [(n : Int)]) := by
  refine ⟨by simp [h.len], ?_, fun x hx => ?_⟩
  · rw [List.nodup_append]
    exact ⟨h.nd, by simp, fun a ha b hb => by simp at hb; subst hb; have := h.bd a ha; omega⟩
  · rcases List.mem_append.1 hx with hx | hx
    · have := h.bd x hx; omega
    · simp at hx; omega
theorem swap_perm {l : List Int} {i k : Nat} (hi : i < l.length) (hk : k < l.length) : List.Perm ((l.set i (l.getD k 0)).set k (l.getD i 0)) l := by
  have e1 : l.getD k 0 = l[k] := by simp [hk]
  have e2 : l.getD i 0 = l[i] := by simp [hi]
  rw [e1, e2]
  exact List.set_set_perm hi hk
/-- A list that has all numbers is an order of them. -/
theorem isPerm.of_all : ∀ (n : Nat) (l : List Int), l.length = n → (∀ g : Nat, g < n → (g : Int) ∈ l) → isPerm n l
  | 0, l, hl, _ => by
    have : l = [] := List.length_eq_zero_iff.1 hl
    subst this
    exact ⟨rfl, List.nodup_nil, fun x hx => by cases hx⟩
  | n + 1, l, hl, h => by
    have hn := h n (by omega)
    have hp : List.Perm l ((n : Int) :: l.erase (n : Int)) := List.perm_cons_erase hn
    have he : (l.erase (n : Int)).length = n := by rw [List.length_erase_of_mem hn]; omega
    have ih := isPerm.of_all n (l.erase (n : Int)) he fun g hg => by
      rw [List.mem_erase_of_ne (by omega)]; exact h g (by omega)
    have h1 : isPerm (n + 1) ((n : Int) :: l.erase (n : Int)) := by
      refine ⟨by simp [he], ?_, fun x hx => ?_⟩
      · rw [List.nodup_cons]
        exact ⟨fun hc => by have := ih.bd _ hc; omega, ih.nd⟩
      · rcases List.mem_cons.1 hx with rfl | hx
        · omega
        · have := ih.bd x hx; omega
    exact h1.of_perm hp
def ordV (xs : List Int) (g : Nat) : AV := match xs with
  | [] => .nsl
  | _ :: _ => .msl 5 g xs.length 1
def ordS (xs : List Int) (g : Nat) : List (Nat × (Nat × Res)) := match xs with
  | [] => []
  | _ :: _ => [(5, (g, .row (xs.map (AV.int .i64))))]
end Go.Abs
