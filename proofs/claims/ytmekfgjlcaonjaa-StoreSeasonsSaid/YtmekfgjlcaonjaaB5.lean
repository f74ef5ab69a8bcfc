/- A part of the proofs of the laws of this seat: contracts of the functions that they reach, each proved of the program's form in Lean. No condition beyond those that each contract names. -/
import Derived.Test.YtmekfgjlcaonjaaB4
import Derived.Test.YtmekfgjlcaonjaaB0
import Derived.Test.YtmekfgjlcaonjaaB3
import Derived.Test.YtmekfgjlcaonjaaB2
set_option linter.unusedVariables false
set_option linter.unusedSimpArgs false
set_option maxRecDepth 20000
set_option maxHeartbeats 4000000
/-! ### Menus of the program -/
namespace Go.Abs
open Go.Proofs
def costM (ds : List Dish) : List Int → Int
  | [] => 0
  | i :: r => (dAt ds i).cost + costM ds r
theorem costM_snoc (ds : List Dish) (i : Int) : ∀ m, costM ds (m ++ [i]) = costM ds m + (dAt ds i).cost
  | [] => by simp [costM]
  | x :: m => by simp only [List.cons_append, costM, costM_snoc ds i m]; omega
def dsOK (ds : List Dish) : Prop := ∀ d ∈ ds, dErr d = 0
theorem dErr_0 {d : Dish} (h : dErr d = 0) : (0 ≤ d.turn ∧ d.turn ≤ 3) ∧ (0 ≤ d.parts ∧ d.parts ≤ 255) ∧ 0 ≤ d.cost ∧ d.cost ≤ 1000 := by
  unfold dErr at h
  split at h
  · rename_i h2; clear h; simp only [Bool.and_eq_true, inB_t] at h2; exact ⟨h2.1.1, h2.1.2, h2.2⟩
  · cases h
theorem dAt_cost {ds : List Dish} (h : dsOK ds) (i : Int) : 0 ≤ (dAt ds i).cost ∧ (dAt ds i).cost ≤ 1000 := by
  unfold dAt
  cases hi : ds[i.toNat]? with
  | none => simp
  | some d => exact (dErr_0 (h d (List.mem_of_getElem? hi))).2.2
theorem costM_bd {ds : List Dish} (h : dsOK ds) : ∀ m, 0 ≤ costM ds m ∧ costM ds m ≤ 1000 * m.length
  | [] => by simp [costM]
  | i :: m => by
    have := costM_bd h m
    have := dAt_cost h i
    simp only [costM, List.length_cons]; omega
def optV (o : Option (List Int)) : AV := match o with
  | none => .nsl
  | some l => .slc 1 (iR l) .non
theorem ren_optV (ρ : List (Nat × Nat)) (o : Option (List Int)) : ren ρ (optV o) = optV o := by cases o <;> rfl
theorem optSlot {ρ : List (Nat × Nat)} {g : Nat} {o : Option (List Int)} : ((g, renR ρ (.row [optV o])) : Nat × Res) = (g, .row [optV o]) := by simp [renR, renL, ren_optV]
/-- The best menu so far, and its price. -/
def stepM (l : List Guest) (ds : List Dish) (need : Int) (acc : Option (List Int) × Int) (m : List Int) : Option (List Int) × Int :=
  if enoughB l ds m need = true ∧ (acc.1 = none ∨ costM ds m < acc.2) then (some m, costM ds m) else acc
def okAcc (acc : Option (List Int) × Int) : Prop := (∀ m, acc.1 = some m → m ≠ [])
theorem okAcc_fold {l : List Guest} {ds : List Dish} {need : Int} : ∀ {ms : List (List Int)} {acc}, okAcc acc → (∀ m ∈ ms, m ≠ []) → okAcc (ms.foldl (stepM l ds need) acc)
  | [], _, h, _ => h
  | m :: ms, acc, h, hm => by
    refine okAcc_fold (ms := ms) ?_ fun x hx => hm x (by simp [hx])
    unfold stepM
    split
    · intro x hx; cases hx; exact hm m (by simp)
    · exact h
end Go.Abs
