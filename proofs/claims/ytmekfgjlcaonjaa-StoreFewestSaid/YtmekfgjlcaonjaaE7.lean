/- A part of the proofs of the laws of this seat: contracts of the functions that they reach, each proved of the program's form in Lean. No condition beyond those that each contract names. -/
import Derived.Test.YtmekfgjlcaonjaaE2
import Derived.Test.YtmekfgjlcaonjaaC14
import Derived.Test.YtmekfgjlcaonjaaC13
import Derived.Test.YtmekfgjlcaonjaaC12
import Derived.Test.YtmekfgjlcaonjaaC11
import Derived.Test.YtmekfgjlcaonjaaC10
import Derived.Test.YtmekfgjlcaonjaaC9
import Derived.Test.YtmekfgjlcaonjaaC8
import Derived.Test.YtmekfgjlcaonjaaC7
import Derived.Test.YtmekfgjlcaonjaaC5
import Derived.Test.YtmekfgjlcaonjaaC4
import Derived.Test.YtmekfgjlcaonjaaC2
import Derived.Test.YtmekfgjlcaonjaaC1
import Derived.Test.YtmekfgjlcaonjaaB
set_option linter.unusedVariables false
set_option linter.unusedSimpArgs false
set_option maxRecDepth 20000
set_option maxHeartbeats 4000000
namespace Go.Abs
open Go.Proofs
def rlB (p b : List Int) : List Int := if b.length < p.length then p else b
def rlongF (s : Sea) : Nat → List Int → List Int → List Int
  | 0, p, b => rlB p b
  | k + 1, p, b => foldI (fun st (n : Nat) => if st.length < s.gs.length then (if againN s.gs p (n : Int) = 0 then rlongF s k (p ++ [(n : Int)]) st else st) else st) (min (combF s.ss) (usedF p + 1)).toNat 0 (rlB p b)
theorem growF_pos (s : Sea) : ∀ (k : Nat) (p : List Int) (r : Int) (b : List Int), 0 < r → growF s (want1 s) k p r b = b
  | 0, p, r, b, h => by rw [growF, want1, if_pos h]
  | k + 1, p, r, b, h => by
    have e : want1 s b p r = (b, false) := by rw [want1, if_pos h]
    rw [growF, e]; rfl
theorem growF_full (s : Sea) (k : Nat) (p : List Int) (b : List Int) (hb : b.length = s.gs.length) (hp : p.length ≤ s.gs.length) : growF s (want1 s) k p 0 b = b := by
  have e : want1 s b p 0 = (b, false) := by rw [want1, if_neg (by decide), if_neg (by omega), decide_eq_false (by omega)]
  cases k with
  | zero => rw [growF, e]
  | succ k => rw [growF, e]; rfl
theorem foldI_inv {α : Type} {f g : α → Nat → α} {I : α → Prop} (h : ∀ st n, I st → f st n = g st n ∧ I (g st n)) : ∀ (m n : Nat) (st : α), I st → foldI f m n st = foldI g m n st ∧ I (foldI g m n st)
  | 0, _, _, h0 => ⟨rfl, h0⟩
  | m + 1, n, st, h0 => by
    have h1 := h st n h0
    have h2 := foldI_inv h m (n + 1) (g st n) h1.2
    rw [foldI, foldI, h1.1]
    exact h2
theorem foldI_const {α : Type} {f : α → Nat → α} {st : α} (h : ∀ n, f st n = st) : ∀ (m n : Nat), foldI f m n st = st
  | 0, _ => rfl
  | m + 1, n => by rw [foldI, h n, foldI_const h m (n + 1)]
theorem rlongF_eq (s : Sea) : ∀ (k : Nat) (p b : List Int), p.length + k = s.gs.length → b.length ≤ s.gs.length → growF s (want1 s) k p 0 b = rlongF s k p b ∧ (rlongF s k p b).length ≤ s.gs.length
  | 0, p, b, hk, hb => by
    have h1 : growF s (want1 s) 0 p 0 b = rlB p b := by
      rw [growF, want1, if_neg (by decide), rlB]; split <;> rfl
    refine ⟨h1, ?_⟩
    show (rlB p b).length ≤ _
    unfold rlB; split <;> omega
  | k + 1, p, b, hk, hb => by
    have hB : (rlB p b).length ≤ s.gs.length := by unfold rlB; split <;> omega
    have hag : ∀ n : Nat, 0 ≤ againN s.gs p n := fun n => by unfold againN; omega
    have key := foldI_inv (f := fun (st : List Int) (n : Nat) => growF s (want1 s) k (p ++ [(n : Int)]) (0 + againN s.gs p (n : Int)) st) (g := fun (st : List Int) (n : Nat) => if st.length < s.gs.length then (if againN s.gs p (n : Int) = 0 then rlongF s k (p ++ [(n : Int)]) st else st) else st)
      (I := fun st => st.length ≤ s.gs.length) (fun st n hst => by
        have hl : (p ++ [(n : Int)]).length = p.length + 1 := by simp
        have h0 := hag n
        try dsimp only at hst ⊢
        by_cases hz : againN s.gs p (n : Int) = 0
        · rw [if_pos hz, hz]
          by_cases hf : st.length < s.gs.length
          · rw [if_pos hf]
            have := rlongF_eq s k (p ++ [(n : Int)]) st (by omega) hst
            exact ⟨this.1, this.2⟩
          · rw [if_neg hf]
            exact ⟨growF_full s k _ st (by omega) (by omega), hst⟩
        · rw [growF_pos s k _ _ st (by omega), if_neg hz]
          constructor
          · split <;> rfl
          · split <;> exact hst) (min (combF s.ss) (usedF p + 1)).toNat 0 (rlB p b) hB
    refine ⟨?_, key.2⟩
    have e : want1 s b p 0 = (rlB p b, decide ((rlB p b).length < s.gs.length)) := by
      rw [want1, if_neg (by decide), rlB]; split <;> rfl
    rw [growF, e]
    try dsimp only
    by_cases hf : (rlB p b).length < s.gs.length
    · rw [if_pos (decide_eq_true hf)]; exact key.1
    · rw [if_neg (by simp; omega)]
      symm
      show foldI _ _ 0 (rlB p b) = _
      exact foldI_const (fun n => if_neg hf) _ _
end Go.Abs
