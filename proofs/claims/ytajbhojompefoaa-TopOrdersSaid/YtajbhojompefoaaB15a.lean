/- A part of the proofs of the laws of this seat: contracts of the functions that they reach, each proved of the program's form in Lean. No condition beyond those that each contract names. -/
import Derived.Test.YtajbhojompefoaaB0
import Derived.Test.YtajbhojompefoaaB2
import Derived.Test.YtajbhojompefoaaB3
import Derived.Test.YtajbhojompefoaaB4
import Derived.Test.YtajbhojompefoaaB5
set_option linter.unusedVariables false
set_option linter.unusedSimpArgs false
set_option maxRecDepth 20000
set_option maxHeartbeats 4000000
/-! ### Guests: long lists, copies -/
namespace Go.Abs
open Go.Proofs
variable {P : Program}
/-- The element at a place that is known. -/
theorem w_ixK {K : (Nat → AV) → Sig → Prop} {e : Nat → AV} {σ : Sig} {α : Type} {f : α → List AV} {l : List α} {y : α} {d sz : Nat} {t : Tag} {x i : IOpd} {r : List IStep} {k : IntKind} {n : Int} (hy : l[n.toNat]? = some y) (hn : 0 ≤ n) (hx : x.ev e = .slc sz (l.map f) t) (hi : i.ev e = .int k n)
    (hk : stepsW P r K (upd e d (.pin (f y))) σ) : stepsW P (⟨some d, none, .ixA sz x i⟩ :: r) K e σ :=
  w_ixM hx hi ⟨hn, by have := (List.getElem?_eq_some_iff.1 hy).1; omega⟩ fun y' hy' => by rw [hy] at hy'; cases hy'; exact hk
theorem zK {K : (Nat → AV) → Sig → Prop} {e : Nat → AV} {σ : Sig} {α : Type} {f : α → List AV} {l : List α} {y : α} {d sz : Nat} {t : Tag} {x i : IOpd} {r : List IStep} {k : IntKind} {n : Int} (hy : l[n.toNat]? = some y) (hk : stepsW P r K (upd e d (.pin (f y))) σ) (hx : x.ev e = .slc sz (l.map f) t := by with_unfolding_all exact rfl) (hi : i.ev e = .int k n := by with_unfolding_all exact rfl) (hn : 0 ≤ n := by with_unfolding_all exact sd) : stepsW P (⟨some d, none, .ixA sz x i⟩ :: r) K e σ := w_ixK hy hn hx hi hk
def longB (l : List Guest) : Bool := l.any (fun g => decide (40 < g.name.size)) || decide (14 < l.length)
theorem longB_f {l : List Guest} (h : longB l = false) : l.length ≤ 14 ∧ ∀ g ∈ l, g.name.size ≤ 40 := by
  simp [longB] at h; exact ⟨h.2, h.1⟩
abbrev optS (o : Option (List Int)) : AV := .slc 1 (iR (o.getD [])) .non
theorem sub_opt : ∀ o, Sub (optV o) (optS o)
  | none => Sub.nil
  | some _ => Sub.refl _
theorem ACall.eqO {a b : Option (List Int)} {σ : Sig} {d : Nat} {Q : AV → Sig → Prop} (h : (a.getD []).length < 2 ^ 62) (hQ : Q (.bool (decide (a.getD [] = b.getD []))) σ) : ACall Try.prog 17 [optV a, optV b] σ d Q :=
  ACall.wval (args' := [optS a, optS b]) (.cons (sub_opt a) (.cons (sub_opt b) .nil)) (eq_c (a.getD []) (b.getD []) h) rfl rfl hQ
end Go.Abs
