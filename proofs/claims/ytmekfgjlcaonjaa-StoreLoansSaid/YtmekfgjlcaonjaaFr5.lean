/- A part of the proofs of the laws of this seat: contracts of the functions that they reach, each proved of the program's form in Lean. No condition beyond those that each contract names. -/
import Derived.Test.YtmekfgjlcaonjaaFr2
set_option linter.unusedVariables false
set_option linter.unusedSimpArgs false
set_option maxRecDepth 20000
set_option maxHeartbeats 4000000
namespace Go.Abs
open Go.RowKit
variable {P : Program}
theorem RelRows.one {G : GS} {b : Nat} : ∀ {xs : List AV} {o : Nat}, (∀ i x, xs[i]? = some x → ∃ v, G.K b (o + i) = some v ∧ v.oneCell' = true ∧ Rel (GS.pure G.K) x v) → RelRows G b o 1 (xs.map fun x => [x])
  | [], _, _ => trivial
  | x :: xs, o, h => ⟨rfl, ⟨h 0 x rfl, trivial⟩, RelRows.one fun i y hy => by
      have := h (i + 1) y (by simpa using hy)
      rwa [show o + (i + 1) = o + 1 + i by omega] at this⟩
end Go.Abs
namespace Go.Proofs.Ytmekfgjlcaonjaa
open Go.ChangeShapes Go.WideShapes Go.ChangeAt Go.RowKit Go.Abs
theorem cellsI : Try.prog.cellsOf 3 = 1 := by kernel_rfl
end Go.Proofs.Ytmekfgjlcaonjaa
