/- A part of the proofs of the laws of this seat: contracts of the functions that they reach, each proved of the program's form in Lean. No condition beyond those that each contract names. -/
import Derived.Test.YtmekfgjlcaonjaaD7
import Derived.Test.YtmekfgjlcaonjaaD1
import Derived.Test.YtmekfgjlcaonjaaC4
import Derived.Test.YtmekfgjlcaonjaaC3
import Derived.Test.YtmekfgjlcaonjaaC2
import Derived.Test.YtmekfgjlcaonjaaC1
import Derived.Test.YtmekfgjlcaonjaaB
set_option linter.unusedVariables false
set_option linter.unusedSimpArgs false
set_option maxRecDepth 20000
set_option maxHeartbeats 4000000
namespace Go.Abs
open Go.Proofs
def Lnk.row (g : Lnk) : List AV := [.int .i64 g.f, .int .i64 g.t, .int .i64 g.lo, .int .i64 g.hi]
section
variable {P : Program}
theorem w_frzSl {Q : Post} {e : Nat → AV} {σ : Sig} {t sz : Nat} {es : List (List AV)} {tg : Tag} (h : e t = .slc sz es tg) (hk : Q .nor e σ) : awp P (.frz (.t t)) Q e σ := by
  show frzW (e t) e σ (Q .nor)
  rw [h]; exact hk
theorem w_ixE {K : (Nat → AV) → Sig → Prop} {e : Nat → AV} {σ : Sig} {α : Type} {f : α → List AV} {l : List α} {d sz : Nat} {t : Tag} {x i : IOpd} {r : List IStep} {k : IntKind} {n : Nat} {y : α} (hy : l[n]? = some y) (hx : x.ev e = .slc sz (l.map f) t) (hi : i.ev e = .int k (n : Int))
    (hk : stepsW P r K (upd e d (.pin (f y))) σ) : stepsW P (⟨some d, none, .ixA sz x i⟩ :: r) K e σ := by
  obtain ⟨hn, hy'⟩ := List.getElem?_eq_some_iff.1 hy
  refine w_ixM hx hi (by omega) fun z hz => ?_
  rw [Int.toNat_natCast, hy] at hz
  obtain rfl : y = z := by simpa using hz
  exact hk
end
end Go.Abs
