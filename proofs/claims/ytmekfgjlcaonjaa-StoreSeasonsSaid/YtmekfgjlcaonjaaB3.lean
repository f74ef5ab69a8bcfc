/- A part of the proofs of the laws of this seat: contracts of the functions that they reach, each proved of the program's form in Lean. No condition beyond those that each contract names. -/
import Derived.Test.YtmekfgjlcaonjaaB0
import Derived.Test.YtmekfgjlcaonjaaB2
set_option linter.unusedVariables false
set_option linter.unusedSimpArgs false
set_option maxRecDepth 20000
set_option maxHeartbeats 4000000
/-! ### Lists of guests -/
namespace Go.Abs
open Go.Proofs
def eatsV (g : Guest) (d : Dish) : Int := if bitV .and .i64 d.parts g.never ≠ 0 then 2 else if bitV .and .i64 d.parts g.maybe ≠ 0 then 3 else 1
/-- Eats: the verdict and the error. -/
def eatsP (g : Guest) (d : Dish) : Int × Int := if gErr g ≠ 0 then (0, gErr g) else if dErr d ≠ 0 then (0, dErr d) else (eatsV g d, 0)
end Go.Abs
