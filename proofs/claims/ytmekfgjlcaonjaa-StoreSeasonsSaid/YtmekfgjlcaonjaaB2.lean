/- A part of the proofs of the laws of this seat: contracts of the functions that they reach, each proved of the program's form in Lean. No condition beyond those that each contract names. -/
import Derived.Test.YtmekfgjlcaonjaaB0
set_option linter.unusedVariables false
set_option linter.unusedSimpArgs false
set_option maxRecDepth 20000
set_option maxHeartbeats 4000000
/-! ### Guests and dishes -/
namespace Go.Abs
open Go.Proofs
abbrev gA (g : Guest) : AV := .agg [.str g.name, .int .i64 g.rank, .int .i64 g.honour, .int .i64 g.never, .int .i64 g.maybe]
abbrev dA (g : Dish) : AV := .agg [.int .i64 g.turn, .int .i64 g.parts, .int .i64 g.cost]
theorem gErr_eq (g : Guest) : gErr g = if namedB g.name = true then (if gOK g = true then 0 else 2) else 3 := rfl
end Go.Abs
