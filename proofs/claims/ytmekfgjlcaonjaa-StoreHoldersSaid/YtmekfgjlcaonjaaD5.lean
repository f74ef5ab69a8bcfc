/- A part of the proofs of the laws of this seat: contracts of the functions that they reach, each proved of the program's form in Lean. No condition beyond those that each contract names. -/
import Derived.Test.YtmekfgjlcaonjaaD2
import Derived.Test.YtmekfgjlcaonjaaD1
import Derived.Test.YtmekfgjlcaonjaaC7
import Derived.Test.YtmekfgjlcaonjaaC6
import Derived.Test.YtmekfgjlcaonjaaC4
import Derived.Test.YtmekfgjlcaonjaaC3
import Derived.Test.YtmekfgjlcaonjaaC2
import Derived.Test.YtmekfgjlcaonjaaC1
import Derived.Test.YtmekfgjlcaonjaaB
set_option linter.unusedVariables false
set_option linter.unusedSimpArgs false
set_option maxRecDepth 20000
set_option maxHeartbeats 4000000
namespace Go.Abs
open Go.Proofs
theorem whoAt_nn {c : Chn} (ok : Okc c) (o : List Int) (j : Nat) : 0 ≤ whoAt c o j ∧ whoAt c o j ≤ 19 := by
  have := ok.own
  rcases whoAt_mem c o j with h | ⟨l, hl, h⟩ | h
  · omega
  · have := ok.to l hl; omega
  · omega
end Go.Abs
