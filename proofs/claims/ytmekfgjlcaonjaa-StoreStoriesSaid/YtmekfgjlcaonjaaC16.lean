/- A part of the proofs of the laws of this seat: contracts of the functions that they reach, each proved of the program's form in Lean. No condition beyond those that each contract names. -/
import Derived.Test.YtmekfgjlcaonjaaC13
import Derived.Test.YtmekfgjlcaonjaaC12
import Derived.Test.YtmekfgjlcaonjaaC11
import Derived.Test.YtmekfgjlcaonjaaC10
import Derived.Test.YtmekfgjlcaonjaaC9
import Derived.Test.YtmekfgjlcaonjaaC8
import Derived.Test.YtmekfgjlcaonjaaC7
import Derived.Test.YtmekfgjlcaonjaaC5
import Derived.Test.YtmekfgjlcaonjaaC4
import Derived.Test.YtmekfgjlcaonjaaC2
import Derived.Test.YtmekfgjlcaonjaaC1
import Derived.Test.YtmekfgjlcaonjaaB
set_option linter.unusedVariables false
set_option linter.unusedSimpArgs false
set_option maxRecDepth 20000
set_option maxHeartbeats 4000000
namespace Go.Abs
open Go.Proofs
theorem orderL_c (g : Nat) (w : Int) (n : Nat) (hn : 1 ≤ n ∧ n ≤ 1000) : RawC Try.prog 76 [.ref 1000 g 0, .int .i64 n] (BoxS g w) (BoxR g fun av => ∃ l, av = .slc 1 (iR l) .non ∧ l.length = n ∧ isPerm n l) :=
  (order_c g w n hn).mono fun _ _ ⟨w', ⟨l, h1, h2⟩, h3⟩ => ⟨w', ⟨l, h1, h2.len, h2⟩, h3⟩
end Go.Abs
