/- A part of the proofs of the laws of this seat: contracts of the functions that they reach, each proved of the program's form in Lean. No condition beyond those that each contract names. -/
import Derived.Test.YtmekfgjlcaonjaaB0
import Derived.Test.YtmekfgjlcaonjaaB1
set_option linter.unusedVariables false
set_option linter.unusedSimpArgs false
set_option maxRecDepth 20000
set_option maxHeartbeats 4000000
/-! ### A box out of numbers -/
namespace Go.Abs
open Go.Proofs
theorem boxOf_s (l : List Int) (hl : l.length < 2 ^ 62) : RawC Try.prog 17 [.slc 1 (iR l) .non] (sg []) (SR (fun (x : Nat × Int) v => v = .ref 6 x.1 0) (fun x => [(6, (x.1, .row [.int .u64 x.2]))])) :=
  (boxOf_c l hl).mono fun _ _ ⟨g, w, h1, h2⟩ => ⟨(g, w), h1, h2, trivial⟩
end Go.Abs
