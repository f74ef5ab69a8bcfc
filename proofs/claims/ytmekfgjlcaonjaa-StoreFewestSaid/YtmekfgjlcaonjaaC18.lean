/- A part of the proofs of the laws of this seat: contracts of the functions that they reach, each proved of the program's form in Lean. No condition beyond those that each contract names. -/
import Derived.Test.YtmekfgjlcaonjaaC14
import Derived.Test.YtmekfgjlcaonjaaC13
import Derived.Test.YtmekfgjlcaonjaaC12
import Derived.Test.YtmekfgjlcaonjaaC11
import Derived.Test.YtmekfgjlcaonjaaC10
import Derived.Test.YtmekfgjlcaonjaaC9
import Derived.Test.YtmekfgjlcaonjaaC8
import Derived.Test.YtmekfgjlcaonjaaC7
import Derived.Test.YtmekfgjlcaonjaaC5
import Derived.Test.YtmekfgjlcaonjaaC4
import Derived.Test.YtmekfgjlcaonjaaC2
import Derived.Test.YtmekfgjlcaonjaaC1
import Derived.Test.YtmekfgjlcaonjaaB
set_option linter.unusedVariables false
set_option linter.unusedSimpArgs false
set_option maxRecDepth 20000
set_option maxHeartbeats 4000000
namespace Go.Abs
open Go.Proofs
/-- How many combinations there are, from the end. -/
def prodR : List Int → Int
  | [] => 1
  | a :: r => prodR r * a
theorem foldl_mul : ∀ (l : List Int) (x : Int), l.foldl (· * ·) x = x * prodR l
  | [], x => by simp [prodR]
  | a :: r, x => by
    rw [List.foldl_cons, foldl_mul r, prodR, Int.mul_assoc, Int.mul_comm a]
theorem combF_prod (l : List Int) : combF l = prodR l := by rw [combF, foldl_mul, Int.one_mul]
theorem prodR_pos : ∀ {l : List Int}, (∀ x ∈ l, 1 ≤ x ∧ x ≤ 6) → 1 ≤ prodR l
  | [], _ => by simp [prodR]
  | a :: r, h => by
    have h1 := prodR_pos (l := r) fun x hx => h x (by simp [hx])
    have h2 := h a (by simp)
    have := Int.mul_le_mul h1 h2.1 (by omega) (by omega)
    simp only [prodR]; omega
end Go.Abs
