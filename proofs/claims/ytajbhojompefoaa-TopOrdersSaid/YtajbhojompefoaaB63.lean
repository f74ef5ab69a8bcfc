/- A part of the proofs of the laws of this seat: contracts of the functions that they reach, each proved of the program's form in Lean. No condition beyond those that each contract names. -/
import Derived.Test.YtajbhojompefoaaB0
import Derived.Test.YtajbhojompefoaaB8
import Derived.Test.YtajbhojompefoaaB9
import Derived.Test.YtajbhojompefoaaB10
import Derived.Test.YtajbhojompefoaaB11
import Derived.Test.YtajbhojompefoaaB12
import Derived.Test.YtajbhojompefoaaB30
import Derived.Test.YtajbhojompefoaaB60
import Derived.Test.YtajbhojompefoaaB61
set_option linter.unusedVariables false
set_option linter.unusedSimpArgs false
set_option maxRecDepth 20000
set_option maxHeartbeats 4000000
/-! ### TopOrders: the counts -/
namespace Go.Abs
open Go.Proofs
/-- The law's counts. -/
def cntL (n : Nat) (r : Rule) : Nat := ((roundsL n).filter fun l => keepsB (keptG n) (atL l) r).length
def lawT (n x y : Nat) : Bool :=
  let L := (roundsL n).length
  let each := L / n
  L % n == 0 && 0 < L && L < 1000 && cntL n ⟨4, x, 0, 3⟩ == each && cntL n ⟨5, x, 0, 3⟩ == each && cntL n ⟨2, x, y, 2⟩ == 2 * each && (each ≤ 1 || 2 * cntL n ⟨1, x, y, 2⟩ == L) &&
    (roundsL n).all (fun l => decide (l.length = n) && ordB n [] l) && rErr ⟨4, x, 0, 3⟩ n == 0 && rErr ⟨5, x, 0, 3⟩ n == 0 && rErr ⟨2, x, y, 2⟩ n == 0 && rErr ⟨1, x, y, 2⟩ n == 0
def lawA : Bool := (List.range 8).all fun n => decide (n < 2) || (List.range n).all fun x => (List.range n).all fun y => decide (x = y) || lawT n x y
theorem lawA_t : lawA = true := by decide +kernel
theorem lawT_all {n x y : Nat} (h1 : n < 8) (h2 : 2 ≤ n) (hx : x < n) (hy : y < n) (hne : x ≠ y) : lawT n x y = true := by
  have h := lawA_t
  simp only [lawA, List.all_eq_true, List.mem_range, Bool.or_eq_true, decide_eq_true_eq] at h
  rcases h n h1 with h | h
  · omega
  · rcases h x hx y hy with h | h
    · exact absurd h hne
    · exact h
end Go.Abs
