/- A part of the proofs of the laws of this seat: contracts of the functions that they reach, each proved of the program's form in Lean. No condition beyond those that each contract names. -/
import Derived.Test.YtmekfgjlcaonjaaD1
import Derived.Test.YtmekfgjlcaonjaaC3
import Derived.Test.YtmekfgjlcaonjaaC2
import Derived.Test.YtmekfgjlcaonjaaC1
import Derived.Test.YtmekfgjlcaonjaaB
import Derived.Test.YtmekfgjlcaonjaaD8
set_option linter.unusedVariables false
set_option linter.unusedSimpArgs false
set_option maxRecDepth 20000
set_option maxHeartbeats 4000000
namespace Go.Abs
theorem permsK_snoc (n : Nat) : ∀ (k : Nat) (now : List Int), permsK n (k + 1) now = (permsK n k now).flatMap fun o => (candF o n 0).map fun g => o ++ [g]
  | 0, now => by
    show (candF now n 0).flatMap (fun g => [now ++ [g]]) = [now].flatMap _
    rw [List.flatMap_cons, List.flatMap_nil, List.append_nil]
    exact (List.map_eq_flatMap (f := fun g => now ++ [g]) (l := candF now n 0)).symm
  | k + 1, now => by
    show (candF now n 0).flatMap (fun g => permsK n (k + 1) (now ++ [g])) = ((candF now n 0).flatMap fun g => permsK n k (now ++ [g])).flatMap _
    rw [List.flatMap_assoc]
    exact flatMap_congr' fun g _ => permsK_snoc n k (now ++ [g])
theorem candF_snoc (now : List Int) : ∀ (m s : Nat), candF now (m + 1) s = candF now m s ++ (if idxI now ((s + m : Nat) : Int) < 0 then [((s + m : Nat) : Int)] else [])
  | 0, s => by
    simp only [candF, Nat.add_zero, List.nil_append]
    by_cases h : 0 ≤ idxI now (s : Int)
    · rw [if_pos h, if_neg (by omega)]
    · rw [if_neg h, if_pos (by omega)]
  | m + 1, s => by
    have ih := candF_snoc now m (s + 1)
    rw [candF, ih, candF]
    have e : s + 1 + m = s + (m + 1) := by omega
    rw [e]
    by_cases h : 0 ≤ idxI now (s : Int)
    · rw [if_pos h, if_pos h]
    · rw [if_neg h, if_neg h, List.cons_append]
end Go.Abs
