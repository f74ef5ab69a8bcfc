/- A part of the proofs of the laws of this seat: contracts of the functions that they reach, each proved of the program's form in Lean. No condition beyond those that each contract names. -/
import Derived.Test.YtajbhojompefoaaB0
import Derived.Test.YtajbhojompefoaaB5
import Derived.Test.YtajbhojompefoaaB7
import Derived.Test.YtajbhojompefoaaB8
import Derived.Test.YtajbhojompefoaaB9
import Derived.Test.YtajbhojompefoaaB11
import Derived.Test.YtajbhojompefoaaB12
import Derived.Test.YtajbhojompefoaaB16
set_option linter.unusedVariables false
set_option linter.unusedSimpArgs false
set_option maxRecDepth 20000
set_option maxHeartbeats 4000000
/-! ### Parties made of numbers are valid -/
namespace Go.Abs
open Go.Proofs
theorem rsErr_all {n : Int} : ∀ {rs : List Rule}, (∀ r ∈ rs, rErr r n = 0) → rsErr n rs = 0
  | [], _ => rfl
  | r :: rs, h => by rw [rsErr, if_pos (h r (by simp))]; exact rsErr_all fun x hx => h x (by simp [hx])
theorem pErr_made {gs : List Guest} {rs : List Rule} (hg : madeG gs) (h1 : 1 ≤ gs.length) (h7 : gs.length ≤ 7) (hr : rs.length ≤ 12) (h : ∀ r ∈ rs, rErr r gs.length = 0) : pErr gs rs = 0 := by
  rw [pErr, if_neg (by omega), if_neg (by omega), if_pos (madeG_ok hg).1, if_neg (by omega)]; exact rsErr_all h
theorem rErr_w0 {k a b w n : Int} (h : rErr ⟨k, a, b, w⟩ n = 0) : rErr ⟨k, a, b, 0⟩ n = 0 := by
  unfold rErr at h ⊢
  dsimp only at h ⊢
  split at h
  · rename_i h1
    rw [if_pos h1]
    split at h
    · rename_i h2
      rw [if_pos h2]
      split at h
      · rename_i h3
        rw [if_pos h3]
        split at h
        · cases h
        · rename_i h4
          rw [if_neg h4]; rfl
      · rename_i h3; exact absurd h h3
    · rename_i h2; exact absurd h h2
  · cases h
theorem bestP_cases {gs : List Guest} {rs : List Rule} (h : pErr gs rs = 0) : (okL gs rs = [] ∧ bestP gs rs = (none, 0, 12)) ∨ ∃ l ∈ okL gs rs, bestP gs rs = (some l, prS gs rs l, 0) ∧ ∀ x ∈ okL gs rs, prS gs rs l ≤ prS gs rs x := by
  have hr : rs.length ≤ 62 := by have := (pOK_of h).r12; omega
  have hb := bestB_eq gs rs hr
  have hp : bestP gs rs = if (bestB gs rs).1 = none then (none, 0, 12) else ((bestB gs rs).1, (bestB gs rs).2, 0) := by rw [bestP, if_pos h]
  by_cases h0 : okL gs rs = []
  · left
    rw [h0, bestL_nil] at hb
    rw [hb] at hp
    exact ⟨h0, hp⟩
  · right
    obtain ⟨l, h1, h2, h3⟩ := bestL_least (prS gs rs) h0
    rw [hb, h2] at hp
    exact ⟨l, h1, hp, h3⟩
end Go.Abs
