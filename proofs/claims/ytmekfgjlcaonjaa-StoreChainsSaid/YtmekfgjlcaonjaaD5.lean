/- A part of the proofs of the laws of this seat: contracts of the functions that they reach, each proved of the program's form in Lean. No condition beyond those that each contract names. -/
import Derived.Test.YtmekfgjlcaonjaaC7
import Derived.Test.YtmekfgjlcaonjaaC6
import Derived.Test.YtmekfgjlcaonjaaC5
import Derived.Test.YtmekfgjlcaonjaaC4
import Derived.Test.YtmekfgjlcaonjaaC3
import Derived.Test.YtmekfgjlcaonjaaC2
import Derived.Test.YtmekfgjlcaonjaaC1
import Derived.Test.YtmekfgjlcaonjaaB
import Derived.Test.YtmekfgjlcaonjaaD1
set_option linter.unusedVariables false
set_option linter.unusedSimpArgs false
set_option maxRecDepth 20000
set_option maxHeartbeats 4000000
namespace Go.Abs
open Go.Proofs
theorem okc_days {c : Chn} (h : Okc c) : DaysOK c := ⟨⟨h.m.2.2.2.2, h.m.2.2.2.1⟩, fun l hl => (h.h l hl).2.2.2⟩
theorem ordsF_mem {c : Chn} {o : List Int} (h : o ∈ ordsF c) : o.length = c.ls.length ∧ ∀ i ∈ o, 0 ≤ i ∧ i < (c.ls.length : Int) := by
  unfold ordsF at h
  split at h
  · obtain ⟨x, hx, rfl⟩ := List.mem_map.1 h
    have := talesF_mem hx
    exact ⟨this.1, this.2.2.2⟩
  · cases h
theorem ordsF_ne {c : Chn} (he : chainE c = 0) : ordsF c ≠ [] := by
  rw [ordsF, if_pos he]
  intro h
  exact (chainE_0 he).2 (List.map_eq_nil_iff.1 h)
end Go.Abs
