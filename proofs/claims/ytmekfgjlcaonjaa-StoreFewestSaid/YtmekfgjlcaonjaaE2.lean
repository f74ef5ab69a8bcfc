/- A part of the proofs of the laws of this seat: contracts of the functions that they reach, each proved of the program's form in Lean. No condition beyond those that each contract names. -/
import Derived.Test.YtmekfgjlcaonjaaC14
import Derived.Test.YtmekfgjlcaonjaaC13
import Derived.Test.YtmekfgjlcaonjaaC12
import Derived.Test.YtmekfgjlcaonjaaC11
import Derived.Test.YtmekfgjlcaonjaaC10
import Derived.Test.YtmekfgjlcaonjaaC9
import Derived.Test.YtmekfgjlcaonjaaC8
import Derived.Test.YtmekfgjlcaonjaaC7
import Derived.Test.YtmekfgjlcaonjaaC5
import Derived.Test.YtmekfgjlcaonjaaC4
import Derived.Test.YtmekfgjlcaonjaaC2
import Derived.Test.YtmekfgjlcaonjaaC1
import Derived.Test.YtmekfgjlcaonjaaB
set_option linter.unusedVariables false
set_option linter.unusedSimpArgs false
set_option maxRecDepth 20000
set_option maxHeartbeats 4000000
namespace Go.Abs
open Go.Proofs
theorem gathsE_of9 {s : Sea} (h : seaE s = 0) : gathsE s.gs = 0 := by
  unfold seaE at h
  by_cases h0 : s.ss = []
  · rw [if_pos h0] at h; exact absurd h (by decide)
  rw [if_neg h0] at h
  by_cases h1 : 4 < s.ss.length
  · rw [if_pos h1] at h; exact absurd h (by decide)
  rw [if_neg h1] at h
  by_cases h2 : sortsB s.ss = true
  · rw [if_pos h2] at h
    by_cases h3 : 9 < s.gs.length
    · rw [if_pos h3] at h; exact absurd h (by decide)
    rw [if_neg h3] at h; exact h
  · rw [if_neg h2] at h; exact absurd h (by decide)
end Go.Abs
