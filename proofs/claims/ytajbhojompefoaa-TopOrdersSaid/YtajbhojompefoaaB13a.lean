/- A part of the proofs of the laws of this seat: contracts of the functions that they reach, each proved of the program's form in Lean. No condition beyond those that each contract names. -/
import Derived.Test.YtajbhojompefoaaB4
import Derived.Test.YtajbhojompefoaaB0
import Derived.Test.YtajbhojompefoaaB6
import Derived.Test.YtajbhojompefoaaB5
import Derived.Test.YtajbhojompefoaaB12
import Derived.Test.YtajbhojompefoaaB8
set_option linter.unusedVariables false
set_option linter.unusedSimpArgs false
set_option maxRecDepth 20000
set_option maxHeartbeats 4000000
/-! ### The chapter's examples -/
namespace Go.Abs
open Go.Proofs
def threeG : List Guest := [⟨⟨#[97, 110, 110]⟩, 3, 5, 0, 0⟩, ⟨⟨#[98, 111, 98]⟩, 1, 5, 0, 0⟩, ⟨⟨#[99, 105, 100]⟩, 2, 5, 0, 0⟩]
def threeR : List Rule := [⟨6, 0, 0, 10⟩, ⟨4, 1, 0, 0⟩, ⟨2, 0, 2, 4⟩]
def twoG : List Guest := [⟨⟨#[97, 110, 110]⟩, 0, 0, 0, 0⟩, ⟨⟨#[98, 111, 98]⟩, 0, 0, 1, 0⟩]
def twoD : List Dish := [⟨0, 1, 5⟩, ⟨0, 2, 9⟩]
theorem best3 : bestP threeG threeR = (some [1, 0, 2], 10, 0) := by decide +kernel
theorem menu2 : menuP twoG twoD 1 1 = (some [1], 9, 0) := by decide +kernel
end Go.Abs
