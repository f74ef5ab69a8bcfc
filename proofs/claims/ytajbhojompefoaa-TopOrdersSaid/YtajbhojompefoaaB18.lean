/- A part of the proofs of the laws of this seat: contracts of the functions that they reach, each proved of the program's form in Lean. No condition beyond those that each contract names. -/
import Derived.Test.YtajbhojompefoaaB0
import Derived.Test.YtajbhojompefoaaB8
import Derived.Test.YtajbhojompefoaaB7
import Derived.Test.YtajbhojompefoaaB17
import Derived.Test.YtajbhojompefoaaB1
set_option linter.unusedVariables false
set_option linter.unusedSimpArgs false
set_option maxRecDepth 20000
set_option maxHeartbeats 4000000
/-! ### Parties made of numbers -/
namespace Go.Abs
open Go.Proofs
theorem zW {e : Nat → AV} {σ : Sig} {R : AV → Sig → Prop} {res : List (Nat × Option (Nat × Bool))} {p : Prop} {l : List AV} (a' : AV) (hs : Sub (untag (tupV l)) a') (hR : R a' σ) (h : resV e σ res = some (p, l) := by with_unfolding_all exact rfl) (hp : p := by with_unfolding_all exact sd) : EndS res (fun a s => ∃ a', Sub a a' ∧ R a' s) .ret e σ := by
  have : endW (some (p, l)) (fun av => ∃ a', Sub av a' ∧ R a' σ) := ⟨hp, _, fun G v hv => hs G v (untag_sub _ G v hv), hR⟩
  rw [← h] at this; exact this
theorem Sub.agg {l m : List AV} (h : SubL l m) : Sub (.agg l) (.agg m) := fun G v ⟨vs, h1, h2⟩ => ⟨vs, h1, SubL.rel h h2⟩
def rulesV (rs : List Rule) (g : Nat) : AV := match rs with
  | [] => .nsl
  | _ :: _ => .slc 4 (rR rs) (.own 31 g)
def rulesS (rs : List Rule) (g : Nat) : List (Nat × (Nat × Res)) := match rs with
  | [] => []
  | _ :: _ => [(31, (g, .row []))]
/-- A party made of numbers. -/
structure madeP (gs : List Guest) (rs : List Rule) (guests rules : Nat) : Prop where
  g : madeG gs
  g1 : 1 ≤ gs.length
  gn : gs.length ≤ guests
  rn : rs.length ≤ rules
  r : ∀ r ∈ rs, rErr r gs.length = 0
end Go.Abs
