/- A part of the proofs of the laws of this seat: contracts of the functions that they reach, each proved of the program's form in Lean. No condition beyond those that each contract names. -/
import Derived.Test.YtmekfgjlcaonjaaB0
import Derived.Test.YtmekfgjlcaonjaaB2
import Derived.Test.YtmekfgjlcaonjaaB3
set_option linter.unusedVariables false
set_option linter.unusedSimpArgs false
set_option maxRecDepth 20000
set_option maxHeartbeats 4000000
/-! ### Parties: what is valid -/
namespace Go.Abs
open Go.Proofs
def nmV (k : Int) : Int := if k = 4 ∨ k = 5 then 1 else if k = 6 then 0 else 2
theorem nmV_bd (k : Int) : 0 ≤ nmV k ∧ nmV k ≤ 2 := by unfold nmV; split <;> (try split) <;> omega
def argE (i x nm n : Int) : Int := if i < nm then (if inB x 0 (n - 1) = true then 0 else 7) else (if x = 0 then 0 else 3)
/-- The error of a rule, for so many guests. -/
def rErr (r : Rule) (n : Int) : Int :=
  if inB r.kind 1 6 = true then
    if argE 0 r.a (nmV r.kind) n = 0 then
      if argE 1 r.b (nmV r.kind) n = 0 then
        if nmV r.kind = 2 ∧ r.a = r.b then 3 else if inB r.weight 0 1000 = true then 0 else 2
      else argE 1 r.b (nmV r.kind) n
    else argE 0 r.a (nmV r.kind) n
  else 4
abbrev rA (g : Rule) : AV := .agg [.int .i64 g.kind, .int .i64 g.a, .int .i64 g.b, .int .i64 g.weight]
def rsErr (n : Int) : List Rule → Int
  | [] => 0
  | r :: rs => if rErr r n = 0 then rsErr n rs else rErr r n
/-- The error of a party. -/
def pErr (gs : List Guest) (rs : List Rule) : Int :=
  if gs.length = 0 then 6 else if 7 < gs.length then 8 else if gsErr [] gs = 0 then (if 12 < rs.length then 8 else rsErr gs.length rs) else gsErr [] gs
abbrev pA (gs : List Guest) (rs : List Rule) : AV := .agg [.slc 5 (gR gs) .non, .slc 4 (rR rs) .non]
end Go.Abs
