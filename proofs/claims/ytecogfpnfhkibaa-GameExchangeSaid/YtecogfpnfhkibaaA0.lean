/- A part of the proofs of the laws of this seat: the walk's steps in short. No condition beyond those that each theorem names. -/
import Derived.Test.YtecogfpnfhkibaaSnd3
set_option linter.unusedVariables false
namespace Go.Abs
theorem adv {p q : Prop} (hk : q) (h : q → p := by with_reducible (first | exact fun h => zX h | exact fun h => zD h | exact fun h => zD0 h | exact fun h => zN h | exact fun h => zF0 h | exact fun h => zX0 h | exact fun h => z1 h | exact fun h => z2 h | exact fun h => z3 h | exact fun h => z4 h | exact fun h => z5 h | exact fun h => z6 h | exact fun h => z7 h | exact fun h => z8 h | exact fun h => y1 h | exact fun h => y2 h | exact fun h => y3 h | exact fun h => y4 h | exact fun h => y5 h | exact fun h => y6 h | exact fun h => y7 h | exact fun h => y8 h)) : p := h hk
theorem advL {p q : Prop} (hk : q) (h : q → p := by with_reducible (first | exact fun h => zL h | exact fun h => zS h | exact fun h => zA h | exact fun h => zV h | exact fun h => zC h | exact fun h => zG h | exact fun h => zU h | exact fun h => zG0 h | exact fun h => zU0 h | exact fun h => zF h)) : p := h hk
theorem advE {p q : Prop} (hk : q) (h : q → p := by with_reducible (first | exact fun h => Rd.p h | exact fun h => zE h | exact fun h => zE0 h)) : p := h hk
abbrev oo (d : Nat) (x : IOp) : IStep := ⟨some d, none, x⟩
instance (n : Nat) : OfNat IOpd n := ⟨.t n⟩
abbrev kI (n : Int) : IOpd := .k (.int .i64 n)
abbrev kB (b : Bool) : IOpd := .k (.bool b)
end Go.Abs
