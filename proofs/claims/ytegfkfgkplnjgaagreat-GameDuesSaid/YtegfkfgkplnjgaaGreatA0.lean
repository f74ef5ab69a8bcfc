/- A part of the proofs of the laws of this seat: the walk's steps in short. No condition beyond those that each theorem names. -/
import Derived.Test.YtegfkfgkplnjgaaGreatSnd3
set_option linter.unusedVariables false
namespace Go.Abs
section
variable {P : Program} {e : Nat → AV} {σ : Sig} {K : (Nat → AV) → Sig → Prop}
theorem zJ {α : Type} {f : α → List AV} {l : List α} {d sz : Nat} {t : Tag} {x i : IOpd} {r : List IStep} {k : IntKind} {n : Int} (h : 0 ≤ n ∧ n < l.length) (hk : ∀ y, l[n.toNat]? = some y → stepsW P r K (upd e d (.pin (f y))) σ) (hx : x.ev e = .slc sz (l.map f) t := by with_unfolding_all exact rfl) (hi : i.ev e = .int k n := by with_unfolding_all exact rfl) : stepsW P (⟨some d, none, .ixA sz x i⟩ :: r) K e σ := by
  refine w_val (v := .pin ((l.map f).getD n.toNat [])) (p := sz = sz ∧ 0 ≤ n ∧ n < (l.map f).length) (by show ixAO sz (x.ev e) (i.ev e) = _; rw [hx, hi]; rfl) ⟨rfl, h.1, by simpa using h.2⟩ ?_
  have hlt : n.toNat < l.length := by omega
  have : (l.map f).getD n.toNat [] = f l[n.toNat] := by
    rw [List.getD_eq_getElem?_getD, List.getElem?_map, List.getElem?_eq_getElem hlt]; rfl
  rw [this]; exact hk _ (List.getElem?_eq_getElem hlt)
theorem zP {d : Nat} {op : IOp} {r : List IStep} {p : Prop} {v : AV} (hp : p) (hk : stepsW P r K (upd e d v) σ) (h : valO op e σ = some (p, v) := by with_unfolding_all exact rfl) : stepsW P (⟨some d, none, op⟩ :: r) K e σ := w_val h hp hk
theorem zR {R : AV → Sig → Prop} {res : List (Nat × Option (Nat × Bool))} {p : Prop} {l : List AV} (hp : p) (hR : R (untag (tupV l)) σ) (h : resV e σ res = some (p, l) := by with_unfolding_all exact rfl) : EndS res (fun a s => ∃ a', Sub a a' ∧ R a' s) .ret e σ := q_ends h hp hR
theorem aC {f : Nat} {args : List AV} {d : Nat} {Q : AV → Sig → Prop} (h : ACall P f args σ d Q) : ACall P f args σ d Q := h
end
theorem aX {p q : Prop} (hk : q) (h : q → p := by with_reducible (first | exact fun h => zI h | exact fun h => zA h | exact fun h => zG h | exact fun h => zU h | exact fun h => zG0 h | exact fun h => zU0 h | exact fun h => zF h | exact fun h => zE h | exact fun h => zE0 h | exact fun h => zX h | exact fun h => zD h | exact fun h => zD0 h | exact fun h => zN h | exact fun h => zF0 h | exact fun h => zX0 h | exact fun h => z1 h | exact fun h => z2 h | exact fun h => z3 h | exact fun h => z4 h | exact fun h => z5 h | exact fun h => z6 h | exact fun h => z7 h | exact fun h => z8 h | exact fun h => y1 h | exact fun h => y2 h | exact fun h => y3 h | exact fun h => y4 h | exact fun h => y5 h | exact fun h => y6 h | exact fun h => y7 h | exact fun h => y8 h)) : p := h hk
theorem aP {p q r : Prop} (hq : q) (hr : r) (h : q → r → p := by with_reducible (first | exact fun a b => Rt.p a b | exact fun a b => w_alt a b | exact fun a b => zJ a b | exact fun a b => zP a b | exact fun a b => zR a b)) : p := h hq hr
theorem aS {p : Prop} (h : p := by repeat' (first | exact slots_nil | apply slots_cons | rfl | (rw [map_snoc]; rfl) | (rw [len_snoc]; rfl) | (rw [hS]; rfl) | (rw [hS, map_snoc]; rfl) | (refine int_eq ?_; (try dsimp only); omega) | (refine congrArg AV.bool ?_; simp_all; done))) : p := h
theorem aK {p : Prop} (h : p := by repeat' (first | exact kept_nil | apply kept_cons | rfl)) : p := h
abbrev oo (d : Nat) (x : IOp) : IStep := ⟨some d, none, x⟩
instance (n : Nat) : OfNat IOpd n := ⟨.t n⟩
abbrev kI (n : Int) : IOpd := .k (.int .i64 n)
abbrev z0 : AV := .int .i64 0
abbrev kB (b : Bool) : IOpd := .k (.bool b)
end Go.Abs
