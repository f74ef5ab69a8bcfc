/- A part of the proofs of the laws of this seat: the walk's steps in short. No condition beyond those that each theorem names. -/
import Derived.Test.YtioggblimkgioaaGreatSnd3
import Derived.Test.YtioggblimkgioaaGreatProg
set_option linter.unusedVariables false
namespace Go.Abs
open Go.Proofs
section
variable {P : Program} {e : Nat → AV} {σ : Sig} {K : (Nat → AV) → Sig → Prop}
theorem zJ {α : Type} {f : α → List AV} {l : List α} {d sz : Nat} {t : Tag} {x i : IOpd} {r : List IStep} {k : IntKind} {n : Int} (h : 0 ≤ n ∧ n < l.length) (hk : ∀ y, l[n.toNat]? = some y → stepsW P r K (upd e d (.pin (f y))) σ) (hx : x.ev e = .slc sz (l.map f) t := by with_unfolding_all exact rfl) (hi : i.ev e = .int k n := by with_unfolding_all exact rfl) : stepsW P (⟨some d, none, .ixA sz x i⟩ :: r) K e σ := by
  refine w_val (v := .pin ((l.map f).getD n.toNat [])) (p := sz = sz ∧ 0 ≤ n ∧ n < (l.map f).length) (by show ixAO sz (x.ev e) (i.ev e) = _; rw [hx, hi]; rfl) ⟨rfl, h.1, by simpa using h.2⟩ ?_
  have hlt : n.toNat < l.length := by omega
  have : (l.map f).getD n.toNat [] = f l[n.toNat] := by
    rw [List.getD_eq_getElem?_getD, List.getElem?_map, List.getElem?_eq_getElem hlt]; rfl
  rw [this]; exact hk _ (List.getElem?_eq_getElem hlt)
theorem zP {d : Nat} {op : IOp} {r : List IStep} {p : Prop} {v : AV} (hp : p) (hk : stepsW P r K (upd e d v) σ) (h : valO op e σ = some (p, v) := by with_unfolding_all exact rfl) : stepsW P (⟨some d, none, op⟩ :: r) K e σ := w_val h hp hk
theorem zR {R : AV → Sig → Prop} {res : List (Nat × Option (Nat × Bool))} {p : Prop} {l : List AV} (hp : p) (hR : R (untag (tupV l)) σ) (h : resV e σ res = some (p, l) := by with_unfolding_all exact rfl) : EndS res (fun a s => ∃ a', Sub a a' ∧ R a' s) .ret e σ := q_ends h hp hR
theorem aC {f : Nat} {args : List AV} {d : Nat} {Q : AV → Sig → Prop} (h : ACall P f args σ d Q) : ACall P f args σ d Q := h
end
theorem aX {p q : Prop} (hk : q) (h : q → p := by with_reducible (first | exact fun h => zL h | exact fun h => zS h | exact fun h => zV h | exact fun h => zC h | exact fun h => zI h | exact fun h => zA h | exact fun h => zG h | exact fun h => zU h | exact fun h => zG0 h | exact fun h => zU0 h | exact fun h => zF h | exact fun h => zE h | exact fun h => zE0 h | exact fun h => zX h | exact fun h => zD h | exact fun h => zD0 h | exact fun h => zN h | exact fun h => zF0 h | exact fun h => zX0 h | exact fun h => z1 h | exact fun h => z2 h | exact fun h => z3 h | exact fun h => z4 h | exact fun h => z5 h | exact fun h => z6 h | exact fun h => z7 h | exact fun h => z8 h | exact fun h => y1 h | exact fun h => y2 h | exact fun h => y3 h | exact fun h => y4 h | exact fun h => y5 h | exact fun h => y6 h | exact fun h => y7 h | exact fun h => y8 h)) : p := h hk
theorem aL {p q : Prop} (hk : q) (h : q → p := by with_reducible (first | exact fun h => zL h | exact fun h => zS h | exact fun h => zA h | exact fun h => zV h | exact fun h => zC h | exact fun h => zG h | exact fun h => zU h | exact fun h => zG0 h | exact fun h => zU0 h | exact fun h => zF h)) : p := h hk
theorem aP {p q r : Prop} (hq : q) (hr : r) (h : q → r → p := by with_reducible (first | exact fun a b => Rt.p a b | exact fun a b => w_alt a b | exact fun a b => zJ a b | exact fun a b => zP a b | exact fun a b => zR a b)) : p := h hq hr
theorem aR {p q : Prop} (hk : q) (h : q → p := by with_reducible exact fun h => Rd.p h) : p := h hk
theorem aS {p : Prop} (h : p := by repeat' (first | exact slots_nil | apply slots_cons | rfl | (rw [map_snoc]; rfl) | (rw [len_snoc]; rfl) | (rw [hS]; rfl) | (rw [hS, map_snoc]; rfl) | (refine int_eq ?_; (try dsimp only); omega) | (refine congrArg AV.bool ?_; simp_all; done))) : p := h
theorem aK {p : Prop} (h : p := by repeat' (first | exact kept_nil | apply kept_cons | rfl)) : p := h
abbrev oo (d : Nat) (x : IOp) : IStep := ⟨some d, none, x⟩
instance (n : Nat) : OfNat IOpd n := ⟨.t n⟩
abbrev oL (d : Nat) (x : IOpd) : IStep := ⟨some d, none, .ld 1 false x⟩
abbrev oF (d n : Nat) (x : IOpd) : IStep := ⟨some d, none, .flA n x⟩
abbrev oM (d : Nat) (x : IOpd) : IStep := ⟨some d, none, .mov x⟩
abbrev oB (d : Nat) (b : BinOp) (x y : IOpd) : IStep := ⟨some d, none, .bin b x y⟩
abbrev oC (d f : Nat) (l : List IOpd) : IStep := ⟨some d, none, .callF f l⟩
abbrev oE (d n : Nat) (x : IOpd) : IStep := ⟨some d, none, .ext n x⟩
abbrev oN (d : Nat) (x : IOpd) : IStep := ⟨some d, none, .len false x⟩
abbrev oA (d n : Nat) (x y : IOpd) : IStep := ⟨some d, none, .ixA n x y⟩
abbrev oS (n : Nat) (x y : IOpd) : IStep := ⟨none, none, .st n x y⟩
abbrev oK (x : IOpd) (t : Nat) : IStep := ⟨none, none, .chk 1 false x t⟩
abbrev sO (l : List IStep) (r : IR) : IR := .seq (.ops l) r
def hE (_ : Program) : Hint := {}
theorem wk {f : Nat} {fn : Func} (fi : IFn) {args : List AV} {σ : Sig} {R : AV → Sig → Prop} (hf : Tryz.prog.funcs[f]? = some fn) (h : awp Tryz.prog fi.body (EndS fi.res fun a s => ∃ a', Sub a a' ∧ R a' s) (envOf args) σ) (hok : (fn.body.isSome && !(fn.name == "runtime.NumGoroutine")) = true := by exact rfl) (hc : cFn Tryz.prog (hE Tryz.prog) fn = some fi := by exact rfl) (hlen : Nat.ble args.length fi.n = true := by exact rfl) : RawC Tryz.prog f args σ R := RawC.walk (H := hE Tryz.prog) fi hf hok hc hlen h
theorem aV {P : Program} {f : Nat} {args0 args : List AV} {σ : Sig} {v v' : AV} {d : Nat} {Q : AV → Sig → Prop} (h : Fn0 P f args0 (fun a => a = v)) (hQ : Q v' σ) (ha : args0 = renL [] args := by exact rfl) (hv : ren [] v = v' := by exact rfl) : ACall P f args σ d Q := ACall.val h ha hv hQ
abbrev FV (f : Nat) (l : List AV) (v : AV) : Prop := Fn0 Tryz.prog f l (fun a => a = v)
abbrev fI : Int → List AV := fun x => [AV.int .i64 x]
abbrev fL : List Int → List AV := fun x => [AV.slc 1 (x.map fun y => [AV.int .i64 y]) .non]
theorem aZ {p : Prop} (h : p := by first | (exfalso; omega) | rfl) : p := h
abbrev kI (n : Int) : IOpd := .k (.int .i64 n)
abbrev z0 : AV := .int .i64 0
abbrev kB (b : Bool) : IOpd := .k (.bool b)
end Go.Abs
