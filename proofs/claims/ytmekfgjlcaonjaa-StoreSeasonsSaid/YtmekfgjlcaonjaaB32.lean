/- A part of the proofs of the laws of this seat: contracts of the functions that they reach, each proved of the program's form in Lean. No condition beyond those that each contract names. -/
import Derived.Test.YtmekfgjlcaonjaaB0
set_option linter.unusedVariables false
set_option linter.unusedSimpArgs false
set_option maxRecDepth 20000
set_option maxHeartbeats 4000000
/-! ### Rows of structs that are written; the party turned round -/
namespace Go.Abs
open Go.Proofs
section
variable {P : Program}
/-- Rows of a struct: their cells are numbers and strings alone. -/
structure FlatR {α : Type} (row : α → List AV) (sz : Nat) : Prop where
  len : ∀ x, (row x).length = sz
  norm : ∀ x, normL (row x) = row x
  scal : ∀ x, (row x).all AV.scal = true
  frz : ∀ i g c x, frzL i g c (row x) = row x
  ren : ∀ ρ x, renL ρ (row x) = row x
theorem guestR : FlatR Guest.row 5 := ⟨fun _ => rfl, fun _ => rfl, fun _ => rfl, fun _ _ _ _ => rfl, fun _ _ => rfl⟩
theorem ruleR : FlatR Rule.row 4 := ⟨fun _ => rfl, fun _ => rfl, fun _ => rfl, fun _ _ _ _ => rfl, fun _ _ => rfl⟩
variable {α : Type} {row : α → List AV} {sz : Nat}
theorem FlatR.flat_len (h : FlatR row sz) : ∀ xs : List α, (xs.map row).flatten.length = xs.length * sz
  | [] => by simp
  | x :: xs => by simp only [List.map_cons, List.flatten_cons, List.length_append, h.len, h.flat_len xs, List.length_cons, Nat.add_mul]; omega
theorem FlatR.chunk (h : FlatR row sz) : ∀ xs : List α, chunk sz xs.length (normL (xs.map row).flatten) = xs.map row
  | [] => rfl
  | x :: xs => by
    have e : normL ((x :: xs).map row).flatten = row x ++ normL (xs.map row).flatten := by
      simp only [List.map_cons, List.flatten_cons, normL, List.map_append]
      congr 1
      exact h.norm x
    rw [e, List.length_cons, Go.Abs.chunk, List.take_left' (h.len x), List.drop_left' (h.len x), h.chunk xs]; rfl
theorem frzL_app (i g : Nat) (c : List AV) : ∀ l m : List AV, frzL i g c (l ++ m) = frzL i g c l ++ frzL i g c m
  | [], m => rfl
  | a :: l, m => by rw [List.cons_append, frzL, frzL, frzL_app i g c l m]; rfl
theorem FlatR.frzs (h : FlatR row sz) (i g : Nat) (c : List AV) : ∀ xs : List α, frzL i g c (xs.map row).flatten = (xs.map row).flatten
  | [] => rfl
  | x :: xs => by rw [List.map_cons, List.flatten_cons, frzL_app, h.frz, h.frzs i g c xs]
theorem renL_app (ρ : List (Nat × Nat)) : ∀ l m : List AV, renL ρ (l ++ m) = renL ρ l ++ renL ρ m
  | [], m => rfl
  | a :: l, m => by rw [List.cons_append, renL, renL, renL_app ρ l m]; rfl
theorem FlatR.rens (h : FlatR row sz) (ρ : List (Nat × Nat)) : ∀ xs : List α, renL ρ (xs.map row).flatten = (xs.map row).flatten
  | [] => rfl
  | x :: xs => by rw [List.map_cons, List.flatten_cons, renL_app, h.ren, h.rens ρ xs]
theorem FlatR.scals (h : FlatR row sz) : ∀ xs : List α, (xs.map row).flatten.all AV.scal = true
  | [] => rfl
  | x :: xs => by rw [List.map_cons, List.flatten_cons, List.all_append, h.scal, h.scals xs]; rfl
theorem FlatR.get (h : FlatR row sz) {pre post : List α} {y : α} {j : Nat} (hj : j < sz) : ((pre ++ y :: post).map row).flatten[pre.length * sz + j]? = (row y)[j]? := by
  rw [List.map_append, List.map_cons, List.flatten_append, List.flatten_cons, List.getElem?_append_right (by rw [h.flat_len]; omega), h.flat_len, Nat.add_sub_cancel_left, List.getElem?_append_left (by rw [h.len]; exact hj)]
theorem FlatR.set (h : FlatR row sz) {pre post : List α} {y y' : α} {j : Nat} {c : AV} (hj : j < sz) (hy : (row y).set j c = row y') : ((pre ++ y :: post).map row).flatten.set (pre.length * sz + j) c = ((pre ++ y' :: post).map row).flatten := by
  rw [List.map_append, List.map_cons, List.flatten_append, List.flatten_cons, List.set_append_right _ _ (by rw [h.flat_len]; omega), h.flat_len, Nat.add_sub_cancel_left, List.set_append_left _ _ (by rw [h.len]; exact hj), hy]
  simp
theorem w_apmR {K : (Nat → AV) → Sig → Prop} {e : Nat → AV} {σ : Sig} {x y : IOpd} {r : List IStep} {d i bytes : Nat} {x0 : α} {xs : List α} {t : Tag} (hx : x.ev e = .slc sz [] .full) (hy : y.ev e = .slc sz ((x0 :: xs).map row) t) (hb : (x0 :: xs).length * bytes ≤ 140737488355328)
    (hk : ∀ g, stepsW P r K (upd e d (.msl i g (x0 :: xs).length sz)) (newS σ i g ((x0 :: xs).map row).flatten)) : stepsW P (⟨some d, none, .apm sz bytes x y i⟩ :: r) K e σ := by
  have hl : ((x0 :: xs).map row).length = (x0 :: xs).length := by simp
  refine w_det (p := sz = sz ∧ sz = sz ∧ (0 + ((x0 :: xs).map row).length) * bytes ≤ 140737488355328) (v := fun g => .msl i g (x0 :: xs).length sz) (σ' := fun g => newS σ i g ((x0 :: xs).map row).flatten) (fun g => ?_) ⟨rfl, rfl, by rw [hl, Nat.zero_add]; exact hb⟩ hk
  show (match baseM sz σ (x.ev e), rowsO sz (y.ev e) with
    | some (p, n, c, σ'), some (q, ys) => (match ys with
      | [] => some (p ∧ q, x.ev e, σ)
      | _ :: _ => some (p ∧ q ∧ (n + ys.length) * bytes ≤ 140737488355328, AV.msl i g (n + ys.length) sz, newS σ' i g (c ++ ys.flatten)))
    | _, _ => none) = _
  rw [hx, hy]
  simp only [baseM, rowsO, List.map_cons, List.length_cons, List.length_map, Nat.zero_add, List.nil_append]
theorem w_ldM {K : (Nat → AV) → Sig → Prop} {e : Nat → AV} {σ : Sig} {x : IOpd} {d : Nat} {r : List IStep} {i g off : Nat} {pre post : List α} {y : α} {j : Nat} {c : AV} (hR : FlatR row sz) (hx : x.ev e = .ref i g off) (hσ : σ i = (g, .row ((pre ++ y :: post).map row).flatten)) (ho : off = pre.length * sz + j) (hj : j < sz) (hc : (row y)[j]? = some c) (hf : forceA c = some c)
    (hk : stepsW P r K (upd e d c) σ) : stepsW P (⟨some d, none, .ld 1 false x⟩ :: r) K e σ := by
  refine w_val (p := g = g ∧ True) (v := c) ?_ ⟨rfl, trivial⟩ hk
  show ldO 1 false σ (x.ev e) = _
  rw [hx]
  have h1 : ((pre ++ y :: post).map row).flatten[off]? = some c := by rw [ho, hR.get hj, hc]
  simp only [ldO, hσ, partO, h1, hf, liftV, okV]
theorem w_stM {K : (Nat → AV) → Sig → Prop} {e : Nat → AV} {σ : Sig} {x v : IOpd} {r : List IStep} {i g off : Nat} {pre post : List α} {y y' : α} {j : Nat} {c : AV} (hR : FlatR row sz) (hx : x.ev e = .ref i g off) (hσ : σ i = (g, .row ((pre ++ y :: post).map row).flatten)) (ho : off = pre.length * sz + j) (hj : j < sz) (hv : cellsO 1 (v.ev e) = some (1 = 1, [c])) (hy : (row y).set j c = row y')
    (hk : stepsW P r K e (upd σ i (g, .row ((pre ++ y' :: post).map row).flatten))) : stepsW P (⟨none, none, .st 1 x v⟩ :: r) K e σ := by
  have hlen := hR.flat_len (pre ++ y :: post)
  refine w_det0 (p := g = g ∧ 1 = 1 ∧ off + 1 ≤ ((pre ++ y :: post).map row).flatten.length) (v := .junk) (σ' := upd σ i (g, .row (setL ((pre ++ y :: post).map row).flatten off [c]))) (fun _ => ?_) ⟨rfl, rfl, ?_⟩ ?_
  · show stO 1 σ (v.ev e) (x.ev e) = _
    rw [hx]
    simp only [stO, hv, hσ]
  · rw [hlen, ho, List.length_append, List.length_cons, Nat.add_mul, Nat.add_mul]; omega
  · rw [setL_one, ho, hR.set hj hy]; exact hk
theorem zLd {K : (Nat → AV) → Sig → Prop} {e : Nat → AV} {σ : Sig} {x : IOpd} {d : Nat} {r : List IStep} {g off : Nat} {pre post : List α} {y : α} {c : AV} (hR : FlatR row sz) (i j : Nat) (hk : stepsW P r K (upd e d c) σ) (hx : x.ev e = .ref i g off := by with_unfolding_all exact rfl) (hσ : σ i = (g, .row ((pre ++ y :: post).map row).flatten) := by with_unfolding_all exact rfl) (ho : off = pre.length * sz + j := by simp <;> fail) (hj : j < sz := by omega) (hc : (row y)[j]? = some c := by with_unfolding_all exact rfl) (hf : forceA c = some c := by with_unfolding_all exact rfl) : stepsW P (⟨some d, none, .ld 1 false x⟩ :: r) K e σ := w_ldM hR hx hσ ho hj hc hf hk
theorem zSt {K : (Nat → AV) → Sig → Prop} {e : Nat → AV} {σ : Sig} {x v : IOpd} {r : List IStep} {g off : Nat} {pre post : List α} {y y' : α} {c : AV} (hR : FlatR row sz) (i j : Nat) (hy' : (row y).set j c = row y') (hk : stepsW P r K e (upd σ i (g, .row ((pre ++ y' :: post).map row).flatten))) (hx : x.ev e = .ref i g off := by with_unfolding_all exact rfl) (hσ : σ i = (g, .row ((pre ++ y :: post).map row).flatten) := by with_unfolding_all exact rfl) (ho : off = pre.length * sz + j := by simp <;> fail) (hj : j < sz := by omega) (hv : cellsO 1 (v.ev e) = some (1 = 1, [c]) := by with_unfolding_all exact rfl) : stepsW P (⟨none, none, .st 1 x v⟩ :: r) K e σ := w_stM hR hx hσ ho hj hv hy' hk
theorem ACall.liftNS {f : Nat} {args0 args : List AV} {l0 : List (Nat × (Nat × Res))} {σ : Sig} {β : Type} {V : β → AV → Prop} {L : β → List (Nat × (Nat × Res))} {d : Nat} {Q : AV → Sig → Prop} (h : RawC P f args0 (sg l0) (SR V L)) (ρi os : List (Nat × Nat)) (hos : outsB d os = true) (hr : renOK (os ++ ρi) = true)
    (ha : args0 = renL (flipL ρi) args) (h0 : l0 = pull (flipL ρi) σ ρi) (hl : liveL σ ρi) (hc : ∀ x, covers (L x) (os ++ ρi) = true) (hQ : ∀ x av, V x av → Q (ren (os ++ ρi) av) (pushV (os ++ ρi) (L x) (os ++ ρi) σ)) : ACall P f args σ d Q :=
  ACall.liftN h ρi os hos hr ha h0 hl fun av σ0' ⟨x, hV, hs⟩ => by rw [push_slots hs (hc x)]; exact hQ x av hV
/-- Two slices of a struct in a box are made persistent. -/
theorem w_frzP {β : Type} {row2 : β → List AV} {sz2 : Nat} {Q : Post} {e : Nat → AV} {σ : Sig} {b : IR} {t1 t2 i g j h s gb u ub n1 n2 : Nat} {xs : List α} {ys : List β} {cu : List AV} (hR : FlatR row sz) (hR2 : FlatR row2 sz2) (hij : i ≠ j) (his : i ≠ s) (hjs : j ≠ s) (hiu : i ≠ u) (hju : j ≠ u) (hn1 : xs.length = n1) (hn2 : ys.length = n2)
    (h1 : e t1 = .msl i g n1 sz) (h2 : e t2 = .msl j h n2 sz2) (hb : e s = .ref s gb 0) (hu : e u = .ref u ub 0) (hσi : σ i = (g, .row (xs.map row).flatten)) (hσj : σ j = (h, .row (ys.map row2).flatten)) (hσs : σ s = (gb, .row [.msl i g n1 sz, .msl j h n2 sz2])) (hσu : σ u = (ub, .row cu)) (hcu : ∀ i g c, frzL i g c cu = cu)
    (hk : ∀ e' σ', awp P b Q (updL [(s, .ref s gb 0), (u, .ref u ub 0)] e') (updL [(s, (gb, .row [.slc sz (xs.map row) .non, .slc sz2 (ys.map row2) .non])), (u, (ub, .row cu))] σ')) : awp P (.seq (.frz (.t t1)) (.seq (.frz (.t t2)) b)) Q e σ := by
  subst hn1; subst hn2
  have hl1 := hR.flat_len xs
  have hl2 := hR2.flat_len ys
  show frzW (e t1) e σ (seqQ (awp P (.seq (.frz (.t t2)) b) Q) Q .nor)
  rw [h1]
  show (match σ i with | (g', .row c) => g = g' ∧ c.all AV.scal = true ∧ seqQ (awp P (.seq (.frz (.t t2)) b) Q) Q .nor (frzE i g c e) (frzS i g c σ) | _ => False)
  rw [hσi]
  refine ⟨rfl, hR.scals xs, ?_⟩
  have hji : j ≠ i := Ne.symm hij
  have e2 : frzE i g (xs.map row).flatten e t2 = .msl j h ys.length sz2 := by simp [frzE, h2, frzA, hji]
  have s2 : frzS i g (xs.map row).flatten σ j = (h, .row (ys.map row2).flatten) := by simp [frzS, hji, hσj, frzR, hR2.frzs]
  show frzW (frzE i g (xs.map row).flatten e t2) (frzE i g (xs.map row).flatten e) (frzS i g (xs.map row).flatten σ) (seqQ (awp P b Q) Q .nor)
  rw [e2]
  show (match frzS i g (xs.map row).flatten σ j with | (g', .row c) => h = g' ∧ c.all AV.scal = true ∧ seqQ (awp P b Q) Q .nor (frzE j h c (frzE i g (xs.map row).flatten e)) (frzS j h c (frzS i g (xs.map row).flatten σ)) | _ => False)
  rw [s2]
  refine ⟨rfl, hR2.scals ys, ?_⟩
  have es : frzE j h (ys.map row2).flatten (frzE i g (xs.map row).flatten e) s = .ref s gb 0 := by simp [frzE, hb, frzA, Ne.symm his, Ne.symm hjs]
  have eu : frzE j h (ys.map row2).flatten (frzE i g (xs.map row).flatten e) u = .ref u ub 0 := by simp [frzE, hu, frzA, Ne.symm hiu, Ne.symm hju]
  have ss : frzS j h (ys.map row2).flatten (frzS i g (xs.map row).flatten σ) s = (gb, .row [.slc sz (xs.map row) .non, .slc sz2 (ys.map row2) .non]) := by
    simp [frzS, Ne.symm his, Ne.symm hjs, hσs, frzR, frzL, frzA, hl1, hl2, hR.chunk, hR2.chunk, hji]
  have su : frzS j h (ys.map row2).flatten (frzS i g (xs.map row).flatten σ) u = (ub, .row cu) := by
    simp [frzS, Ne.symm hiu, Ne.symm hju, hσu, frzR, hcu]
  have hk2 := hk (frzE j h (ys.map row2).flatten (frzE i g (xs.map row).flatten e)) (frzS j h (ys.map row2).flatten (frzS i g (xs.map row).flatten σ))
  have x1 : slots [(s, .ref s gb 0), (u, .ref u ub 0)] (frzE j h (ys.map row2).flatten (frzE i g (xs.map row).flatten e)) := ⟨es, eu, trivial⟩
  have x2 : slots [(s, (gb, .row [.slc sz (xs.map row) .non, .slc sz2 (ys.map row2) .non])), (u, (ub, .row cu))] (frzS j h (ys.map row2).flatten (frzS i g (xs.map row).flatten σ)) := ⟨ss, su, trivial⟩
  rw [updL_slots x1, updL_slots x2] at hk2
  exact hk2
end
end Go.Abs
