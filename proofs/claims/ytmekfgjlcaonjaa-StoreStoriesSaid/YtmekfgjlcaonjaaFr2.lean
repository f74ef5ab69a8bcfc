/- A part of the proofs of the laws of this seat: contracts of the functions that they reach, each proved of the program's form in Lean. No condition beyond those that each contract names. -/
import Derived.Test.YtmekfgjlcaonjaaFr
import Derived.Test.YtmekfgjlcaonjaaB
set_option linter.unusedVariables false
set_option linter.unusedSimpArgs false
set_option maxRecDepth 20000
set_option maxHeartbeats 4000000
namespace Go.Abs
open Go.RowKit
variable {P : Program}
theorem add_plain (b o i : Nat) : (⟨b, o, none⟩ : Addr).add i = ⟨b, o + i, none⟩ := by
  by_cases h0 : i = 0
  · subst h0; rfl
  · simp [Addr.add, h0]
theorem cells_get {w : World} {base b o n : Nat} {cs : List Value} (h : w.cells? base ⟨b, o, none⟩ n = some cs) : cs.length = n ∧ ∀ i v, cs[i]? = some v → w.cell? ⟨b, o + i, none⟩ = some v := by
  unfold World.cells? at h
  split at h
  · have hl := mapM_some_length h
    simp at hl
    refine ⟨hl, fun i v hv => ?_⟩
    have hi : i < n := by rw [← hl]; exact (List.getElem?_eq_some_iff.1 hv).1
    have := mapM_some_get h i i (by simp [hi])
    rw [add_plain] at this
    rw [this, hv]
  · cases h
theorem relRow_of {w : World} {b : Nat} : ∀ {row : List AV} {vs : List Value} {o : Nat}, (∀ i v, vs[i]? = some v → w.cell? ⟨b, o + i, none⟩ = some v) → (∀ v ∈ vs, v.oneCell' = true) → RelL (GS.pure (K0 w)) row vs → RelRow (GS.pure (K0 w)) b o row
  | [], _, _, _, _, _ => trivial
  | a :: row, vs, o, h1, h2, h3 => by
    obtain ⟨v, r, rfl, hv, hr⟩ := h3
    refine ⟨⟨v, K0_get (by simpa using h1 0 v rfl) (h2 v (by simp)), h2 v (by simp), hv⟩, relRow_of (fun i u hu => ?_) (fun u hu => h2 u (by simp [hu])) hr⟩
    have := h1 (i + 1) u (by simpa using hu)
    simpa [Nat.add_assoc, Nat.add_comm 1 i] using this
/-- A type whose values are rows of cells: what a cell list of it is. -/
structure RowOf (P : Program) (e : TypeId) (sz : Nat) (α : Type) where
  row : α → List AV
  vals : α → List Value
  cells : P.cellsOf e = sz
  len : ∀ x, (row x).length = sz
  rel : ∀ x G, RelL G (row x) (vals x)
  one : ∀ x, ∀ v ∈ vals x, v.oneCell' = true
  read : ∀ {H : Type} {enc : TypeId × Value → H} {w : World} {base : Nat} {spare : Nat → Bool} {held : Bool} {fuel : Nat} {cs : List Value} {y : DataW H × List MemPlace}, DataW.trod enc P w base spare held fuel e cs = some y → ∃ x, cs = vals x
theorem RowOf.rows {e : TypeId} {sz : Nat} {α : Type} (T : RowOf P e sz α) {w : World} {b : Nat} : ∀ {xs : List α} {o : Nat}, (∀ i x, xs[i]? = some x → ∀ j v, (T.vals x)[j]? = some v → w.cell? ⟨b, o + i * sz + j, none⟩ = some v) → RelRows (GS.pure (K0 w)) b o sz (xs.map T.row)
  | [], _, _ => trivial
  | x :: xs, o, h => by
    refine ⟨T.len x, relRow_of (fun i v hv => by simpa using h 0 x rfl i v hv) (T.one x) (T.rel x _), T.rows fun i y hy j v hv => ?_⟩
    have := h (i + 1) y (by simpa using hy) j v hv
    rw [Nat.succ_mul] at this
    rw [← this]; congr 2; omega
/-- A slice of rows that came in. -/
theorem RowOf.open {t e : TypeId} {sz : Nat} {α : Type} (T : RowOf P e sz α) {H : Type} {enc : TypeId × Value → H} {w : World} {base : Nat} {spare : Nat → Bool} {held : Bool} {fuel : Nat} {v : Value} {y : DataW H × List MemPlace} (ht : P.underlying t = some (.slice e)) (hv : ∀ a len cap, v = .slice (some a) len cap → a.spot = none)
    (h : DataW.trod enc P w base spare held fuel t [v] = some y) : ∃ xs : List α, xs.length ≤ maxLen ∧ Rel (GS.pure (K0 w)) (.slc sz (xs.map T.row) .non) v := by
  rcases DataW.trod_slice ht h with ⟨hc, _⟩ | ⟨a, len, cap, elems, rest, n, _, hcs, _, _, hl, hm, hlen, hel, _⟩
  · obtain rfl : v = .slice none 0 0 := by simpa using hc
    exact ⟨[], Nat.zero_le _, .inl ⟨.inl rfl, rfl⟩⟩
  · obtain rfl : v = .slice (some a) len cap := by simpa using hcs
    have hs := hv a len cap rfl
    obtain ⟨b, o, sp⟩ := a
    dsimp only at hs; subst hs
    have each : ∀ i, i < len → ∃ x : α, w.cells? base ⟨b, o + i * sz, none⟩ sz = some (T.vals x) := by
      intro i hi
      have h1 := hel i hi
      rw [T.cells, add_plain] at h1
      have h2 : elems[i]? = some elems[i] := List.getElem?_eq_getElem (by omega)
      rw [h2, Option.bind_eq_some_iff] at h1
      obtain ⟨cs, h3, h4⟩ := h1
      obtain ⟨x, rfl⟩ := T.read h4
      exact ⟨x, h3⟩
    let f : Fin len → α := fun i => Classical.choose (each i i.2)
    have hf : ∀ i : Fin len, w.cells? base ⟨b, o + i * sz, none⟩ sz = some (T.vals (f i)) := fun i => Classical.choose_spec (each i i.2)
    have hlx : (List.ofFn f).length = len := by simp
    refine ⟨List.ofFn f, by rw [hlx]; omega, .inr ⟨b, o, cap, by rw [List.length_map, hlx], by rw [List.length_map, hlx]; exact hl, T.rows fun i x hx j u hu => ?_, trivial⟩⟩
    obtain ⟨hi, hx⟩ := List.getElem?_eq_some_iff.1 hx
    rw [List.getElem_ofFn] at hx
    subst hx
    exact (cells_get (hf ⟨i, by simpa using hi⟩)).2 j u hu
end Go.Abs
namespace Go.Proofs.Ytmekfgjlcaonjaa
open Go.ChangeShapes Go.WideShapes Go.ChangeAt Go.RowKit Go.Abs
/-- A law's answer, out of the contract of a function of pure data. -/
theorem walk_law {f : Nat} {args : List AV} (h : Fn0 Try.prog f args (fun v => v = .bool true)) {w : World} {vals : List Value} (hr : RelL (GS.pure (K0 w)) args vals) :
    Calls Try.prog f vals.toArray w fun e w' => e = .returned (.bool true) ∧ Below w.heap.size w w' :=
  (h.calls (K0_ok w) hr).mono fun e w' ⟨v, av, K', h1, h4, h5, h6⟩ => by
    subst h1; subst h5
    exact ⟨by rw [show v = .bool true from h4], h6.below⟩
end Go.Proofs.Ytmekfgjlcaonjaa
