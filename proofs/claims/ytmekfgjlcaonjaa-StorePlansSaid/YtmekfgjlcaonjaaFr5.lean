/- A part of the proofs of the laws of this seat: contracts of the functions that they reach, each proved of the program's form in Lean. No condition beyond those that each contract names. -/
import Derived.Test.YtmekfgjlcaonjaaFr2
set_option linter.unusedVariables false
set_option linter.unusedSimpArgs false
set_option maxRecDepth 20000
set_option maxHeartbeats 4000000
namespace Go.Abs
open Go.RowKit
variable {P : Program}
/-- A slice of rows, wherever it lies. -/
theorem RowOf.openA {t e : TypeId} {sz : Nat} {α : Type} (T : RowOf P e sz α) (h0 : 0 < sz) {H : Type} {enc : TypeId × Value → H} {w : World} {base : Nat} {spare : Nat → Bool} {held : Bool} {fuel : Nat} {v : Value} {y : DataW H × List MemPlace} (ht : P.underlying t = some (.slice e))
    (h : DataW.trod enc P w base spare held fuel t [v] = some y) : v.oneCell' = true ∧ ∃ xs : List α, xs.length ≤ maxLen ∧ Rel (GS.pure (K0 w)) (.slc sz (xs.map T.row) .non) v := by
  have h1 : v.oneCell' = true := by
    rcases DataW.trod_slice ht h with ⟨hc, _⟩ | ⟨a, len, cap, elems, rest, n, _, hcs, _⟩
    · obtain rfl : v = .slice none 0 0 := by simpa using hc
      rfl
    · obtain rfl : v = .slice (some a) len cap := by simpa using hcs
      rfl
  refine ⟨h1, ?_⟩
  by_cases hs : ∀ a len cap, v = .slice (some a) len cap → a.spot = none
  · exact T.open ht hs h
  · rcases DataW.trod_slice ht h with ⟨hc, _⟩ | ⟨a, len, cap, elems, rest, n, _, hcs, _, _, hl, hm, hlen, hel, _⟩
    · obtain rfl : v = .slice none 0 0 := by simpa using hc
      exact ⟨[], Nat.zero_le _, .inl ⟨.inl rfl, rfl⟩⟩
    · obtain rfl : v = .slice (some a) len cap := by simpa using hcs
      by_cases hl0 : len = 0
      · subst hl0
        exact ⟨[], Nat.zero_le _, .inl ⟨.inr ⟨a, cap, rfl, .inr rfl⟩, rfl⟩⟩
      · exfalso
        apply hs
        intro a' len' cap' he
        cases he
        have h2 := hel 0 (by omega)
        rw [List.getElem?_eq_getElem (by omega), Option.bind_eq_some_iff] at h2
        obtain ⟨cs, h3, _⟩ := h2
        obtain ⟨_, h4, h5⟩ := World.cells?_some h3
        rw [T.cells] at h4 h5
        have h6 := h5 0 h0
        rw [List.getElem?_eq_getElem (by omega)] at h6
        have h7 := World.cell?_spot h6
        simpa [Addr.add] using h7
theorem RelRows.one {G : GS} {b : Nat} : ∀ {xs : List AV} {o : Nat}, (∀ i x, xs[i]? = some x → ∃ v, G.K b (o + i) = some v ∧ v.oneCell' = true ∧ Rel (GS.pure G.K) x v) → RelRows G b o 1 (xs.map fun x => [x])
  | [], _, _ => trivial
  | x :: xs, o, h => ⟨rfl, ⟨h 0 x rfl, trivial⟩, RelRows.one fun i y hy => by
      have := h (i + 1) y (by simpa using hy)
      rwa [show o + (i + 1) = o + 1 + i by omega] at this⟩
/-- A slice of slices of rows. -/
theorem RowOf.open2 {t u e : TypeId} {sz : Nat} {α : Type} (T : RowOf P e sz α) (h0 : 0 < sz) {H : Type} {enc : TypeId × Value → H} {w : World} {base : Nat} {spare : Nat → Bool} {held : Bool} {fuel : Nat} {v : Value} {y : DataW H × List MemPlace} (ht : P.underlying t = some (.slice u)) (hu : P.underlying u = some (.slice e)) (hc1 : P.cellsOf u = 1)
    (hv : ∀ a len cap, v = .slice (some a) len cap → a.spot = none) (h : DataW.trod enc P w base spare held fuel t [v] = some y) :
    ∃ xss : List (List α), xss.length ≤ maxLen ∧ (∀ l ∈ xss, l.length ≤ maxLen) ∧ Rel (GS.pure (K0 w)) (.slc 1 (xss.map fun l => [.slc sz (l.map T.row) .non]) .non) v := by
  rcases DataW.trod_slice ht h with ⟨hc, _⟩ | ⟨a, len, cap, elems, rest, n, _, hcs, _, _, hl, hm, hlen, hel, _⟩
  · obtain rfl : v = .slice none 0 0 := by simpa using hc
    exact ⟨[], Nat.zero_le _, (fun l h => by cases h), .inl ⟨.inl rfl, rfl⟩⟩
  · obtain rfl : v = .slice (some a) len cap := by simpa using hcs
    have hs := hv a len cap rfl
    obtain ⟨b, o, sp⟩ := a
    dsimp only at hs; subst hs
    have each : ∀ i, i < len → ∃ xs : List α, ∃ x : Value, w.cell? ⟨b, o + i, none⟩ = some x ∧ x.oneCell' = true ∧ xs.length ≤ maxLen ∧ Rel (GS.pure (K0 w)) (.slc sz (xs.map T.row) .non) x := by
      intro i hi
      have h1 := hel i hi
      rw [hc1, add_plain, Nat.mul_one] at h1
      have h2 : elems[i]? = some elems[i] := List.getElem?_eq_getElem (by omega)
      rw [h2, Option.bind_eq_some_iff] at h1
      obtain ⟨cs, h3, h4⟩ := h1
      obtain ⟨h5, h6⟩ := cells_get h3
      obtain ⟨x, rfl⟩ : ∃ x, cs = [x] := by
        rcases cs with _ | ⟨x, _ | ⟨x2, cs⟩⟩
        · simp at h5
        · exact ⟨x, rfl⟩
        · simp at h5
      have h7 := h6 0 x rfl
      obtain ⟨g1, xs, g2, g3⟩ := T.openA h0 hu h4
      exact ⟨xs, x, by simpa using h7, g1, g2, g3⟩
    let f : Fin len → List α := fun i => Classical.choose (each i i.2)
    have hf : ∀ i : Fin len, ∃ x : Value, w.cell? ⟨b, o + i, none⟩ = some x ∧ x.oneCell' = true ∧ (f i).length ≤ maxLen ∧ Rel (GS.pure (K0 w)) (.slc sz ((f i).map T.row) .non) x := fun i => Classical.choose_spec (each i i.2)
    have hlx : (List.ofFn f).length = len := by simp
    refine ⟨List.ofFn f, by rw [hlx]; omega, ?_, .inr ⟨b, o, cap, by rw [List.length_map, hlx], by rw [List.length_map, hlx]; exact hl, ?_, trivial⟩⟩
    · intro l hl'
      obtain ⟨i, rfl⟩ := List.mem_ofFn.1 hl'
      obtain ⟨_, _, _, h, _⟩ := hf i
      exact h
    · rw [show ((List.ofFn f).map fun l => [AV.slc sz (l.map T.row) .non]) = ((List.ofFn f).map fun l => AV.slc sz (l.map T.row) .non).map fun x => [x] by rw [List.map_map]; rfl]
      refine RelRows.one fun i x hx => ?_
      rw [List.getElem?_map, Option.map_eq_some_iff] at hx
      obtain ⟨l, hl', rfl⟩ := hx
      obtain ⟨hi, hl'⟩ := List.getElem?_eq_some_iff.1 hl'
      rw [List.getElem_ofFn] at hl'
      subst hl'
      obtain ⟨x, g1, g2, _, g4⟩ := hf ⟨i, by simpa using hi⟩
      exact ⟨x, K0_get g1 g2, g2, g4⟩
end Go.Abs
namespace Go.Proofs.Ytmekfgjlcaonjaa
open Go.ChangeShapes Go.WideShapes Go.ChangeAt Go.RowKit Go.Abs
theorem cellsI : Try.prog.cellsOf 3 = 1 := by kernel_rfl
theorem cellsL : Try.prog.cellsOf 29 = 1 := by kernel_rfl
def intT : RowOf Try.prog 3 1 Int where
  row n := [.int .i64 n]
  vals n := [.int .i64 n]
  cells := cellsI
  len _ := rfl
  rel _ _ := ⟨_, _, rfl, rfl, rfl⟩
  one x v hv := by simp only [List.mem_cons, List.not_mem_nil, or_false] at hv; rcases hv with rfl; rfl
  read {H enc w base spare held fuel cs y} h := by
    obtain ⟨n, hn, _⟩ := DataW.trod_int Try.underlying3 h
    exact ⟨n, hn⟩
theorem spot_cellA {t e : TypeId} {W : World} {base : Nat} {v : Value} (ht : Try.prog.underlying t = some (.slice e)) (hv : Cell.okWide Try.prog W .any base t v) : ∀ a len cap, v = .slice (some a) len cap → a.spot = none := by
  intro a len cap h; subst h
  simp only [ht, Cell.okWide, Cell.ok] at hv
  exact hv.2.2.2.1
end Go.Proofs.Ytmekfgjlcaonjaa
