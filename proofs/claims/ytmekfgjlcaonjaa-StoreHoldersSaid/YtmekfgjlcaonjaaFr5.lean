/- A part of the proofs of the laws of this seat: contracts of the functions that they reach, each proved of the program's form in Lean. No condition beyond those that each contract names. -/
import Derived.Test.YtmekfgjlcaonjaaFr2
set_option linter.unusedVariables false
set_option linter.unusedSimpArgs false
set_option maxRecDepth 20000
set_option maxHeartbeats 4000000
namespace Go.Abs
open Go.RowKit
variable {P : Program}
/-- A slice of rows, wherever it lies. -/
theorem RowOf.openA {t e : TypeId} {sz : Nat} {α : Type} (T : RowOf P e sz α) (h0 : 0 < sz) {H : Type} {enc : TypeId × Value → H} {w : World} {base : Nat} {spare : Nat → Bool} {held : Bool} {fuel : Nat} {v : Value} {y : DataW H × List MemPlace} (ht : P.underlying t = some (.slice e))
    (h : DataW.trod enc P w base spare held fuel t [v] = some y) : v.oneCell' = true ∧ ∃ xs : List α, xs.length ≤ maxLen ∧ Rel (GS.pure (K0 w)) (.slc sz (xs.map T.row) .non) v := by
  have h1 : v.oneCell' = true := by
    rcases DataW.trod_slice ht h with ⟨hc, _⟩ | ⟨a, len, cap, elems, rest, n, _, hcs, _⟩
    · obtain rfl : v = .slice none 0 0 := by simpa using hc
      rfl
    · obtain rfl : v = .slice (some a) len cap := by simpa using hcs
      rfl
  refine ⟨h1, ?_⟩
  by_cases hs : ∀ a len cap, v = .slice (some a) len cap → a.spot = none
  · exact T.open ht hs h
  · rcases DataW.trod_slice ht h with ⟨hc, _⟩ | ⟨a, len, cap, elems, rest, n, _, hcs, _, _, hl, hm, hlen, hel, _⟩
    · obtain rfl : v = .slice none 0 0 := by simpa using hc
      exact ⟨[], Nat.zero_le _, .inl ⟨.inl rfl, rfl⟩⟩
    · obtain rfl : v = .slice (some a) len cap := by simpa using hcs
      by_cases hl0 : len = 0
      · subst hl0
        exact ⟨[], Nat.zero_le _, .inl ⟨.inr ⟨a, cap, rfl, .inr rfl⟩, rfl⟩⟩
      · exfalso
        apply hs
        intro a' len' cap' he
        cases he
        have h2 := hel 0 (by omega)
        rw [List.getElem?_eq_getElem (by omega), Option.bind_eq_some_iff] at h2
        obtain ⟨cs, h3, _⟩ := h2
        obtain ⟨_, h4, h5⟩ := World.cells?_some h3
        rw [T.cells] at h4 h5
        have h6 := h5 0 h0
        rw [List.getElem?_eq_getElem (by omega)] at h6
        have h7 := World.cell?_spot h6
        simpa [Addr.add] using h7
theorem RelRows.one {G : GS} {b : Nat} : ∀ {xs : List AV} {o : Nat}, (∀ i x, xs[i]? = some x → ∃ v, G.K b (o + i) = some v ∧ v.oneCell' = true ∧ Rel (GS.pure G.K) x v) → RelRows G b o 1 (xs.map fun x => [x])
  | [], _, _ => trivial
  | x :: xs, o, h => ⟨rfl, ⟨h 0 x rfl, trivial⟩, RelRows.one fun i y hy => by
      have := h (i + 1) y (by simpa using hy)
      rwa [show o + (i + 1) = o + 1 + i by omega] at this⟩
end Go.Abs
namespace Go.Proofs.Ytmekfgjlcaonjaa
open Go.ChangeShapes Go.WideShapes Go.ChangeAt Go.RowKit Go.Abs
theorem cellsI : Try.prog.cellsOf 3 = 1 := by kernel_rfl
end Go.Proofs.Ytmekfgjlcaonjaa
