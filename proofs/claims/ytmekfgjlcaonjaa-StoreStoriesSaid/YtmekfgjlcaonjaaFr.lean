/- A part of the proofs of the laws of this seat: contracts of the functions that they reach, each proved of the program's form in Lean. No condition beyond those that each contract names. -/
import Derived.Test.YtmekfgjlcaonjaaSnd3
import Derived.Test.YtmekfgjlcaonjaaRows
import Derived.WalkKit
import Derived.ProofKit
import Derived.OpenShut
import Derived.ShutString
import Derived.ChangeOld
import Derived.SizedLaws
import Derived.Below
set_option linter.unusedVariables false
set_option linter.unusedSimpArgs false
set_option maxRecDepth 20000
set_option maxHeartbeats 4000000
namespace Go.Abs
open Go.RowKit
variable {P : Program}
theorem Ext.below {K K' : Nat → Nat → Option Value} {w w' : World} (h : Ext (fun _ => False) K w K' w') : Below w.heap.size w w' :=
  ⟨h.os, h.tape, h.output, h.size, fun k hk => h.block k hk id⟩
/-- All cells of a world. -/
def K0 (w : World) (b o : Nat) : Option Value := match w.cell? ⟨b, o, none⟩ with
  | some v => match v.oneCell' with
    | true => some v
    | false => none
  | none => none
theorem K0_ok (w : World) : Kok (K0 w) w := ⟨fun b o v h => by
  simp only [K0] at h
  split at h
  · rename_i u hc
    split at h
    · rename_i h1
      cases h
      left
      unfold World.cell? at hc
      cases hb : w.heap[b]? with
      | none => simp [hb] at hc
      | some ob =>
        simp only [hb] at hc
        cases ob <;> simp at hc
        exact ⟨_, _, _, rfl, by simpa using hc, h1⟩
    · cases h
  · cases h⟩
theorem K0_get {w : World} {b o : Nat} {v : Value} (h : w.cell? ⟨b, o, none⟩ = some v) (h1 : v.oneCell' = true) : K0 w b o = some v := by
  simp only [K0, h, h1]
/-- A slice of numbers that came in. -/
def IsRow (k : IntKind) (w : World) (a : Option Addr) (len cap : Nat) (zs : List Int) : Prop :=
  (a = none ∧ len = 0 ∧ cap = 0 ∧ zs = []) ∨
  ∃ b o, a = some ⟨b, o, none⟩ ∧ len ≤ cap ∧ cap ≤ maxLen ∧ zs.length = cap ∧ (∀ i, i < zs.length → w.cell? ⟨b, o + i, none⟩ = some (.int k (zs.getD i 0))) ∧ ∀ n ∈ zs, (Lit.int k n).wf = true
theorem rows_of {w : World} {b : Nat} {k : IntKind} : ∀ {zs : List Int} {o : Nat}, (∀ i, i < zs.length → w.cell? ⟨b, o + i, none⟩ = some (.int k (zs.getD i 0))) → RelRows (GS.pure (K0 w)) b o 1 (zs.map fun n => [.int k n])
  | [], _, _ => trivial
  | z :: zs, o, h => by
    refine ⟨rfl, ⟨⟨.int k z, K0_get (by simpa using h 0 (by simp)) rfl, rfl, rfl⟩, trivial⟩, rows_of fun i hi => ?_⟩
    have := h (i + 1) (by simpa using hi)
    simpa [Nat.add_assoc, Nat.add_comm 1 i] using this
theorem IsRow.rel {k : IntKind} {w : World} {a : Option Addr} {len cap : Nat} {zs : List Int} (h : IsRow k w a len cap zs) : (zs.take len).length = len ∧ len ≤ maxLen ∧ Rel (GS.pure (K0 w)) (.slc 1 ((zs.take len).map fun n => [.int k n]) .non) (.slice a len cap) := by
  rcases h with ⟨rfl, rfl, rfl, rfl⟩ | ⟨b, o, rfl, hl, hm, hz, hc, hw⟩
  · exact ⟨rfl, Nat.zero_le _, .inl ⟨.inl rfl, rfl⟩⟩
  · have hlen : (zs.take len).length = len := by simp; omega
    refine ⟨hlen, by omega, .inr ⟨b, o, cap, by rw [List.length_map, hlen], by rw [List.length_map, hlen]; exact hl, rows_of fun i hi => ?_, trivial⟩⟩
    rw [List.length_take] at hi
    have h1 := hc i (by omega)
    simpa [List.getD_eq_getElem?_getD, List.getElem?_take, show i < len by omega] using h1
theorem spot_of {P : Program} {W : World} {t e : TypeId} {a : Addr} {len cap : Nat} (ht : P.underlying t = some (.slice e)) (h : Value.okWide P W .any 0 t (.slice (some a) len cap)) : a.spot = none := by
  simp only [Value.okWide, ht, Cell.okWide, Cell.ok] at h
  exact h.2.2.2.1
end Go.Abs
namespace Go.Proofs.Ytmekfgjlcaonjaa
open Go.ChangeShapes Go.WideShapes Go.ChangeAt Go.RowKit Go.Abs
open Go.ChangeMaps (open_string shut_string)
theorem own : ownKnob Try.prog.godebug = none := by kernel_rfl
theorem laidOut : laidOutB Try.prog = true := by kernel_rfl
set_option maxRecDepth 100000 in
/-- A slice of numbers: what the set-up says of it. -/
theorem open_nums {H : Type} {enc : TypeId × Value → H} {W : World} {base : Nat} {v : Value} {d : DataW H} {ps : List MemPlace} (hv : Value.okWide Try.prog W .any base 29 v) (h : DataW.Trod enc Try.prog W 0 (fun _ => true) true 29 v d ps) (hw : (DataW.weights Try.prog 29 d).all (· ≤ reachBytes) = true) :
    ∃ a len cap zs, v = .slice a len cap ∧ IsRow .i64 W a len cap zs ∧ len < 2 ^ 48 := by
  obtain ⟨a, len, cap, rfl⟩ := okWide_slice Try.underlying29 hv
  obtain ⟨fuel, hf⟩ := h
  rcases open_ints Try.underlying29 Try.underlying3 (by kernel_rfl) hf with ⟨hcs, _⟩ | ⟨x, l, c, zs, hcs, _, hl, hm, hz, hd, hcell, hwz⟩
  · simp [Value.cells] at hcs
    obtain ⟨rfl, rfl, rfl⟩ := hcs
    exact ⟨none, 0, 0, [], rfl, .inl ⟨rfl, rfl, rfl, rfl⟩, by omega⟩
  · simp [Value.cells] at hcs
    obtain ⟨rfl, rfl, rfl⟩ := hcs
    have hs := spot_of Try.underlying29 hv
    obtain ⟨b, o, sp⟩ := x
    dsimp only at hs; subst hs
    have hz' : zs.length = cap := by simpa using hz
    refine ⟨_, len, cap, zs, rfl, .inr ⟨b, o, rfl, hl, hm, hz', fun i hi => ?_, hwz⟩, ?_⟩
    · have e : (⟨b, o, none⟩ : Addr).add i = ⟨b, o + i, none⟩ := by
        by_cases h0 : i = 0
        · subst h0; rfl
        · simp [Addr.add, h0]
      rw [← e]; exact hcell i hi
    · have hd' : d = .slice (lits .i64 (zs.take len)) (lits .i64 (zs.drop len)) := congrArg Prod.fst hd
      subst hd'
      simp only [DataW.weights, Try.underlying29, List.all_cons, Bool.and_eq_true, decide_eq_true_eq] at hw
      have h8 : Try.prog.bytesOf 3 = 8 := by kernel_rfl
      have h1 := hw.1
      simp only [lits, List.length_map, List.length_take, List.length_drop, hz'] at h1
      rw [h8] at h1
      have hm : min len cap = len := Nat.min_eq_left hl
      rw [hm] at h1
      have hr : reachBytes = 140737488351232 := rfl
      rw [hr] at h1; omega
end Go.Proofs.Ytmekfgjlcaonjaa
