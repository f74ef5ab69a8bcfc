/- A part of the proofs of the laws of this seat: contracts of the functions that they reach, each proved of the program's form in Lean. No condition beyond those that each contract names. -/
import Derived.Test.YtmekfgjlcaonjaaFr5
import Derived.Test.YtmekfgjlcaonjaaC10
set_option linter.unusedVariables false
set_option linter.unusedSimpArgs false
set_option maxRecDepth 20000
set_option maxHeartbeats 4000000
namespace Go.Proofs.Ytmekfgjlcaonjaa
open Go.ChangeShapes Go.WideShapes Go.ChangeAt Go.RowKit Go.Abs
theorem cellsLL : Try.prog.cellsOf 39 = 1 := by kernel_rfl
theorem cellsSea : Try.prog.cellsOf 69 = 2 := by kernel_rfl
theorem ctypesSea : Try.prog.cellTypes Try.prog.depth 69 = some [29, 39] := by kernel_rfl
theorem underSea : Try.prog.underlying 69 = Try.prog.underlying 68 := by kernel_rfl
/-- A season, as an argument. -/
theorem open_season {H : Type} {enc : TypeId × Value → H} {W : World} {base : Nat} {v : Value} {d : DataW H} {ps : List MemPlace} (hv : Value.okWide Try.prog W .any base 69 v) (h : DataW.Trod enc Try.prog W 0 (fun _ => true) true 69 v d ps) :
    ∃ s : Sea, s.ss.length ≤ maxLen ∧ s.gs.length ≤ maxLen ∧ (∀ l ∈ s.gs, l.length ≤ maxLen) ∧ Rel (GS.pure (K0 W)) (seA s) v := by
  have us := underSea.trans Try.underlying68
  obtain ⟨fuel, hf⟩ := h
  simp only [Value.okWide, us] at hv
  obtain ⟨cs, rfl, hsz, ts, hts, _, hc⟩ := hv
  rw [ctypesSea] at hts; cases hts
  obtain ⟨xs, n, _, _, hl, hx, hfs⟩ := DataW.trod_struct us hf
  rw [cellsSea] at hl hsz
  have hcl : (Value.agg cs).cells.toList = cs.toList := rfl
  rw [hcl] at hl hfs
  obtain ⟨v0, v1, hcs⟩ : ∃ v0 v1, cs.toList = [v0, v1] := by
    generalize cs.toList = l at hl
    rcases l with _ | ⟨x0, _ | ⟨x1, _ | ⟨x2, l⟩⟩⟩
    · simp at hl
    · simp at hl
    · exact ⟨_, _, rfl⟩
    · simp at hl
  have e0 : cs[0]? = some v0 := by rw [← Array.getElem?_toList, hcs]; rfl
  have e1 : cs[1]? = some v1 := by rw [← Array.getElem?_toList, hcs]; rfl
  have hxl : xs.length = 2 := hx
  obtain ⟨u0, hu0, o0⟩ := hc 0 v0 e0
  cases hu0
  obtain ⟨u1, hu1, o1⟩ := hc 1 v1 e1
  cases hu1
  have f0 : DataW.trod enc Try.prog W 0 (fun _ => true) true n 29 (List.take (Try.prog.cellsOf 29) (List.drop 0 cs.toList)) = xs[0]? := hfs 0 _ rfl
  have f1 : DataW.trod enc Try.prog W 0 (fun _ => true) true n 39 (List.take (Try.prog.cellsOf 39) (List.drop 1 cs.toList)) = xs[1]? := hfs 1 _ rfl
  rw [List.getElem?_eq_getElem (by omega), hcs] at f0 f1
  rw [cellsL] at f0
  rw [cellsLL] at f1
  obtain ⟨_, ss, hg, rg⟩ := intT.openA (by omega) Try.underlying29 f0
  obtain ⟨gs, hr, hrl, rr⟩ := intT.open2 (by omega) Try.underlying39 Try.underlying29 cellsL (spot_cellA Try.underlying39 o1) f1
  exact ⟨⟨ss, gs⟩, hg, hr, hrl, cs, rfl, by rw [hcs]; exact ⟨_, _, rfl, rg, _, _, rfl, rr, rfl⟩⟩
end Go.Proofs.Ytmekfgjlcaonjaa
