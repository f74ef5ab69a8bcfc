/- A part of the proofs of the laws of this seat: contracts of the functions that they reach, each proved of the program's form in Lean. No condition beyond those that each contract names. -/
import Derived.Test.YtmekfgjlcaonjaaFr5
import Derived.Test.YtmekfgjlcaonjaaC1
set_option linter.unusedVariables false
set_option linter.unusedSimpArgs false
set_option maxRecDepth 20000
set_option maxHeartbeats 4000000
namespace Go.Proofs.Ytmekfgjlcaonjaa
open Go.ChangeShapes Go.WideShapes Go.ChangeAt Go.RowKit Go.Abs
theorem cellsChn : Try.prog.cellsOf 26 = 4 := by kernel_rfl
theorem cellsLnk : Try.prog.cellsOf 28 = 4 := by kernel_rfl
theorem cellsSpn : Try.prog.cellsOf 23 = 2 := by kernel_rfl
theorem cellsLks : Try.prog.cellsOf 24 = 1 := by kernel_rfl
theorem underChn : Try.prog.underlying 26 = Try.prog.underlying 25 := by kernel_rfl
theorem underLnk : Try.prog.underlying 28 = Try.prog.underlying 27 := by kernel_rfl
theorem underSpn : Try.prog.underlying 23 = Try.prog.underlying 22 := by kernel_rfl
theorem list2 {α : Type} {l : List α} (h : l.length = 2) : ∃ a b, l = [a, b] := by
  rcases l with _ | ⟨a, _ | ⟨b, _ | ⟨c, l⟩⟩⟩
  · simp at h
  · simp at h
  · exact ⟨_, _, rfl⟩
  · simp at h
theorem list4 {α : Type} {l : List α} (h : l.length = 4) : ∃ a b c d, l = [a, b, c, d] := by
  rcases l with _ | ⟨a, _ | ⟨b, _ | ⟨c, _ | ⟨d, _ | ⟨f, l⟩⟩⟩⟩⟩
  · simp at h
  · simp at h
  · simp at h
  · simp at h
  · exact ⟨_, _, _, _, rfl⟩
  · simp at h
/-- A span's cells. -/
theorem span_cells {H : Type} {enc : TypeId × Value → H} {w : World} {base : Nat} {spare : Nat → Bool} {held : Bool} {fuel : Nat} {cs : List Value} {y : DataW H × List MemPlace} (h : DataW.trod enc Try.prog w base spare held fuel 23 cs = some y) : ∃ a b : Int, cs = [.int .i64 a, .int .i64 b] := by
  have us := underSpn.trans Try.underlying22
  have hl : cs.length = 2 := by obtain ⟨_, _, _, _, hl, _⟩ := DataW.trod_struct us h; rw [hl, cellsSpn]
  obtain ⟨a0, h0⟩ := field_int us h 0 _ rfl Try.underlying3 cellsI
  obtain ⟨a1, h1⟩ := field_int us h 1 _ rfl Try.underlying3 cellsI
  obtain ⟨x, y, rfl⟩ := list2 hl
  refine ⟨a0, a1, ?_⟩
  have e0 : x = .int .i64 a0 := by simpa using h0
  have e1 : y = .int .i64 a1 := by simpa using h1
  rw [e0, e1]
def lnkT : RowOf Try.prog 28 4 Lnk where
  row g := [.int .i64 g.f, .int .i64 g.t, .int .i64 g.lo, .int .i64 g.hi]
  vals g := [.int .i64 g.f, .int .i64 g.t, .int .i64 g.lo, .int .i64 g.hi]
  cells := cellsLnk
  len _ := rfl
  rel _ _ := ⟨_, _, rfl, rfl, _, _, rfl, rfl, _, _, rfl, rfl, _, _, rfl, rfl, rfl⟩
  one x v hv := by simp only [List.mem_cons, List.not_mem_nil, or_false] at hv; rcases hv with rfl | rfl | rfl | rfl <;> rfl
  read {H enc w base spare held fuel cs y} h := by
    have us := underLnk.trans Try.underlying27
    obtain ⟨xs, n, _, _, hl, hx, hfs⟩ := DataW.trod_struct us h
    rw [cellsLnk] at hl
    obtain ⟨a0, h0⟩ := field_int us h 0 _ rfl Try.underlying3 cellsI
    obtain ⟨a1, h1⟩ := field_int us h 1 _ rfl Try.underlying3 cellsI
    have hxl : xs.length = 3 := hx
    have f2 : DataW.trod enc Try.prog w base spare held n 23 (List.take (Try.prog.cellsOf 23) (List.drop 2 cs)) = xs[2]? := hfs 2 _ rfl
    rw [List.getElem?_eq_getElem (by omega), cellsSpn] at f2
    obtain ⟨a2, a3, h2⟩ := span_cells f2
    obtain ⟨x, y, z, t, rfl⟩ := list4 hl
    have e0 : x = .int .i64 a0 := by simpa using h0
    have e1 : y = .int .i64 a1 := by simpa using h1
    have e2 : z = .int .i64 a2 ∧ t = .int .i64 a3 := by simpa using h2
    exact ⟨⟨a0, a1, a2, a3⟩, by rw [e0, e1, e2.1, e2.2]⟩
/-- A chain, as an argument. -/
theorem open_chain {H : Type} {enc : TypeId × Value → H} {W : World} {base : Nat} {v : Value} {d : DataW H} {ps : List MemPlace} (hv : Value.okWide Try.prog W .any base 26 v) (h : DataW.Trod enc Try.prog W 0 (fun _ => true) true 26 v d ps) :
    ∃ c : Chn, c.ls.length ≤ maxLen ∧ Rel (GS.pure (K0 W)) (cA c) v := by
  have us := underChn.trans Try.underlying25
  obtain ⟨fuel, hf⟩ := h
  simp only [Value.okWide, us] at hv
  obtain ⟨cs, rfl, hsz, ts, hts, _, hc⟩ := hv
  obtain ⟨a0, h0⟩ := field_int us hf 0 _ rfl Try.underlying3 cellsI
  obtain ⟨xs, n, _, _, hl, hx, hfs⟩ := DataW.trod_struct us hf
  rw [cellsChn] at hl hsz
  have hcl : (Value.agg cs).cells.toList = cs.toList := rfl
  rw [hcl] at hl hfs h0
  obtain ⟨v0, v1, v2, v3, hcs⟩ := list4 hl
  have hxl : xs.length = 3 := hx
  have f1 : DataW.trod enc Try.prog W 0 (fun _ => true) true n 23 (List.take (Try.prog.cellsOf 23) (List.drop 1 cs.toList)) = xs[1]? := hfs 1 _ rfl
  have f2 : DataW.trod enc Try.prog W 0 (fun _ => true) true n 24 (List.take (Try.prog.cellsOf 24) (List.drop 3 cs.toList)) = xs[2]? := hfs 2 _ rfl
  rw [List.getElem?_eq_getElem (by omega), hcs] at f1 f2
  rw [cellsSpn] at f1
  rw [cellsLks] at f2
  obtain ⟨a1, a2, h1⟩ := span_cells f1
  obtain ⟨_, ls, hg, rg⟩ := lnkT.openA (by omega) Try.underlying24 f2
  rw [hcs] at h0
  have e0 : v0 = .int .i64 a0 := by simpa using h0
  have e1 : v1 = .int .i64 a1 ∧ v2 = .int .i64 a2 := by simpa using h1
  exact ⟨⟨a0, a1, a2, ls⟩, hg, cs, rfl, by rw [hcs]; exact ⟨_, _, rfl, e0, _, _, rfl, e1.1, _, _, rfl, e1.2, _, _, rfl, rg, rfl⟩⟩
end Go.Proofs.Ytmekfgjlcaonjaa
