/- A part of the proofs of the laws of this seat: contracts of the functions that they reach, each proved of the program's form in Lean. No condition beyond those that each contract names. -/
import Derived.Test.YtcgcciegekaliaaFr2
import Derived.Test.YtcgcciegekaliaaB8
set_option linter.unusedVariables false
set_option linter.unusedSimpArgs false
set_option maxRecDepth 20000
set_option maxHeartbeats 4000000
/-! ### Parties as arguments -/
namespace Go.Proofs.Ytcgcciegekaliaa
open Go.ChangeShapes Go.WideShapes Go.ChangeAt Go.RowKit Go.Abs
theorem cells56 : Try.prog.cellsOf 56 = 4 := by kernel_rfl
theorem cells22 : Try.prog.cellsOf 22 = 1 := by kernel_rfl
theorem cells50 : Try.prog.cellsOf 50 = 1 := by kernel_rfl
theorem cells52 : Try.prog.cellsOf 52 = 2 := by kernel_rfl
theorem ctypes52 : Try.prog.cellTypes Try.prog.depth 52 = some [22, 50] := by kernel_rfl
theorem four {α : Type} {cs : List α} {a b c d : α} (hl : cs.length = 4) (h0 : cs[0]? = some a) (h1 : cs[1]? = some b) (h2 : cs[2]? = some c) (h3 : cs[3]? = some d) : cs = [a, b, c, d] := by
  rcases cs with _ | ⟨x0, _ | ⟨x1, _ | ⟨x2, _ | ⟨x3, _ | ⟨x4, cs⟩⟩⟩⟩⟩ <;> simp_all
def ruleT : RowOf Try.prog 56 4 Rule where
  row := Rule.row
  vals d := [.int .i64 d.kind, .int .i64 d.a, .int .i64 d.b, .int .i64 d.weight]
  cells := cells56
  len _ := rfl
  rel _ _ := ⟨_, _, rfl, rfl, _, _, rfl, rfl, _, _, rfl, rfl, _, _, rfl, rfl, rfl⟩
  one x v hv := by simp only [List.mem_cons, List.not_mem_nil, or_false] at hv; rcases hv with rfl | rfl | rfl | rfl <;> rfl
  read {H enc w base spare held fuel cs y} h := by
    have ht := Try.underlying56
    have hl : cs.length = 4 := by obtain ⟨_, _, _, _, hl, _⟩ := DataW.trod_struct ht h; rw [hl, cells56]
    obtain ⟨a0, h0⟩ := field_int ht h 0 _ rfl Try.underlying3 cells3
    obtain ⟨a1, h1⟩ := field_int ht h 1 _ rfl Try.underlying3 cells3
    obtain ⟨a2, h2⟩ := field_int ht h 2 _ rfl Try.underlying3 cells3
    obtain ⟨a3, h3⟩ := field_int ht h 3 _ rfl Try.underlying3 cells3
    exact ⟨⟨a0, a1, a2, a3⟩, four hl h0 h1 h2 h3⟩
theorem spot_cell {t e : TypeId} {W : World} {base : Nat} {v : Value} (ht : Try.prog.underlying t = some (.slice e)) (hv : Cell.okWide Try.prog W .any base t v) : ∀ a len cap, v = .slice (some a) len cap → a.spot = none := by
  intro a len cap h; subst h
  simp only [ht, Cell.okWide, Cell.ok] at hv
  exact hv.2.2.2.1
/-- A party, as an argument. -/
theorem open_party {H : Type} {enc : TypeId × Value → H} {W : World} {base : Nat} {v : Value} {d : DataW H} {ps : List MemPlace} (hv : Value.okWide Try.prog W .any base 52 v) (h : DataW.Trod enc Try.prog W 0 (fun _ => true) true 52 v d ps) :
    ∃ (gs : List Guest) (rs : List Rule), gs.length ≤ maxLen ∧ rs.length ≤ maxLen ∧ Rel (GS.pure (K0 W)) (pA gs rs) v := by
  obtain ⟨fuel, hf⟩ := h
  simp only [Value.okWide, Try.underlying52] at hv
  obtain ⟨cs, rfl, hsz, ts, hts, _, hc⟩ := hv
  rw [ctypes52] at hts; cases hts
  obtain ⟨xs, n, _, _, hl, hx, hfs⟩ := DataW.trod_struct Try.underlying52 hf
  rw [cells52] at hl hsz
  have hcl : (Value.agg cs).cells.toList = cs.toList := rfl
  rw [hcl] at hl hfs
  obtain ⟨v0, v1, hcs⟩ : ∃ v0 v1, cs.toList = [v0, v1] := by
    generalize cs.toList = l at hl
    rcases l with _ | ⟨x0, _ | ⟨x1, _ | ⟨x2, l⟩⟩⟩
    · simp at hl
    · simp at hl
    · exact ⟨_, _, rfl⟩
    · simp at hl
  have e0 : cs[0]? = some v0 := by rw [← Array.getElem?_toList, hcs]; rfl
  have e1 : cs[1]? = some v1 := by rw [← Array.getElem?_toList, hcs]; rfl
  have hxl : xs.length = 2 := hx
  obtain ⟨u0, hu0, o0⟩ := hc 0 v0 e0
  cases hu0
  obtain ⟨u1, hu1, o1⟩ := hc 1 v1 e1
  cases hu1
  have f0 : DataW.trod enc Try.prog W 0 (fun _ => true) true n 22 (List.take (Try.prog.cellsOf 22) (List.drop 0 cs.toList)) = xs[0]? := hfs 0 _ rfl
  have f1 : DataW.trod enc Try.prog W 0 (fun _ => true) true n 50 (List.take (Try.prog.cellsOf 50) (List.drop 1 cs.toList)) = xs[1]? := hfs 1 _ rfl
  rw [List.getElem?_eq_getElem (by omega), hcs] at f0 f1
  rw [cells22] at f0
  rw [cells50] at f1
  obtain ⟨gs, hg, rg⟩ := guestT.open Try.underlying22 (spot_cell Try.underlying22 o0) f0
  obtain ⟨rs, hr, rr⟩ := ruleT.open Try.underlying50 (spot_cell Try.underlying50 o1) f1
  exact ⟨gs, rs, hg, hr, cs, rfl, by rw [hcs]; exact ⟨_, _, rfl, rg, _, _, rfl, rr, rfl⟩⟩
end Go.Proofs.Ytcgcciegekaliaa
