/- A part of the proofs of the laws of this seat: contracts of the functions that they reach, each proved of the program's form in Lean. No condition beyond those that each contract names. -/
import Derived.Test.YtcgcciegekaliaaFr2
set_option linter.unusedVariables false
set_option linter.unusedSimpArgs false
set_option maxRecDepth 20000
set_option maxHeartbeats 4000000
/-! ### Bonds as arguments -/
namespace Go.Proofs.Ytcgcciegekaliaa
open Go.ChangeShapes Go.WideShapes Go.ChangeAt Go.RowKit Go.Abs
theorem cells84 : Try.prog.cellsOf 84 = 3 := by kernel_rfl
theorem under84 : Try.prog.underlying 84 = Try.prog.underlying 83 := by kernel_rfl
def bondT : RowOf Try.prog 84 3 Bond where
  row := Bond.row
  vals d := [.int .i64 d.kind, .int .i64 d.a, .int .i64 d.b]
  cells := cells84
  len _ := rfl
  rel _ _ := ⟨_, _, rfl, rfl, _, _, rfl, rfl, _, _, rfl, rfl, rfl⟩
  one x v hv := by simp only [List.mem_cons, List.not_mem_nil, or_false] at hv; rcases hv with rfl | rfl | rfl <;> rfl
  read {H enc w base spare held fuel cs y} h := by
    have ht := under84.trans Try.underlying83
    have hl : cs.length = 3 := by obtain ⟨_, _, _, _, hl, _⟩ := DataW.trod_struct ht h; rw [hl, cells84]
    obtain ⟨a0, h0⟩ := field_int ht h 0 _ rfl Try.underlying3 cells3
    obtain ⟨a1, h1⟩ := field_int ht h 1 _ rfl Try.underlying3 cells3
    obtain ⟨a2, h2⟩ := field_int ht h 2 _ rfl Try.underlying3 cells3
    exact ⟨⟨a0, a1, a2⟩, three' hl h0 h1 h2⟩
end Go.Proofs.Ytcgcciegekaliaa
