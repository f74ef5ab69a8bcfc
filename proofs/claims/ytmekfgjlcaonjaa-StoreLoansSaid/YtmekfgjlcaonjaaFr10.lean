/- A part of the proofs of the laws of this seat: contracts of the functions that they reach, each proved of the program's form in Lean. No condition beyond those that each contract names. -/
import Derived.Test.YtmekfgjlcaonjaaFr5
import Derived.Test.YtmekfgjlcaonjaaG1
set_option linter.unusedVariables false
set_option linter.unusedSimpArgs false
set_option maxRecDepth 20000
set_option maxHeartbeats 4000000
namespace Go.Proofs.Ytmekfgjlcaonjaa
open Go.ChangeShapes Go.WideShapes Go.ChangeAt Go.RowKit Go.Abs
theorem cellsLon : Try.prog.cellsOf 101 = 4 := by kernel_rfl
theorem underLon : Try.prog.underlying 101 = Try.prog.underlying 100 := by kernel_rfl
theorem four {α : Type} {cs : List α} {a b c d : α} (hl : cs.length = 4) (h0 : cs[0]? = some a) (h1 : cs[1]? = some b) (h2 : cs[2]? = some c) (h3 : cs[3]? = some d) : cs = [a, b, c, d] := by
  rcases cs with _ | ⟨x0, _ | ⟨x1, _ | ⟨x2, _ | ⟨x3, _ | ⟨x4, cs⟩⟩⟩⟩⟩ <;> simp_all
def lonT : RowOf Try.prog 101 4 Lon where
  row g := [.int .i64 g.th, .int .i64 g.fr, .int .i64 g.to, .int .i64 g.wo]
  vals g := [.int .i64 g.th, .int .i64 g.fr, .int .i64 g.to, .int .i64 g.wo]
  cells := cellsLon
  len _ := rfl
  rel _ _ := ⟨_, _, rfl, rfl, _, _, rfl, rfl, _, _, rfl, rfl, _, _, rfl, rfl, rfl⟩
  one x v hv := by simp only [List.mem_cons, List.not_mem_nil, or_false] at hv; rcases hv with rfl | rfl | rfl | rfl <;> rfl
  read {H enc w base spare held fuel cs y} h := by
    have ht := underLon.trans Try.underlying100
    have hl : cs.length = 4 := by obtain ⟨_, _, _, _, hl, _⟩ := DataW.trod_struct ht h; rw [hl, cellsLon]
    obtain ⟨a0, h0⟩ := field_int ht h 0 _ rfl Try.underlying3 cellsI
    obtain ⟨a1, h1⟩ := field_int ht h 1 _ rfl Try.underlying3 cellsI
    obtain ⟨a2, h2⟩ := field_int ht h 2 _ rfl Try.underlying3 cellsI
    obtain ⟨a3, h3⟩ := field_int ht h 3 _ rfl Try.underlying3 cellsI
    exact ⟨⟨a0, a1, a2, a3⟩, four hl h0 h1 h2 h3⟩
end Go.Proofs.Ytmekfgjlcaonjaa
