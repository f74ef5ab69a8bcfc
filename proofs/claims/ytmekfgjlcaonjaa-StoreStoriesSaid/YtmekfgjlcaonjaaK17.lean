/- A part of the proofs of the laws of this seat: contracts of the functions that they reach, each proved of the program's form in Lean. No condition beyond those that each contract names. -/
import Derived.Test.YtmekfgjlcaonjaaK16
import Derived.Test.YtmekfgjlcaonjaaK15
import Derived.Test.YtmekfgjlcaonjaaK13
import Derived.Test.YtmekfgjlcaonjaaK14
import Derived.Test.YtmekfgjlcaonjaaD1
import Derived.Test.YtmekfgjlcaonjaaC6
import Derived.Test.YtmekfgjlcaonjaaC5
import Derived.Test.YtmekfgjlcaonjaaC4
import Derived.Test.YtmekfgjlcaonjaaC3
import Derived.Test.YtmekfgjlcaonjaaC2
import Derived.Test.YtmekfgjlcaonjaaC1
import Derived.Test.YtmekfgjlcaonjaaB
import Derived.Test.YtmekfgjlcaonjaaD8
set_option linter.unusedVariables false
set_option linter.unusedSimpArgs false
set_option maxRecDepth 20000
set_option maxHeartbeats 4000000
namespace Go.Abs
def rngI (a b : Int) : List Int := (List.range (b - a + 1).toNat).map fun (k : Nat) => a + (k : Int)
theorem mem_rngI {a b x : Int} : x ∈ rngI a b ↔ a ≤ x ∧ x ≤ b := by
  unfold rngI
  rw [List.mem_map]
  constructor
  · rintro ⟨k, hk, rfl⟩
    have := List.mem_range.1 hk
    omega
  · rintro ⟨h1, h2⟩
    exact ⟨(x - a).toNat, List.mem_range.2 (by omega), by omega⟩
def allD (ls : List Lnk) : Int → List Int → List (List Int)
  | _, [] => [[]]
  | d, i :: r => ((rngI (lkAt ls i).lo (lkAt ls i).hi).filter fun x => decide (d < x)).flatMap fun x => (allD ls x r).map (x :: ·)
def allS (c : Chn) (o : List Int) : List (List Int) := (rngI c.lo c.hi).flatMap fun d => (allD c.ls d o).map (d :: ·)
theorem mem_allD {ls : List Lnk} : ∀ {o : List Int} {d : Int} {xs : List Int}, xs ∈ allD ls d o ↔ dayd ls d o xs
  | [], d, xs => by
    cases xs with
    | nil => exact ⟨fun _ => trivial, fun _ => by simp [allD]⟩
    | cons x xs => exact ⟨fun h => by simp [allD] at h, fun h => h.elim⟩
  | i :: r, d, xs => by
    rw [allD, List.mem_flatMap]
    constructor
    · rintro ⟨x, hx, h⟩
      obtain ⟨ys, hy, rfl⟩ := List.mem_map.1 h
      obtain ⟨h1, h2⟩ := List.mem_filter.1 hx
      have h1 := mem_rngI.1 h1
      exact ⟨by simpa using h2, h1.1, h1.2, mem_allD.1 hy⟩
    · intro h
      cases xs with
      | nil => exact h.elim
      | cons x xs =>
        obtain ⟨h1, h2, h3, h4⟩ := h
        exact ⟨x, List.mem_filter.2 ⟨mem_rngI.2 ⟨h2, h3⟩, by simpa using h1⟩, List.mem_map.2 ⟨xs, mem_allD.2 h4, rfl⟩⟩
theorem mem_allS {c : Chn} {o ds : List Int} : ds ∈ allS c o ↔ Story c o ds := by
  unfold allS
  rw [List.mem_flatMap]
  constructor
  · rintro ⟨d, hd, h⟩
    obtain ⟨ys, hy, rfl⟩ := List.mem_map.1 h
    have hd := mem_rngI.1 hd
    exact ⟨hd.1, hd.2, mem_allD.1 hy⟩
  · intro h
    cases ds with
    | nil => exact h.elim
    | cons d ds => exact ⟨d, mem_rngI.2 ⟨h.1, h.2.1⟩, List.mem_map.2 ⟨ds, mem_allD.2 h.2.2, rfl⟩⟩
theorem allS_nil {c : Chn} (ok : DaysOK c) {o : List Int} : allS c o = [] ↔ fitB c.ls c.lo o = false := by
  constructor
  · intro h
    cases hf : fitB c.ls c.lo o with
    | false => rfl
    | true =>
      have := mem_allS.2 (story_le ok hf)
      rw [h] at this; cases this
  · intro hf
    refine List.eq_nil_iff_forall_not_mem.2 fun ds h => ?_
    have := (story_bd ok (mem_allS.1 h)).1
    rw [hf] at this; cases this
end Go.Abs
