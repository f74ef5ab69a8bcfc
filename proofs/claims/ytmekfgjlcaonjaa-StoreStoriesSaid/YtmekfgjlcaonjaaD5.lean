/- A part of the proofs of the laws of this seat: contracts of the functions that they reach, each proved of the program's form in Lean. No condition beyond those that each contract names. -/
import Derived.Test.YtmekfgjlcaonjaaD2
import Derived.Test.YtmekfgjlcaonjaaD1
import Derived.Test.YtmekfgjlcaonjaaC7
import Derived.Test.YtmekfgjlcaonjaaC6
import Derived.Test.YtmekfgjlcaonjaaC4
import Derived.Test.YtmekfgjlcaonjaaC3
import Derived.Test.YtmekfgjlcaonjaaC2
import Derived.Test.YtmekfgjlcaonjaaC1
import Derived.Test.YtmekfgjlcaonjaaB
set_option linter.unusedVariables false
set_option linter.unusedSimpArgs false
set_option maxRecDepth 20000
set_option maxHeartbeats 4000000
namespace Go.Abs
open Go.Proofs
theorem okc_days {c : Chn} (h : Okc c) : DaysOK c := ⟨⟨h.m.2.2.2.2, h.m.2.2.2.1⟩, fun l hl => (h.h l hl).2.2.2⟩
theorem tale_le {c : Chn} (ok : Okc c) {x : List Int × List Int} (hx : x ∈ talesF c) : leqL x.2 (latF c x.1) := by
  obtain ⟨_, h2, h3⟩ := tale_iff.1 hx
  rw [h3]
  unfold okO at h2
  rw [Bool.and_eq_true] at h2
  exact le_lat (okc_days ok) h2.2
/-- Somebody, or nobody, is the holder. -/
theorem hold_some {c : Chn} (he : chainE c = 0) (day : Int) : ∃ w, holdC c day w := by
  obtain ⟨hf, hne⟩ := chainE_0 he
  have ok := formE_0 hf
  obtain ⟨x, hx⟩ : ∃ x, x ∈ talesF c := List.exists_mem_of_ne_nil _ hne
  have hle := tale_le ok hx
  by_cases h0 : day < getI (latF c x.1) 0
  · exact ⟨-1, x, hx, .inl ⟨rfl, h0⟩⟩
  have key : ∀ m j : Nat, j + m = c.ls.length → getI x.2 j ≤ day → ∃ w, holdC c day w := by
    intro m
    induction m with
    | zero => intro j hj h; exact ⟨whoAt c x.1 j, x, hx, .inr ⟨j, by omega, rfl, h, .inl (by omega)⟩⟩
    | succ m ih =>
      intro j hj h
      by_cases h1 : getI x.2 ((j + 1 : Nat) : Int) ≤ day
      · exact ih (j + 1) (by omega) h1
      · have := hle.get (j + 1)
        exact ⟨whoAt c x.1 j, x, hx, .inr ⟨j, by omega, rfl, h, .inr (by
          have e : ((j + 1 : Nat) : Int) = (j : Int) + 1 := by omega
          rw [e] at this h1
          show day < getI (latF c x.1) ((j : Int) + 1)
          omega)⟩⟩
  exact key c.ls.length 0 (by omega) (by have := hle.get 0; have e : ((0 : Nat) : Int) = 0 := rfl; rw [e] at this; show getI x.2 0 ≤ day; omega)
theorem holL_ne {c : Chn} (he : chainE c = 0) (day : Int) : holL c day ≠ [] := by
  obtain ⟨w, hw⟩ := hold_some he day
  have ok := formE_0 (chainE_0 he).1
  intro h
  have := (holL_mem ok).2 hw
  rw [h] at this; cases this
theorem HoldersV_s (c : Chn) (day : Int) (hl : c.ls.length < 1000) (h0 : askE c day = 0) : Fn0 Try.prog 36 [cA c, .int .i64 day] (fun v => v = .tup [.slc 1 (iR (holL c day)) .non, .int .i64 0]) := by
  refine RawC.mono (HoldersF_s c day hl) fun v _ => ?_
  rintro ⟨a, rfl, h⟩
  rw [holF, if_pos h0] at h
  rcases h with ⟨_, h⟩ | ⟨rfl, _⟩
  · exact absurd h (holL_ne (askE_0 h0).1 day)
  · rw [h0]
end Go.Abs
