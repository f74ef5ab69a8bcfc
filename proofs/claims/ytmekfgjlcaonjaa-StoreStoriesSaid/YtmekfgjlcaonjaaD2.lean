/- A part of the proofs of the laws of this seat: contracts of the functions that they reach, each proved of the program's form in Lean. No condition beyond those that each contract names. -/
import Derived.Test.YtmekfgjlcaonjaaC7
import Derived.Test.YtmekfgjlcaonjaaC6
import Derived.Test.YtmekfgjlcaonjaaC5
import Derived.Test.YtmekfgjlcaonjaaC4
import Derived.Test.YtmekfgjlcaonjaaC3
import Derived.Test.YtmekfgjlcaonjaaC2
import Derived.Test.YtmekfgjlcaonjaaC1
import Derived.Test.YtmekfgjlcaonjaaB
set_option linter.unusedVariables false
set_option linter.unusedSimpArgs false
set_option maxRecDepth 20000
set_option maxHeartbeats 4000000
namespace Go.Abs
open Go.Proofs
section
variable {P : Program}
end
open Classical in
/-- The holders, in order. -/
noncomputable def holL (c : Chn) (day : Int) : List Int := ((List.range 21).map fun (k : Nat) => (k : Int) - 1).filter fun w => decide (holdC c day w)
theorem holdC_bd {c : Chn} {day w : Int} (ok : Okc c) (h : holdC c day w) : -1 ≤ w ∧ w ≤ 19 := by
  obtain ⟨x, _, h⟩ := h
  have := ok.own
  rcases h with ⟨rfl, _⟩ | ⟨j, _, rfl, _⟩
  · omega
  · rcases whoAt_mem c x.1 j with h | ⟨l, hl, h⟩ | h
    · omega
    · have := ok.to l hl; omega
    · omega
theorem holL_mem {c : Chn} {day w : Int} (ok : Okc c) : w ∈ holL c day ↔ holdC c day w := by
  simp only [holL, List.mem_filter, decide_eq_true_eq]
  refine ⟨And.right, fun h => ⟨?_, h⟩⟩
  have := holdC_bd ok h
  refine List.mem_map.2 ⟨(w + 1).toNat, List.mem_range.2 (by omega), by omega⟩
theorem pw_range (f : Nat → Int) (h : ∀ a b, a < b → f a < f b) (n : Nat) : ((List.range n).map f).Pairwise (· < ·) := by
  rw [List.pairwise_map]
  exact List.pairwise_lt_range.imp fun hab => h _ _ hab
theorem holL_lt (c : Chn) (day : Int) : (holL c day).Pairwise (· < ·) := (pw_range _ (fun a b h => by omega) _).filter _
theorem srtU : ∀ {l m : List Int}, l.Pairwise (· < ·) → m.Pairwise (· < ·) → (∀ w, w ∈ l ↔ w ∈ m) → l = m
  | [], [], _, _, _ => rfl
  | [], b :: m, _, _, h => by have := (h b).2 (by simp); simp at this
  | a :: l, [], _, _, h => by have := (h a).1 (by simp); simp at this
  | a :: l, b :: m, hl, hm, h => by
    rw [List.pairwise_cons] at hl hm
    have e : a = b := by
      have h1 := (h a).1 (by simp)
      have h2 := (h b).2 (by simp)
      rcases List.mem_cons.1 h1 with h1 | h1
      · exact h1
      rcases List.mem_cons.1 h2 with h2 | h2
      · exact h2.symm
      have := hm.1 a h1
      have := hl.1 b h2
      omega
    subst e
    rw [srtU hl.2 hm.2 fun w => ?_]
    have hw := h w
    rw [List.mem_cons, List.mem_cons] at hw
    constructor
    · intro hwl
      rcases hw.1 (.inr hwl) with e | e
      · subst e; have := hl.1 _ hwl; omega
      · exact e
    · intro hwm
      rcases hw.2 (.inr hwm) with e | e
      · subst e; have := hm.1 _ hwm; omega
      · exact e
theorem holP_eq {c : Chn} {day : Int} {l : List Int} (h0 : askE c day = 0) (ok : Okc c) (h : HolP c day l) : l = holL c day := by
  rw [HolP, if_pos h0] at h
  exact srtU h.1 (holL_lt c day) fun w => by rw [h.2, holL_mem ok]
theorem askE_0 {c : Chn} {day : Int} (h : askE c day = 0) : chainE c = 0 ∧ inB day 0 100000 = true := by
  unfold askE at h
  split at h
  · rename_i h1
    split at h
    · rename_i h2; exact ⟨h1, h2⟩
    · cases h
  · rename_i h1; exact absurd h h1
/-- Holders: the list. -/
noncomputable def holF (c : Chn) (day : Int) : List Int := if askE c day = 0 then holL c day else []
theorem HoldersF_s (c : Chn) (day : Int) (hl : c.ls.length < 1000) : Fn0 Try.prog 36 [cA c, .int .i64 day] (fun v => ∃ a, v = .tup [a, .int .i64 (askE c day)] ∧ NowV a (holF c day)) := by
  refine RawC.mono (Holders_s c day hl) fun v _ => ?_
  rintro ⟨l, a, h1, h2, h3⟩
  refine ⟨a, h1, ?_⟩
  by_cases h0 : askE c day = 0
  · rw [holF, if_pos h0, ← holP_eq h0 (formE_0 (chainE_0 (askE_0 h0).1).1) h3]; exact h2
  · rw [holF, if_neg h0]; rw [HolP, if_neg h0] at h3; rw [← h3]; exact h2
/-- Owned. -/
noncomputable def ownV (c : Chn) (who day : Int) : Int × Int :=
  if askE c day = 0 then (if inB who 0 19 = true then (if who ∈ holL c day then (if (holL c day).length = 1 then 1 else 3) else 2, 0) else (0, 2)) else (0, askE c day)
end Go.Abs
