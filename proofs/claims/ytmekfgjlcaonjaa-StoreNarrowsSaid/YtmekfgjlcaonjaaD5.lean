/- A part of the proofs of the laws of this seat: contracts of the functions that they reach, each proved of the program's form in Lean. No condition beyond those that each contract names. -/
import Derived.Test.YtmekfgjlcaonjaaD2
import Derived.Test.YtmekfgjlcaonjaaD1
import Derived.Test.YtmekfgjlcaonjaaC7
import Derived.Test.YtmekfgjlcaonjaaC6
import Derived.Test.YtmekfgjlcaonjaaC4
import Derived.Test.YtmekfgjlcaonjaaC3
import Derived.Test.YtmekfgjlcaonjaaC2
import Derived.Test.YtmekfgjlcaonjaaC1
import Derived.Test.YtmekfgjlcaonjaaB0
import Derived.Test.YtmekfgjlcaonjaaB9
import Derived.Test.YtmekfgjlcaonjaaB20
import Derived.Test.YtmekfgjlcaonjaaB25
import Derived.Test.YtmekfgjlcaonjaaB29
import Derived.Test.YtmekfgjlcaonjaaB47
set_option linter.unusedVariables false
set_option linter.unusedSimpArgs false
set_option maxRecDepth 20000
set_option maxHeartbeats 1600000
/-! ### Who is sure: the plain law -/
namespace Go.Abs
open Go.Proofs
theorem okc_days {c : Chn} (h : Okc c) : DaysOK c := ⟨⟨h.m.2.2.2.2, h.m.2.2.2.1⟩, fun l hl => (h.h l hl).2.2.2⟩
theorem tale_le {c : Chn} (ok : Okc c) {x : List Int × List Int} (hx : x ∈ talesF c) : leqL x.2 (latF c x.1) := by
  obtain ⟨_, h2, h3⟩ := tale_iff.1 hx
  rw [h3]
  unfold okO at h2
  rw [Bool.and_eq_true] at h2
  exact le_lat (okc_days ok) h2.2
/-- Somebody, or nobody, is the holder. -/
theorem hold_some {c : Chn} (he : chainE c = 0) (day : Int) : ∃ w, holdC c day w := by
  obtain ⟨hf, hne⟩ := chainE_0 he
  have ok := formE_0 hf
  obtain ⟨x, hx⟩ : ∃ x, x ∈ talesF c := List.exists_mem_of_ne_nil _ hne
  have hle := tale_le ok hx
  by_cases h0 : day < getI (latF c x.1) 0
  · exact ⟨-1, x, hx, .inl ⟨rfl, h0⟩⟩
  have key : ∀ m j : Nat, j + m = c.ls.length → getI x.2 j ≤ day → ∃ w, holdC c day w := by
    intro m
    induction m with
    | zero => intro j hj h; exact ⟨whoAt c x.1 j, x, hx, .inr ⟨j, by omega, rfl, h, .inl (by omega)⟩⟩
    | succ m ih =>
      intro j hj h
      by_cases h1 : getI x.2 ((j + 1 : Nat) : Int) ≤ day
      · exact ih (j + 1) (by omega) h1
      · have := hle.get (j + 1)
        exact ⟨whoAt c x.1 j, x, hx, .inr ⟨j, by omega, rfl, h, .inr (by
          have e : ((j + 1 : Nat) : Int) = (j : Int) + 1 := by omega
          rw [e] at this h1
          show day < getI (latF c x.1) ((j : Int) + 1)
          omega)⟩⟩
  exact key c.ls.length 0 (by omega) (by have := hle.get 0; have e : ((0 : Nat) : Int) = 0 := rfl; rw [e] at this; show getI x.2 0 ≤ day; omega)
theorem holL_ne {c : Chn} (he : chainE c = 0) (day : Int) : holL c day ≠ [] := by
  obtain ⟨w, hw⟩ := hold_some he day
  have ok := formE_0 (chainE_0 he).1
  intro h
  have := (holL_mem ok).2 hw
  rw [h] at this; cases this
/-- The days of a tale are at most the last one. -/
theorem latB_le {ls : List Lnk} (hh : ∀ i, (lkAt ls i).hi ≤ 100000) : ∀ (o : List Int) (j : Nat), getI (latB (hisO ls o)).2 j ≤ 100000
  | [], j => by simp [latB, getI]
  | i :: r, 0 => by simp only [hisO, List.map_cons, latB, getI]; have := hh i; simp; omega
  | i :: r, j + 1 => by
    have := latB_le hh r j
    simp only [hisO, List.map_cons, latB]
    simpa [getI] using this
theorem latF_le {c : Chn} (ok : Okc c) (o : List Int) (j : Nat) : getI (latF c o) j ≤ 100000 := by
  cases j with
  | zero => have := ok.m; simp only [latF, getI]; simp; omega
  | succ j =>
    have := latB_le (fun i => (okc_days ok).at i) o j
    simpa [latF, getI] using this
/-- Who holds the thing behind all days. -/
theorem hold_last {c : Chn} (he : chainE c = 0) (w : Int) : w ∈ holL c 100000 ↔ ∃ o ∈ ordsF c, whoAt c o c.ls.length = w := by
  have ok := formE_0 (chainE_0 he).1
  rw [holL_mem ok, ordsF, if_pos he]
  constructor
  · rintro ⟨x, hx, h⟩
    rcases h with ⟨_, h⟩ | ⟨j, _, rfl, h1, h2⟩
    · have := latF_le ok x.1 0; have e : ((0 : Nat) : Int) = 0 := rfl; rw [e] at this; omega
    · rcases h2 with rfl | h2
      · exact ⟨x.1, List.mem_map.2 ⟨x, hx, rfl⟩, rfl⟩
      · have := latF_le ok x.1 (j + 1); have e : ((j + 1 : Nat) : Int) = (j : Int) + 1 := by omega
        rw [e] at this; omega
  · rintro ⟨o, ho, rfl⟩
    obtain ⟨x, hx, rfl⟩ := List.mem_map.1 ho
    refine ⟨x, hx, .inr ⟨c.ls.length, Nat.le_refl _, rfl, ?_, .inl rfl⟩⟩
    have h1 := (tale_le ok hx).get c.ls.length
    have h2 := latF_le ok x.1 c.ls.length
    omega
theorem whoAt_nn {c : Chn} (ok : Okc c) (o : List Int) (j : Nat) : 0 ≤ whoAt c o j ∧ whoAt c o j ≤ 19 := by
  have := ok.own
  rcases whoAt_mem c o j with h | ⟨l, hl, h⟩ | h
  · omega
  · have := ok.to l hl; omega
  · omega
/-- How many of the first owners are in a list. -/
def cntL (l : List Int) (n : Nat) : Nat := ((List.range n).filter fun (k : Nat) => decide ((k : Int) ∈ l)).length
theorem cntL_succ (l : List Int) (n : Nat) : cntL l (n + 1) = cntL l n + (if (n : Int) ∈ l then 1 else 0) := by
  unfold cntL
  rw [List.range_succ, List.filter_append, List.length_append]
  by_cases h : (n : Int) ∈ l <;> simp [h]
theorem cntL_le (l : List Int) (n : Nat) : cntL l n ≤ n := by
  unfold cntL
  refine Nat.le_trans (List.length_filter_le _ _) ?_
  simp
theorem cntL_all {l : List Int} {n : Nat} (hl : l.Nodup) (h : ∀ w ∈ l, 0 ≤ w ∧ w < n) : cntL l n = l.length := by
  have hp : (((List.range n).filter fun (k : Nat) => decide ((k : Int) ∈ l)).map fun (k : Nat) => (k : Int)).Perm l := by
    refine perm_of_mem ?_ hl fun w => ?_
    · rw [List.Nodup, List.pairwise_map]
      refine List.Pairwise.imp ?_ (List.Pairwise.filter _ (List.nodup_range (n := n)))
      intro a b hab he; exact hab (by omega)
    · rw [List.mem_map]
      constructor
      · rintro ⟨k, hk, rfl⟩
        simpa using (List.mem_filter.1 hk).2
      · intro hw
        have := h w hw
        exact ⟨w.toNat, List.mem_filter.2 ⟨List.mem_range.2 (by omega), by rw [decide_eq_true_eq, show ((w.toNat : Nat) : Int) = w by omega]; exact hw⟩, by omega⟩
  have := hp.length_eq
  rw [List.length_map] at this
  exact this
theorem one_iff {l : List Int} {a : Int} : (a ∈ l ∧ l.length = 1) ↔ l = [a] := by
  constructor
  · rintro ⟨h1, h2⟩
    obtain ⟨b, rfl⟩ := List.length_eq_one_iff.1 h2
    rw [List.mem_singleton] at h1; rw [h1]
  · rintro rfl; simp
/-- What Owned answers. -/
theorem own_iff {c : Chn} {who day : Int} (h0 : askE c day = 0) (hw : 0 ≤ who ∧ who ≤ 19) : (ownV c who day).2 = 0 ∧ ((ownV c who day).1 = 1 ↔ holL c day = [who]) ∧ ((ownV c who day).1 = 2 ↔ who ∉ holL c day) := by
  rw [ownV, if_pos h0, if_pos (inB_t.2 hw), ← one_iff]
  by_cases h1 : who ∈ holL c day
  · rw [if_pos h1]
    by_cases h2 : (holL c day).length = 1
    · rw [if_pos h2]; simp [h1, h2]
    · rw [if_neg h2]; simp [h1, h2]
  · rw [if_neg h1]; simp [h1]
theorem HoldersV_s (c : Chn) (day : Int) (hl : c.ls.length < 1000) (h0 : askE c day = 0) : Fn0 Try.prog 36 [cA c, .int .i64 day] (fun v => v = .tup [.slc 1 (iR (holL c day)) .non, .int .i64 0]) := by
  refine RawC.mono (HoldersF_s c day hl) fun v _ => ?_
  rintro ⟨a, rfl, h⟩
  rw [holF, if_pos h0] at h
  rcases h with ⟨_, h⟩ | ⟨rfl, _⟩
  · exact absurd h (holL_ne (askE_0 h0).1 day)
  · rw [h0]
/-- Whether an owner is the last one of some orders. -/
def lastB (c : Chn) (l : List (List Int)) (w : Int) : Bool := l.any fun o => decide (whoAt c o c.ls.length = w)
theorem lastB_snoc (c : Chn) (l : List (List Int)) (o : List Int) (w : Int) : lastB c (l ++ [o]) w = (lastB c l w || decide (whoAt c o c.ls.length = w)) := by simp [lastB]
theorem lastB_all {c : Chn} (he : chainE c = 0) (w : Int) : lastB c (ordsF c) w = decide (w ∈ holL c 100000) := by
  rw [Bool.eq_iff_iff, decide_eq_true_eq, hold_last he, lastB, List.any_eq_true]
  exact ⟨fun ⟨o, h1, h2⟩ => ⟨o, h1, of_decide_eq_true h2⟩, fun ⟨o, h1, h2⟩ => ⟨o, h1, decide_eq_true h2⟩⟩
theorem ordsF_mem {c : Chn} {o : List Int} (h : o ∈ ordsF c) : o.length = c.ls.length ∧ ∀ i ∈ o, 0 ≤ i ∧ i < (c.ls.length : Int) := by
  unfold ordsF at h
  split at h
  · obtain ⟨x, hx, rfl⟩ := List.mem_map.1 h
    have := talesF_mem hx
    exact ⟨this.1, this.2.2.2⟩
  · cases h
theorem ordsF_ne {c : Chn} (he : chainE c = 0) : ordsF c ≠ [] := by
  rw [ordsF, if_pos he]
  intro h
  exact (chainE_0 he).2 (List.map_eq_nil_iff.1 h)
theorem last_max {c : Chn} (he : chainE c = 0) : ∀ w ∈ holL c 100000, 0 ≤ w ∧ w < (20 : Nat) := by
  intro w hw
  obtain ⟨o, _, rfl⟩ := (hold_last he w).1 hw
  have := whoAt_nn (formE_0 (chainE_0 he).1) o c.ls.length
  omega
end Go.Abs
