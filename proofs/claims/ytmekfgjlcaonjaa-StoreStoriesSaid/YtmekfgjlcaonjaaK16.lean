/- A part of the proofs of the laws of this seat: contracts of the functions that they reach, each proved of the program's form in Lean. No condition beyond those that each contract names. -/
import Derived.Test.YtmekfgjlcaonjaaK15
import Derived.Test.YtmekfgjlcaonjaaK13
import Derived.Test.YtmekfgjlcaonjaaK14
import Derived.Test.YtmekfgjlcaonjaaD1
import Derived.Test.YtmekfgjlcaonjaaC6
import Derived.Test.YtmekfgjlcaonjaaC5
import Derived.Test.YtmekfgjlcaonjaaC4
import Derived.Test.YtmekfgjlcaonjaaC3
import Derived.Test.YtmekfgjlcaonjaaC2
import Derived.Test.YtmekfgjlcaonjaaC1
import Derived.Test.YtmekfgjlcaonjaaB
import Derived.Test.YtmekfgjlcaonjaaD8
set_option linter.unusedVariables false
set_option linter.unusedSimpArgs false
set_option maxRecDepth 20000
set_option maxHeartbeats 4000000
namespace Go.Abs
theorem dayd_mono {ls : List Lnk} {d e : Int} : ∀ {o ys : List Int}, d ≤ e → dayd ls e o ys → dayd ls d o ys
  | [], [], _, _ => trivial
  | _ :: _, _ :: _, h, ⟨h1, h2⟩ => ⟨by omega, h2⟩
  | [], _ :: _, _, h => h.elim
  | _ :: _, [], _, h => h.elim
theorem dayd_mix {ls : List Lnk} : ∀ (k : Nat) {d e : Int} {o xs ys : List Int}, d ≤ e → dayd ls d o xs → dayd ls e o ys → leqL xs ys → dayd ls d o (xs.take k ++ ys.drop k)
  | 0, d, e, o, xs, ys, h, _, h2, _ => by simpa using dayd_mono h h2
  | k + 1, d, e, [], [], [], h, _, h2, _ => trivial
  | k + 1, d, e, i :: r, x :: xs, y :: ys, h, ⟨h1, h3, h4, h5⟩, ⟨g1, g3, g4, g5⟩, ⟨q1, q2⟩ => ⟨h1, h3, h4, dayd_mix k q1 h5 g5 q2⟩
  | _ + 1, _, _, [], _ :: _, _, _, h, _, _ => h.elim
  | _ + 1, _, _, [], [], _ :: _, _, _, h, _ => h.elim
  | _ + 1, _, _, _ :: _, [], _, _, h, _, _ => h.elim
  | _ + 1, _, _, _ :: _, _ :: _, [], _, _, h, _ => h.elim
theorem dayd_len {ls : List Lnk} : ∀ {d : Int} {o xs : List Int}, dayd ls d o xs → xs.length = o.length
  | _, [], [], _ => rfl
  | _, _ :: _, _ :: _, ⟨_, _, _, h⟩ => by simp [dayd_len h]
  | _, [], _ :: _, h => h.elim
  | _, _ :: _, [], h => h.elim
theorem story_len {c : Chn} {o ds : List Int} (h : Story c o ds) : ds.length = o.length + 1 := by
  cases ds with
  | nil => exact h.elim
  | cons d ds => simp [dayd_len h.2.2]
theorem story_mix {c : Chn} (k : Nat) {o xs ys : List Int} (hx : Story c o xs) (hy : Story c o ys) (h : leqL xs ys) : Story c o (xs.take (k + 1) ++ ys.drop (k + 1)) := by
  cases xs with
  | nil => exact hx.elim
  | cons x xs =>
    cases ys with
    | nil => exact hy.elim
    | cons y ys =>
      obtain ⟨h1, h2⟩ := h
      obtain ⟨a1, a2, a3⟩ := hx
      obtain ⟨b1, b2, b3⟩ := hy
      exact ⟨a1, a2, dayd_mix k h1 a3 b3 h2⟩
theorem dayd_asc {ls : List Lnk} : ∀ {d : Int} {o xs : List Int}, dayd ls d o xs → ∀ a : Nat, a < xs.length → d < getI xs (a : Int) ∧ ∀ b : Nat, b ≤ a → getI xs (b : Int) ≤ getI xs (a : Int)
  | _, [], [], _, a, ha => by simp at ha
  | d, _ :: _, x :: xs, ⟨h1, _, _, h⟩, a, ha => by
    have ih := dayd_asc h
    cases a with
    | zero =>
      rw [getI_cz]
      refine ⟨h1, fun b hb => ?_⟩
      obtain rfl : b = 0 := by omega
      rw [getI_cz]; exact Int.le_refl _
    | succ a =>
      rw [getI_cs]
      have := ih a (by simpa using ha)
      refine ⟨by omega, fun b hb => ?_⟩
      cases b with
      | zero => rw [getI_cz]; omega
      | succ b => rw [getI_cs]; exact this.2 b (by omega)
  | _, [], _ :: _, h, _, _ => h.elim
  | _, _ :: _, [], h, _, _ => h.elim
theorem story_asc {c : Chn} {o ds : List Int} (h : Story c o ds) {a b : Nat} (ha : a < ds.length) (hb : b ≤ a) : getI ds (b : Int) ≤ getI ds (a : Int) := by
  cases ds with
  | nil => exact h.elim
  | cons d ds =>
    cases a with
    | zero =>
      obtain rfl : b = 0 := by omega
      exact Int.le_refl _
    | succ a =>
      have := dayd_asc h.2.2 a (by simpa using ha)
      rw [getI_cs]
      cases b with
      | zero => rw [getI_cz]; omega
      | succ b => rw [getI_cs]; exact this.2 b (by omega)
theorem getI_mixL {xs ys : List Int} {k a : Nat} (hk : k ≤ xs.length) (ha : a < k) : getI (xs.take k ++ ys.drop k) (a : Int) = getI xs (a : Int) := by
  unfold getI
  rw [Int.toNat_natCast, List.getElem?_append_left (by rw [List.length_take]; omega), List.getElem?_take_of_lt ha]
theorem getI_mixR {xs ys : List Int} {k : Nat} (hk : k ≤ xs.length) : getI (xs.take k ++ ys.drop k) (k : Int) = getI ys (k : Int) := by
  have hl : (xs.take k).length = k := by rw [List.length_take]; omega
  unfold getI
  rw [Int.toNat_natCast, List.getElem?_append_right (by omega), hl, List.getElem?_drop]
  simp
theorem holdT_story {c : Chn} (ok : DaysOK c) {o : List Int} (hf : fitB c.ls c.lo o = true) (hl : o.length = c.ls.length) (day w : Int) : holdT c day (o, leO c o) w ↔ ∃ ds, Story c o ds ∧ hoR c o (-1) 0 ds day = w := by
  have hle := story_le ok hf
  have hlat := story_lat ok hf
  have hq := le_lat ok hf
  have l1 := story_len hle
  have l2 := story_len hlat
  constructor
  · rintro (⟨rfl, h⟩ | ⟨j, hj, rfl, h1, h2⟩)
    · refine ⟨latF c o, hlat, ?_⟩
      rw [hoR_eq c o day (latF c o) (-1) 0 0 (by omega) (fun a h => by omega) (fun _ => h), if_pos rfl]
    · refine ⟨_, story_mix j hle hlat hq, ?_⟩
      rw [hoR_eq c o day _ (-1) 0 (j + 1) (by rw [List.length_append, List.length_take, List.length_drop]; omega) (fun a ha => ?_) (fun hm => ?_), if_neg (by omega)]
      · refine congrArg _ ?_
        omega
      · rw [getI_mixL (by omega) ha]
        exact Int.le_trans (story_asc hle (by omega) (by omega)) h1
      · rw [getI_mixR (by omega)]
        rcases h2 with h2 | h2
        · rw [List.length_append, List.length_take, List.length_drop] at hm; omega
        · exact h2
  · rintro ⟨ds, hs, rfl⟩
    have hb := story_bd ok hs
    have ld := story_len hs
    obtain ⟨m, h1, h2, h3⟩ := hoR_ex day ds
    rw [hoR_eq c o day ds (-1) 0 m h1 h2 h3]
    cases m with
    | zero =>
      rw [if_pos rfl]
      exact .inl ⟨rfl, Int.lt_of_lt_of_le (h3 (by omega)) (hb.2.2.get 0)⟩
    | succ j =>
      rw [if_neg (by omega)]
      refine .inr ⟨j, by omega, congrArg _ (by omega), Int.le_trans (hb.2.1.get j) (h2 j (by omega)), ?_⟩
      by_cases hj : j = c.ls.length
      · exact .inl hj
      · exact .inr (Int.lt_of_lt_of_le (h3 (by omega)) (hb.2.2.get (j + 1)))
end Go.Abs
