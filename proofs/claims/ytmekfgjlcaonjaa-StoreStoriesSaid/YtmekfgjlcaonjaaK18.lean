/- A part of the proofs of the laws of this seat: contracts of the functions that they reach, each proved of the program's form in Lean. No condition beyond those that each contract names. -/
import Derived.Test.YtmekfgjlcaonjaaK17
import Derived.Test.YtmekfgjlcaonjaaK16
import Derived.Test.YtmekfgjlcaonjaaK15
import Derived.Test.YtmekfgjlcaonjaaK13
import Derived.Test.YtmekfgjlcaonjaaK14
import Derived.Test.YtmekfgjlcaonjaaD7
import Derived.Test.YtmekfgjlcaonjaaD5
import Derived.Test.YtmekfgjlcaonjaaD4
import Derived.Test.YtmekfgjlcaonjaaD3
import Derived.Test.YtmekfgjlcaonjaaD2
import Derived.Test.YtmekfgjlcaonjaaD1
import Derived.Test.YtmekfgjlcaonjaaC6
import Derived.Test.YtmekfgjlcaonjaaC5
import Derived.Test.YtmekfgjlcaonjaaC4
import Derived.Test.YtmekfgjlcaonjaaC3
import Derived.Test.YtmekfgjlcaonjaaC2
import Derived.Test.YtmekfgjlcaonjaaC1
import Derived.Test.YtmekfgjlcaonjaaB
import Derived.Test.YtmekfgjlcaonjaaD8
set_option linter.unusedVariables false
set_option linter.unusedSimpArgs false
set_option maxRecDepth 20000
set_option maxHeartbeats 4000000
namespace Go.Abs
def mnG {α : Type} (f : α → Int) (z : Int) (X : List α) : Int := X.foldl (fun m x => min m (f x)) z
def mxG {α : Type} (f : α → Int) (z : Int) (X : List α) : Int := X.foldl (fun m x => max m (f x)) z
theorem mnG_le {α : Type} {f : α → Int} : ∀ {X : List α} {z b : Int}, b ≤ mnG f z X ↔ b ≤ z ∧ ∀ x ∈ X, b ≤ f x
  | [], z, b => ⟨fun h => ⟨h, fun x hx => by cases hx⟩, fun h => h.1⟩
  | a :: r, z, b => by
    show b ≤ mnG f (min z (f a)) r ↔ _
    rw [mnG_le]
    constructor
    · rintro ⟨h1, h2⟩
      refine ⟨by omega, fun x hx => ?_⟩
      rcases List.mem_cons.1 hx with rfl | hx
      · omega
      · exact h2 x hx
    · rintro ⟨h1, h2⟩
      exact ⟨by have := h2 a (by simp); omega, fun x hx => h2 x (by simp [hx])⟩
theorem mxG_ge {α : Type} {f : α → Int} : ∀ {X : List α} {z b : Int}, mxG f z X ≤ b ↔ z ≤ b ∧ ∀ x ∈ X, f x ≤ b
  | [], z, b => ⟨fun h => ⟨h, fun x hx => by cases hx⟩, fun h => h.1⟩
  | a :: r, z, b => by
    show mxG f (max z (f a)) r ≤ b ↔ _
    rw [mxG_ge]
    constructor
    · rintro ⟨h1, h2⟩
      refine ⟨by omega, fun x hx => ?_⟩
      rcases List.mem_cons.1 hx with rfl | hx
      · omega
      · exact h2 x hx
    · rintro ⟨h1, h2⟩
      exact ⟨by have := h2 a (by simp); omega, fun x hx => h2 x (by simp [hx])⟩
theorem mnG_eq {α β : Type} {f : α → Int} {g : β → Int} {X : List α} {Y : List β} (z : Int) (h1 : ∀ x ∈ X, ∃ y ∈ Y, g y ≤ f x) (h2 : ∀ y ∈ Y, ∃ x ∈ X, f x ≤ g y) : mnG f z X = mnG g z Y := by
  refine Int.le_antisymm (mnG_le.2 ⟨(mnG_le.1 (Int.le_refl _)).1, fun y hy => ?_⟩) (mnG_le.2 ⟨(mnG_le.1 (Int.le_refl _)).1, fun x hx => ?_⟩)
  · obtain ⟨x, hx, h⟩ := h2 y hy
    exact Int.le_trans ((mnG_le.1 (Int.le_refl _)).2 x hx) h
  · obtain ⟨y, hy, h⟩ := h1 x hx
    exact Int.le_trans ((mnG_le.1 (Int.le_refl _)).2 y hy) h
theorem mxG_eq {α β : Type} {f : α → Int} {g : β → Int} {X : List α} {Y : List β} (z : Int) (h1 : ∀ x ∈ X, ∃ y ∈ Y, f x ≤ g y) (h2 : ∀ y ∈ Y, ∃ x ∈ X, g y ≤ f x) : mxG f z X = mxG g z Y := by
  refine Int.le_antisymm (mxG_ge.2 ⟨(mxG_ge.1 (Int.le_refl _)).1, fun x hx => ?_⟩) (mxG_ge.2 ⟨(mxG_ge.1 (Int.le_refl _)).1, fun y hy => ?_⟩)
  · obtain ⟨y, hy, h⟩ := h1 x hx
    exact Int.le_trans h ((mxG_ge.1 (Int.le_refl _)).2 y hy)
  · obtain ⟨x, hx, h⟩ := h2 y hy
    exact Int.le_trans h ((mxG_ge.1 (Int.le_refl _)).2 x hx)
/-- All stories of a chain, each with its order. -/
def storiesO (c : Chn) : List (List Int × List Int) := ((permsK c.ls.length c.ls.length []).filter fun o => linkB c.ls c.maker o).flatMap fun o => (allS c o).map fun ds => (o, ds)
theorem mem_storiesO {c : Chn} (ok : DaysOK c) {x : List Int × List Int} : x ∈ storiesO c ↔ (x.1, leO c x.1) ∈ talesF c ∧ Story c x.1 x.2 := by
  unfold storiesO
  rw [List.mem_flatMap]
  constructor
  · rintro ⟨o, ho, h⟩
    obtain ⟨ds, hd, rfl⟩ := List.mem_map.1 h
    have hs := mem_allS.1 hd
    obtain ⟨h1, h2⟩ := List.mem_filter.1 ho
    exact ⟨tale_iff.2 ⟨h1, by show (linkB _ _ _ && fitB _ _ _) = true; rw [h2, (story_bd ok hs).1]; rfl, rfl⟩, hs⟩
  · rintro ⟨h1, h2⟩
    obtain ⟨h3, h4, _⟩ := tale_iff.1 h1
    have h4 : (linkB c.ls c.maker x.1 && fitB c.ls c.lo x.1) = true := h4
    rw [Bool.and_eq_true] at h4
    exact ⟨x.1, List.mem_filter.2 ⟨h3, h4.1⟩, List.mem_map.2 ⟨x.2, mem_allS.2 h2, rfl⟩⟩
theorem least_stories {c : Chn} (ok : DaysOK c) (j : List Int → Nat) (z : Int) : mnG (fun x => getI x.2 (j x.1)) z (storiesO c) = mnL (fun x => getI x.2 (j x.1)) z (talesF c) := by
  refine mnG_eq z (fun x hx => ?_) (fun y hy => ?_)
  · obtain ⟨h1, h2⟩ := (mem_storiesO ok).1 hx
    exact ⟨_, h1, (story_bd ok h2).2.1.get _⟩
  · have h := tale_iff.1 hy
    have h4 : (linkB c.ls c.maker y.1 && fitB c.ls c.lo y.1) = true := h.2.1
    rw [Bool.and_eq_true] at h4
    refine ⟨(y.1, leO c y.1), (mem_storiesO ok).2 ⟨by rw [← h.2.2]; exact hy, story_le ok h4.2⟩, ?_⟩
    show getI (leO c y.1) _ ≤ getI y.2 _
    rw [h.2.2]
    exact Int.le_refl _
theorem greatest_stories {c : Chn} (ok : DaysOK c) (j : List Int → Nat) (z : Int) : mxG (fun x => getI x.2 (j x.1)) z (storiesO c) = mxL (fun x => getI (latF c x.1) (j x.1)) z (talesF c) := by
  refine mxG_eq z (fun x hx => ?_) (fun y hy => ?_)
  · obtain ⟨h1, h2⟩ := (mem_storiesO ok).1 hx
    exact ⟨_, h1, (story_bd ok h2).2.2.get _⟩
  · have h := tale_iff.1 hy
    have h4 : (linkB c.ls c.maker y.1 && fitB c.ls c.lo y.1) = true := h.2.1
    rw [Bool.and_eq_true] at h4
    exact ⟨(y.1, latF c y.1), (mem_storiesO ok).2 ⟨by rw [← h.2.2]; exact hy, story_lat ok h4.2⟩, Int.le_refl _⟩
end Go.Abs
