/- A part of the proofs of the laws of this seat: contracts of the functions that they reach, each proved of the program's form in Lean. No condition beyond those that each contract names. -/
import Derived.Test.YtajbhojompefoaaB0
import Derived.Test.YtajbhojompefoaaB2
import Derived.Test.YtajbhojompefoaaB4
import Derived.Test.YtajbhojompefoaaB5
import Derived.Test.YtajbhojompefoaaB3
import Derived.Test.YtajbhojompefoaaB6
import Derived.Test.YtajbhojompefoaaB1
set_option linter.unusedVariables false
set_option linter.unusedSimpArgs false
set_option maxRecDepth 20000
set_option maxHeartbeats 4000000
/-! ### Guests and dishes made of numbers -/
namespace Go.Abs
open Go.Proofs
abbrev sR (l : List ByteArray) : List (List AV) := l.map fun s => [.str s]
def guestNs : List ByteArray := [⟨#[97, 110, 110]⟩, ⟨#[98, 111, 98]⟩, ⟨#[99, 105, 100]⟩, ⟨#[100, 111, 114, 97]⟩, ⟨#[101, 118, 101]⟩, ⟨#[102, 97, 121]⟩, ⟨#[103, 117, 115]⟩, ⟨#[104]⟩, ⟨#[97, 98, 99, 100, 101, 102, 103, 104]⟩, ⟨#[122, 111, 101]⟩]
theorem guestNs_ok : guestNs.Nodup ∧ ∀ s ∈ guestNs, namedB s = true ∧ s.size ≤ 8 := by decide
theorem gErr_ok {g : Guest} (h : namedB g.name = true) (h2 : gOK g = true) : gErr g = 0 := by rw [gErr_eq, if_pos h, if_pos h2]
theorem gsErr_zero : ∀ {post pre : List Guest}, (∀ g ∈ post, gErr g = 0) → ((pre ++ post).map (·.name)).Nodup → gsErr pre post = 0
  | [], _, _, _ => rfl
  | g :: post, pre, h, hn => by
    have h1 : pre.any (fun x => decide (x.name = g.name)) = false := by
      rw [List.any_eq_false]
      intro x hx
      simp only [decide_eq_true_eq]
      intro he
      rw [List.map_append, List.nodup_append] at hn
      exact hn.2.2 _ (List.mem_map.2 ⟨x, hx, rfl⟩) _ (List.mem_map.2 ⟨g, by simp, rfl⟩) he
    rw [gsErr, if_pos (h g (by simp)), if_neg (by rw [h1]; simp)]
    exact gsErr_zero (fun x hx => h x (by simp [hx])) (by simpa using hn)
/-- Guests made of numbers: their names are the first ones. -/
def madeG (gs : List Guest) : Prop := gs.map (·.name) = guestNs.take gs.length ∧ ∀ g ∈ gs, gOK g = true
theorem madeG_ok {gs : List Guest} (h : madeG gs) : gsErr [] gs = 0 ∧ ∀ g ∈ gs, g.name.size ≤ 8 := by
  have hm : ∀ g ∈ gs, g.name ∈ guestNs := fun g hg => List.mem_of_mem_take (h.1 ▸ List.mem_map.2 ⟨g, hg, rfl⟩)
  refine ⟨gsErr_zero (fun g hg => gErr_ok (guestNs_ok.2 _ (hm g hg)).1 (h.2 g hg)) ?_, fun g hg => (guestNs_ok.2 _ (hm g hg)).2⟩
  rw [List.nil_append, h.1]
  exact (List.take_sublist _ _).nodup guestNs_ok.1
theorem madeG_snoc {gs : List Guest} {g : Guest} (h : madeG gs) (hn : guestNs[gs.length]? = some g.name) (hg : gOK g = true) : madeG (gs ++ [g]) := by
  refine ⟨?_, fun x hx => ?_⟩
  · rw [List.map_append, h.1, len_snoc, List.take_add_one, hn]; rfl
  · rcases List.mem_append.1 hx with hx | hx
    · exact h.2 x hx
    · simp at hx; subst hx; exact hg
theorem gOK_mk {s : ByteArray} {a b c d : Int} (h1 : 0 ≤ a ∧ a ≤ 9) (h2 : 0 ≤ b ∧ b ≤ 1000) (h3 : 0 ≤ c ∧ c ≤ 255) (h4 : 0 ≤ d ∧ d ≤ 255) : gOK ⟨s, a, b, c, d⟩ = true := by
  simp only [gOK, Bool.and_eq_true, inB_t]; exact ⟨⟨⟨h1, h2⟩, h3⟩, h4⟩
theorem and255 {k k2 : Int} (h1 : 0 ≤ k) (h2 : k < 16) (h3 : 0 ≤ k2) (h4 : k2 < 16) : 0 ≤ bitV .and .i64 k k2 ∧ bitV .and .i64 k k2 ≤ 255 := by
  have := and_bd h1 h3 h2 (by omega) (by omega); omega
theorem dErr_ok {a b c : Int} (h1 : 0 ≤ a ∧ a ≤ 3) (h2 : 0 ≤ b ∧ b ≤ 255) (h3 : 0 ≤ c ∧ c ≤ 1000) : dErr ⟨a, b, c⟩ = 0 := by
  unfold dErr; rw [if_pos]; simp only [Bool.and_eq_true, inB_t]; exact ⟨⟨h1, h2⟩, h3⟩
theorem dsErr_ok : ∀ {ds : List Dish}, (∀ d ∈ ds, dErr d = 0) → dsErr ds = 0
  | [], _ => rfl
  | d :: r, h => by rw [dsErr, if_pos (h d (by simp))]; exact dsErr_ok fun x hx => h x (by simp [hx])
theorem gsErr_each : ∀ {post pre : List Guest}, gsErr pre post = 0 → ∀ g ∈ post, gErr g = 0
  | [], _, _, g, hg => by cases hg
  | x :: post, pre, h, g, hg => by
    rw [gsErr] at h
    split at h
    · rename_i h0
      split at h
      · cases h
      · rcases List.mem_cons.1 hg with rfl | hg
        · exact h0
        · exact gsErr_each h g hg
    · rename_i h0; exact absurd h h0
/-- What a menu costs, and whether it is as it has to be. -/
def turnsOK (ds : List Dish) : Nat → List Int → Bool
  | _, [] => true
  | k, i :: r => decide ((dAt ds i).turn = k) && turnsOK ds (k + 1) r
def fedP (l : List Guest) (ds : List Dish) (m : List Int) (need : Int) : Int × Bool :=
  if turnsOK ds 0 m = true ∧ enoughB l ds m need = true then (costM ds m, true) else (0, false)
end Go.Abs
