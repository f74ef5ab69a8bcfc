/- A part of the proofs of the laws of this seat: contracts of the functions that they reach, each proved of the program's form in Lean. No condition beyond those that each contract names. -/
import Derived.Test.YtcgcciegekaliaaB0
import Derived.Test.YtcgcciegekaliaaB2
import Derived.Test.YtcgcciegekaliaaB3
import Derived.Test.YtcgcciegekaliaaB6
import Derived.Test.YtcgcciegekaliaaB7
import Derived.Test.YtcgcciegekaliaaB9
import Derived.Test.YtcgcciegekaliaaB12
import Derived.Test.YtcgcciegekaliaaB36
import Derived.Test.YtcgcciegekaliaaB37
set_option linter.unusedVariables false
set_option linter.unusedSimpArgs false
set_option maxRecDepth 20000
set_option maxHeartbeats 4000000
/-! ### Whom to invite: the plain law -/
namespace Go.Abs
open Go.Proofs
def honG (gs : List Guest) (i : Int) : Int := ((gs[i.toNat]?).map (·.honour)).getD 0
def honS (gs : List Guest) : List Int → Int
  | [] => 0
  | i :: r => honG gs i + honS gs r
theorem honS_snoc (gs : List Guest) (i : Int) : ∀ m, honS gs (m ++ [i]) = honS gs m + honG gs i
  | [] => by simp [honS]
  | x :: m => by rw [List.cons_append, honS, honS, honS_snoc gs i m]; omega
theorem honG_bd {gs : List Guest} (h : ∀ g ∈ gs, 0 ≤ g.honour ∧ g.honour ≤ 1000) (i : Int) : 0 ≤ honG gs i ∧ honG gs i ≤ 1000 := by
  unfold honG
  cases hi : gs[i.toNat]? with
  | none => simp
  | some g => exact h g (List.mem_of_getElem? hi)
theorem honS_bd {gs : List Guest} (h : ∀ g ∈ gs, 0 ≤ g.honour ∧ g.honour ≤ 1000) : ∀ m, 0 ≤ honS gs m ∧ honS gs m ≤ 1000 * m.length
  | [] => by simp [honS]
  | i :: m => by
    have := honG_bd h i
    have := honS_bd h m
    rw [honS, List.length_cons]
    omega
def okI (bs : List Bond) (seats : Int) (l : List Int) : Bool := decide ((l.length : Int) ≤ seats) && bs.all (bondL l)
/-- The list of guests that is to be invited, and its honour. -/
structure Bst (gs : List Guest) (bs : List Bond) (seats : Int) (best : List Int) (most : Int) : Prop where
  inc : inc gs.length best
  ok : okI bs seats best = true
  eq : most = honS gs best
  le : ∀ l, Go.Abs.inc gs.length l → okI bs seats l = true → honS gs l < most ∨ (honS gs l = most ∧ (l = best ∨ lsI best l < 0))
theorem Bst.unique {gs : List Guest} {bs : List Bond} {seats : Int} {b b' : List Int} {m m' : Int} (h : Bst gs bs seats b m) (h' : Bst gs bs seats b' m') : b = b' ∧ m = m' := by
  have e1 := h.le _ h'.inc h'.ok
  have e2 := h'.le _ h.inc h.ok
  rw [← h'.eq] at e1
  rw [← h.eq] at e2
  have hm : m = m' := by omega
  refine ⟨?_, hm⟩
  rcases e1 with e1 | ⟨_, e1 | e1⟩
  · omega
  · exact e1.symm
  · rcases e2 with e2 | ⟨_, e2 | e2⟩
    · omega
    · exact e2
    · rw [lsI_anti] at e2; omega
def stepI (gs : List Guest) (bs : List Bond) (seats : Int) (acc : List Int × Int) (set : Nat) : List Int × Int :=
  if okI bs seats (membersL set) = true then (if acc.2 < honS gs (membersL set) ∨ (honS gs (membersL set) = acc.2 ∧ lsI (membersL set) acc.1 < 0) then (membersL set, honS gs (membersL set)) else acc) else acc
def bestI (gs : List Guest) (bs : List Bond) (seats : Int) (k : Nat) : List Int × Int := (List.range k).foldl (stepI gs bs seats) ([], 0)
theorem bestI_succ (gs : List Guest) (bs : List Bond) (seats : Int) (k : Nat) : bestI gs bs seats (k + 1) = stepI gs bs seats (bestI gs bs seats k) k := by
  unfold bestI; rw [List.range_succ, List.foldl_append]; rfl
structure BstK (gs : List Guest) (bs : List Bond) (seats : Int) (k : Nat) (acc : List Int × Int) : Prop where
  inc : inc gs.length acc.1
  ok : okI bs seats acc.1 = true
  eq : acc.2 = honS gs acc.1
  le : ∀ set, set < k → okI bs seats (membersL set) = true → honS gs (membersL set) < acc.2 ∨ (honS gs (membersL set) = acc.2 ∧ (membersL set = acc.1 ∨ lsI acc.1 (membersL set) < 0))
theorem okI_nil (bs : List Bond) (seats : Int) (h : 0 ≤ seats) : okI bs seats [] = true := by
  unfold okI
  rw [Bool.and_eq_true, decide_eq_true_eq, List.all_eq_true]
  refine ⟨by simpa using h, fun b _ => ?_⟩
  simp [bondB]
theorem bestI_K (gs : List Guest) (bs : List Bond) (seats : Int) (h : 0 ≤ seats) : ∀ k, k ≤ 2 ^ gs.length → BstK gs bs seats k (bestI gs bs seats k)
  | 0, _ => ⟨⟨.nil, by intro x hx; cases hx⟩, okI_nil bs seats h, rfl, fun _ h => absurd h (Nat.not_lt_zero _)⟩
  | k + 1, hk => by
    have ih := bestI_K gs bs seats h k (by omega)
    rw [bestI_succ, stepI]
    have hi : inc gs.length (membersL k) := inc_members hk
    generalize bestI gs bs seats k = acc at ih ⊢
    split
    · rename_i ho
      split
      · rename_i hc
        refine ⟨hi, ho, rfl, fun set hs hso => ?_⟩
        dsimp only
        by_cases e : set = k
        · subst e; exact .inr ⟨rfl, .inl rfl⟩
        · rcases hc with hc | ⟨hc1, hc2⟩
          · rcases ih.le set (by omega) hso with h1 | ⟨h1, _⟩ <;> exact .inl (by omega)
          · rcases ih.le set (by omega) hso with h1 | ⟨h1, h2 | h2⟩
            · exact .inl (by omega)
            · exact .inr ⟨by omega, .inr (by rw [h2]; exact hc2)⟩
            · exact .inr ⟨by omega, .inr (lsI_trans hc2 h2)⟩
      · rename_i hc
        refine ⟨ih.inc, ih.ok, ih.eq, fun set hs hso => ?_⟩
        by_cases e : set = k
        · subst e
          by_cases h1 : honS gs (membersL set) < acc.2
          · exact .inl h1
          · have h2 : honS gs (membersL set) = acc.2 := Decidable.byContradiction fun h3 => hc (.inl (by omega))
            refine .inr ⟨h2, ?_⟩
            by_cases h4 : lsI acc.1 (membersL set) = 0
            · exact .inl (lsI_eq.1 h4).symm
            · refine .inr ?_
              have h5 : ¬ lsI (membersL set) acc.1 < 0 := fun h5 => hc (.inr ⟨h2, h5⟩)
              rw [lsI_anti] at h5; omega
        · exact ih.le set (by omega) hso
    · rename_i ho
      refine ⟨ih.inc, ih.ok, ih.eq, fun set hs hso => ?_⟩
      by_cases e : set = k
      · subst e; exact absurd hso ho
      · exact ih.le set (by omega) hso
theorem bestI_spec (gs : List Guest) (bs : List Bond) (seats : Int) (h : 0 ≤ seats) (hg : gs.length ≤ 62) : Bst gs bs seats (bestI gs bs seats (2 ^ gs.length)).1 (bestI gs bs seats (2 ^ gs.length)).2 := by
  have hK := bestI_K gs bs seats h _ (Nat.le_refl _)
  refine ⟨hK.inc, hK.ok, hK.eq, fun l hl ho => ?_⟩
  obtain ⟨set, hs, rfl⟩ := members_onto hg hl
  exact hK.le set hs ho
theorem bestI_ne (gs : List Guest) (bs : List Bond) (seats : Int) : bestI gs bs seats 0 = ([], 0) := rfl
/-- What 'Invite' answers: the list, its honour, the error. -/
def invP (gs : List Guest) (bs : List Bond) (seats : Int) : List Int × Int × Int :=
  if knownE gs ≠ 0 then ([], 0, knownE gs) else if 20 < bs.length then ([], 0, 8) else if bsErr gs.length bs ≠ 0 then ([], 0, bsErr gs.length bs) else if inB seats 0 7 = true then ((bestI gs bs seats (2 ^ gs.length)).1, (bestI gs bs seats (2 ^ gs.length)).2, 0) else ([], 0, 2)
theorem bErr_inv {b : Bond} {n : Int} (h : bErr b n = 0) : (b.kind = 1 ∨ b.kind = 2) ∧ (0 ≤ b.a ∧ b.a < n) ∧ (0 ≤ b.b ∧ b.b < n) ∧ b.a ≠ b.b := by
  unfold bErr at h
  split at h
  · rename_i h1
    split at h
    · rename_i h2
      split at h
      · cases h
      · rename_i h3
        rw [Bool.and_eq_true, inB_t, inB_t] at h2
        rw [inB_t] at h1
        omega
    · cases h
  · cases h
theorem bsErr_each {n : Int} : ∀ {bs : List Bond}, bsErr n bs = 0 → ∀ b ∈ bs, bErr b n = 0
  | [], _, _, h => by cases h
  | b :: bs, h, x, hx => by
    rw [bsErr] at h
    split at h
    · rename_i hb
      rcases List.mem_cons.1 hx with rfl | hx
      · exact hb
      · exact bsErr_each h x hx
    · rename_i hb; exact absurd h hb
theorem bsErr_all {n : Int} : ∀ {bs : List Bond}, (∀ b ∈ bs, bErr b n = 0) → bsErr n bs = 0
  | [], _ => rfl
  | b :: bs, h => by rw [bsErr, if_pos (h b (by simp))]; exact bsErr_all fun x hx => h x (by simp [hx])
theorem bond_members {set : Nat} (hs : set < 2 ^ 62) {b : Bond} {n : Int} (h : bErr b n = 0) : bondL (membersL set) b = bondS set b := by
  obtain ⟨_, h1, h2, _⟩ := bErr_inv h
  have e1 : decide (b.a ∈ membersL set) = set.testBit b.a.toNat := by rw [Bool.eq_iff_iff, decide_eq_true_eq]; exact mem_members hs h1.1
  have e2 : decide (b.b ∈ membersL set) = set.testBit b.b.toNat := by rw [Bool.eq_iff_iff, decide_eq_true_eq]; exact mem_members hs h2.1
  show bondB b _ _ = bondB b _ _
  rw [e1, e2]
theorem any_bonds {set : Nat} (hs : set < 2 ^ 62) {bs : List Bond} {n : Int} (h : bsErr n bs = 0) : (bs.any fun b => !bondS set b) = !bs.all (bondL (membersL set)) := by
  rw [List.not_all_eq_any_not, Bool.eq_iff_iff, List.any_eq_true, List.any_eq_true]
  constructor
  · rintro ⟨b, h1, h2⟩; exact ⟨b, h1, by rw [bond_members hs (bsErr_each h b h1)]; exact h2⟩
  · rintro ⟨b, h1, h2⟩; exact ⟨b, h1, by rw [bond_members hs (bsErr_each h b h1)] at h2; exact h2⟩
theorem gErr_hon {g : Guest} (h : gErr g = 0) : 0 ≤ g.honour ∧ g.honour ≤ 1000 := by
  unfold gErr at h
  split at h
  · split at h
    · rename_i h2
      simp only [gOK, Bool.and_eq_true, inB_t] at h2
      omega
    · cases h
  · cases h
theorem known_inv {gs : List Guest} (h : knownE gs = 0) : gs.length ≤ 10 ∧ ∀ g ∈ gs, 0 ≤ g.honour ∧ g.honour ≤ 1000 := by
  unfold knownE at h
  split at h
  · cases h
  · exact ⟨by omega, fun g hg => gErr_hon (gsErr_each h g hg)⟩
end Go.Abs
