/- A part of the proofs of the laws of this seat: contracts of the functions that they reach, each proved of the program's form in Lean. No condition beyond those that each contract names. -/
import Derived.Test.YtmekfgjlcaonjaaD1
import Derived.Test.YtmekfgjlcaonjaaC4
import Derived.Test.YtmekfgjlcaonjaaC3
import Derived.Test.YtmekfgjlcaonjaaC2
import Derived.Test.YtmekfgjlcaonjaaC1
import Derived.Test.YtmekfgjlcaonjaaB
import Derived.Test.YtmekfgjlcaonjaaC6
set_option linter.unusedVariables false
set_option linter.unusedSimpArgs false
set_option maxRecDepth 20000
set_option maxHeartbeats 4000000
namespace Go.Abs
theorem wideS_get (xs : List Int) (off : Nat) (a b : Int) (h : off + 1 < xs.length) (j : Nat) :
    (wideS xs off a b).getD j 0 = if j = off then min (xs.getD off 0) a else if j = off + 1 then max (xs.getD (off + 1) 0) b else xs.getD j 0 := by
  unfold wideS
  simp only [List.getD_eq_getElem?_getD, List.getElem?_set]
  by_cases h1 : j = off
  · subst h1
    rw [if_neg (by omega), if_pos rfl, if_pos (by omega), if_pos rfl]; rfl
  · rw [if_neg h1]
    by_cases h2 : j = off + 1
    · subst h2
      rw [if_pos rfl, if_pos (by simp; omega), if_pos rfl]; rfl
    · rw [if_neg h2, if_neg (fun h => h2 h.symm), if_neg (fun h => h1 h.symm)]
/-- A link's days behind a tale. -/
theorem linkW_get (c : Chn) (x : List Int × List Int) (k : Nat) : ∀ (l : List Int) (i : Nat) (xs : List Int), l.Nodup → (∀ y ∈ l, 0 ≤ y ∧ 2 * y + 1 < xs.length) →
    ((linkW c x i l xs).getD (k * 2) 0 = if (k : Int) ∈ l then min (xs.getD (k * 2) 0) (getI x.2 (idxF' k i l + 1)) else xs.getD (k * 2) 0) ∧
    ((linkW c x i l xs).getD (k * 2 + 1) 0 = if (k : Int) ∈ l then max (xs.getD (k * 2 + 1) 0) (getI (latF c x.1) (idxF' k i l + 1)) else xs.getD (k * 2 + 1) 0)
  | [], i, xs, _, _ => by simp [linkW]
  | a :: r, i, xs, hn, hb => by
    rw [List.nodup_cons] at hn
    have ha := hb a (by simp)
    have ih := linkW_get c x k r (i + 1) (wideS xs (a.toNat * 2) (getI x.2 (i + 1)) (getI (latF c x.1) (i + 1))) hn.2 fun y hy => by rw [wideS_len]; exact hb y (by simp [hy])
    rw [linkW]
    have hg := wideS_get xs (a.toNat * 2) (getI x.2 (i + 1)) (getI (latF c x.1) (i + 1)) (by omega)
    by_cases hka : (k : Int) = a
    · have hkr : (k : Int) ∉ r := by rw [hka]; exact hn.1
      have e : a.toNat = k := by omega
      have hm : (k : Int) ∈ a :: r := by rw [hka]; simp
      have e0 := hg (k * 2)
      have e1 := hg (k * 2 + 1)
      rw [if_pos (by omega), e] at e0
      rw [if_neg (by omega), if_pos (by omega), e] at e1
      rw [if_neg hkr, if_neg hkr, e] at ih
      rw [if_pos hm, if_pos hm, idxF', if_pos hka.symm, e]
      exact ⟨by rw [ih.1, e0], by rw [ih.2, e1]⟩
    · have hm : (k : Int) ∈ a :: r ↔ (k : Int) ∈ r := by simp [hka]
      have hne : a.toNat ≠ k := by omega
      have hka' : ¬ a = (k : Int) := fun h => hka h.symm
      have e0 := hg (k * 2)
      have e1 := hg (k * 2 + 1)
      rw [if_neg (by omega), if_neg (by omega)] at e0
      rw [if_neg (by omega), if_neg (by omega)] at e1
      have e2 : idxF' (k : Int) i (a :: r) = idxF' (k : Int) (i + 1) r := by rw [idxF', if_neg hka']
      rw [e2]
      simp only [hm]
      exact ⟨by rw [ih.1, e0], by rw [ih.2, e1]⟩
/-- The days of Made, and of a link, over some tales. -/
def mnL (f : List Int × List Int → Int) (z : Int) (X : List (List Int × List Int)) : Int := X.foldl (fun m x => min m (f x)) z
def mxL (f : List Int × List Int → Int) (z : Int) (X : List (List Int × List Int)) : Int := X.foldl (fun m x => max m (f x)) z
theorem mnL_le {f : List Int × List Int → Int} : ∀ {X : List (List Int × List Int)} {z : Int}, mnL f z X ≤ z ∧ ∀ x ∈ X, mnL f z X ≤ f x
  | [], z => ⟨Int.le_refl _, fun x h => by cases h⟩
  | a :: r, z => by
    have ih := mnL_le (f := f) (X := r) (z := min z (f a))
    refine ⟨by show mnL f (min z (f a)) r ≤ z; omega, fun x hx => ?_⟩
    show mnL f (min z (f a)) r ≤ f x
    rcases List.mem_cons.1 hx with rfl | hx
    · omega
    · exact ih.2 x hx
theorem mnL_at {f : List Int × List Int → Int} : ∀ {X : List (List Int × List Int)} {z : Int}, mnL f z X = z ∨ ∃ x ∈ X, mnL f z X = f x
  | [], z => .inl rfl
  | a :: r, z => by
    rcases mnL_at (f := f) (X := r) (z := min z (f a)) with h | ⟨x, hx, h⟩
    · by_cases hz : z ≤ f a
      · exact .inl (by show mnL f (min z (f a)) r = z; omega)
      · exact .inr ⟨a, by simp, by show mnL f (min z (f a)) r = f a; omega⟩
    · exact .inr ⟨x, by simp [hx], h⟩
theorem mxL_ge {f : List Int × List Int → Int} : ∀ {X : List (List Int × List Int)} {z : Int}, z ≤ mxL f z X ∧ ∀ x ∈ X, f x ≤ mxL f z X
  | [], z => ⟨Int.le_refl _, fun x h => by cases h⟩
  | a :: r, z => by
    have ih := mxL_ge (f := f) (X := r) (z := max z (f a))
    refine ⟨by show z ≤ mxL f (max z (f a)) r; omega, fun x hx => ?_⟩
    show f x ≤ mxL f (max z (f a)) r
    rcases List.mem_cons.1 hx with rfl | hx
    · omega
    · exact ih.2 x hx
theorem mxL_at {f : List Int × List Int → Int} : ∀ {X : List (List Int × List Int)} {z : Int}, mxL f z X = z ∨ ∃ x ∈ X, mxL f z X = f x
  | [], z => .inl rfl
  | a :: r, z => by
    rcases mxL_at (f := f) (X := r) (z := max z (f a)) with h | ⟨x, hx, h⟩
    · by_cases hz : f a ≤ z
      · exact .inl (by show mxL f (max z (f a)) r = z; omega)
      · exact .inr ⟨a, by simp, by show mxL f (max z (f a)) r = f a; omega⟩
    · exact .inr ⟨x, by simp [hx], h⟩
def posI (x : List Int × List Int) (k : Nat) : Int := idxI x.1 k + 1
/-- Days, of all tales that were seen. -/
theorem daysX {c : Chn} : ∀ (X : List (List Int × List Int)) (a b : Int) (xs : List Int), (∀ x ∈ X, isPerm c.ls.length x.1) → xs.length = c.ls.length * 2 →
    (X.foldl (daysT c) ([a, b], xs)).1 = [mnL (fun x => getI x.2 0) a X, mxL (fun x => getI (latF c x.1) 0) b X] ∧ (X.foldl (daysT c) ([a, b], xs)).2.length = c.ls.length * 2 ∧
    ∀ k : Nat, k < c.ls.length → (X.foldl (daysT c) ([a, b], xs)).2.getD (k * 2) 0 = mnL (fun x => getI x.2 (posI x k)) (xs.getD (k * 2) 0) X ∧ (X.foldl (daysT c) ([a, b], xs)).2.getD (k * 2 + 1) 0 = mxL (fun x => getI (latF c x.1) (posI x k)) (xs.getD (k * 2 + 1) 0) X
  | [], a, b, xs, _, hl => ⟨rfl, hl, fun k hk => ⟨rfl, rfl⟩⟩
  | x :: X, a, b, xs, hp, hl => by
    have h0 := hp x (by simp)
    have ih := daysX (c := c) X (min a (getI x.2 0)) (max b (getI (latF c x.1) 0)) (linkW c x 0 x.1 xs) (fun y hy => hp y (by simp [hy])) (by rw [linkW_len, hl])
    have e : daysT c ([a, b], xs) x = ([min a (getI x.2 0), max b (getI (latF c x.1) 0)], linkW c x 0 x.1 xs) := rfl
    rw [List.foldl_cons, e]
    refine ⟨ih.1, ih.2.1, fun k hk => ?_⟩
    have hk2 := linkW_get c x k x.1 0 xs h0.nd fun y hy => by have := h0.bd y hy; omega
    have hkm : (k : Int) ∈ x.1 := h0.all (by omega)
    rw [if_pos hkm, if_pos hkm] at hk2
    have := ih.2.2 k hk
    rw [hk2.1, hk2.2] at this
    exact this
theorem rowI_get (n k : Nat) (h : k < n) : (rowI n).getD (k * 2) 0 = 100000 ∧ (rowI n).getD (k * 2 + 1) 0 = -1 := by
  induction n generalizing k with
  | zero => omega
  | succ n ih =>
    have e : rowI (n + 1) = 100000 :: -1 :: rowI n := by simp [rowI, List.replicate_succ]
    rw [e]
    cases k with
    | zero => simp
    | succ k =>
      have := ih k (by omega)
      have e1 : (k + 1) * 2 = k * 2 + 1 + 1 := by omega
      rw [e1]
      simpa using this
theorem pairs_eq : ∀ (n : Nat) (xs : List Int), xs.length = n * 2 → pairs n xs = (List.range n).map fun k => (xs.getD (k * 2) 0, xs.getD (k * 2 + 1) 0)
  | 0, xs, _ => rfl
  | n + 1, [], h => by simp at h
  | n + 1, [a], h => by simp at h; omega
  | n + 1, a :: b :: r, h => by
    rw [pairs, pairs_eq n r (by simp at h; omega), List.range_succ_eq_map, List.map_cons, List.map_map]
    congr 1
    refine List.map_congr_left fun k _ => ?_
    have e1 : (k + 1) * 2 = k * 2 + 1 + 1 := by omega
    simp [Function.comp, e1]
/-- The least and the greatest days. -/
def madeLo (c : Chn) : Int := mnL (fun x => getI x.2 0) 100000 (talesF c)
def madeHi (c : Chn) : Int := mxL (fun x => getI (latF c x.1) 0) (-1) (talesF c)
def linkLo (c : Chn) (k : Nat) : Int := mnL (fun x => getI x.2 (posI x k)) 100000 (talesF c)
def linkHi (c : Chn) (k : Nat) : Int := mxL (fun x => getI (latF c x.1) (posI x k)) (-1) (talesF c)
theorem tale_perm {c : Chn} {x : List Int × List Int} (h : x ∈ talesF c) : isPerm c.ls.length x.1 := perm_of (tale_iff.1 h).1
theorem daysF_eq (c : Chn) : (daysF c).1 = [madeLo c, madeHi c] ∧ pairs c.ls.length (daysF c).2 = (List.range c.ls.length).map fun k => (linkLo c k, linkHi c k) := by
  have h := daysX (c := c) (talesF c) 100000 (-1) (rowI c.ls.length) (fun x hx => tale_perm hx) (rowI_len _)
  refine ⟨h.1, ?_⟩
  unfold daysF
  rw [pairs_eq _ _ h.2.1]
  refine List.map_congr_left fun k hk => ?_
  rw [List.mem_range] at hk
  have := h.2.2 k hk
  rw [this.1, this.2, (rowI_get _ k hk).1, (rowI_get _ k hk).2]
  rfl
/-- Days that are narrower. -/
structure Nar (c c' : Chn) : Prop where
  mkr : c'.maker = c.maker
  lo : c.lo ≤ c'.lo
  hi : c'.hi ≤ c.hi
  n : c'.ls.length = c.ls.length
  l : ∀ i : Int, (lkAt c'.ls i).f = (lkAt c.ls i).f ∧ (lkAt c'.ls i).t = (lkAt c.ls i).t ∧ (lkAt c.ls i).lo ≤ (lkAt c'.ls i).lo ∧ (lkAt c'.ls i).hi ≤ (lkAt c.ls i).hi
theorem Nar.link {c c' : Chn} (h : Nar c c') : ∀ (o : List Int) (x : Int), linkB c'.ls x o = linkB c.ls x o
  | [], _ => rfl
  | i :: r, x => by rw [linkB, linkB, (h.l i).1, (h.l i).2.1, h.link r]
theorem Nar.dayd {c c' : Chn} (h : Nar c c') : ∀ {o xs : List Int} {d : Int}, Go.Abs.dayd c'.ls d o xs → Go.Abs.dayd c.ls d o xs
  | [], [], _, _ => trivial
  | i :: r, x :: xs, _, ⟨h1, h2, h3, h4⟩ => ⟨h1, by have := h.l i; omega, by have := h.l i; omega, h.dayd h4⟩
  | [], _ :: _, _, h => h.elim
  | _ :: _, [], _, h => h.elim
theorem Nar.story {c c' : Chn} (h : Nar c c') {o ds : List Int} (hs : Story c' o ds) : Story c o ds := by
  cases ds with
  | nil => exact hs.elim
  | cons d ds =>
    obtain ⟨h1, h2, h3⟩ := hs
    have := h.lo
    have := h.hi
    exact ⟨by omega, by omega, h.dayd h3⟩
theorem Nar.tale {c c' : Chn} (h : Nar c c') (ok : DaysOK c) (ok' : DaysOK c') {x : List Int × List Int} (hx : x ∈ talesF c') : (x.1, leO c x.1) ∈ talesF c ∧ leqL (leO c x.1) x.2 ∧ leqL (latF c' x.1) (latF c x.1) := by
  obtain ⟨h1, h2, h3⟩ := tale_iff.1 hx
  unfold okO at h2
  rw [Bool.and_eq_true] at h2
  have s1 := story_bd ok (h.story (story_le ok' h2.2))
  have s2 := story_bd ok (h.story (story_lat ok' h2.2))
  refine ⟨tale_iff.2 ⟨by rw [← h.n]; exact h1, by rw [okO, s1.1, ← h.link, ← h.mkr, h2.1]; rfl, rfl⟩, by rw [h3]; exact s1.2.1, s2.2.2⟩
theorem Nar.lo' {c c' : Chn} (h : Nar c c') (ok : DaysOK c) (ok' : DaysOK c') (f : List Int × List Int → Nat) (hf : ∀ o a b, f (o, a) = f (o, b)) : mnL (fun x => getI x.2 (f x)) 100000 (talesF c) ≤ mnL (fun x => getI x.2 (f x)) 100000 (talesF c') := by
  rcases mnL_at (f := fun x => getI x.2 (f x)) (X := talesF c') (z := 100000) with e | ⟨x, hx, e⟩
  · rw [e]; exact mnL_le.1
  · rw [e]
    have ht := h.tale ok ok' hx
    have h1 := mnL_le (f := fun x => getI x.2 (f x)) (X := talesF c) (z := 100000) |>.2 _ ht.1
    have h2 := ht.2.1.get (f x)
    have hfx : f (x.1, leO c x.1) = f x := hf x.1 _ x.2
    dsimp only at h1 h2 ⊢
    rw [hfx] at h1
    omega
theorem Nar.hi' {c c' : Chn} (h : Nar c c') (ok : DaysOK c) (ok' : DaysOK c') (f : List Int × List Int → Nat) (hf : ∀ o a b, f (o, a) = f (o, b)) : mxL (fun x => getI (latF c' x.1) (f x)) (-1) (talesF c') ≤ mxL (fun x => getI (latF c x.1) (f x)) (-1) (talesF c) := by
  rcases mxL_at (f := fun x => getI (latF c' x.1) (f x)) (X := talesF c') (z := -1) with e | ⟨x, hx, e⟩
  · rw [e]; exact mxL_ge.1
  · rw [e]
    have ht := h.tale ok ok' hx
    have h1 := mxL_ge (f := fun x => getI (latF c x.1) (f x)) (X := talesF c) (z := -1) |>.2 _ ht.1
    have h2 := ht.2.2.get (f x)
    have hfx : f (x.1, leO c x.1) = f x := hf x.1 _ x.2
    dsimp only at h1
    rw [hfx] at h1
    omega
theorem mnL_congr {f g : List Int × List Int → Int} {X : List (List Int × List Int)} {z : Int} (h : ∀ x ∈ X, f x = g x) : mnL f z X = mnL g z X := by
  induction X generalizing z with
  | nil => rfl
  | cons a r ih => show mnL f (min z (f a)) r = mnL g (min z (g a)) r; rw [h a (by simp), ih fun x hx => h x (by simp [hx])]
theorem mxL_congr {f g : List Int × List Int → Int} {X : List (List Int × List Int)} {z : Int} (h : ∀ x ∈ X, f x = g x) : mxL f z X = mxL g z X := by
  induction X generalizing z with
  | nil => rfl
  | cons a r ih => show mxL f (max z (f a)) r = mxL g (max z (g a)) r; rw [h a (by simp), ih fun x hx => h x (by simp [hx])]
theorem posI_nat {c : Chn} {x : List Int × List Int} (h : x ∈ talesF c) {k : Nat} (hk : k < c.ls.length) : posI x k = (((posI x k).toNat : Nat) : Int) := by
  have := idx_mem.2 ((tale_perm h).all (g := (k : Int)) (by omega))
  unfold posI
  omega
theorem Nar.days {c c' : Chn} (h : Nar c c') (ok : DaysOK c) (ok' : DaysOK c') : madeLo c ≤ madeLo c' ∧ madeHi c' ≤ madeHi c ∧ ∀ k, k < c.ls.length → linkLo c k ≤ linkLo c' k ∧ linkHi c' k ≤ linkHi c k := by
  refine ⟨h.lo' ok ok' (fun _ => 0) (fun _ _ _ => rfl), h.hi' ok ok' (fun _ => 0) (fun _ _ _ => rfl), fun k hk => ?_⟩
  have e1 := h.lo' ok ok' (fun x => (posI x k).toNat) (fun _ _ _ => rfl)
  have e2 := h.hi' ok ok' (fun x => (posI x k).toNat) (fun _ _ _ => rfl)
  unfold linkLo linkHi
  rw [mnL_congr (X := talesF c) (g := fun x => getI x.2 (((posI x k).toNat : Nat) : Int)) fun x hx => by rw [← posI_nat hx hk],
    mnL_congr (X := talesF c') (g := fun x => getI x.2 (((posI x k).toNat : Nat) : Int)) fun x hx => by rw [← posI_nat hx (by rw [h.n]; exact hk)],
    mxL_congr (X := talesF c) (g := fun x => getI (latF c x.1) (((posI x k).toNat : Nat) : Int)) fun x hx => by rw [← posI_nat hx hk],
    mxL_congr (X := talesF c') (g := fun x => getI (latF c' x.1) (((posI x k).toNat : Nat) : Int)) fun x hx => by rw [← posI_nat hx (by rw [h.n]; exact hk)]]
  exact ⟨e1, e2⟩
theorem Nar.who {c c' : Chn} (h : Nar c c') (o : List Int) : ∀ j, whoAt c' o j = whoAt c o j
  | 0 => h.mkr
  | j + 1 => (h.l _).2.1
end Go.Abs
