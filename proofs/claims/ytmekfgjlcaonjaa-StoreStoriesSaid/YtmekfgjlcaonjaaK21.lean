/- A part of the proofs of the laws of this seat: contracts of the functions that they reach, each proved of the program's form in Lean. No condition beyond those that each contract names. -/
import Derived.Test.YtmekfgjlcaonjaaK58
import Derived.Test.YtmekfgjlcaonjaaB
set_option linter.unusedVariables false
set_option linter.unusedSimpArgs false
set_option maxRecDepth 20000
set_option maxHeartbeats 1000000
namespace Go.Abs
open Go.Proofs
/-- Rows of truth values. -/
def rowO (n : Nat) (f : Nat → Bool) : List AV := (List.range n).map fun y => AV.bool (f y)
theorem rowO_len (n : Nat) (f : Nat → Bool) : (rowO n f).length = n := by simp [rowO]
theorem rowO_get {n : Nat} (f : Nat → Bool) {y : Nat} (h : y < n) : (rowO n f)[y]? = some (.bool (f y)) := by simp [rowO, List.getElem?_range h]
theorem rowO_set (n : Nat) (f : Nat → Bool) (y : Nat) (v : Bool) : (rowO n f).set y (.bool v) = rowO n fun z => if z = y then v else f z := by
  apply List.ext_getElem?
  intro j
  rw [List.getElem?_set]
  unfold rowO
  simp only [List.length_map, List.length_range, List.getElem?_map]
  by_cases h : y = j
  · subst h
    by_cases hj : y < n
    · simp [hj, List.getElem?_range hj]
    · simp [hj, List.getElem?_eq_none (show (List.range n).length ≤ y by simp; omega)]
  · rw [if_neg h]
    by_cases hj : j < n
    · simp [List.getElem?_range hj, Ne.symm h]
    · simp [List.getElem?_eq_none (show (List.range n).length ≤ j by simp; omega)]
structure Told where
  lo : Int
  hi : Int
  F : Nat → Int
  f : Nat → Nat → Bool
def setF (F : Nat → Int) (y : Nat) (m : Int) : Nat → Int := fun z => if z = y then m else F z
def setB (f : Nat → Nat → Bool) (x y : Nat) : Nat → Nat → Bool := fun a b => if a = x then (if b = y then true else f a b) else f a b
/-- Where the struct lies, its links, its rows' cells, and the generations. -/
structure TPl where
  gp : Nat
  gq : Nat
  gr : Nat
  nL : Nat
  hs : Nat → Nat
  tg : Tag
/-- The cell of the links: where there are none, a slice without room. -/
def lcell (q : Nat) (G : TPl) : AV := match G.nL with
  | 0 => .slc 2 [] G.tg
  | n + 1 => .msl q G.gq (n + 1) 2
def rowsD (hs : Nat → Nat) (f : Nat → Nat → Bool) : List (Nat × (Nat × Res)) := (List.range 30).map fun k => (5000 + k, (hs k, Res.row (rowO 21 (f k))))
def boxT (q r : Nat) (G : TPl) (S : Told) : Nat × Res := (G.gp, .row [.int .i64 S.lo, .int .i64 S.hi, lcell q G, .msl r G.gr 30 1])
def lnkT (G : TPl) (S : Told) : Nat × Res := (G.gq, .row (rowZ (G.nL * 2) S.F))
def celT (G : TPl) : Nat × Res := (G.gr, .row (cellsR 21 30 G.hs))
def tRows (p q r : Nat) (G : TPl) (S : Told) : List (Nat × (Nat × Res)) := (p, boxT q r G S) :: (q, lnkT G S) :: (r, celT G) :: rowsD G.hs S.f
theorem rowsD_get {hs : Nat → Nat} {f : Nat → Nat → Bool} {σ : Sig} {k : Nat} (hk : k < 30) : updL (rowsD hs f) σ (5000 + k) = (hs k, .row (rowO 21 (f k))) := by
  refine updL_in (fun p hp e => ?_) ⟨(5000 + k, _), List.mem_map.2 ⟨k, by simpa using hk, rfl⟩, rfl⟩
  obtain ⟨j, _, rfl⟩ := List.mem_map.1 hp
  dsimp only at e
  rw [show j = k by omega]
theorem rowsD_out {hs : Nat → Nat} {f : Nat → Nat → Bool} {σ : Sig} {i : Nat} (hi : ∀ k < 30, i ≠ 5000 + k) : updL (rowsD hs f) σ i = σ i := by
  refine updL_out fun p hp e => ?_
  obtain ⟨j, hj, rfl⟩ := List.mem_map.1 hp
  exact hi j (by simpa using hj) e.symm
/-- Other places ahead of it. -/
def apart (p q r : Nat) (X : List (Nat × (Nat × Res))) : Prop := ∀ x ∈ X, x.1 < 5000 ∧ x.1 ≠ p ∧ x.1 ≠ q ∧ x.1 ≠ r
theorem updL_app {β : Type} (X Y : List (Nat × β)) (e : Nat → β) : updL (X ++ Y) e = updL X (updL Y e) := by
  induction X with
  | nil => rfl
  | cons x r ih => obtain ⟨i, v⟩ := x; show upd (updL (r ++ Y) e) i v = upd (updL r (updL Y e)) i v; rw [ih]
theorem t_out {p q r : Nat} {G : TPl} {S : Told} {σ : Sig} {i : Nat} (h1 : i ≠ p) (h2 : i ≠ q) (h3 : i ≠ r) (h4 : ∀ k < 30, i ≠ 5000 + k) : updL (tRows p q r G S) σ i = σ i := by
  rw [tRows, updL, updL, updL, upd_eq, if_neg h1, upd_eq, if_neg h2, upd_eq, if_neg h3, rowsD_out h4]
section
variable {p q r : Nat} {G : TPl} {S : Told} {σ : Sig} {X : List (Nat × (Nat × Res))}
theorem t_p (hX : apart p q r X) : updL (X ++ tRows p q r G S) σ p = boxT q r G S := by
  rw [updL_app, updL_out fun x hx => (hX x hx).2.1, tRows, updL, upd_eq, if_pos rfl]
theorem t_q (hX : apart p q r X) (hpq : q ≠ p) : updL (X ++ tRows p q r G S) σ q = lnkT G S := by
  rw [updL_app, updL_out fun x hx => (hX x hx).2.2.1, tRows, updL, updL, upd_eq, if_neg hpq, upd_eq, if_pos rfl]
theorem t_r (hX : apart p q r X) (hpr : r ≠ p) (hqr : r ≠ q) : updL (X ++ tRows p q r G S) σ r = celT G := by
  rw [updL_app, updL_out fun x hx => (hX x hx).2.2.2, tRows, updL, updL, updL, upd_eq, if_neg hpr, upd_eq, if_neg hqr, upd_eq, if_pos rfl]
theorem t_d (hX : apart p q r X) (hp : p < 5000) (hq : q < 5000) (hr : r < 5000) {k : Nat} (hk : k < 30) : updL (X ++ tRows p q r G S) σ (5000 + k) = (G.hs k, .row (rowO 21 (S.f k))) := by
  rw [updL_app, updL_out fun x hx => by have := (hX x hx).1; omega, tRows, updL, updL, updL, upd_eq, if_neg (by omega), upd_eq, if_neg (by omega), upd_eq, if_neg (by omega), rowsD_get hk]
theorem t_slots (hpq : p ≠ q) (hpr : p ≠ r) (hqr : q ≠ r) (hp : p < 5000) (hq : q < 5000) (hr : r < 5000) : slots (tRows p q r G S) (updL (tRows p q r G S) σ) := by
  have hX : apart p q r ([] : List (Nat × (Nat × Res))) := fun x hx => by cases hx
  refine ⟨t_p (X := []) hX, t_q (X := []) hX hpq.symm, t_r (X := []) hX hpr.symm hqr.symm, slots_iff.2 fun x hx => ?_⟩
  obtain ⟨j, hj, rfl⟩ := List.mem_map.1 hx
  exact t_d (X := []) hX hp hq hr (by simpa using hj)
/-- What is written is written into the state's own form. -/
theorem t_ext {σ1 : Sig} {S' : Told} (hX : apart p q r X) (hpq : p ≠ q) (hpr : p ≠ r) (hqr : q ≠ r) (hp : p < 5000) (hq : q < 5000) (hr : r < 5000) (h0 : ∀ i, i ≠ p → i ≠ q → i ≠ r → (∀ k < 30, i ≠ 5000 + k) → σ1 i = updL (X ++ tRows p q r G S) σ i)
    (h1 : σ1 p = boxT q r G S') (h2 : σ1 q = lnkT G S') (h3 : σ1 r = celT G) (h4 : ∀ k < 30, σ1 (5000 + k) = (G.hs k, .row (rowO 21 (S'.f k)))) : σ1 = updL (X ++ tRows p q r G S') σ := by
  funext i
  by_cases e1 : i = p
  · subst e1; rw [h1, t_p hX]
  by_cases e2 : i = q
  · subst e2; rw [h2, t_q hX hpq.symm]
  by_cases e3 : i = r
  · subst e3; rw [h3, t_r hX hpr.symm hqr.symm]
  by_cases e4 : ∃ k, k < 30 ∧ i = 5000 + k
  · obtain ⟨k, hk, rfl⟩ := e4
    rw [h4 k hk, t_d hX hp hq hr hk]
  · have e4 : ∀ k < 30, i ≠ 5000 + k := fun k hk h => e4 ⟨k, hk, h⟩
    rw [h0 i e1 e2 e3 e4, updL_app, updL_app]
    have hh : ∀ S0 : Told, updL (tRows p q r G S0) σ i = σ i := fun S0 => t_out e1 e2 e3 e4
    have gen : ∀ (X : List (Nat × (Nat × Res))) (a b : Sig), a i = b i → updL X a i = updL X b i := by
      intro X a b hab
      induction X with
      | nil => exact hab
      | cons x r ih => obtain ⟨j, v⟩ := x; rw [updL, updL, upd_eq, upd_eq, ih]
    exact gen X _ _ (by rw [hh, hh])
theorem t_setP {a b : Int} (hX : apart p q r X) (hpq : p ≠ q) (hpr : p ≠ r) (hqr : q ≠ r) (hp : p < 5000) (hq : q < 5000) (hr : r < 5000) : upd (updL (X ++ tRows p q r G S) σ) p (G.gp, .row [.int .i64 a, .int .i64 b, lcell q G, .msl r G.gr 30 1]) = updL (X ++ tRows p q r G { S with lo := a, hi := b }) σ := by
  refine t_ext hX hpq hpr hqr hp hq hr (fun i e1 _ _ _ => by rw [upd_eq, if_neg e1]) (by rw [upd_eq, if_pos rfl]; rfl) ?_ ?_ fun k hk => ?_
  · rw [upd_eq, if_neg hpq.symm, t_q hX hpq.symm]; rfl
  · rw [upd_eq, if_neg hpr.symm, t_r hX hpr.symm hqr.symm]
  · rw [upd_eq, if_neg (by omega), t_d hX hp hq hr hk]
theorem t_setQ {y : Nat} {m : Int} (hX : apart p q r X) (hpq : p ≠ q) (hpr : p ≠ r) (hqr : q ≠ r) (hp : p < 5000) (hq : q < 5000) (hr : r < 5000) : upd (updL (X ++ tRows p q r G S) σ) q (G.gq, .row ((rowZ (G.nL * 2) S.F).set y (.int .i64 m))) = updL (X ++ tRows p q r G { S with F := setF S.F y m }) σ := by
  refine t_ext hX hpq hpr hqr hp hq hr (fun i _ e1 _ _ => by rw [upd_eq, if_neg e1]) ?_ (by rw [upd_eq, if_pos rfl, rowZ_set]; rfl) ?_ fun k hk => ?_
  · rw [upd_eq, if_neg hpq, t_p hX]; rfl
  · rw [upd_eq, if_neg hqr.symm, t_r hX hpr.symm hqr.symm]
  · rw [upd_eq, if_neg (by omega), t_d hX hp hq hr hk]
theorem t_setD {x y : Nat} (hX : apart p q r X) (hpq : p ≠ q) (hpr : p ≠ r) (hqr : q ≠ r) (hp : p < 5000) (hq : q < 5000) (hr : r < 5000) (hx : x < 30) : upd (updL (X ++ tRows p q r G S) σ) (5000 + x) (G.hs x, .row ((rowO 21 (S.f x)).set y (.bool true))) = updL (X ++ tRows p q r G { S with f := setB S.f x y }) σ := by
  refine t_ext hX hpq hpr hqr hp hq hr (fun i _ _ _ e4 => by rw [upd_eq, if_neg (e4 x hx)]) ?_ ?_ ?_ fun k hk => ?_
  · rw [upd_eq, if_neg (by omega), t_p hX]; rfl
  · rw [upd_eq, if_neg (by omega), t_q hX hpq.symm]; rfl
  · rw [upd_eq, if_neg (by omega), t_r hX hpr.symm hqr.symm]
  · by_cases e : k = x
    · subst e
      rw [upd_eq, if_pos rfl, rowO_set]
      congr 3
      funext z
      simp [setB]
    · rw [upd_eq, if_neg (by omega), t_d hX hp hq hr hk]
      congr 3
      funext z
      simp [setB, e]
end
end Go.Abs
