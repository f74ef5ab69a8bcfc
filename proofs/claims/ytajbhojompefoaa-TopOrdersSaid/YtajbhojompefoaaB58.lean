/- A part of the proofs of the laws of this seat: contracts of the functions that they reach, each proved of the program's form in Lean. No condition beyond those that each contract names. -/
import Derived.Test.YtajbhojompefoaaB0
import Derived.Test.YtajbhojompefoaaB25
set_option linter.unusedVariables false
set_option linter.unusedSimpArgs false
set_option maxRecDepth 20000
set_option maxHeartbeats 4000000
/-! ### Rows that are written, one place for each -/
namespace Go.Abs
open Go.Proofs
variable {P : Program}
theorem slots_iff {β : Type} {e : Nat → β} : ∀ {l : List (Nat × β)}, slots l e ↔ ∀ p ∈ l, e p.1 = p.2
  | [] => by simp [slots]
  | (i, v) :: r => by simp [slots, slots_iff (l := r)]
theorem updL_out {β : Type} {e : Nat → β} {i : Nat} : ∀ {l : List (Nat × β)}, (∀ p ∈ l, p.1 ≠ i) → updL l e i = e i
  | [], _ => rfl
  | (j, v) :: r, h => by
    rw [updL, upd_eq, if_neg (fun e => h (j, v) (by simp) e.symm), updL_out fun p hp => h p (by simp [hp])]
theorem updL_in {β : Type} {e : Nat → β} {i : Nat} {v : β} : ∀ {l : List (Nat × β)}, (∀ p ∈ l, p.1 = i → p.2 = v) → (∃ p ∈ l, p.1 = i) → updL l e i = v
  | [], _, ⟨p, hp, _⟩ => by cases hp
  | (j, w) :: r, h, hx => by
    rw [updL, upd_eq]
    by_cases e : i = j
    · rw [if_pos e]; exact h (j, w) (by simp) e.symm
    · rw [if_neg e]
      obtain ⟨p, hp, hpi⟩ := hx
      rcases List.mem_cons.1 hp with rfl | hp
      · exact absurd hpi.symm e
      · exact updL_in (fun p hp => h p (by simp [hp])) ⟨p, hp, hpi⟩
/-- Rows of numbers, each at a place of its own. -/
def rowI (n : Nat) (f : Nat → Int) : List AV := (List.range n).map fun y => AV.int .i64 (f y)
def rowsS (b n : Nat) (hs : Nat → Nat) (f : Nat → Nat → Int) : List (Nat × (Nat × Res)) := (List.range b).map fun k => (5000 + k, (hs k, Res.row (rowI n (f k))))
theorem rowsS_get {b n : Nat} {hs : Nat → Nat} {f : Nat → Nat → Int} {σ : Sig} {k : Nat} (hk : k < b) : updL (rowsS b n hs f) σ (5000 + k) = (hs k, .row (rowI n (f k))) := by
  refine updL_in (fun p hp e => ?_) ⟨(5000 + k, _), List.mem_map.2 ⟨k, by simpa using hk, rfl⟩, rfl⟩
  obtain ⟨j, _, rfl⟩ := List.mem_map.1 hp
  dsimp only at e
  rw [show j = k by omega]
theorem rowsS_out {b n : Nat} {hs : Nat → Nat} {f : Nat → Nat → Int} {σ : Sig} {i : Nat} (hi : ∀ k < b, i ≠ 5000 + k) : updL (rowsS b n hs f) σ i = σ i := by
  refine updL_out fun p hp e => ?_
  obtain ⟨j, hj, rfl⟩ := List.mem_map.1 hp
  exact hi j (by simpa using hj) e.symm
theorem slots_rows {b n : Nat} {hs : Nat → Nat} {f : Nat → Nat → Int} {σ : Sig} : slots (rowsS b n hs f) σ ↔ ∀ k < b, σ (5000 + k) = (hs k, .row (rowI n (f k))) := by
  rw [slots_iff]
  constructor
  · intro h k hk
    exact h (5000 + k, _) (List.mem_map.2 ⟨k, by simpa using hk, rfl⟩)
  · intro h p hp
    obtain ⟨j, hj, rfl⟩ := List.mem_map.1 hp
    exact h j (by simpa using hj)
theorem rowI_set (n : Nat) (f : Nat → Int) (y : Nat) (v : Int) : (rowI n f).set y (.int .i64 v) = rowI n fun z => if z = y then v else f z := by
  apply List.ext_getElem?
  intro j
  rw [List.getElem?_set]
  unfold rowI
  simp only [List.length_map, List.length_range, List.getElem?_map]
  by_cases h : y = j
  · subst h
    by_cases hj : y < n
    · simp [hj, List.getElem?_range hj]
    · simp [hj, List.getElem?_eq_none (show (List.range n).length ≤ y by simp; omega)]
  · rw [if_neg h]
    by_cases hj : j < n
    · simp [List.getElem?_range hj, Ne.symm h]
    · simp [List.getElem?_eq_none (show (List.range n).length ≤ j by simp; omega)]
theorem rowI_len (n : Nat) (f : Nat → Int) : (rowI n f).length = n := by simp [rowI]
theorem rowI_get {n : Nat} (f : Nat → Int) {y : Nat} (h : y < n) : (rowI n f)[y]? = some (.int .i64 (f y)) := by simp [rowI, List.getElem?_range h]
theorem rowI_zero (n : Nat) : (List.replicate n (0 : Int)).map (AV.int .i64) = rowI n fun _ => 0 := by
  apply List.ext_getElem?
  intro j
  by_cases hj : j < n
  · rw [rowI_get _ hj]; simp [hj]
  · rw [List.getElem?_eq_none (by simp; omega), List.getElem?_eq_none (by rw [rowI_len]; omega)]
/-- The state: two places, and the rows. -/
def rowsT (p q : Nat) (A B : Nat × Res) (b n : Nat) (hs : Nat → Nat) (f : Nat → Nat → Int) : List (Nat × (Nat × Res)) := (p, A) :: (q, B) :: rowsS b n hs f
theorem rowsT_get {p q : Nat} {A B : Nat × Res} {b n : Nat} {hs : Nat → Nat} {f : Nat → Nat → Int} {σ : Sig} {k : Nat} (hp : p < 5000) (hq : q < 5000) (hk : k < b) : updL (rowsT p q A B b n hs f) σ (5000 + k) = (hs k, .row (rowI n (f k))) := by
  rw [rowsT, updL, updL, upd_eq, if_neg (by omega), upd_eq, if_neg (by omega), rowsS_get hk]
theorem rowsT_set {p q : Nat} {A B : Nat × Res} {b n : Nat} {hs : Nat → Nat} {f : Nat → Nat → Int} {σ : Sig} {x y : Nat} {v : Int} (hp : p < 5000) (hq : q < 5000) (hx : x < b) :
    upd (updL (rowsT p q A B b n hs f) σ) (5000 + x) (hs x, .row ((rowI n (f x)).set y (.int .i64 v))) = updL (rowsT p q A B b n hs (setT f x y v)) σ := by
  funext i
  rw [upd_eq]
  by_cases hi : ∃ k, k < b ∧ i = 5000 + k
  · obtain ⟨k, hk, rfl⟩ := hi
    rw [rowsT_get hp hq hk, rowsT_get hp hq hk]
    by_cases e : k = x
    · subst e
      rw [if_pos rfl, rowI_set]
      congr 3
      funext z
      simp [setT]
    · rw [if_neg (by omega)]
      congr 3
      funext z
      simp [setT, e]
  · have ho : ∀ k < b, i ≠ 5000 + k := fun k hk e => hi ⟨k, hk, e⟩
    rw [if_neg (ho x hx)]
    simp only [rowsT, updL, upd_eq, rowsS_out ho]
theorem w_ldAt {K : (Nat → AV) → Sig → Prop} {e : Nat → AV} {σ : Sig} {x : IOpd} {d : Nat} {r : List IStep} {i g off : Nat} {c : List AV} {v : AV} (hx : x.ev e = .ref i g off) (hσ : σ i = (g, .row c)) (hc : c[off]? = some v) (hv : forceA v = some v)
    (hk : stepsW P r K (upd e d v) σ) : stepsW P (⟨some d, none, .ld 1 false x⟩ :: r) K e σ := by
  refine w_val (p := g = g ∧ True) (v := v) ?_ ⟨rfl, trivial⟩ hk
  show ldO 1 false σ (x.ev e) = _
  rw [hx]
  simp only [ldO, hσ, partO, hc, hv, liftV, okV]
/-- A number of a row is read, or written. -/
theorem w_ldR {K : (Nat → AV) → Sig → Prop} {e : Nat → AV} {σ : Sig} {x : IOpd} {d : Nat} {r : List IStep} {p q : Nat} {A B : Nat × Res} {b n : Nat} {hs : Nat → Nat} {f : Nat → Nat → Int} {u : Nat} {y : Int} (hx : x.ev e = .ref (5000 + u) (hs u) (y.toNat * 1)) (hp : p < 5000) (hq : q < 5000) (hu : u < b) (hy : y.toNat < n)
    (hk : stepsW P r K (upd e d (.int .i64 (f u y.toNat))) (updL (rowsT p q A B b n hs f) σ)) : stepsW P (⟨some d, none, .ld 1 false x⟩ :: r) K e (updL (rowsT p q A B b n hs f) σ) :=
  w_ldAt hx (rowsT_get hp hq hu) (by rw [Nat.mul_one]; exact rowI_get _ hy) rfl hk
theorem w_stR {K : (Nat → AV) → Sig → Prop} {e : Nat → AV} {σ : Sig} {x v : IOpd} {r : List IStep} {p q : Nat} {A B : Nat × Res} {b n : Nat} {hs : Nat → Nat} {f : Nat → Nat → Int} {u : Nat} {y m : Int} (hx : x.ev e = .ref (5000 + u) (hs u) (y.toNat * 1)) (hv : v.ev e = .int .i64 m) (hp : p < 5000) (hq : q < 5000) (hu : u < b) (hy : y.toNat < n)
    (hk : stepsW P r K e (updL (rowsT p q A B b n hs (setT f u y.toNat m)) σ)) : stepsW P (⟨none, none, .st 1 x v⟩ :: r) K e (updL (rowsT p q A B b n hs f) σ) := by
  refine w_det0 (p := hs u = hs u ∧ 1 = 1 ∧ y.toNat * 1 + 1 ≤ (rowI n (f u)).length) (v := .junk) (σ' := upd (updL (rowsT p q A B b n hs f) σ) (5000 + u) (hs u, .row (setL (rowI n (f u)) (y.toNat * 1) [.int .i64 m]))) (fun _ => ?_) ⟨rfl, rfl, by rw [rowI_len]; omega⟩ ?_
  · show stO 1 _ (v.ev e) (x.ev e) = _
    rw [hx, hv]
    simp only [stO, cellsO, rowsT_get hp hq hu]
  · rw [setL_one, Nat.mul_one, rowsT_set hp hq hu]; exact hk
/-- A slice that is written gets another place. -/
theorem w_mveG {Q : Post} {e : Nat → AV} {σ : Sig} {b : IR} {t i g n sz : Nat} {c : List AV} (j : Nat) (F : Nat → List (Nat × AV)) (S : Nat → List (Nat × (Nat × Res))) (h1 : e t = .msl i g n sz) (hσ : σ i = (g, .row c)) (hj : j ≠ YS ∧ j ≠ i) (hF : ∀ h, slots (F h) (mvE i g j h e)) (hS : ∀ h, slots (S h) (mvS i g j h σ))
    (hk : ∀ h e' σ', awp P b Q (updL (F h) e') (updL (S h) σ')) : awp P (.seq (.mve (.t t)) b) Q e σ := by
  show mveW (e t) e σ (seqQ (awp P b Q) Q .nor)
  rw [h1]
  show (match σ i with | (g', .row _) => g = g' ∧ ∃ j, j ≠ YS ∧ j ≠ i ∧ ∀ h, seqQ (awp P b Q) Q .nor (mvE i g j h e) (mvS i g j h σ) | _ => False)
  rw [hσ]
  refine ⟨rfl, j, hj.1, hj.2, fun h => ?_⟩
  have := hk h (mvE i g j h e) (mvS i g j h σ)
  rw [updL_slots (hF h), updL_slots (hS h)] at this
  exact this
theorem mvL_map (i g j h : Nat) : ∀ l : List AV, mvL i g j h l = l.map (mvA i g j h)
  | [] => rfl
  | a :: l => by rw [mvL, mvL_map i g j h l]; rfl
theorem mvL_row (i g j h n : Nat) (f : Nat → Int) : mvL i g j h (rowI n f) = rowI n f := by
  rw [mvL_map, rowI, List.map_map]; rfl
theorem mvS_keep {i g j h k x : Nat} {σ : Sig} {c : List AV} (hs : σ k = (x, .row c)) (h1 : k ≠ j) (h2 : k ≠ i) (hc : mvL i g j h c = c) : mvS i g j h σ k = (x, .row c) := by simp [mvS, h1, h2, hs, mvR, hc]
theorem mvS_at {i g j h : Nat} {σ : Sig} {c : List AV} (hs : σ i = (g, .row c)) (hc : mvL i g j h c = c) : mvS i g j h σ j = (h, .row c) := by simp [mvS, hs, mvR, hc]
theorem mvE_keep {i g j h t : Nat} {e : Nat → AV} {a : AV} (he : e t = a) (ha : mvA i g j h a = a) : mvE i g j h e t = a := by simp [mvE, he, ha]
/-- The rows' places. -/
def cellR (n : Nat) (hs : Nat → Nat) (k : Nat) : AV := .msl (5000 + k) (hs k) n 1
def cellsR (n a : Nat) (hs : Nat → Nat) : List AV := (List.range a).map (cellR n hs)
theorem cellsR_len (n a : Nat) (hs : Nat → Nat) : (cellsR n a hs).length = a := by simp [cellsR]
theorem cellsR_get {n a : Nat} (hs : Nat → Nat) {k : Nat} (h : k < a) : (cellsR n a hs)[k]? = some (.msl (5000 + k) (hs k) n 1) := by simp [cellsR, List.getElem?_range h, cellR]
theorem cells_mv {i g h n a : Nat} {hs : Nat → Nat} (hi : i < 5000) (ha : a < n) : mvL i g (5000 + a) h (cellsR n a hs ++ .msl i g n 1 :: List.replicate (n - a - 1) .nsl) = cellsR n (a + 1) (upd hs a h) ++ List.replicate (n - (a + 1)) .nsl := by
  rw [mvL_map, List.map_append, List.map_cons, cellsR, cellsR, List.range_succ, List.map_append, List.append_assoc, List.map_map]
  congr 1
  · refine List.map_congr_left fun k hk => ?_
    have hk' : k < a := by simpa using hk
    simp only [Function.comp, cellR, mvA]
    rw [if_neg (by omega), upd_eq, if_neg (by omega)]
  · simp only [mvA, List.map_cons, List.map_nil, List.singleton_append, List.map_replicate, cellR, upd_eq, and_self, if_true]
    rw [show n - (a + 1) = n - a - 1 by omega]
end Go.Abs
