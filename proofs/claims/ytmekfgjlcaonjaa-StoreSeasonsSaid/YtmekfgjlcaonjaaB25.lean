/- A part of the proofs of the laws of this seat: contracts of the functions that they reach, each proved of the program's form in Lean. No condition beyond those that each contract names. -/
import Derived.Test.YtmekfgjlcaonjaaB0
import Derived.Test.YtmekfgjlcaonjaaB9
import Derived.Test.YtmekfgjlcaonjaaB20
import Derived.Test.YtmekfgjlcaonjaaB16
import Derived.Test.YtmekfgjlcaonjaaB8
set_option linter.unusedVariables false
set_option linter.unusedSimpArgs false
set_option maxRecDepth 20000
set_option maxHeartbeats 4000000
/-! ### Who sits before whom: counting -/
namespace Go.Abs
/-- Of y, whether it is in a list; of x and y, how often x comes before y. -/
def inN (r : List Int) (y : Nat) : Int := if (y : Int) ∈ r then 1 else 0
def bf : List Int → Nat → Nat → Int
  | [], _, _ => 0
  | a :: r, x, y => (if a = (x : Int) then inN r y else 0) + bf r x y
theorem inN_bd (r : List Int) (y : Nat) : 0 ≤ inN r y ∧ inN r y ≤ 1 := by unfold inN; split <;> omega
theorem bf_bd : ∀ (l : List Int) (x y : Nat), 0 ≤ bf l x y ∧ bf l x y ≤ l.length
  | [], _, _ => by simp [bf]
  | a :: r, x, y => by
    have h1 := bf_bd r x y
    have h2 := inN_bd r y
    simp only [bf, List.length_cons]
    split <;> omega
def bfS (ls : List (List Int)) (x y : Nat) : Int := (ls.map fun l => bf l x y).sum
theorem bfS_cons (l : List Int) (ls : List (List Int)) (x y : Nat) : bfS (l :: ls) x y = bf l x y + bfS ls x y := by simp [bfS]
theorem bfS_bd (n x y : Nat) : ∀ (ls : List (List Int)), (∀ l ∈ ls, l.length ≤ n) → 0 ≤ bfS ls x y ∧ bfS ls x y ≤ n * ls.length
  | [], _ => by simp [bfS]
  | l :: ls, h => by
    have h1 := bfS_bd n x y ls fun l' hl => h l' (by simp [hl])
    have h2 := bf_bd l x y
    have h3 := h l (by simp)
    rw [bfS_cons]
    have h4 : ((n * (l :: ls).length : Nat) : Int) = n * ls.length + n := by simp [Int.mul_add]
    have h5 : (n : Int) * ((l :: ls).length : Int) = n * ls.length + n := by simp [Int.mul_add]
    omega
/-- A square table of numbers, as a row. -/
def tabI (f : Nat → Nat → Int) : List Int := (List.range 49).map fun j => f (j / 7) (j % 7)
theorem tabI_len (f : Nat → Nat → Int) : (tabI f).length = 49 := by simp [tabI]
theorem tabI_get (f : Nat → Nat → Int) {a b : Nat} (ha : a < 7) (hb : b < 7) : (tabI f).getD (a * 7 + b) 0 = f a b := by
  have h : a * 7 + b < 49 := by omega
  simp only [tabI, List.getD_eq_getElem?_getD, List.getElem?_map, List.getElem?_range h, Option.map_some, Option.getD_some]
  congr 1 <;> omega
def setT (f : Nat → Nat → Int) (a b : Nat) (v : Int) : Nat → Nat → Int := fun x y => if x = a ∧ y = b then v else f x y
theorem tabI_set (f : Nat → Nat → Int) {a b : Nat} (ha : a < 7) (hb : b < 7) (v : Int) : (tabI f).set (a * 7 + b) v = tabI (setT f a b v) := by
  apply List.ext_getElem?
  intro j
  rw [List.getElem?_set]
  by_cases hj : j < 49
  · have e : ∀ g : Nat → Nat → Int, (tabI g)[j]? = some (g (j / 7) (j % 7)) := fun g => by
      simp [tabI, List.getElem?_range hj]
    rw [e, e, tabI_len]
    simp only [setT]
    by_cases h : a * 7 + b = j
    · rw [if_pos h, if_pos (by omega), if_pos (by omega)]
    · rw [if_neg h, if_neg (by omega)]
  · rw [if_neg (by omega), List.getElem?_eq_none (by rw [tabI_len]; omega), List.getElem?_eq_none (by rw [tabI_len]; omega)]
/-- For orders, the count is of the orders in which one comes before the other. -/
theorem bf_none {y : Nat} : ∀ {l : List Int} {x : Nat}, (x : Int) ∉ l → bf l x y = 0
  | [], _, _ => rfl
  | a :: r, x, h => by
    simp only [List.mem_cons, not_or] at h
    rw [bf, if_neg (fun e => h.1 e.symm), bf_none h.2]; rfl
theorem bf_idx : ∀ (l : List Int) (s : Nat) {x y : Nat}, l.Nodup → (x : Int) ∈ l → (y : Int) ∈ l → bf l x y = if idxF' x s l < idxF' y s l then 1 else 0
  | [], _, _, _, _, h, _ => by cases h
  | a :: r, s, x, y, hn, hx, hy => by
    obtain ⟨h1, h2⟩ := List.nodup_cons.1 hn
    have bx := idxF'_bd (x : Int) (s + 1) r
    have by' := idxF'_bd (y : Int) (s + 1) r
    by_cases e1 : a = (x : Int)
    · have hxr : (x : Int) ∉ r := e1 ▸ h1
      rw [bf, if_pos e1, bf_none hxr, idxF', if_pos e1]
      by_cases e2 : a = (y : Int)
      · have hyr : (y : Int) ∉ r := e2 ▸ h1
        rw [inN, if_neg hyr, idxF', if_pos e2, if_neg (by omega)]; rfl
      · have hyr : (y : Int) ∈ r := by
          rcases List.mem_cons.1 hy with h | h
          · exact absurd h.symm e2
          · exact h
        have := (idxF'_neg (y : Int) (s + 1) r)
        have hnn : ¬ idxF' (y : Int) (s + 1) r < 0 := fun h => (this.1 h) hyr
        rw [inN, if_pos hyr, idxF', if_neg e2, if_pos (by omega)]; rfl
    · have hxr : (x : Int) ∈ r := by
        rcases List.mem_cons.1 hx with h | h
        · exact absurd h.symm e1
        · exact h
      have hnx : ¬ idxF' (x : Int) (s + 1) r < 0 := fun h => ((idxF'_neg (x : Int) (s + 1) r).1 h) hxr
      rw [bf, if_neg e1, idxF', if_neg e1]
      by_cases e2 : a = (y : Int)
      · have hyr : (y : Int) ∉ r := e2 ▸ h1
        have h0 : bf r x y = 0 := bf_y hyr
        rw [h0, idxF', if_pos e2, if_neg (by omega)]; rfl
      · have hyr : (y : Int) ∈ r := by
          rcases List.mem_cons.1 hy with h | h
          · exact absurd h.symm e2
          · exact h
        rw [bf_idx r (s + 1) h2 hxr hyr, idxF', if_neg e2]; omega
where
  bf_y {y : Nat} : ∀ {l : List Int} {x : Nat}, (y : Int) ∉ l → bf l x y = 0
    | [], _, _ => rfl
    | a :: r, x, h => by
      simp only [List.mem_cons, not_or] at h
      rw [bf, inN, if_neg h.2, bf_y h.2]; simp
/-- What is sure of two guests. -/
def vdI (c n : Int) : Int := if c = n then 1 else if c = 0 then 2 else 3
def sureR (n : Nat) (ls : List (List Int)) : List (List Int) := (List.range n).map fun a => (List.range n).map fun b => vdI (bfS ls a b) ls.length
/-- Sure: the lists, or the error. -/
def sureP (gs : List Guest) (rs : List Rule) : Option (List (List Int)) × Int :=
  if pErr gs rs = 0 then (if okL gs rs = [] then (none, 12) else (some (sureR gs.length (okL gs rs)), 0)) else (none, pErr gs rs)
def optLL (o : Option (List (List Int))) : AV := match o with
  | none => .nsl
  | some ls => .slc 1 (llR ls) .non
section
variable {P : Program}
theorem w_ldI {K : (Nat → AV) → Sig → Prop} {e : Nat → AV} {σ : Sig} {x : IOpd} {d : Nat} {r : List IStep} {i g off : Nat} {xs : List Int} (hx : x.ev e = .ref i g off) (hσ : σ i = (g, .row (xs.map (AV.int .i64)))) (ho : off < xs.length)
    (hk : stepsW P r K (upd e d (.int .i64 (xs.getD off 0))) σ) : stepsW P (⟨some d, none, .ld 1 false x⟩ :: r) K e σ := by
  refine w_val (p := g = g ∧ True) (v := .int .i64 (xs.getD off 0)) ?_ ⟨rfl, trivial⟩ hk
  show ldO 1 false σ (x.ev e) = _
  rw [hx]
  simp only [ldO, hσ, partO, List.getElem?_map, List.getElem?_eq_getElem ho, Option.map_some, List.getD_eq_getElem?_getD, Option.getD_some]
  rfl
/-- A table is read; a number of it is written. -/
theorem w_ldT {K : (Nat → AV) → Sig → Prop} {e : Nat → AV} {σ : Sig} {x : IOpd} {d : Nat} {r : List IStep} {i g : Nat} {a b : Int} {f : Nat → Nat → Int} (hx : x.ev e = .ref i g (0 + a.toNat * 7 + b.toNat * 1)) (hσ : σ i = (g, .row ((tabI f).map (AV.int .i64)))) (ha : 0 ≤ a ∧ a < 7) (hb : 0 ≤ b ∧ b < 7)
    (hk : stepsW P r K (upd e d (.int .i64 (f a.toNat b.toNat))) σ) : stepsW P (⟨some d, none, .ld 1 false x⟩ :: r) K e σ := by
  have ho : 0 + a.toNat * 7 + b.toNat * 1 = a.toNat * 7 + b.toNat := by omega
  rw [ho] at hx
  refine w_ldI hx hσ (by rw [tabI_len]; omega) ?_
  rw [tabI_get f (by omega) (by omega)]; exact hk
theorem w_stT {K : (Nat → AV) → Sig → Prop} {e : Nat → AV} {σ : Sig} {x v : IOpd} {r : List IStep} {i g : Nat} {a b n : Int} {f : Nat → Nat → Int} (hx : x.ev e = .ref i g (0 + a.toNat * 7 + b.toNat * 1)) (hv : v.ev e = .int .i64 n) (hσ : σ i = (g, .row ((tabI f).map (AV.int .i64)))) (ha : 0 ≤ a ∧ a < 7) (hb : 0 ≤ b ∧ b < 7)
    (hk : stepsW P r K e (upd σ i (g, .row ((tabI (setT f a.toNat b.toNat n)).map (AV.int .i64))))) : stepsW P (⟨none, none, .st 1 x v⟩ :: r) K e σ := by
  have ho : 0 + a.toNat * 7 + b.toNat * 1 = a.toNat * 7 + b.toNat := by omega
  rw [ho] at hx
  refine w_stI hx hv hσ (by rw [tabI_len]; omega) ?_
  rw [tabI_set f (by omega) (by omega)]; exact hk
/-- A cell of a row of slices is read, or written. -/
theorem w_ldC {K : (Nat → AV) → Sig → Prop} {e : Nat → AV} {σ : Sig} {x : IOpd} {d : Nat} {r : List IStep} {i g off : Nat} {pre post : List AV} {c : AV} (hx : x.ev e = .ref i g off) (hσ : σ i = (g, .row (pre ++ c :: post))) (ho : off = pre.length) (hc : forceA c = some c)
    (hk : stepsW P r K (upd e d c) σ) : stepsW P (⟨some d, none, .ld 1 false x⟩ :: r) K e σ := by
  refine w_val (p := g = g ∧ True) (v := c) ?_ ⟨rfl, trivial⟩ hk
  show ldO 1 false σ (x.ev e) = _
  rw [hx]
  subst ho
  have : (pre ++ c :: post)[pre.length]? = some c := by simp
  simp only [ldO, hσ, partO, this, hc, liftV, okV]
theorem w_stC {K : (Nat → AV) → Sig → Prop} {e : Nat → AV} {σ : Sig} {x v : IOpd} {r : List IStep} {i g off : Nat} {pre post : List AV} {c c' : AV} (hx : x.ev e = .ref i g off) (hσ : σ i = (g, .row (pre ++ c :: post))) (ho : off = pre.length) (hv : cellsO 1 (v.ev e) = some (1 = 1, [c']))
    (hk : stepsW P r K e (upd σ i (g, .row (pre ++ c' :: post)))) : stepsW P (⟨none, none, .st 1 x v⟩ :: r) K e σ := by
  subst ho
  refine w_det0 (p := g = g ∧ 1 = 1 ∧ pre.length + 1 ≤ (pre ++ c :: post).length) (v := .junk) (σ' := upd σ i (g, .row (setL (pre ++ c :: post) pre.length [c']))) (fun _ => ?_) ⟨rfl, rfl, by simp⟩ ?_
  · show stO 1 σ (v.ev e) (x.ev e) = _
    rw [hx]
    simp only [stO, hv, hσ]
  · have : setL (pre ++ c :: post) pre.length [c'] = pre ++ c' :: post := by rw [setL_one, List.set_append_right _ _ (Nat.le_refl _)]; simp
    rw [this]; exact hk
/-- A made slice of slices. -/
theorem w_mksL {K : (Nat → AV) → Sig → Prop} {e : Nat → AV} {σ : Sig} {d : Nat} {l : IOpd} {r : List IStep} {n : Nat} (hl : l.ev e = .int .i64 n) (hn : n ≤ 1000000)
    (hk : ∀ g, stepsW P r K (upd e d (.msl d g n 1)) (newS σ d g (List.replicate n AV.nsl))) : stepsW P (⟨some d, none, .mks 1 24 [.nsl] l l⟩ :: r) K e σ := by
  refine w_det (p := 0 ≤ (n : Int) ∧ (n : Int) = n ∧ (n : Int) * 24 ≤ 140737488355328 ∧ (n : Int) ≤ 9223372036854775807) (v := fun g => .msl d g n 1) (σ' := fun g => newS σ d g (List.replicate n [AV.nsl]).flatten) (fun g => ?_) ⟨by omega, rfl, by omega, by omega⟩ fun g => ?_
  · show (match l.ev e, l.ev e with
      | .int _ n, .int _ c => some (0 ≤ n ∧ c = n ∧ n * (24 : Nat) ≤ 140737488355328 ∧ n ≤ 9223372036854775807, AV.msl d g n.toNat 1, newS σ d g (List.replicate n.toNat [AV.nsl]).flatten)
      | _, _ => none) = _
    rw [hl]; rfl
  · have : ∀ n : Nat, (List.replicate n [AV.nsl]).flatten = List.replicate n AV.nsl := by
      intro n
      induction n with
      | zero => rfl
      | succ n ih => simp [List.replicate_succ, ih]
    rw [this]; exact hk g
abbrev ownC (x : List Int × Nat) : AV := .slc 1 (iR x.1) (.own 88 x.2)
theorem chunkL : ∀ (xs : List (List Int × Nat)), chunk 1 xs.length (normL (xs.map ownC)) = llR (xs.map (·.1))
  | [] => rfl
  | x :: xs => by
    have := chunkL xs
    simp only [List.length_cons, List.map_cons, normL, chunk]
    simp only [normL] at this
    rw [show List.drop 1 (AV.norm (ownC x) :: List.map AV.norm (List.map ownC xs)) = List.map AV.norm (List.map ownC xs) from rfl, this]
    rfl
theorem w_frzL {Q : Post} {e : Nat → AV} {σ : Sig} {t i g n : Nat} {xs : List (List Int × Nat)} (hx : e t = .msl i g n 1) (hσ : σ i = (g, .row (xs.map ownC))) (hn : xs.length = n) (hk : Q .nor (upd (frzE i g (xs.map ownC) e) t (.slc 1 (llR (xs.map (·.1))) .non)) (frzS i g (xs.map ownC) σ)) : awp P (.frz (.t t)) Q e σ := by
  subst hn
  have he : frzE i g (xs.map ownC) e t = .slc 1 (llR (xs.map (·.1))) .non := by simp [frzE, hx, frzA, chunkL]
  rw [← upd_same he] at hk
  show frzW (e t) e σ _
  rw [hx]; show (match σ i with | (g', .row c) => g = g' ∧ c.all AV.scal = true ∧ Q .nor (frzE i g c e) (frzS i g c σ) | _ => False)
  rw [hσ]; exact ⟨rfl, by simp [AV.scal], hk⟩
end
end Go.Abs
