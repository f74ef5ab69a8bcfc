/- A part of the proofs of the laws of this seat: contracts of the functions that they reach, each proved of the program's form in Lean. No condition beyond those that each contract names. -/
import Derived.Test.YtmekfgjlcaonjaaK21
import Derived.Test.YtmekfgjlcaonjaaK58
import Derived.Test.YtmekfgjlcaonjaaB
set_option linter.unusedVariables false
set_option linter.unusedSimpArgs false
set_option maxRecDepth 20000
set_option maxHeartbeats 1000000
namespace Go.Abs
open Go.Proofs
theorem lk_cons_e {a b i : Nat} {r : List (Nat × Nat)} (h : a = i) : lk ((a, b) :: r) i = some b := by subst h; simp [lk]
theorem lk_cons_n {a b i : Nat} {r : List (Nat × Nat)} (h : a ≠ i) : lk ((a, b) :: r) i = lk r i := by simp only [lk, nbeq_f.2 h]
theorem lk_diag {i : Nat} : ∀ {l : List (Nat × Nat)}, (∀ x ∈ l, x.1 = x.2) → (∃ x ∈ l, x.1 = i) → lk l i = some i
  | (a, b) :: r, h, ⟨x, hx, hi⟩ => by
    have hab : a = b := h (a, b) (by simp)
    by_cases e : a = i
    · rw [lk_cons_e e, ← hab, e]
    · rw [lk_cons_n e]
      rcases List.mem_cons.1 hx with rfl | hx
      · exact absurd hi e
      · exact lk_diag (fun x hx => h x (by simp [hx])) ⟨x, hx, hi⟩
  | [], _, ⟨x, hx, _⟩ => by cases hx
def idR (n : Nat) : List (Nat × Nat) := (List.range n).map fun k => (5000 + k, 5000 + k)
theorem lk_idR {n k : Nat} (h : k < n) : lk (idR n) (5000 + k) = some (5000 + k) :=
  lk_diag (fun x hx => by obtain ⟨j, _, rfl⟩ := List.mem_map.1 hx; rfl) ⟨(5000 + k, 5000 + k), List.mem_map.2 ⟨k, List.mem_range.2 h, rfl⟩, rfl⟩
theorem flip_diag : ∀ {l : List (Nat × Nat)}, (∀ x ∈ l, x.1 = x.2) → flipL l = l
  | [], _ => rfl
  | (a, b) :: r, h => by
    have hab : a = b := h (a, b) (by simp)
    rw [flipL, flip_diag fun x hx => h x (by simp [hx]), hab]
theorem flip_idR (n : Nat) : flipL (idR n) = idR n := flip_diag fun x hx => by obtain ⟨j, _, rfl⟩ := List.mem_map.1 hx; rfl
def rhoT (p q r : Nat) : List (Nat × Nat) := (1000, p) :: (1001, q) :: (1002, r) :: idR 30
theorem flip_rhoT (p q r : Nat) : flipL (rhoT p q r) = (p, 1000) :: (q, 1001) :: (r, 1002) :: idR 30 := by
  rw [rhoT, flipL, flipL, flipL, flip_idR]
theorem renL_map (ρ : List (Nat × Nat)) : ∀ l : List AV, renL ρ l = l.map (ren ρ)
  | [] => rfl
  | a :: l => by rw [renL, renL_map ρ l]; rfl
theorem renL_rowO (ρ : List (Nat × Nat)) (n : Nat) (f : Nat → Bool) : renL ρ (rowO n f) = rowO n f := by
  rw [renL_map, rowO, List.map_map]; rfl
theorem renL_rowZ (ρ : List (Nat × Nat)) (n : Nat) (f : Nat → Int) : renL ρ (rowZ n f) = rowZ n f := by
  rw [renL_map, rowZ, List.map_map]; rfl
theorem renL_cells {ρ : List (Nat × Nat)} {n a : Nat} {hs : Nat → Nat} (h : ∀ k < a, lk ρ (5000 + k) = some (5000 + k)) : renL ρ (cellsR n a hs) = cellsR n a hs := by
  rw [renL_map, cellsR, List.map_map]
  refine List.map_congr_left fun k hk => ?_
  show ren ρ (.msl (5000 + k) (hs k) n 1) = .msl (5000 + k) (hs k) n 1
  simp only [ren, h k (by simpa using hk)]
theorem pull_map (ρ : List (Nat × Nat)) (σ : Sig) : ∀ l : List (Nat × Nat), pull ρ σ l = l.map fun x => (x.1, ((σ x.2).1, renR ρ (σ x.2).2))
  | [] => rfl
  | (a, b) :: l => by rw [pull, pull_map ρ σ l]; rfl
theorem push_map (ρ : List (Nat × Nat)) (σ0 σ : Sig) : ∀ l : List (Nat × Nat), push ρ σ0 l σ = updL (l.map fun x => (x.2, ((σ0 x.1).1, renR ρ (σ0 x.1).2))) σ
  | [] => rfl
  | (a, b) :: l => by rw [push, push_map ρ σ0 σ l]; rfl
theorem liveL_of {σ : Sig} : ∀ {l : List (Nat × Nat)}, (∀ i j, (i, j) ∈ l → live σ j) → liveL σ l
  | [], _ => trivial
  | (a, b) :: r, h => ⟨h a b (by simp), liveL_of fun i j hij => h i j (by simp [hij])⟩
/-- A renaming of the state's places. -/
structure RenT (ρ : List (Nat × Nat)) (p q r p' q' r' : Nat) : Prop where
  p : lk ρ p = some p'
  q : lk ρ q = some q'
  r : lk ρ r = some r'
  d : ∀ k < 30, lk ρ (5000 + k) = some (5000 + k)
theorem RenT.of {p q r p' q' r' : Nat} (hp : p < 5000) (hq : q < 5000) (hr : r < 5000) (hpq : p ≠ q) (hpr : p ≠ r) (hqr : q ≠ r) : RenT ((p, p') :: (q, q') :: (r, r') :: idR 30) p q r p' q' r' := by
  refine ⟨lk_cons_e rfl, ?_, ?_, fun k hk => ?_⟩
  · rw [lk_cons_n hpq, lk_cons_e rfl]
  · rw [lk_cons_n hpr, lk_cons_n hqr, lk_cons_e rfl]
  · rw [lk_cons_n (by omega), lk_cons_n (by omega), lk_cons_n (by omega), lk_idR hk]
section
variable {p q r p' q' r' : Nat} {ρ : List (Nat × Nat)} {G : TPl} {S : Told}
theorem ren_box {t : Tag} (h : RenT ρ p q r p' q' r') (hG : G.tg = .non) (ht : t = .full ∨ t = .non) : ((boxT q r { G with tg := t } S).1, renR ρ (boxT q r { G with tg := t } S).2) = boxT q' r' G S := by
  have e : ren ρ (lcell q { G with tg := t }) = lcell q' G := by
    unfold lcell
    cases G.nL with
    | zero => rcases ht with rfl | rfl <;> simp only [ren, renT, hG]
    | succ n => simp only [ren, h.q]
  simp only [boxT, renR, renL, e, ren, h.r]
theorem ren_lnk {t : Tag} : ((lnkT { G with tg := t } S).1, renR ρ (lnkT { G with tg := t } S).2) = lnkT G S := by
  simp only [lnkT, renR, renL_rowZ]
theorem ren_cel {t : Tag} (h : RenT ρ p q r p' q' r') : ((celT { G with tg := t }).1, renR ρ (celT { G with tg := t }).2) = celT G := by
  simp only [celT, renR, renL_cells h.d]
end
theorem push_told {ρ : List (Nat × Nat)} {p q r : Nat} {G : TPl} {S' : Told} {σ0' : Sig} (hG : G.tg = .non) (hR2 : RenT ρ 1000 1001 1002 p q r) (t1 : σ0' 1000 = boxT 1001 1002 G S') (t2 : σ0' 1001 = lnkT G S') (t3 : σ0' 1002 = celT G) (t4 : ∀ k < 30, σ0' (5000 + k) = (G.hs k, .row (rowO 21 (S'.f k)))) :
    (rhoT p q r).map (fun x => (x.2, ((σ0' x.1).1, renR ρ (σ0' x.1).2))) = tRows p q r G S' := by
  show (p, ((σ0' 1000).1, renR ρ (σ0' 1000).2)) :: (q, ((σ0' 1001).1, renR ρ (σ0' 1001).2)) :: (r, ((σ0' 1002).1, renR ρ (σ0' 1002).2)) :: (idR 30).map _ = _
  have hGG : G = { G with tg := .non } := by rw [← hG]
  rw [t1, t2, t3]
  have e1 := ren_box (S := S') (G := G) hR2 hG (.inr rfl)
  have e2 := ren_lnk (ρ := ρ) (S := S') (G := G) (t := .non)
  have e3 := ren_cel (G := G) (t := .non) hR2
  rw [← hGG] at e1 e2 e3
  rw [e1, e2, e3, tRows]
  refine congrArg (fun l => _ :: _ :: _ :: l) ?_
  rw [rowsD, idR, List.map_map]
  refine List.map_congr_left fun k hk => ?_
  show (5000 + k, ((σ0' (5000 + k)).1, renR ρ (σ0' (5000 + k)).2)) = _
  rw [t4 k (by simpa using hk)]
  simp only [renR, renL_rowO]
/-- A call that writes what stories tell: the callee's places are 1000, 1001 and 1002. -/
theorem ACall.told {P : Program} {f : Nat} {args0 args : List AV} {G : TPl} {t : Tag} {S S' : Told} {p q r d : Nat} {σ : Sig} {Q : AV → Sig → Prop}
    (h : RawC P f args0 (sg (tRows 1000 1001 1002 G S)) (fun v σ' => v = .tup [] ∧ slots (tRows 1000 1001 1002 G S') σ')) (hren : renOK (rhoT p q r) = true)
    (hp : p < 5000) (hq : q < 5000) (hr : r < 5000) (hpq : p ≠ q) (hpr : p ≠ r) (hqr : q ≠ r) (hG : G.tg = .non) (ht : t = .full ∨ t = .non) (hσ : slots (tRows p q r { G with tg := t } S) σ) (ha : args0 = renL (flipL (rhoT p q r)) args)
    (hQ : Q (.tup []) (updL (tRows p q r G S') σ)) : ACall P f args σ d Q := by
  obtain ⟨s1, s2, s3, s4⟩ := hσ
  have s4 : ∀ k < 30, σ (5000 + k) = (G.hs k, .row (rowO 21 (S.f k))) := fun k hk => slots_iff.1 s4 (5000 + k, _) (List.mem_map.2 ⟨k, by simpa using hk, rfl⟩)
  have hR1 : RenT (flipL (rhoT p q r)) p q r 1000 1001 1002 := by rw [flip_rhoT]; exact RenT.of hp hq hr hpq hpr hqr
  have hR2 : RenT (rhoT p q r) 1000 1001 1002 p q r := RenT.of (by decide) (by decide) (by decide) (by decide) (by decide) (by decide)
  refine ACall.lift h (rhoT p q r) none hren ha ?_ ?_ ?_
  · rw [pull_map]
    generalize flipL (rhoT p q r) = ρ' at hR1
    show _ = (1000, ((σ p).1, renR ρ' (σ p).2)) :: (1001, ((σ q).1, renR ρ' (σ q).2)) :: (1002, ((σ r).1, renR ρ' (σ r).2)) :: (idR 30).map _
    rw [s1, s2, s3, ren_box hR1 hG ht, ren_lnk, ren_cel hR1, tRows]
    refine congrArg (fun l => _ :: _ :: _ :: l) ?_
    rw [rowsD, idR, List.map_map]
    refine List.map_congr_left fun k hk => ?_
    show _ = (5000 + k, ((σ (5000 + k)).1, renR ρ' (σ (5000 + k)).2))
    rw [s4 k (by simpa using hk)]
    simp only [renR, renL_rowO]
  · refine liveL_of fun i j hij => ?_
    rcases List.mem_cons.1 hij with h | hij
    · cases h; exact ⟨_, by rw [s1]; rfl⟩
    rcases List.mem_cons.1 hij with h | hij
    · cases h; exact ⟨_, by rw [s2]; rfl⟩
    rcases List.mem_cons.1 hij with h | hij
    · cases h; exact ⟨_, by rw [s3]; rfl⟩
    obtain ⟨k, hk, h⟩ := List.mem_map.1 hij
    cases h
    exact ⟨_, by rw [s4 k (by simpa using hk)]⟩
  · rintro av σ0' ⟨rfl, t1, t2, t3, t4⟩
    have t4 : ∀ k < 30, σ0' (5000 + k) = (G.hs k, .row (rowO 21 (S'.f k))) := fun k hk => slots_iff.1 t4 (5000 + k, _) (List.mem_map.2 ⟨k, by simpa using hk, rfl⟩)
    show Q (.tup []) (push (rhoT p q r) σ0' (rhoT p q r) σ)
    rw [push_map]
    rw [push_told hG hR2 t1 t2 t3 t4]; exact hQ
end Go.Abs
