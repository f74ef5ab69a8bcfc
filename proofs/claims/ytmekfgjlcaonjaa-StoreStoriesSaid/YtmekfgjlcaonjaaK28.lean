/- A part of the proofs of the laws of this seat: contracts of the functions that they reach, each proved of the program's form in Lean. No condition beyond those that each contract names. -/
import Derived.Test.YtmekfgjlcaonjaaK27
import Derived.Test.YtmekfgjlcaonjaaK26
import Derived.Test.YtmekfgjlcaonjaaK25
import Derived.Test.YtmekfgjlcaonjaaK24
import Derived.Test.YtmekfgjlcaonjaaK23
import Derived.Test.YtmekfgjlcaonjaaK22
import Derived.Test.YtmekfgjlcaonjaaK21
import Derived.Test.YtmekfgjlcaonjaaK20
import Derived.Test.YtmekfgjlcaonjaaK19
import Derived.Test.YtmekfgjlcaonjaaK18
import Derived.Test.YtmekfgjlcaonjaaK17
import Derived.Test.YtmekfgjlcaonjaaK16
import Derived.Test.YtmekfgjlcaonjaaK15
import Derived.Test.YtmekfgjlcaonjaaK14
import Derived.Test.YtmekfgjlcaonjaaK13
import Derived.Test.YtmekfgjlcaonjaaK12
import Derived.Test.YtmekfgjlcaonjaaD1
import Derived.Test.YtmekfgjlcaonjaaC3
import Derived.Test.YtmekfgjlcaonjaaC2
import Derived.Test.YtmekfgjlcaonjaaC1
import Derived.Test.YtmekfgjlcaonjaaB
import Derived.Test.YtmekfgjlcaonjaaD8
import Derived.Test.YtmekfgjlcaonjaaC13
import Derived.Test.YtmekfgjlcaonjaaC12
import Derived.Test.YtmekfgjlcaonjaaC11
import Derived.Test.YtmekfgjlcaonjaaC10
import Derived.Test.YtmekfgjlcaonjaaC9
import Derived.Test.YtmekfgjlcaonjaaC8
import Derived.Test.YtmekfgjlcaonjaaC7
import Derived.Test.YtmekfgjlcaonjaaC5
import Derived.Test.YtmekfgjlcaonjaaC4
import Derived.Test.YtmekfgjlcaonjaaD7
import Derived.Test.YtmekfgjlcaonjaaD5
import Derived.Test.YtmekfgjlcaonjaaD4
import Derived.Test.YtmekfgjlcaonjaaD3
import Derived.Test.YtmekfgjlcaonjaaD2
import Derived.Test.YtmekfgjlcaonjaaC16
import Derived.Test.YtmekfgjlcaonjaaC6
import Derived.Test.YtmekfgjlcaonjaaK58
set_option linter.unusedVariables false
set_option linter.unusedSimpArgs false
set_option maxRecDepth 20000
set_option maxHeartbeats 1000000
namespace Go.Abs
open Go.Proofs
/-- aloeswood/aloeswoodkit.Spans -/
def ir34v : IFn :=
  ⟨6, [(2, none)], (.seq (.ops [⟨(some 2), none, (.mov (.k .nsl))⟩])
  (.seq (.ops [⟨(some 3), none, (.bsl 2 [] [])⟩,
    ⟨(some 4), none, (.mov (.t 0))⟩,
    ⟨(some 5), none, (.apm 2 16 (.t 3) (.t 4) 2)⟩,
    ⟨(some 2), none, (.mov (.t 5))⟩])
  .ret))⟩
def hint34v (P : Program) : Hint := { site := [(5, 2)], nils := [], frz := [], mve := [], wr := [5] }
section
variable {P : Program} {K : (Nat → AV) → Sig → Prop} {e : Nat → AV} {σ : Sig} {x y : IOpd} {r : List IStep}
/-- A slice that is written is appended to nothing, and to others. -/
theorem w_apmC0 {d i j h : Nat} {a : AV} (hx : x.ev e = .nsl) (hy : y.ev e = .msl j h 1 1) (hσ : σ j = (h, .row [a])) (ha : a.scal = true)
    (hk : ∀ g, stepsW P r K (upd e d (.msl i g 1 1)) (newS σ i g [a])) : stepsW P (⟨some d, none, .apm 1 24 x y i⟩ :: r) K e σ := by
  refine w_det (p := True ∧ (h = h ∧ 1 = 1 ∧ 1 * 1 ≤ [a].length ∧ [a].length = 1 * 1 ∧ [a].all AV.scal = true ∧ 0 < 1) ∧ (0 + 1) * 24 ≤ 140737488355328) (v := fun g => .msl i g (0 + 1) 1) (σ' := fun g => newS σ i g ([] ++ [a])) (fun g => ?_) ⟨trivial, ⟨rfl, rfl, by simp, by simp, by simp [ha], by decide⟩, by decide⟩ hk
  show (match baseM 1 σ (x.ev e), rowsO 1 (y.ev e) with
    | some (p, n, c, σ'), some (q, ys) => (match ys with
      | [] => some (p ∧ q, x.ev e, σ)
      | _ :: _ => some (p ∧ q ∧ (n + ys.length) * 24 ≤ 140737488355328, AV.msl i g (n + ys.length) 1, newS σ' i g (c ++ ys.flatten)))
    | some (p, n, c, σ'), none => (match rowsM 1 σ (y.ev e) with
      | some (q, m, ys) => some (p ∧ q ∧ (n + m) * 24 ≤ 140737488355328, AV.msl i g (n + m) 1, newS σ' i g (c ++ ys))
      | none => none)
    | _, _ => none) = _
  rw [hx, hy]
  simp only [baseM, rowsO, rowsM, hσ]
theorem w_apmC1 {d i i' g' j h n : Nat} {a : AV} {cs : List AV} (hx : x.ev e = .msl i' g' n 1) (hσx : σ i' = (g', .row cs)) (hn : cs.length = n) (hn2 : n ≤ 1000000) (hy : y.ev e = .msl j h 1 1) (hσ : σ j = (h, .row [a])) (ha : a.scal = true)
    (hk : ∀ g, stepsW P r K (upd e d (.msl i g (n + 1) 1)) (newS (upd σ i' (g', .dead)) i g (cs ++ [a]))) : stepsW P (⟨some d, none, .apm 1 24 x y i⟩ :: r) K e σ := by
  refine w_det (p := (g' = g' ∧ 1 = 1 ∧ cs.length = n * 1) ∧ (h = h ∧ 1 = 1 ∧ 1 * 1 ≤ [a].length ∧ [a].length = 1 * 1 ∧ [a].all AV.scal = true ∧ 0 < 1) ∧ (n + 1) * 24 ≤ 140737488355328) (v := fun g => .msl i g (n + 1) 1) (σ' := fun g => newS (upd σ i' (g', .dead)) i g (cs ++ [a])) (fun g => ?_) ⟨⟨rfl, rfl, by omega⟩, ⟨rfl, rfl, by simp, by simp, by simp [ha], by decide⟩, by omega⟩ hk
  show (match baseM 1 σ (x.ev e), rowsO 1 (y.ev e) with
    | some (p, n, c, σ'), some (q, ys) => (match ys with
      | [] => some (p ∧ q, x.ev e, σ)
      | _ :: _ => some (p ∧ q ∧ (n + ys.length) * 24 ≤ 140737488355328, AV.msl i g (n + ys.length) 1, newS σ' i g (c ++ ys.flatten)))
    | some (p, n, c, σ'), none => (match rowsM 1 σ (y.ev e) with
      | some (q, m, ys) => some (p ∧ q ∧ (n + m) * 24 ≤ 140737488355328, AV.msl i g (n + m) 1, newS σ' i g (c ++ ys))
      | none => none)
    | _, _ => none) = _
  rw [hx, hy]
  simp only [baseM, rowsO, rowsM, hσ, hσx]
end
theorem mvL_rowO (i g j h n : Nat) (f : Nat → Bool) : mvL i g j h (rowO n f) = rowO n f := by
  rw [mvL_map, rowO, List.map_map]; rfl
theorem cells_mv2 {i g h n a : Nat} {hs : Nat → Nat} (hi : i < 5000) : mvL i g (5000 + a) h (cellsR n a hs ++ [.msl i g n 1]) = cellsR n (a + 1) (upd hs a h) := by
  rw [mvL_map, List.map_append, cellsR, cellsR, List.range_succ, List.map_append, List.map_map]
  congr 1
  · refine List.map_congr_left fun k hk => ?_
    have hk' : k < a := by simpa using hk
    simp only [Function.comp, cellR, mvA]
    rw [if_neg (by omega), upd_eq, if_neg (by omega)]
  · simp only [mvA, List.map_cons, List.map_nil, cellR, upd_eq, and_self, if_true]
/-- The links' list, and the rows, as the law builds them. -/
abbrev zeroP (k : Nat) : List (Int × Int) := List.replicate k (100000, 0)
def lnkV (k : Nat) : Option Nat → AV
  | none => .nsl
  | some g => .slc 2 (sR (zeroP k)) (.own 39 g)
def lnkX : Option Nat → List (Nat × (Nat × Res))
  | none => []
  | some g => [(39, (g, .row []))]
def rowsP (n : Nat) (F : Nat → Int) : List (Int × Int) := (List.range n).map fun k => (F (k * 2), F (k * 2 + 1))
def zeroF : Nat → Int := fun y => if y % 2 = 0 then 100000 else 0
theorem zeroP_eq (n : Nat) : zeroP n = rowsP n zeroF := by
  unfold rowsP
  rw [show (fun k => (zeroF (k * 2), zeroF (k * 2 + 1))) = fun _ => ((100000 : Int), (0 : Int)) from funext fun k => by unfold zeroF; rw [if_pos (by omega), if_neg (by omega)]]
  rw [List.map_const', List.length_range]
/-- A list of links, as it lies in a struct. -/
def LinkV (n : Nat) (F : Nat → Int) (a : AV) : Prop := (n = 0 ∧ a = .nsl) ∨ ∃ t, a = .slc 2 (sR (rowsP n F)) t
def rowV (m : Nat) : Option (Nat × (Nat → Nat)) → AV
  | none => .nsl
  | some x => .msl 49 x.1 m 1
def rowX (m : Nat) : Option (Nat × (Nat → Nat)) → List (Nat × (Nat × Res))
  | none => []
  | some x => (49, (x.1, .row (cellsR 21 m x.2))) :: (List.range m).map fun k => (5000 + k, (x.2 k, Res.row (rowO 21 fun _ => false)))
theorem rowX_slots {m : Nat} {x : Nat × (Nat → Nat)} {σ : Sig} : slots (rowX m (some x)) σ ↔ σ 49 = (x.1, .row (cellsR 21 m x.2)) ∧ ∀ k < m, σ (5000 + k) = (x.2 k, Res.row (rowO 21 fun _ => false)) := by
  show (_ ∧ slots _ σ) ↔ _
  rw [slots_iff]
  refine and_congr Iff.rfl ⟨fun h k hk => h (5000 + k, _) (List.mem_map.2 ⟨k, by simpa using hk, rfl⟩), fun h p hp => ?_⟩
  obtain ⟨j, hj, rfl⟩ := List.mem_map.1 hp
  exact h j (by simpa using hj)
theorem mvS_rowK {i g j h k x : Nat} {σ : Sig} {c c' : List AV} (hs : σ k = (x, .row c)) (h1 : k ≠ j) (h2 : k ≠ i) (hc : mvL i g j h c = c') : mvS i g j h σ k = (x, .row c') := by simp [mvS, h1, h2, hs, mvR, hc]
theorem w_mveQ {P : Program} {Q : Post} {e : Nat → AV} {σ : Sig} {t i g n sz : Nat} {c : List AV} (j : Nat) (F : Nat → List (Nat × AV)) (S : Nat → List (Nat × (Nat × Res))) (h1 : e t = .msl i g n sz) (hσ : σ i = (g, .row c)) (hj : j ≠ YS ∧ j ≠ i) (hF : ∀ h, slots (F h) (mvE i g j h e)) (hS : ∀ h, slots (S h) (mvS i g j h σ))
    (hk : ∀ h e' σ', Q .nor (updL (F h) e') (updL (S h) σ')) : awp P (.mve (.t t)) Q e σ := by
  show mveW (e t) e σ (Q .nor)
  rw [h1]
  show (match σ i with | (g', .row _) => g = g' ∧ ∃ j, j ≠ YS ∧ j ≠ i ∧ ∀ h, Q .nor (mvE i g j h e) (mvS i g j h σ) | _ => False)
  rw [hσ]
  refine ⟨rfl, j, hj.1, hj.2, fun h => ?_⟩
  have := hk h (mvE i g j h e) (mvS i g j h σ)
  rw [updL_slots (hF h), updL_slots (hS h)] at this
  exact this
theorem mve_slots {c : Chn} {σ : Sig} {LV : AV} {a b : Int} {m g4 g5 g47 g49 h : Nat} {hs : Nat → Nat} (hLm : ∀ i g j h, mvA i g j h LV = LV) (h5 : σ 5 = (g5, .row [.int .i64 a, .int .i64 b, LV, .msl 49 g49 (m + 1) 1])) (h4 : σ 4 = (g4, .row (cC c)))
    (h49 : σ 49 = (g49, .row (cellsR 21 m hs ++ [.msl 47 g47 21 1]))) (h47 : σ 47 = (g47, .row (rowO 21 fun _ => false))) (hd : ∀ k < m, σ (5000 + k) = (hs k, Res.row (rowO 21 fun _ => false))) :
    slots ((5, (g5, Res.row [.int .i64 a, .int .i64 b, LV, .msl 49 g49 (m + 1) 1])) :: (4, (g4, Res.row (cC c))) :: rowX (m + 1) (some (g49, upd hs m h))) (mvS 47 g47 (5000 + m) h σ) := by
  refine ⟨mvS_rowK h5 (by omega) (by decide) ?_, mvS_rowK h4 (by omega) (by decide) rfl, rowX_slots.2 ⟨mvS_rowK h49 (by omega) (by decide) (cells_mv2 (by decide)), fun k hk => ?_⟩⟩
  · simp only [mvL, hLm]; rfl
  · show _ = (upd hs m h k, _)
    by_cases e : k = m
    · subst e
      rw [upd_eq, if_pos rfl]
      exact mvS_at h47 (mvL_rowO ..)
    · rw [upd_eq, if_neg e]
      exact mvS_rowK (hd k (by omega)) (by omega) (by omega) (mvL_rowO ..)
theorem upd_hi {σ : Sig} {i k : Nat} {v : Nat × Res} (h : i < 5000) : upd σ i v (5000 + k) = σ (5000 + k) := by rw [upd_eq, if_neg (by omega)]
theorem newS_hi {σ : Sig} {i k g : Nat} {v : List AV} (h : i < 5000) : newS σ i g v (5000 + k) = σ (5000 + k) := upd_hi h
theorem updL_hi {σ : Sig} {i k : Nat} {v : Nat × Res} {l : List (Nat × (Nat × Res))} (h : i < 5000) : updL ((i, v) :: l) σ (5000 + k) = updL l σ (5000 + k) := upd_hi h
theorem rowX_get {m k : Nat} {x : Nat × (Nat → Nat)} {σ : Sig} (hk : k < m) : updL (rowX m (some x)) σ (5000 + k) = (x.2 k, Res.row (rowO 21 fun _ => false)) := by
  refine (updL_hi (by decide)).trans (updL_in (fun p hp e => ?_) ⟨(5000 + k, _), List.mem_map.2 ⟨k, by simpa using hk, rfl⟩, rfl⟩)
  obtain ⟨j, _, rfl⟩ := List.mem_map.1 hp
  dsimp only at e
  rw [show j = k by omega]
/-- A copy of spans that is written. -/
theorem spansW_c (a : Int × Int) (l : List (Int × Int)) (hl : l.length < 1000) : RawC Try.prog 34 [.slc 2 (sR (a :: l)) .non] (sg []) (SR (fun (x : Nat) v => v = .msl 2 x (a :: l).length 2) (fun x => [(2, (x, .row (sR (a :: l)).flatten))])) := by
  refine RawC.walk (H := hint34v Try.prog) ir34v Try.func34 rfl rfl rfl ?_
  unfold ir34v
  repeat' (first
    | with_reducible (first | refine Rd.p ?_ | refine w_alt ?_ ?_ | refine zO ?_ | refine zE0 ?_)
    | (refine w_apmR (row := fun g : Int × Int => [AV.int .i64 g.1, .int .i64 g.2]) (x0 := a) (xs := l) rfl rfl (by simp; omega) ?_; intro _)
    | with_reducible (first | refine zI fun y hy => ?_ | refine zL ?_ | refine zS ?_ | refine zA fun _ => ?_ | refine zV ?_ | refine zC ?_ | refine zG ?_ | refine zU ?_ | refine zG0 ?_ | refine zU0 ?_ | refine zF ?_)
    | with_reducible (first | refine zX ?_ | refine zD fun _ => ?_ | refine zD0 ?_ | refine zN ?_ | refine zF0 ?_ | refine zX0 ?_ | refine z1 ?_ | refine z2 ?_ | refine z3 ?_ | refine z4 ?_ | refine z5 ?_ | refine z6 ?_ | refine z7 ?_ | refine z8 ?_ | refine y1 ?_ | refine y2 ?_ | refine y3 ?_ | refine y4 ?_ | refine y5 ?_ | refine y6 ?_ | refine y7 ?_ | refine y8 ?_ | refine Rt.p (fun _ => ?_) fun _ => ?_)
    | ((with_reducible apply w_ixM); (focus exact rfl); (focus exact rfl); case' hk => intro y hy) | ((with_reducible (first | apply w_val | apply q_ends)); (focus exact rfl)))
  exact ⟨_, rfl, rfl, trivial⟩
theorem spans0_c : Fn0 Try.prog 34 [.nsl] (fun v => v = .slc 2 [] .non) := by
  refine RawC.walk (H := hint34v Try.prog) ir34v Try.func34 rfl rfl rfl ?_
  unfold ir34v
  repeat' (first
    | with_reducible (first | refine Rd.p ?_ | refine w_alt ?_ ?_ | refine zE ?_ | refine zE0 ?_)
    | with_reducible (first | refine zI fun y hy => ?_ | refine zL ?_ | refine zS ?_ | refine zA fun _ => ?_ | refine zV ?_ | refine zC ?_ | refine zG ?_ | refine zU ?_ | refine zG0 ?_ | refine zU0 ?_ | refine zF ?_)
    | with_reducible (first | refine zX ?_ | refine zD fun _ => ?_ | refine zD0 ?_ | refine zN ?_ | refine zF0 ?_ | refine zX0 ?_ | refine z1 ?_ | refine z2 ?_ | refine z3 ?_ | refine z4 ?_ | refine z5 ?_ | refine z6 ?_ | refine z7 ?_ | refine z8 ?_ | refine y1 ?_ | refine y2 ?_ | refine y3 ?_ | refine y4 ?_ | refine y5 ?_ | refine y6 ?_ | refine y7 ?_ | refine y8 ?_ | refine Rt.p (fun _ => ?_) fun _ => ?_)
    | ((with_reducible apply w_ixM); (focus exact rfl); (focus exact rfl); case' hk => intro y hy) | ((with_reducible (first | apply w_val | apply q_ends)); (focus exact rfl)))
  rfl
theorem renT_nil (t : Tag) : renT [] t = .non := by cases t <;> rfl
def xsF (n : Nat) (F : Nat → Int) : List Int := (List.range (n * 2)).map F
theorem xsF_len (n : Nat) (F : Nat → Int) : (xsF n F).length = n * 2 := by simp [xsF]
theorem rowZ_xs (n : Nat) (F : Nat → Int) : rowZ (n * 2) F = (xsF n F).map (AV.int .i64) := by
  unfold rowZ xsF; rw [List.map_map]; rfl
theorem pairs_xs (n : Nat) (F : Nat → Int) : pairs n (xsF n F) = rowsP n F := by
  rw [pairs_eq n _ (xsF_len n F)]
  unfold rowsP
  refine List.map_congr_left fun k hk => ?_
  have hk : k < n := List.mem_range.1 hk
  unfold xsF
  rw [List.getD_eq_getElem?_getD, List.getD_eq_getElem?_getD, List.getElem?_map, List.getElem?_map, List.getElem?_range (by omega), List.getElem?_range (by omega)]
  rfl
theorem flat_rowsP : ∀ (n : Nat) (F : Nat → Int), (sR (rowsP n F)).flatten = rowZ (n * 2) F
  | 0, F => rfl
  | n + 1, F => by
    have h := flat_rowsP n F
    unfold rowsP rowZ sR at *
    rw [List.range_succ, List.map_append, List.map_append, List.flatten_append, h, show (n + 1) * 2 = n * 2 + 1 + 1 by omega, List.range_succ, List.range_succ]
    simp
theorem rowsP_len (n : Nat) (F : Nat → Int) : (rowsP n F).length = n := by simp [rowsP]
theorem ACall.spansL {m d : Nat} {F : Nat → Int} {t : Tag} {σ : Sig} {Q : AV → Sig → Prop} (hm : m < 100) (hd : d < 1000) (hQ : ∀ g, Q (.msl d g (m + 1) 2) (upd σ d (g, .row (rowZ ((m + 1) * 2) F)))) : ACall Try.prog 34 [.slc 2 (sR (rowsP (m + 1) F)) t] σ d Q := by
  obtain ⟨a, l, hl⟩ : ∃ a l, rowsP (m + 1) F = a :: l := by
    cases h : rowsP (m + 1) F with
    | nil => have := rowsP_len (m + 1) F; rw [h] at this; cases this
    | cons a l => exact ⟨a, l, rfl⟩
  have hlen : (a :: l).length = m + 1 := by rw [← hl, rowsP_len]
  have hrow : (sR (a :: l)).flatten = rowZ ((m + 1) * 2) F := by rw [← hl, flat_rowsP]
  rw [hl]
  refine ACall.liftS (spansW_c a l (by simp at hlen; omega)) [] (some 2) ?_ ?_ rfl trivial (fun _ => rfl) ?_
  · show (nodupB [2] && nodupB [d] && noMem YS [d] && noMem YS [2]) = true
    have : (Nat.beq d YS) = false := nbeq_f.2 (by unfold YS; omega)
    simp [nodupB, noMem, this]
    decide
  · show [_] = [AV.slc 2 (sR (a :: l)) (renT [] t)]
    rw [renT_nil]
  · rintro g av rfl
    have h := hQ g
    rw [← hrow, ← hlen] at h
    show Q (ren [(2, d)] (.msl 2 g (a :: l).length 2)) (upd σ d (g, renR [(2, d)] (.row (sR (a :: l)).flatten)))
    have e1 : renR [(2, d)] (.row (sR (a :: l)).flatten) = .row (sR (a :: l)).flatten := by
      rw [hrow]; simp only [renR]; rw [renL_map, rowZ, List.map_map]; rfl
    rw [e1]
    exact h
/-- The list of the law's loop over orders: the struct, the chain, the orders that are due, the rows. -/
def l3 (g4 g5 g8 gr : Nat) (hs : Nat → Nat) (c : Chn) (LV : AV) (A : Alls) : List (Nat × (Nat × Res)) :=
  (5, (g5, .row [.int .i64 A.lo, .int .i64 A.hi, LV, .msl 49 gr 30 1])) :: (4, (g4, .row (cC c))) :: (8, (g8, .row [])) :: (49, (gr, .row (cellsR 21 30 hs))) :: rowsD hs A.f
theorem l3_slots {g4 g5 g8 gr : Nat} {hs : Nat → Nat} {c : Chn} {LV : AV} {A : Alls} {σ : Sig} (h5 : σ 5 = (g5, .row [.int .i64 A.lo, .int .i64 A.hi, LV, .msl 49 gr 30 1])) (h4 : σ 4 = (g4, .row (cC c))) (h8 : σ 8 = (g8, .row [])) (h49 : σ 49 = (gr, .row (cellsR 21 30 hs))) (hd : ∀ k < 30, σ (5000 + k) = (hs k, .row (rowO 21 (A.f k)))) : slots (l3 g4 g5 g8 gr hs c LV A) σ := by
  refine ⟨h5, h4, h8, h49, slots_iff.2 fun p hp => ?_⟩
  obtain ⟨j, hj, rfl⟩ := List.mem_map.1 hp
  exact hd j (by simpa using hj)
theorem l3_d {g4 g5 g8 gr k : Nat} {hs : Nat → Nat} {c : Chn} {LV : AV} {A : Alls} {σ : Sig} (hk : k < 30) : updL (l3 g4 g5 g8 gr hs c LV A) σ (5000 + k) = (hs k, .row (rowO 21 (A.f k))) := by
  unfold l3
  rw [updL_hi (by decide), updL_hi (by decide), updL_hi (by decide), updL_hi (by decide)]
  exact rowsD_get hk
theorem t_d11 {G : TPl} {S : Told} {σ : Sig} {k : Nat} (hk : k < 30) : updL (tRows 11 71 49 G S) σ (5000 + k) = (G.hs k, .row (rowO 21 (S.f k))) :=
  t_d (X := []) (p := 11) (q := 71) (r := 49) (fun x hx => by cases hx) (by decide) (by decide) (by decide) hk
theorem ren11 : renOK (rhoT 11 71 49) = true := by decide
theorem ren118 : renOK (rhoT 11 8 49) = true := by decide
theorem l3_own {g4 g5 g8 gr : Nat} {hs : Nat → Nat} {c : Chn} {LV : AV} {A : Alls} {σ : Sig} : slots (l3 g4 g5 g8 gr hs c LV A) (updL (l3 g4 g5 g8 gr hs c LV A) σ) := l3_slots rfl rfl rfl rfl fun k hk => l3_d hk
theorem t_of {p q r : Nat} {G : TPl} {S : Told} {σ : Sig} (hp : σ p = boxT q r G S) (hq : σ q = lnkT G S) (hr : σ r = celT G) (hd : ∀ k < 30, σ (5000 + k) = (G.hs k, .row (rowO 21 (S.f k)))) : slots (tRows p q r G S) σ := by
  refine ⟨hp, hq, hr, slots_iff.2 fun x hx => ?_⟩
  obtain ⟨j, hj, rfl⟩ := List.mem_map.1 hx
  exact hd j (by simpa using hj)
theorem t_d8 {G : TPl} {S : Told} {σ : Sig} {k : Nat} (hk : k < 30) : updL (tRows 11 8 49 G S) σ (5000 + k) = (G.hs k, .row (rowO 21 (S.f k))) :=
  t_d (X := []) (p := 11) (q := 8) (r := 49) (fun x hx => by cases hx) (by decide) (by decide) (by decide) hk
theorem frzL_map (i g : Nat) (c : List AV) : ∀ l : List AV, frzL i g c l = l.map (frzA i g c)
  | [] => rfl
  | a :: l => by rw [frzL, frzL_map i g c l]; rfl
theorem frzL_rowO (i g : Nat) (c : List AV) (n : Nat) (f : Nat → Bool) : frzL i g c (rowO n f) = rowO n f := by
  rw [frzL_map, rowO, List.map_map]; rfl
theorem frzL_cells {i g n a : Nat} {c : List AV} {hs : Nat → Nat} (hi : i < 5000) : frzL i g c (cellsR n a hs) = cellsR n a hs := by
  rw [frzL_map, cellsR, List.map_map]
  refine List.map_congr_left fun k _ => ?_
  show frzA i g c (.msl (5000 + k) (hs k) n 1) = .msl (5000 + k) (hs k) n 1
  simp only [frzA]
  rw [if_neg (by omega)]
theorem scal_rowZ (n : Nat) (F : Nat → Int) : (rowZ n F).all AV.scal = true := by
  rw [List.all_eq_true]
  intro x hx
  obtain ⟨y, _, rfl⟩ := List.mem_map.1 hx
  rfl
theorem frz_links (n gq : Nat) (F : Nat → Int) : frzA 71 gq (rowZ (n * 2) F) (.msl 71 gq n 2) = .slc 2 (sR (rowsP n F)) .non := by
  rw [rowZ_xs, frzA_msl2 (xsF_len n F), pairs_xs]
def l4 (g4 g5 g8 g11 gr : Nat) (hs : Nat → Nat) (c : Chn) (n : Nat) (LV : AV) (a b : Int) (T : Told) : List (Nat × (Nat × Res)) :=
  (5, (g5, .row [.int .i64 a, .int .i64 b, LV, .msl 49 gr 30 1])) :: (4, (g4, .row (cC c))) :: (8, (g8, .row [])) :: (49, (gr, .row (cellsR 21 30 hs))) :: (11, (g11, .row [.int .i64 T.lo, .int .i64 T.hi, .slc 2 (sR (rowsP n T.F)) .non, .msl 49 gr 30 1])) :: rowsD hs T.f
theorem frz_l4 {g4 g5 g8 g11 gr gq n : Nat} {hs : Nat → Nat} {c : Chn} {es : List (List AV)} {t : Tag} {a b : Int} {T : Told} {σ : Sig} (h5 : σ 5 = (g5, .row [.int .i64 a, .int .i64 b, .slc 2 es t, .msl 49 gr 30 1])) (h4 : σ 4 = (g4, .row (cC c))) (h8 : σ 8 = (g8, .row [])) (h49 : σ 49 = (gr, .row (cellsR 21 30 hs)))
    (h11 : σ 11 = (g11, .row [.int .i64 T.lo, .int .i64 T.hi, .msl 71 gq n 2, .msl 49 gr 30 1])) (hd : ∀ k < 30, σ (5000 + k) = (hs k, .row (rowO 21 (T.f k)))) : slots (l4 g4 g5 g8 g11 gr hs c n (.slc 2 es t) a b T) (frzS 71 gq (rowZ (n * 2) T.F) σ) := by
  refine ⟨frzS_at h5 (by decide) rfl, frzS_at h4 (by decide) rfl, frzS_at h8 (by decide) rfl, frzS_at h49 (by decide) (frzL_cells (by decide)), frzS_at h11 (by decide) ?_, slots_iff.2 fun x hx => ?_⟩
  · show [_, _, frzA 71 gq (rowZ (n * 2) T.F) (.msl 71 gq n 2), _] = _
    rw [frz_links]; rfl
  · obtain ⟨j, hj, rfl⟩ := List.mem_map.1 hx
    exact frzS_at (hd j (by simpa using hj)) (by omega) (frzL_rowO ..)
theorem l4_d {g4 g5 g8 g11 gr n k : Nat} {hs : Nat → Nat} {c : Chn} {LV : AV} {a b : Int} {T : Told} {σ : Sig} (hk : k < 30) : updL (l4 g4 g5 g8 g11 gr hs c n LV a b T) σ (5000 + k) = (hs k, .row (rowO 21 (T.f k))) := by
  unfold l4
  rw [updL_hi (by decide), updL_hi (by decide), updL_hi (by decide), updL_hi (by decide), updL_hi (by decide)]
  exact rowsD_get hk
theorem ordsZ_ne {c : Chn} (he : chainE c = 0) : ordsF c ≠ [] := by
  rw [ordsF, if_pos he]
  intro h
  exact (chainE_0 he).2 (List.map_eq_nil_iff.1 h)
theorem ordersZ_s (c : Chn) (hl : c.ls.length < 1000) (he : chainE c = 0) : Fn0 Try.prog 22 [cA c] (fun v => v = .tup [.slc 1 (llR (ordsF c)) .non, .int .i64 0]) := by
  refine RawC.mono (orders_s c hl) fun v _ h => ?_
  dsimp only at h ⊢
  rw [he] at h
  cases ho : ordsF c with
  | nil => exact absurd ho (ordsZ_ne he)
  | cons o os => rw [ho] at h; exact h
theorem daysZ_s (c : Chn) (hl : c.ls.length < 1000) (he : chainE c = 0) : Fn0 Try.prog 24 [cA c] (fun v => v = .tup [.agg [.int .i64 (madeLo c), .int .i64 (madeHi c)], .slc 2 (sR ((List.range c.ls.length).map fun k => (linkLo c k, linkHi c k))) .non, .int .i64 0]) := by
  refine RawC.mono (days_c c hl) fun v _ h => ?_
  dsimp only at h ⊢
  rw [if_pos he, (daysF_eq c).1, (daysF_eq c).2] at h
  exact h
theorem ACall.eqSpansL {n : Nat} {F : Nat → Int} {LV : AV} {σ : Sig} {d : Nat} {Q : AV → Sig → Prop} (hn : n < 1000) (hLV : LinkV n F LV) (hQ : Q (.bool true) σ) : ACall Try.prog 29 [.slc 2 (sR (rowsP n F)) .non, LV] σ d Q := by
  have h := eqSpans_c (rowsP n F) (rowsP n F) (by rw [rowsP_len]; omega)
  rw [decide_eq_true rfl] at h
  rcases hLV with ⟨rfl, rfl⟩ | ⟨t, rfl⟩
  · exact ACall.wval (args' := [.slc 2 (sR (rowsP 0 F)) .non, .slc 2 (sR (rowsP 0 F)) .non]) (.cons (Sub.refl _) (.cons Sub.nil .nil)) h rfl rfl hQ
  · refine ACall.val h ?_ rfl hQ
    show _ = [AV.slc 2 (sR (rowsP n F)) .non, .slc 2 (sR (rowsP n F)) (renT [] t)]
    rw [renT_nil]
theorem LinkV.force {n : Nat} {F : Nat → Int} {LV : AV} (h : LinkV n F LV) : forceA LV = some LV := by
  rcases h with ⟨_, rfl⟩ | ⟨t, rfl⟩ <;> rfl
section
variable {P : Program} {K : (Nat → AV) → Sig → Prop} {e : Nat → AV} {σ : Sig} {x v : IOpd} {r : List IStep} {g4 g5 g8 gr : Nat} {hs : Nat → Nat} {c : Chn} {LV : AV} {A : Alls}
theorem w_ldC3 {d k : Nat} (hx : x.ev e = .ref 49 gr k) (hy : k < 30)
    (hk : stepsW P r K (upd e d (.msl (5000 + k) (hs k) 21 1)) (updL (l3 g4 g5 g8 gr hs c LV A) σ)) : stepsW P (⟨some d, none, .ld 1 false x⟩ :: r) K e (updL (l3 g4 g5 g8 gr hs c LV A) σ) :=
  w_ldAt hx (show updL (l3 g4 g5 g8 gr hs c LV A) σ 49 = (gr, .row (cellsR 21 30 hs)) from rfl) (cellsR_get _ hy) rfl hk
theorem w_ldD3 {d k y : Nat} (hx : x.ev e = .ref (5000 + k) (hs k) y) (hk0 : k < 30) (hy : y < 21)
    (hk : stepsW P r K (upd e d (.bool (A.f k y))) (updL (l3 g4 g5 g8 gr hs c LV A) σ)) : stepsW P (⟨some d, none, .ld 1 false x⟩ :: r) K e (updL (l3 g4 g5 g8 gr hs c LV A) σ) :=
  w_ldAt hx (l3_d hk0) (rowO_get _ hy) rfl hk
theorem w_chkAt {i g off t : Nat} {cs : List AV} {a : AV} (hx : x.ev e = .ref i g off) (hσ : σ i = (g, .row cs)) (hc : cs[off]? = some a) (hf : forceA a = some a) (ht : e t = a)
    (hk : stepsW P r K e σ) : stepsW P (⟨none, none, .chk 1 false x t⟩ :: r) K e σ := by
  refine w_det0 (p := (g = g ∧ True) ∧ a = e t) (v := .junk) (σ' := σ) (fun _ => ?_) ⟨⟨rfl, trivial⟩, ht.symm⟩ hk
  show (match ldO 1 false σ (x.ev e) with
    | some (p, v) => some (p ∧ v = e t, AV.junk, σ)
    | none => none) = _
  rw [hx]
  simp only [ldO, hσ, partO, hc, hf, liftV, okV]
theorem w_chkC3 {t k : Nat} (hx : x.ev e = .ref 49 gr k) (hy : k < 30) (ht : e t = .msl (5000 + k) (hs k) 21 1)
    (hk : stepsW P r K e (updL (l3 g4 g5 g8 gr hs c LV A) σ)) : stepsW P (⟨none, none, .chk 1 false x t⟩ :: r) K e (updL (l3 g4 g5 g8 gr hs c LV A) σ) :=
  w_chkAt hx (show updL (l3 g4 g5 g8 gr hs c LV A) σ 49 = (gr, .row (cellsR 21 30 hs)) from rfl) (cellsR_get _ hy) rfl ht hk
theorem w_chkD3 {t k y : Nat} (hx : x.ev e = .ref (5000 + k) (hs k) y) (hk0 : k < 30) (hy : y < 21) (ht : e t = .bool (A.f k y))
    (hk : stepsW P r K e (updL (l3 g4 g5 g8 gr hs c LV A) σ)) : stepsW P (⟨none, none, .chk 1 false x t⟩ :: r) K e (updL (l3 g4 g5 g8 gr hs c LV A) σ) :=
  w_chkAt hx (l3_d hk0) (rowO_get _ hy) rfl ht hk
end
def cntB (f : Nat → Bool) (k : Nat) : Nat := ((List.range k).filter f).length
theorem cntB_succ (f : Nat → Bool) (k : Nat) : cntB f (k + 1) = cntB f k + (if f k = true then 1 else 0) := by
  unfold cntB
  rw [List.range_succ, List.filter_append, List.length_append, List.filter_cons, List.filter_nil]
  split <;> rfl
theorem cntB_le (f : Nat → Bool) (k : Nat) : cntB f k ≤ k := by
  unfold cntB
  exact Nat.le_trans (List.length_filter_le _ _) (by simp)
theorem cntB_hol {c : Chn} {day : Int} {f : Nat → Bool} (h : ∀ k, k < 21 → (f k = true ↔ holdC c day ((k : Int) - 1))) : (holL c day).length = cntB f 21 := by
  classical
  unfold holL cntB
  rw [List.filter_map, List.length_map]
  refine congrArg _ (List.filter_congr fun k hk => ?_)
  have hk : k < 21 := List.mem_range.1 hk
  have := h k hk
  show @decide (holdC c day ((k : Int) - 1)) _ = f k
  cases hb : f k with
  | true => rw [hb] at this; exact decide_eq_true (this.1 rfl)
  | false => rw [hb] at this; exact decide_eq_false fun h2 => by have := this.2 h2; cases this
theorem evO2 {e : Nat → AV} {x y : IOpd} {sz : Nat} {es : List (List AV)} {t : Tag} {a : AV} (h1 : x.ev e = .slc sz es t) (h2 : y.ev e = a) (hf : forceA a = some a) : evO e [x, y] = some [.slc sz es t, a] := by
  simp only [evO, h1, h2, hf]; rfl
section
variable {P : Program} {K : (Nat → AV) → Sig → Prop} {e : Nat → AV} {σ : Sig} {x v : IOpd} {r : List IStep} {g4 g5 g8 gr : Nat} {hs : Nat → Nat} {c : Chn} {LV : AV} {A : Alls}
theorem w_ldC5 {d k off : Nat} (hx : x.ev e = .ref 49 gr off) (ho : off = k) (hy : k < 30)
    (hk : stepsW P r K (upd e d (.msl (5000 + k) (hs k) 21 1)) (updL (l3 g4 g5 g8 gr hs c LV A) σ)) : stepsW P (⟨some d, none, .ld 1 false x⟩ :: r) K e (updL (l3 g4 g5 g8 gr hs c LV A) σ) := w_ldC3 (by rw [hx, ho]) hy hk
theorem w_ldD5 {d k y off : Nat} {b : Bool} (hx : x.ev e = .ref (5000 + k) (hs k) off) (ho : off = y) (hb : A.f k y = b) (hk0 : k < 30) (hy : y < 21)
    (hk : stepsW P r K (upd e d (.bool b)) (updL (l3 g4 g5 g8 gr hs c LV A) σ)) : stepsW P (⟨some d, none, .ld 1 false x⟩ :: r) K e (updL (l3 g4 g5 g8 gr hs c LV A) σ) := w_ldD3 (by rw [hx, ho]) hk0 hy (by rw [hb]; exact hk)
theorem w_chkC5 {t k off : Nat} (hx : x.ev e = .ref 49 gr off) (ho : off = k) (hy : k < 30) (ht : e t = .msl (5000 + k) (hs k) 21 1)
    (hk : stepsW P r K e (updL (l3 g4 g5 g8 gr hs c LV A) σ)) : stepsW P (⟨none, none, .chk 1 false x t⟩ :: r) K e (updL (l3 g4 g5 g8 gr hs c LV A) σ) := w_chkC3 (by rw [hx, ho]) hy ht hk
theorem w_chkD5 {t k y off : Nat} {b : Bool} (hx : x.ev e = .ref (5000 + k) (hs k) off) (ho : off = y) (hb : A.f k y = b) (hk0 : k < 30) (hy : y < 21) (ht : e t = .bool b)
    (hk : stepsW P r K e (updL (l3 g4 g5 g8 gr hs c LV A) σ)) : stepsW P (⟨none, none, .chk 1 false x t⟩ :: r) K e (updL (l3 g4 g5 g8 gr hs c LV A) σ) := w_chkD3 (by rw [hx, ho]) hk0 hy (by rw [hb]; exact ht) hk
end
end Go.Abs
