/- A part of the proofs of the laws of this seat: contracts of the functions that they reach, each proved of the program's form in Lean. No condition beyond those that each contract names. -/
import Derived.Test.YtmekfgjlcaonjaaK26
import Derived.Test.YtmekfgjlcaonjaaK25
import Derived.Test.YtmekfgjlcaonjaaK24
import Derived.Test.YtmekfgjlcaonjaaK23
import Derived.Test.YtmekfgjlcaonjaaK22
import Derived.Test.YtmekfgjlcaonjaaK21
import Derived.Test.YtmekfgjlcaonjaaK19
import Derived.Test.YtmekfgjlcaonjaaK18
import Derived.Test.YtmekfgjlcaonjaaK17
import Derived.Test.YtmekfgjlcaonjaaK16
import Derived.Test.YtmekfgjlcaonjaaK15
import Derived.Test.YtmekfgjlcaonjaaK14
import Derived.Test.YtmekfgjlcaonjaaK13
import Derived.Test.YtmekfgjlcaonjaaK12
import Derived.Test.YtmekfgjlcaonjaaD1
import Derived.Test.YtmekfgjlcaonjaaC3
import Derived.Test.YtmekfgjlcaonjaaC2
import Derived.Test.YtmekfgjlcaonjaaC1
import Derived.Test.YtmekfgjlcaonjaaB
import Derived.Test.YtmekfgjlcaonjaaD8
import Derived.Test.YtmekfgjlcaonjaaC13
import Derived.Test.YtmekfgjlcaonjaaC12
import Derived.Test.YtmekfgjlcaonjaaC11
import Derived.Test.YtmekfgjlcaonjaaC10
import Derived.Test.YtmekfgjlcaonjaaC9
import Derived.Test.YtmekfgjlcaonjaaC8
import Derived.Test.YtmekfgjlcaonjaaC7
import Derived.Test.YtmekfgjlcaonjaaC5
import Derived.Test.YtmekfgjlcaonjaaC4
import Derived.Test.YtmekfgjlcaonjaaD7
import Derived.Test.YtmekfgjlcaonjaaD5
import Derived.Test.YtmekfgjlcaonjaaD3
import Derived.Test.YtmekfgjlcaonjaaD2
import Derived.Test.YtmekfgjlcaonjaaC6
import Derived.Test.YtmekfgjlcaonjaaK58
set_option linter.unusedVariables false
set_option linter.unusedSimpArgs false
set_option maxRecDepth 20000
set_option maxHeartbeats 1000000
namespace Go.Abs
open Go.Proofs
structure Alls where
  lo : Int
  hi : Int
  F : Nat → Int
  f : Nat → Nat → Bool
  D : List (List Int)
def oneT (A : Alls) : Told := ⟨100000, -1, A.F, A.f⟩
def stepT (A : Alls) (o : List Int) (T : Told) : Alls := if 0 ≤ T.hi then ⟨min A.lo T.lo, max A.hi T.hi, T.F, T.f, A.D ++ [o]⟩ else ⟨A.lo, A.hi, A.F, T.f, A.D⟩
def stepA (c : Chn) (A : Alls) (o : List Int) : Alls := if linkB c.ls c.maker o = true then stepT A o (tellX c o (allS c o) (oneT A)) else A
theorem tellX_lo (c : Chn) (o : List Int) : ∀ (X : List (List Int)) (S : Told), (tellX c o X S).lo = tellLo 0 S.lo X
  | [], S => rfl
  | ds :: X, S => tellX_lo c o X (tell1 c o ds S)
theorem tellX_hi (c : Chn) (o : List Int) : ∀ (X : List (List Int)) (S : Told), (tellX c o X S).hi = tellHi 0 S.hi X
  | [], S => rfl
  | ds :: X, S => tellX_hi c o X (tell1 c o ds S)
theorem tellX_f (c : Chn) (o : List Int) (d k : Nat) : ∀ (X : List (List Int)) (S : Told), (tellX c o X S).f d k = (S.f d k || X.any fun ds => decide (d < 30) && decide (k = (hoR c o (-1) 0 ds d + 1).toNat))
  | [], S => by simp [tellX]
  | ds :: X, S => by
    have h := tellX_f c o d k X (tell1 c o ds S)
    show (tellX c o X (tell1 c o ds S)).f d k = _
    rw [h, List.any_cons, ← Bool.or_assoc]
    rfl
theorem tellF_get (ds : List Int) (k : Nat) : ∀ (o : List Int) (j : Nat) (F : Nat → Int), (∀ i ∈ o, 0 ≤ i) → o.Nodup →
    ((k : Int) ∉ o → tellF ds o j F (k * 2) = F (k * 2) ∧ tellF ds o j F (k * 2 + 1) = F (k * 2 + 1)) ∧
    ∀ m : Nat, o[m]? = some (k : Int) → tellF ds o j F (k * 2) = min (F (k * 2)) (getI ds (j + m + 1 : Nat)) ∧ tellF ds o j F (k * 2 + 1) = max (F (k * 2 + 1)) (getI ds (j + m + 1 : Nat))
  | [], j, F, _, _ => ⟨fun _ => ⟨rfl, rfl⟩, fun m h => by simp at h⟩
  | i :: r, j, F, hp, hn => by
    obtain ⟨hn1, hn2⟩ := List.nodup_cons.1 hn
    have hi := hp i (by simp)
    rw [tellF]
    have ih := tellF_get ds k r (j + 1) (setF (setF F (i.toNat * 2 + 0) (min (F (i.toNat * 2 + 0)) (getI ds (j + 1 : Nat)))) (i.toNat * 2 + 1) (max (F (i.toNat * 2 + 1)) (getI ds (j + 1 : Nat)))) (fun x hx => hp x (by simp [hx])) hn2
    have hne : i ≠ (k : Int) → setF (setF F (i.toNat * 2 + 0) (min (F (i.toNat * 2 + 0)) (getI ds (j + 1 : Nat)))) (i.toNat * 2 + 1) (max (F (i.toNat * 2 + 1)) (getI ds (j + 1 : Nat))) (k * 2) = F (k * 2) ∧ setF (setF F (i.toNat * 2 + 0) (min (F (i.toNat * 2 + 0)) (getI ds (j + 1 : Nat)))) (i.toNat * 2 + 1) (max (F (i.toNat * 2 + 1)) (getI ds (j + 1 : Nat))) (k * 2 + 1) = F (k * 2 + 1) := by
      intro h
      constructor
      · unfold setF; rw [if_neg (by omega), if_neg (by omega)]
      · unfold setF; rw [if_neg (by omega), if_neg (by omega)]
    refine ⟨fun h => ?_, fun m hm => ?_⟩
    · have hik : i ≠ (k : Int) := fun e => h (by simp [e])
      have h2 := ih.1 fun e => h (by simp [e])
      have h3 := hne hik
      exact ⟨h2.1.trans h3.1, h2.2.trans h3.2⟩
    · cases m with
      | zero =>
        obtain rfl : i = (k : Int) := by simpa using hm
        have h2 := ih.1 hn1
        rw [h2.1, h2.2]
        rw [Int.toNat_natCast]
        constructor
        · unfold setF; rw [if_neg (by omega), if_pos (by omega)]; try rfl
        · unfold setF; rw [if_pos rfl]; try rfl
      | succ m =>
        have hm' : r[m]? = some (k : Int) := by simpa using hm
        have hik : i ≠ (k : Int) := fun e => hn1 (e ▸ List.mem_of_getElem? hm')
        have h2 := ih.2 m hm'
        have h3 := hne hik
        rw [h3.1, h3.2] at h2
        rw [show j + (m + 1) + 1 = j + 1 + m + 1 by omega]
        exact h2
theorem tellX_F (c : Chn) (o : List Int) (k m : Nat) (hp : ∀ i ∈ o, 0 ≤ i) (hn : o.Nodup) (hm : o[m]? = some (k : Int)) : ∀ (X : List (List Int)) (S : Told),
    (tellX c o X S).F (k * 2) = tellLo (m + 1) (S.F (k * 2)) X ∧ (tellX c o X S).F (k * 2 + 1) = tellHi (m + 1) (S.F (k * 2 + 1)) X
  | [], S => ⟨rfl, rfl⟩
  | ds :: X, S => by
    have h := tellX_F c o k m hp hn hm X (tell1 c o ds S)
    have h2 := (tellF_get ds k o 0 S.F hp hn).2 m hm
    rw [Nat.zero_add] at h2
    have h3 : (tell1 c o ds S).F = tellF ds o 0 S.F := rfl
    rw [h3, h2.1, h2.2] at h
    exact h
theorem mnG_min {α : Type} (f : α → Int) (a : Int) : ∀ (X : List α) (b : Int), mnG f (min a b) X = min a (mnG f b X)
  | [], b => rfl
  | x :: X, b => by
    show mnG f (min (min a b) (f x)) X = min a (mnG f (min b (f x)) X)
    rw [← mnG_min f a X, show min (min a b) (f x) = min a (min b (f x)) by omega]
theorem mxG_max {α : Type} (f : α → Int) (a : Int) : ∀ (X : List α) (b : Int), mxG f (max a b) X = max a (mxG f b X)
  | [], b => rfl
  | x :: X, b => by
    show mxG f (max (max a b) (f x)) X = max a (mxG f (max b (f x)) X)
    rw [← mxG_max f a X, show max (max a b) (f x) = max a (max b (f x)) by omega]
/-- The stories of some orders, those that are linked. -/
def storL (c : Chn) (O : List (List Int)) : List (List Int × List Int) := (O.filter fun o => linkB c.ls c.maker o).flatMap fun o => (allS c o).map fun ds => (o, ds)
def posN (o : List Int) (k : Nat) : Nat := (idxI o k + 1).toNat
def markB (c : Chn) (d k : Nat) (x : List Int × List Int) : Bool := decide (d < 30) && decide (k = (hoR c x.1 (-1) 0 x.2 d + 1).toNat)
theorem foldA {c : Chn} (okc : Okc c) : ∀ (O : List (List Int)) (A : Alls), (∀ o ∈ O, isPerm c.ls.length o) → A.lo ≤ 100000 → -1 ≤ A.hi →
    (O.foldl (stepA c) A).lo = mnG (fun x => getI x.2 (0 : Nat)) A.lo (storL c O) ∧ (O.foldl (stepA c) A).hi = mxG (fun x => getI x.2 (0 : Nat)) A.hi (storL c O) ∧
    (∀ k, k < c.ls.length → (O.foldl (stepA c) A).F (k * 2) = mnG (fun x => getI x.2 (posN x.1 k)) (A.F (k * 2)) (storL c O) ∧ (O.foldl (stepA c) A).F (k * 2 + 1) = mxG (fun x => getI x.2 (posN x.1 k)) (A.F (k * 2 + 1)) (storL c O)) ∧
    (∀ d k, (O.foldl (stepA c) A).f d k = (A.f d k || (storL c O).any (markB c d k))) ∧
    (O.foldl (stepA c) A).D = A.D ++ (O.filter fun o => linkB c.ls c.maker o).filter (fun o => !(allS c o).isEmpty)
  | [], A, _, _, _ => ⟨rfl, rfl, fun k _ => ⟨rfl, rfl⟩, fun d k => by simp [storL], by simp⟩
  | o :: r, A, hp, hlo, hhi => by
    have hr : ∀ o ∈ r, isPerm c.ls.length o := fun x hx => hp x (by simp [hx])
    have ho := hp o (by simp)
    rw [List.foldl_cons]
    by_cases hl : linkB c.ls c.maker o = true
    case neg =>
      have e1 : stepA c A o = A := by rw [stepA, if_neg hl]
      have e2 : (o :: r).filter (fun o => linkB c.ls c.maker o) = r.filter fun o => linkB c.ls c.maker o := List.filter_cons_of_neg hl
      rw [e1]
      unfold storL
      rw [e2]
      exact foldA okc r A hr hlo hhi
    have e1 : stepA c A o = stepT A o (tellX c o (allS c o) (oneT A)) := by rw [stepA, if_pos hl]
    have e2 : (o :: r).filter (fun o => linkB c.ls c.maker o) = o :: r.filter fun o => linkB c.ls c.maker o := List.filter_cons_of_pos hl
    have e3 : storL c (o :: r) = ((allS c o).map fun ds => (o, ds)) ++ storL c r := by unfold storL; rw [e2, List.flatMap_cons]
    rw [e1, e2, e3]
    have t1 := tellX_lo c o (allS c o) (oneT A)
    have t2 := tellX_hi c o (allS c o) (oneT A)
    have t3 := fun d k => tellX_f c o d k (allS c o) (oneT A)
    have t4 : ∀ k, k < c.ls.length → (tellX c o (allS c o) (oneT A)).F (k * 2) = tellLo (posN o k) (A.F (k * 2)) (allS c o) ∧ (tellX c o (allS c o) (oneT A)).F (k * 2 + 1) = tellHi (posN o k) (A.F (k * 2 + 1)) (allS c o) := fun k hk => by
      obtain ⟨m, h1, h2⟩ := idx_at0 (ho.all (g := (k : Int)) ⟨by omega, by omega⟩)
      have h3 : posN o k = m + 1 := by unfold posN; rw [h1]; omega
      rw [h3]
      exact tellX_F c o k m (fun i hi => (ho.bd i hi).1) ho.nd h2 (allS c o) (oneT A)
    generalize tellX c o (allS c o) (oneT A) = T at *
    have mem : ∀ ds ∈ allS c o, 0 ≤ getI ds (0 : Nat) := fun ds hd => by
      have hs := mem_allS.1 hd
      cases ds with
      | nil => exact hs.elim
      | cons d ds => rw [getI_cz]; have := hs.1; have := okc.m; omega
    have any1 : ∀ d k, ((allS c o).map fun ds => (o, ds)).any (markB c d k) = (allS c o).any fun ds => decide (d < 30) && decide (k = (hoR c o (-1) 0 ds d + 1).toNat) := fun d k => by rw [List.any_map]; rfl
    by_cases hX : allS c o = []
    · rw [hX] at t1 t2 t3 t4 any1 ⊢
      have hT : T.hi = -1 := t2
      have hf : T.f = A.f := by funext d k; rw [t3]; simp [oneT]
      have e4 : stepT A o T = A := by rw [stepT, if_neg (by omega), hf]
      rw [e4, List.filter_cons_of_neg (by simp [hX])]
      exact foldA okc r A hr hlo hhi
    · obtain ⟨ds0, hds⟩ := List.exists_mem_of_ne_nil _ hX
      have hT : 0 ≤ T.hi := by
        have h1 := (mxG_ge.1 (Int.le_refl (mxG (fun ds : List Int => getI ds (0 : Nat)) (-1) (allS c o)))).2 ds0 hds
        have h2 := mem ds0 hds
        have h3 : T.hi = mxG (fun ds : List Int => getI ds (0 : Nat)) (-1) (allS c o) := t2
        omega
      have e4 : stepT A o T = ⟨min A.lo T.lo, max A.hi T.hi, T.F, T.f, A.D ++ [o]⟩ := by rw [stepT, if_pos hT]
      have q1 : min A.lo T.lo = mnG (fun x : List Int × List Int => getI x.2 (0 : Nat)) A.lo ((allS c o).map fun ds => (o, ds)) := by
        rw [mnG_map, t1]
        show min A.lo (mnG _ 100000 _) = _
        rw [← mnG_min, show min A.lo 100000 = A.lo by omega]
      have q2 : max A.hi T.hi = mxG (fun x : List Int × List Int => getI x.2 (0 : Nat)) A.hi ((allS c o).map fun ds => (o, ds)) := by
        rw [mxG_map, t2]
        show max A.hi (mxG _ (-1) _) = _
        rw [← mxG_max, show max A.hi (-1) = A.hi by omega]
      have ih := foldA okc r ⟨min A.lo T.lo, max A.hi T.hi, T.F, T.f, A.D ++ [o]⟩ hr (by show min A.lo T.lo ≤ 100000; omega) (by show -1 ≤ max A.hi T.hi; omega)
      rw [e4, List.filter_cons_of_pos (by simp [hX])]
      obtain ⟨i1, i2, i3, i4, i5⟩ := ih
      refine ⟨?_, ?_, fun k hk => ?_, fun d k => ?_, ?_⟩
      · rw [i1, mnG_app, ← q1]
      · rw [i2, mxG_app, ← q2]
      · have h := i3 k hk
        have h4 := t4 k hk
        rw [h.1, h.2, mnG_app, mxG_app, mnG_map, mxG_map]
        show mnG _ (T.F _) _ = _ ∧ mxG _ (T.F _) _ = _
        rw [h4.1, h4.2]
        exact ⟨rfl, rfl⟩
      · rw [i4, List.any_append, any1, ← Bool.or_assoc]
        show (T.f d k || _) = _
        rw [t3]
        rfl
      · rw [i5]
        simp
theorem mxL_zero {f : List Int × List Int → Int} {X : List (List Int × List Int)} (hX : X ≠ []) (h : ∀ x ∈ X, 0 ≤ f x) : mxL f 0 X = mxL f (-1) X := by
  cases X with
  | nil => exact absurd rfl hX
  | cons a r =>
    show mxL f (max 0 (f a)) r = mxL f (max (-1) (f a)) r
    have := h a (by simp)
    rw [show max 0 (f a) = max (-1) (f a) by omega]
theorem story_pos {c : Chn} (h0 : 0 ≤ c.lo) {o ds : List Int} (h : Story c o ds) (j : Nat) : 0 ≤ getI ds (j : Int) := by
  by_cases hj : j < ds.length
  · have h1 := story_asc h hj (Nat.zero_le j)
    cases ds with
    | nil => exact h.elim
    | cons d ds => rw [getI_cz] at h1; have := h.1; omega
  · unfold getI
    rw [Int.toNat_natCast, List.getElem?_eq_none (by omega)]
    exact Int.le_refl _
/-- What the law finds: the least and the greatest days, the orders that are due, and who may be the holder. -/
theorem story_fold {c : Chn} (okc : Okc c) (ht : talesF c ≠ []) (F0 : Nat → Int) (h0 : ∀ k, k < c.ls.length → F0 (k * 2) = 100000 ∧ F0 (k * 2 + 1) = 0) (R : Alls) (hR : R = (permsK c.ls.length c.ls.length []).foldl (stepA c) ⟨100000, 0, F0, fun _ _ => false, []⟩) :
    R.lo = madeLo c ∧ R.hi = madeHi c ∧ (∀ k, k < c.ls.length → R.F (k * 2) = linkLo c k ∧ R.F (k * 2 + 1) = linkHi c k) ∧ R.D = (talesF c).map (·.1) ∧ ∀ day k : Nat, day < 30 → k < 21 → (R.f day k = true ↔ holdC c day ((k : Int) - 1)) := by
  have ok := okc_days okc
  have h := foldA okc (permsK c.ls.length c.ls.length []) ⟨100000, 0, F0, fun _ _ => false, []⟩ (fun o ho => perm_of ho) (Int.le_refl _) (by show (-1 : Int) ≤ 0; decide)
  rw [← hR] at h
  have hs : storL c (permsK c.ls.length c.ls.length []) = storiesO c := rfl
  rw [hs, due_eq ok] at h
  obtain ⟨h1, h2, h3, h4, h5⟩ := h
  have lat : ∀ x ∈ talesF c, ∀ j : Nat, 0 ≤ getI (latF c x.1) (j : Int) := fun x hx j => by
    have h := tale_iff.1 hx
    have h6 : (linkB c.ls c.maker x.1 && fitB c.ls c.lo x.1) = true := h.2.1
    rw [Bool.and_eq_true] at h6
    exact story_pos okc.m.1 (story_lat ok h6.2) j
  have ps : ∀ (k : Nat) (x : List Int × List Int), ((posN x.1 k : Nat) : Int) = posI x k := fun k x => by
    have : -1 ≤ idxI x.1 k := (by have := idxF'_bd k 0 x.1; have h2 : idxI x.1 k = idxF' k 0 x.1 := rfl; omega)
    unfold posN posI
    omega
  refine ⟨?_, ?_, fun k hk => ⟨?_, ?_⟩, by simpa using h5, fun day k hd hk => ?_⟩
  · rw [h1, least_stories ok (fun _ => 0)]; rfl
  · rw [h2, greatest_stories ok (fun _ => 0), mxL_zero ht fun x hx => lat x hx 0]; rfl
  · rw [(h3 k hk).1, least_stories ok (fun o => posN o k)]
    show mnL _ (F0 (k * 2)) _ = _
    rw [(h0 k hk).1]
    unfold linkLo
    refine mnL_congr fun x _ => ?_
    rw [ps]
  · rw [(h3 k hk).2, greatest_stories ok (fun o => posN o k)]
    show mxL _ (F0 (k * 2 + 1)) _ = _
    rw [(h0 k hk).2, mxL_zero ht fun x hx => lat x hx _]
    unfold linkHi
    refine mxL_congr fun x _ => ?_
    rw [ps]
  · rw [h4]
    show (false || _) = true ↔ _
    rw [Bool.false_or, List.any_eq_true]
    have hb := fun (o ds : List Int) => hoR_bd (c := c) (o := o) (by have := okc.own; omega) (lkAt_t okc) day ds (-1) 0 (by omega)
    unfold holdC
    constructor
    · rintro ⟨x, hx, hm⟩
      obtain ⟨g1, g2⟩ := (mem_storiesO ok).1 hx
      refine ⟨_, g1, ?_⟩
      have h6 := tale_iff.1 g1
      have h7 : (linkB c.ls c.maker x.1 && fitB c.ls c.lo x.1) = true := h6.2.1
      rw [Bool.and_eq_true] at h7
      refine (holdT_story ok h7.2 (perm_of h6.1).len day ((k : Int) - 1)).2 ⟨x.2, g2, ?_⟩
      have h8 := hb x.1 x.2
      unfold markB at hm
      rw [Bool.and_eq_true, decide_eq_true_eq, decide_eq_true_eq] at hm
      omega
    · rintro ⟨x, hx, hm⟩
      have h6 := tale_iff.1 hx
      have h7 : (linkB c.ls c.maker x.1 && fitB c.ls c.lo x.1) = true := h6.2.1
      rw [Bool.and_eq_true] at h7
      have hxe : x = (x.1, leO c x.1) := by rw [← h6.2.2]
      rw [hxe] at hm
      obtain ⟨ds, g1, g2⟩ := (holdT_story ok h7.2 (perm_of h6.1).len day ((k : Int) - 1)).1 hm
      refine ⟨(x.1, ds), (mem_storiesO ok).2 ⟨by show (x.1, leO c x.1) ∈ _; rw [← hxe]; exact hx, g1⟩, ?_⟩
      unfold markB
      rw [Bool.and_eq_true, decide_eq_true_eq, decide_eq_true_eq]
      refine ⟨hd, ?_⟩
      show k = (hoR c x.1 (-1) 0 ds day + 1).toNat
      omega
end Go.Abs
