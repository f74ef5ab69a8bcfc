/- A part of the proofs of the laws of this seat: contracts of the functions that they reach, each proved of the program's form in Lean. No condition beyond those that each contract names. -/
import Derived.Test.YtmekfgjlcaonjaaD1
import Derived.Test.YtmekfgjlcaonjaaC2
import Derived.Test.YtmekfgjlcaonjaaC1
import Derived.Test.YtmekfgjlcaonjaaB
set_option linter.unusedVariables false
set_option linter.unusedSimpArgs false
set_option maxRecDepth 20000
set_option maxHeartbeats 4000000
namespace Go.Abs
def linkL : Int → List Lnk → Prop
  | _, [] => True
  | h, y :: r => y.f = h ∧ linkL y.t r
def endH : Int → List Lnk → Int
  | h, [] => h
  | _, y :: r => endH y.t r
def dayL : Int → List Lnk → List Int → Prop
  | _, [], [] => True
  | d, y :: r, x :: xs => d < x ∧ y.lo ≤ x ∧ x ≤ y.hi ∧ dayL x r xs
  | _, _, _ => False
def endD : Int → List Int → Int
  | d, [] => d
  | _, x :: xs => endD x xs
theorem linkL_snoc {y : Lnk} : ∀ {l : List Lnk} {h : Int}, linkL h l → y.f = endH h l → linkL h (l ++ [y])
  | [], _, _, h => ⟨h, trivial⟩
  | a :: r, _, ⟨h1, h2⟩, h => ⟨h1, linkL_snoc h2 h⟩
theorem endH_snoc {y : Lnk} : ∀ {l : List Lnk} {h : Int}, endH h (l ++ [y]) = y.t
  | [], _ => rfl
  | a :: r, _ => endH_snoc (l := r)
theorem dayL_snoc {y : Lnk} {x : Int} : ∀ {l : List Lnk} {xs : List Int} {d : Int}, dayL d l xs → endD d xs < x → y.lo ≤ x → x ≤ y.hi → dayL d (l ++ [y]) (xs ++ [x])
  | [], [], _, _, h1, h2, h3 => ⟨h1, h2, h3, trivial⟩
  | a :: r, z :: xs, _, ⟨g1, g2, g3, g4⟩, h1, h2, h3 => ⟨g1, g2, g3, dayL_snoc g4 h1 h2 h3⟩
  | [], _ :: _, _, h, _, _, _ => h.elim
  | _ :: _, [], _, h, _, _, _ => h.elim
theorem endD_snoc {x : Int} : ∀ {xs : List Int} {d : Int}, endD d (xs ++ [x]) = x
  | [], _ => rfl
  | a :: r, _ => endD_snoc (xs := r)
theorem linkB_of {ls : List Lnk} : ∀ {o : List Int} {h : Int}, linkL h (o.map (lkAt ls)) → linkB ls h o = true
  | [], _, _ => rfl
  | i :: r, h, ⟨h1, h2⟩ => by rw [linkB, decide_eq_true h1, linkB_of h2]; rfl
theorem dayd_of {ls : List Lnk} : ∀ {o xs : List Int} {d : Int}, dayL d (o.map (lkAt ls)) xs → dayd ls d o xs
  | [], [], _, _ => trivial
  | i :: r, x :: xs, _, ⟨h1, h2, h3, h4⟩ => ⟨h1, h2, h3, dayd_of h4⟩
  | [], _ :: _, _, h => h.elim
  | _ :: _, [], _, h => h.elim
theorem lkAt_nat {ls : List Lnk} {k : Nat} (h : k < ls.length) : lkAt ls (k : Int) = ls[k] := by simp [lkAt, h]
theorem lkAt_mem {ls : List Lnk} {i : Int} (h : 0 ≤ i ∧ i < ls.length) : lkAt ls i ∈ ls := by
  obtain ⟨k, rfl⟩ : ∃ k : Nat, i = k := ⟨i.toNat, by omega⟩
  rw [lkAt_nat (by omega)]; exact List.getElem_mem _
theorem idx_at : ∀ (l : List Int) (s : Nat) (g : Int), g ∈ l → ∃ k : Nat, idxF' g s l = (s : Int) + k ∧ l[k]? = some g
  | [], _, _, h => by cases h
  | a :: r, s, g, h => by
    by_cases he : a = g
    · exact ⟨0, by rw [idxF', if_pos he]; simp, by simp [he]⟩
    · obtain ⟨k, h1, h2⟩ := idx_at r (s + 1) g (by rcases List.mem_cons.1 h with h | h; exact absurd h.symm he; exact h)
      exact ⟨k + 1, by rw [idxF', if_neg he, h1]; simp; omega, by simpa using h2⟩
theorem idx_at0 {l : List Int} {g : Int} (h : g ∈ l) : ∃ k : Nat, idxI l g = k ∧ l[k]? = some g := by
  obtain ⟨k, h1, h2⟩ := idx_at l 0 g h
  exact ⟨k, by rw [idxI, h1]; simp, h2⟩
/-- The order in which the links came. -/
def backO (order : List Int) : List Int := (List.range order.length).map fun (k : Nat) => idxI order k
theorem isPerm.mem' {n : Nat} {l : List Int} (h : isPerm n l) {g : Int} (hg : 0 ≤ g ∧ g < n) : g ∈ l := h.all hg
theorem back_perm {n : Nat} {order : List Int} (h : isPerm n order) : isPerm n (backO order) := by
  refine ⟨by simp [backO, h.len], ?_, ?_⟩
  · unfold backO
    rw [List.Nodup, List.pairwise_map]
    refine List.Pairwise.imp_of_mem ?_ List.nodup_range
    intro a b ha hb hab he
    rw [List.mem_range] at ha hb
    rw [h.len] at ha hb
    obtain ⟨k, h1, h2⟩ := idx_at0 (h.mem' (g := (a : Int)) (by omega))
    obtain ⟨m, h3, h4⟩ := idx_at0 (h.mem' (g := (b : Int)) (by omega))
    have : k = m := by omega
    subst this
    rw [h2] at h4
    have h4 : (a : Int) = b := by simpa using h4
    exact hab (by omega)
  · intro x hx
    obtain ⟨a, ha, rfl⟩ := List.mem_map.1 hx
    rw [List.mem_range] at ha
    rw [h.len] at ha
    obtain ⟨k, h1, h2⟩ := idx_at0 (h.mem' (g := (a : Int)) (by omega))
    obtain ⟨hk, _⟩ := List.getElem?_eq_some_iff.1 h2
    rw [h.len] at hk
    omega
theorem back_links {l : List Lnk} {order : List Int} (h : isPerm l.length order) : (backO order).map (lkAt (order.map (lkAt l))) = l := by
  refine List.ext_getElem? fun k => ?_
  unfold backO
  rw [List.map_map, List.getElem?_map, h.len]
  by_cases hk : k < l.length
  · rw [List.getElem?_range hk, List.getElem?_eq_getElem hk]
    obtain ⟨m, h1, h2⟩ := idx_at0 (h.mem' (g := (k : Int)) (by omega))
    simp only [Option.map_some, Function.comp]
    rw [h1]
    congr 1
    show lkAt _ _ = _
    obtain ⟨hm, _⟩ := List.getElem?_eq_some_iff.1 h2
    have e1 : lkAt (order.map (lkAt l)) (m : Int) = lkAt l k := by
      unfold lkAt
      rw [Int.toNat_natCast, List.getElem?_map, h2]
      rfl
    rw [e1, lkAt_nat hk]
  · rw [List.getElem?_eq_none (by simp; omega), List.getElem?_eq_none (by omega)]; rfl
theorem made_tales {c : Chn} {l : List Lnk} {order xs : List Int} {d : Int} (hp : isPerm l.length order) (hc : c.ls = order.map (lkAt l)) (h1 : linkL c.maker l) (h2 : dayL d l xs) (hd : c.lo ≤ d ∧ d ≤ c.hi) (h5 : c.hi ≤ 100000) (h6 : ∀ y ∈ l, y.hi ≤ 100000) : talesF c ≠ [] := by
  have hb := back_links hp
  have hl : c.ls.length = l.length := by rw [hc, List.length_map, hp.len]
  have ok : DaysOK c := ⟨by omega, fun y hy => by
    rw [hc] at hy
    obtain ⟨i, hi, rfl⟩ := List.mem_map.1 hy
    exact h6 _ (lkAt_mem (hp.bd i hi))⟩
  rw [← hc] at hb
  have hs : Story c (backO order) (d :: xs) := ⟨hd.1, hd.2, dayd_of (by rw [hb]; exact h2)⟩
  have hk : linkB c.ls c.maker (backO order) = true := linkB_of (by rw [hb]; exact h1)
  have hm : ((backO order), leO c (backO order)) ∈ talesF c := tale_iff.2 ⟨by rw [hl]; exact mem_perms.2 (back_perm hp), by rw [okO, hk, (story_bd ok hs).1]; rfl, rfl⟩
  intro he
  rw [he] at hm
  cases hm
end Go.Abs
