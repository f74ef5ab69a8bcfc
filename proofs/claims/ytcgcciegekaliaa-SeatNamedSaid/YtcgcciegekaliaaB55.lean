/- A part of the proofs of the laws of this seat: contracts of the functions that they reach, each proved of the program's form in Lean. No condition beyond those that each contract names. -/
import Derived.Test.YtcgcciegekaliaaB0
import Derived.Test.YtcgcciegekaliaaB7
import Derived.Test.YtcgcciegekaliaaB8
import Derived.Test.YtcgcciegekaliaaB9
import Derived.Test.YtcgcciegekaliaaB10
import Derived.Test.YtcgcciegekaliaaB11
import Derived.Test.YtcgcciegekaliaaB12
import Derived.Test.YtcgcciegekaliaaB16
import Derived.Test.YtcgcciegekaliaaB17
import Derived.Test.YtcgcciegekaliaaB19a
import Derived.Test.YtcgcciegekaliaaB20
import Derived.Test.YtcgcciegekaliaaB34a
import Derived.Test.YtcgcciegekaliaaB35a
import Derived.Test.YtcgcciegekaliaaB48
set_option linter.unusedVariables false
set_option linter.unusedSimpArgs false
set_option maxRecDepth 20000
set_option maxHeartbeats 4000000
/-! ### Guests with other numbers: the plain law -/
namespace Go.Abs
open Go.Proofs
/-- A rule, when guests have other numbers. -/
def nmR (o : List Int) (r : Rule) : Rule := ⟨r.kind, if 0 < nmV r.kind then getI o r.a else r.a, if nmV r.kind = 2 then getI o r.b else r.b, r.weight⟩
/-- Guests at other places. -/
structure nmG (o : List Int) (gs gs' : List Guest) : Prop where
  len : gs'.length = gs.length
  at_ : ∀ j : Nat, j < gs.length → gs'[(getI o j).toNat]? = gs[j]?
theorem idx_ex {n : Nat} {o : List Int} (h : isPerm n o) {g : Int} (hg : 0 ≤ g ∧ g < n) : ∃ i : Nat, i < n ∧ getI o i = g ∧ idxI o g = i := by
  obtain ⟨i, hi, he⟩ := List.getElem_of_mem (h.all hg)
  have hl := h.len
  refine ⟨i, by omega, by rw [getI_nat hi, he], ?_⟩
  rw [← he, idxI, idx_get o 0 i hi h.nd]; simp
theorem getO_bd {n : Nat} {o : List Int} (h : isPerm n o) {g : Int} (hg : 0 ≤ g ∧ g < n) : 0 ≤ getI o g ∧ getI o g < n := by
  obtain ⟨i, rfl⟩ := Int.eq_ofNat_of_zero_le hg.1
  have hl := h.len
  rw [getI_nat (by omega)]; exact h.bd _ (List.getElem_mem _)
theorem getI_inj {n : Nat} {o : List Int} (h : isPerm n o) {a b : Int} (ha : 0 ≤ a ∧ a < n) (hb : 0 ≤ b ∧ b < n) (e : getI o a = getI o b) : a = b := by
  obtain ⟨i, rfl⟩ := Int.eq_ofNat_of_zero_le ha.1
  obtain ⟨j, rfl⟩ := Int.eq_ofNat_of_zero_le hb.1
  have hl := h.len
  rw [getI_nat (by omega), getI_nat (by omega)] at e
  have := (List.getElem_inj h.nd).1 e
  omega
theorem nodup_mapI {f : Int → Int} {l : List Int} (h : l.Nodup) (hi : ∀ a ∈ l, ∀ b ∈ l, f a = f b → a = b) : (l.map f).Nodup := by
  rw [List.nodup_iff_pairwise_ne, List.pairwise_map]
  exact List.Pairwise.imp_of_mem (fun ha hb hab e => hab (hi _ ha _ hb e)) (List.nodup_iff_pairwise_ne.1 h)
theorem reP_perm {n : Nat} {o l : List Int} (ho : isPerm n o) (hl : isPerm n l) : isPerm n (l.map (getI o)) := by
  refine ⟨by rw [List.length_map, hl.len], nodup_mapI hl.nd fun a ha b hb e => getI_inj ho (hl.bd a ha) (hl.bd b hb) e, fun x hx => ?_⟩
  obtain ⟨y, hy, rfl⟩ := List.mem_map.1 hx
  exact getO_bd ho (hl.bd y hy)
theorem reP_inj {n : Nat} {o : List Int} (ho : isPerm n o) : ∀ {a b : List Int}, (∀ x ∈ a, 0 ≤ x ∧ x < (n : Int)) → (∀ x ∈ b, 0 ≤ x ∧ x < (n : Int)) → a.map (getI o) = b.map (getI o) → a = b
  | [], [], _, _, _ => rfl
  | [], _ :: _, _, _, e => by simp at e
  | _ :: _, [], _, _, e => by simp at e
  | x :: a, y :: b, ha, hb, e => by
    simp only [List.map_cons, List.cons.injEq] at e
    rw [getI_inj ho (ha x (by simp)) (hb y (by simp)) e.1, reP_inj ho (fun z hz => ha z (by simp [hz])) (fun z hz => hb z (by simp [hz])) e.2]
theorem reP_onto {n : Nat} {o l : List Int} (ho : isPerm n o) (hl : isPerm n l) : ∃ m, isPerm n m ∧ m.map (getI o) = l := by
  have hid : (l.map (idxI o)).map (getI o) = l := by
    rw [List.map_map]
    have : l.map (getI o ∘ idxI o) = l.map id := List.map_congr_left fun x hx => by
      obtain ⟨i, _, h1, h2⟩ := idx_ex ho (hl.bd x hx)
      show getI o (idxI o x) = x
      rw [h2, h1]
    rw [this, List.map_id]
  refine ⟨l.map (idxI o), ⟨by rw [List.length_map, hl.len], ?_, fun x hx => ?_⟩, hid⟩
  · refine nodup_mapI hl.nd fun a ha b hb e => ?_
    obtain ⟨i, _, h1, h2⟩ := idx_ex ho (hl.bd a ha)
    obtain ⟨j, _, h3, h4⟩ := idx_ex ho (hl.bd b hb)
    rw [h2, h4] at e
    rw [← h1, ← h3, e]
  · obtain ⟨y, hy, rfl⟩ := List.mem_map.1 hx
    obtain ⟨i, h0, _, h2⟩ := idx_ex ho (hl.bd y hy)
    rw [h2]; omega
theorem at_reP {n : Nat} {o l : List Int} (ho : isPerm n o) (hl : isPerm n l) {g : Int} (hg : 0 ≤ g ∧ g < n) : getI (atL (l.map (getI o))) (getI o g) = getI (atL l) g := by
  rw [at_idx (reP_perm ho hl) (getO_bd ho hg), at_idx hl hg]
  obtain ⟨i, h0, h1, h2⟩ := idx_ex hl hg
  have hll := hl.len
  have hi2 : i < (l.map (getI o)).length := by rw [List.length_map]; omega
  have e1 : (l.map (getI o))[i] = getI o g := by rw [List.getElem_map, ← h1, getI_nat (by omega)]
  rw [h2, ← e1, idxI, idx_get _ 0 i hi2 (reP_perm ho hl).nd]; simp
section
variable {gs gs' : List Guest} {o : List Int}
theorem rank_nm (hg : nmG o gs gs') {a : Nat} (ha : a < gs.length) : rankAt gs' (getI o a).toNat = rankAt gs a := by
  simp only [rankAt, keepsB.rankAt, hg.at_ a ha]
theorem rankB_nm (ho : isPerm gs.length o) (hg : nmG o gs gs') {l : List Int} (hl : isPerm gs.length l) : rankB gs' (atL (l.map (getI o))) = rankB gs (atL l) := by
  have e1 : ∀ (g : List Guest) (xs : List Int), rankB g xs = true ↔ ∀ a b : Nat, a < g.length → b < g.length → ¬ (getI xs a < getI xs b ∧ rankAt g a < rankAt g b) := by
    intro g xs
    rw [show rankB g xs = keepsB.rankB g xs from rfl, keepsB.rankB, List.all_eq_true]
    constructor
    · intro h1 a b ha hb ⟨h2, h3⟩
      have h4 := h1 a (List.mem_range.2 ha)
      rw [List.all_eq_true] at h4
      have h5 := h4 b (List.mem_range.2 hb)
      have h3' : keepsB.rankAt g a < keepsB.rankAt g b := h3
      simp [h2, h3'] at h5
    · intro h1 a ha
      rw [List.all_eq_true]
      intro b hb
      have h2 := h1 a b (List.mem_range.1 ha) (List.mem_range.1 hb)
      simp only [Bool.not_eq_true', Bool.and_eq_false_iff, decide_eq_false_iff_not]
      by_cases h3 : getI xs a < getI xs b
      · right; exact fun h4 => h2 ⟨h3, h4⟩
      · left; exact h3
  rw [Bool.eq_iff_iff, e1, e1, hg.len]
  have hnat : ∀ {a : Nat}, a < gs.length → (((getI o a).toNat : Nat) : Int) = getI o a ∧ (getI o a).toNat < gs.length := fun {a} ha => by
    have := getO_bd ho (g := (a : Int)) (by omega); omega
  constructor
  · intro h a b ha hb ⟨h1, h2⟩
    refine h _ _ (hnat ha).2 (hnat hb).2 ⟨?_, ?_⟩
    · rw [(hnat ha).1, (hnat hb).1, at_reP ho hl (by omega), at_reP ho hl (by omega)]; exact h1
    · rw [rank_nm hg ha, rank_nm hg hb]; exact h2
  · intro h a b ha hb ⟨h1, h2⟩
    obtain ⟨i, hi, ei, _⟩ := idx_ex ho (g := (a : Int)) (by omega)
    obtain ⟨j, hj, ej, _⟩ := idx_ex ho (g := (b : Int)) (by omega)
    refine h i j hi hj ⟨?_, ?_⟩
    · rw [← ei, ← ej, at_reP ho hl (by omega), at_reP ho hl (by omega)] at h1; exact h1
    · have ea : a = (getI o i).toNat := by omega
      have eb : b = (getI o j).toNat := by omega
      rw [ea, eb, rank_nm hg hi, rank_nm hg hj] at h2; exact h2
theorem keeps_nm (ho : isPerm gs.length o) (hg : nmG o gs gs') {l : List Int} (hl : isPerm gs.length l) {r : Rule} (hr : rOK r gs.length) : keepsB gs' (atL (l.map (getI o))) (nmR o r) = keepsB gs (atL l) r := by
  obtain ⟨k, a, b, w⟩ := r
  have hk := hr.kind
  have ha := hr.a
  have hb := hr.b
  dsimp only at hk ha hb
  have hln : (atL (l.map (getI o))).length = (atL l).length := by rw [atL_len, List.length_map, atL_len]
  have h0 : k = 1 ∨ k = 2 ∨ k = 3 ∨ k = 4 ∨ k = 5 ∨ k = 6 := by omega
  have ra : k ≠ 6 → getI (atL (l.map (getI o))) (getI o a) = getI (atL l) a := fun h6 => at_reP ho hl (ha h6)
  have rb : k ≤ 3 → getI (atL (l.map (getI o))) (getI o b) = getI (atL l) b := fun h3 => at_reP ho hl (hb h3)
  rcases h0 with rfl | rfl | rfl | rfl | rfl | rfl
  · have e1 : keepsB gs' (atL (l.map (getI o))) (nmR o ⟨1, a, b, w⟩) = decide (getI (atL (l.map (getI o))) (getI o a) < getI (atL (l.map (getI o))) (getI o b)) := rfl
    have e2 : keepsB gs (atL l) ⟨1, a, b, w⟩ = decide (getI (atL l) a < getI (atL l) b) := rfl
    rw [e1, e2, ra (by omega), rb (by omega)]
  · have e1 : keepsB gs' (atL (l.map (getI o))) (nmR o ⟨2, a, b, w⟩) = decide (max (getI (atL (l.map (getI o))) (getI o a) - getI (atL (l.map (getI o))) (getI o b)) (getI (atL (l.map (getI o))) (getI o b) - getI (atL (l.map (getI o))) (getI o a)) = 1) := rfl
    have e2 : keepsB gs (atL l) ⟨2, a, b, w⟩ = decide (max (getI (atL l) a - getI (atL l) b) (getI (atL l) b - getI (atL l) a) = 1) := rfl
    rw [e1, e2, ra (by omega), rb (by omega)]
  · have e1 : keepsB gs' (atL (l.map (getI o))) (nmR o ⟨3, a, b, w⟩) = !decide (max (getI (atL (l.map (getI o))) (getI o a) - getI (atL (l.map (getI o))) (getI o b)) (getI (atL (l.map (getI o))) (getI o b) - getI (atL (l.map (getI o))) (getI o a)) = 1) := rfl
    have e2 : keepsB gs (atL l) ⟨3, a, b, w⟩ = !decide (max (getI (atL l) a - getI (atL l) b) (getI (atL l) b - getI (atL l) a) = 1) := rfl
    rw [e1, e2, ra (by omega), rb (by omega)]
  · have e1 : keepsB gs' (atL (l.map (getI o))) (nmR o ⟨4, a, b, w⟩) = decide (getI (atL (l.map (getI o))) (getI o a) = 0) := rfl
    have e2 : keepsB gs (atL l) ⟨4, a, b, w⟩ = decide (getI (atL l) a = 0) := rfl
    rw [e1, e2, ra (by omega)]
  · have e1 : keepsB gs' (atL (l.map (getI o))) (nmR o ⟨5, a, b, w⟩) = decide (getI (atL (l.map (getI o))) (getI o a) = (atL (l.map (getI o))).length - 1) := rfl
    have e2 : keepsB gs (atL l) ⟨5, a, b, w⟩ = decide (getI (atL l) a = (atL l).length - 1) := rfl
    rw [e1, e2, ra (by omega), hln]
  · exact rankB_nm ho hg hl
theorem nmR_w (r : Rule) : (nmR o r).weight = r.weight := rfl
theorem alw_nm (ho : isPerm gs.length o) (hg : nmG o gs gs') {rs : List Rule} (hr : ∀ r ∈ rs, rOK r gs.length) {l : List Int} (hl : isPerm gs.length l) : alwB gs' (rs.map (nmR o)) (l.map (getI o)) = alwB gs rs l := by
  rw [alwB, alwB, List.all_map, Bool.eq_iff_iff, List.all_eq_true, List.all_eq_true]
  have key : ∀ r ∈ rs, (((fun r => decide (r.weight ≠ 0) || keepsB gs' (atL (l.map (getI o))) r) ∘ nmR o) r = (decide (r.weight ≠ 0) || keepsB gs (atL l) r)) := by
    intro r hm
    show (decide ((nmR o r).weight ≠ 0) || keepsB gs' (atL (l.map (getI o))) (nmR o r)) = _
    rw [nmR_w, keeps_nm ho hg hl (hr r hm)]
  exact ⟨fun h1 r hm => by rw [← key r hm]; exact h1 r hm, fun h1 r hm => by rw [key r hm]; exact h1 r hm⟩
theorem wsum_nm {p q : Rule → Bool} {f : Rule → Rule} : ∀ {rs : List Rule}, (∀ r ∈ rs, p (f r) = q r ∧ (f r).weight = r.weight) → wsum p (rs.map f) = wsum q rs
  | [], _ => rfl
  | r :: rs, h => by
    obtain ⟨h1, h2⟩ := h r (by simp)
    rw [List.map_cons, wsum, wsum, h1, h2, wsum_nm fun x hx => h x (by simp [hx])]
theorem plcF_nm {p q : Rule → Bool} {f : Rule → Rule} : ∀ {rs : List Rule} (i : Nat), (∀ r ∈ rs, p (f r) = q r) → plcF p i (rs.map f) = plcF q i rs
  | [], _, _ => rfl
  | r :: rs, i, h => by
    rw [List.map_cons, plcF, plcF, h r (by simp), plcF_nm (i + 1) fun x hx => h x (by simp [hx])]
theorem pr_nm (ho : isPerm gs.length o) (hg : nmG o gs gs') {rs : List Rule} (hr : ∀ r ∈ rs, rOK r gs.length) {l : List Int} (hl : isPerm gs.length l) : prS gs' (rs.map (nmR o)) (l.map (getI o)) = prS gs rs l :=
  wsum_nm fun r hm => ⟨by rw [keeps_nm ho hg hl (hr r hm)], rfl⟩
theorem brk_nm (ho : isPerm gs.length o) (hg : nmG o gs gs') {rs : List Rule} (hr : ∀ r ∈ rs, rOK r gs.length) {l : List Int} (hl : isPerm gs.length l) : brkL gs' (rs.map (nmR o)) (l.map (getI o)) = brkL gs rs l :=
  plcF_nm 0 fun r hm => by rw [keeps_nm ho hg hl (hr r hm)]
theorem must_nm (rs : List Rule) : mustL (rs.map (nmR o)) = mustL rs := plcF_nm 0 fun r _ => rfl
theorem mem_okN {gs : List Guest} {rs : List Rule} {l : List Int} : l ∈ okL gs rs ↔ isPerm gs.length l ∧ alwB gs rs l = true := by
  rw [show okL gs rs = (perms gs.length).filter (alwB gs rs) from rfl, List.mem_filter, mem_perms]
theorem okL_nm (ho : isPerm gs.length o) (hg : nmG o gs gs') {rs : List Rule} (hr : ∀ r ∈ rs, rOK r gs.length) : (okL gs' (rs.map (nmR o))).length = (okL gs rs).length := by
  rw [show okL gs' (rs.map (nmR o)) = (perms gs'.length).filter (alwB gs' (rs.map (nmR o))) from rfl, hg.len]
  exact count_bij (List.map (getI o)) (fun l h => reP_perm ho h) (fun a b ha hb e => reP_inj ho ha.bd hb.bd e) (fun l h => reP_onto ho h) _ _ fun l h => alw_nm ho hg hr h
theorem hit_nm (ho : isPerm gs.length o) (hg : nmG o gs gs') {rs : List Rule} (hr : ∀ r ∈ rs, rOK r gs.length) : hitB gs' (rs.map (nmR o)) = hitB gs rs := by
  funext s
  rw [Bool.eq_iff_iff, hitB, hitB, List.all_eq_true, List.all_eq_true, hg.len]
  constructor
  · intro h l hl
    have := h _ (mem_perms.2 (reP_perm ho (mem_perms.1 hl)))
    rwa [brk_nm ho hg hr (mem_perms.1 hl)] at this
  · intro h l' hl'
    obtain ⟨l, hl, rfl⟩ := reP_onto ho (mem_perms.1 hl')
    rw [brk_nm ho hg hr hl]; exact h l (mem_perms.2 hl)
theorem cf_nm (ho : isPerm gs.length o) (hg : nmG o gs gs') {rs : List Rule} (hr : ∀ r ∈ rs, rOK r gs.length) (h1 : pErr gs rs = 0) (h2 : pErr gs' (rs.map (nmR o)) = 0) : cfP gs' (rs.map (nmR o)) = cfP gs rs := by
  have hl := okL_nm ho hg hr
  have he : okL gs' (rs.map (nmR o)) = [] ↔ okL gs rs = [] := by rw [← List.length_eq_zero_iff, hl, List.length_eq_zero_iff]
  rw [cfP, cfP, if_pos h1, if_pos h2, must_nm, hit_nm ho hg hr]
  by_cases h : okL gs rs = []
  · rw [if_pos h, if_pos (he.2 h)]
  · rw [if_neg h, if_neg fun h' => h (he.1 h')]
theorem nm_mem (ho : isPerm gs.length o) (hg : nmG o gs gs') {k : Nat} (hk : k < gs'.length) : ∃ j : Nat, ∃ hj : j < gs.length, getI o j = k ∧ gs'[k] = gs[j] := by
  obtain ⟨j, hj, e, _⟩ := idx_ex ho (g := (k : Int)) (by have := hg.len; omega)
  refine ⟨j, hj, e, ?_⟩
  have h := hg.at_ j hj
  rw [e, Int.toNat_natCast, List.getElem?_eq_getElem hk, List.getElem?_eq_getElem hj] at h
  exact Option.some.inj h
theorem rErr_nm (ho : isPerm gs.length o) {r : Rule} (h : rErr r gs.length = 0) : rErr (nmR o r) gs.length = 0 := by
  have hi := rErr_inv h
  obtain ⟨k, a, b, w⟩ := r
  obtain ⟨h1, h2, h3, h4, h5, h6⟩ := hi
  have hn := nmV_bd k
  dsimp only at h1 h2 h3 h4 h5 h6
  show rErr ⟨k, if 0 < nmV k then getI o a else a, if nmV k = 2 then getI o b else b, w⟩ _ = 0
  refine rErr_mk h1 (fun h => ?_) (fun h => ?_) (fun h => ?_) (fun h => ?_) h6
  · rw [if_pos (by omega)]; exact getO_bd ho (h2 h)
  · rw [if_neg (by omega)]; exact h3 h
  · obtain ⟨b1, b2, b3⟩ := h4 h
    have := getO_bd ho ⟨b1, b2⟩
    rw [if_pos h, if_pos (by omega)]
    exact ⟨this.1, this.2, fun e => b3 (getI_inj ho (h2 (by omega)) ⟨b1, b2⟩ e)⟩
  · rw [if_neg h]; exact h5 h
theorem pErr_nm (ho : isPerm gs.length o) (hg : nmG o gs gs') (hm : madeG gs) {rs : List Rule} (h1 : 1 ≤ gs.length) (h7 : gs.length ≤ 7) (hr : rs.length ≤ 12) (h : ∀ r ∈ rs, rErr r gs.length = 0) : pErr gs' (rs.map (nmR o)) = 0 ∧ ∀ x ∈ gs', x.name.size ≤ 8 := by
  have hmem : ∀ x ∈ gs', x ∈ gs := fun x hx => by
    obtain ⟨k, hk, rfl⟩ := List.getElem_of_mem hx
    obtain ⟨j, hj, _, e⟩ := nm_mem ho hg hk
    rw [e]; exact List.getElem_mem _
  have hnd : (gs.map (·.name)).Nodup := by rw [hm.1]; exact (List.take_sublist _ _).nodup guestNs_ok.1
  have hge : gsErr [] gs' = 0 := by
    refine gsErr_zero (fun x hx => gsErr_each (madeG_ok hm).1 x (hmem x hx)) ?_
    rw [List.nil_append, List.nodup_iff_pairwise_ne, List.pairwise_map, List.pairwise_iff_getElem]
    intro i j hi hj hij e
    obtain ⟨a, ha, ea, e1⟩ := nm_mem ho hg hi
    obtain ⟨b, hb, eb, e2⟩ := nm_mem ho hg hj
    rw [e1, e2] at e
    have e' : (gs.map (·.name))[a]'(by simpa using ha) = (gs.map (·.name))[b]'(by simpa using hb) := by simpa using e
    have := (List.getElem_inj hnd).1 e'
    subst this; omega
  refine ⟨?_, fun x hx => (madeG_ok hm).2 x (hmem x hx)⟩
  have := hg.len
  rw [pErr, if_neg (by omega), if_neg (by omega), if_pos hge, if_neg (by rw [List.length_map]; omega), hg.len]
  refine rsErr_all fun r hr' => ?_
  obtain ⟨x, hx, rfl⟩ := List.mem_map.1 hr'
  exact rErr_nm ho (h x hx)
end
end Go.Abs
