/- A part of the proofs of the laws of this seat: contracts of the functions that they reach, each proved of the program's form in Lean. No condition beyond those that each contract names. -/
import Derived.Test.YtcgcciegekaliaaB0
import Derived.Test.YtcgcciegekaliaaB8
import Derived.Test.YtcgcciegekaliaaB9
import Derived.Test.YtcgcciegekaliaaB10
import Derived.Test.YtcgcciegekaliaaB11
import Derived.Test.YtcgcciegekaliaaB12
import Derived.Test.YtcgcciegekaliaaB16
import Derived.Test.YtcgcciegekaliaaB20
import Derived.Test.YtcgcciegekaliaaB34a
import Derived.Test.YtcgcciegekaliaaB37
import Derived.Test.YtcgcciegekaliaaB41
import Derived.Test.YtcgcciegekaliaaB41a
set_option linter.unusedVariables false
set_option linter.unusedSimpArgs false
set_option maxRecDepth 20000
set_option maxHeartbeats 4000000
/-! ### Rules that exclude each other: the plain law -/
namespace Go.Abs
open Go.Proofs
/-- The next part of a set, downwards. -/
theorem sub_next : ∀ (s m t : Nat), s &&& m = s → t &&& m = t → t < s → t ≤ (s - 1) &&& m := by
  intro s
  induction s using Nat.strongRecOn with
  | _ s ih =>
    intro m t hs ht h
    have hs2 : s / 2 &&& m / 2 = s / 2 := by rw [← Nat.and_div_two, hs]
    have ht2 : t / 2 &&& m / 2 = t / 2 := by rw [← Nat.and_div_two, ht]
    have hsm : s % 2 = 1 → m % 2 = 1 := fun h1 => by rw [← hs] at h1; exact (Nat.and_mod_two_eq_one.1 h1).2
    have htm : t % 2 = 1 → m % 2 = 1 := fun h1 => by rw [← ht] at h1; exact (Nat.and_mod_two_eq_one.1 h1).2
    have hd : ((s - 1) &&& m) / 2 = (s - 1) / 2 &&& m / 2 := Nat.and_div_two
    have hm : ((s - 1) &&& m) % 2 = 1 ↔ (s - 1) % 2 = 1 ∧ m % 2 = 1 := Nat.and_mod_two_eq_one
    by_cases h1 : s % 2 = 1
    · have e : (s - 1) / 2 = s / 2 := by omega
      rw [e, hs2] at hd
      omega
    · have e : (s - 1) / 2 = s / 2 - 1 := by omega
      rw [e] at hd
      have := ih (s / 2) (by omega) (m / 2) (t / 2) hs2 ht2 (by omega)
      by_cases h2 : t % 2 = 1
      · have := htm h2
        have : ((s - 1) &&& m) % 2 = 1 := hm.2 ⟨by omega, this⟩
        omega
      · omega
theorem sub_le {t m : Nat} (h : t &&& m = t) : t ≤ m := by rw [← h]; exact Nat.and_le_right
abbrev mustL (rs : List Rule) : List Int := plcF (fun r => decide (r.weight = 0)) 0 rs
abbrev brkL (gs : List Guest) (rs : List Rule) (o : List Int) : List Int := plcF (fun r => !keepsB gs (atL o) r) 0 rs
/-- Whether two lists have a number in common. -/
def metB (a b : List Int) : Bool := a.any fun i => decide (i ∈ b)
/-- Whether each order breaks one of these rules. -/
def hitB (gs : List Guest) (rs : List Rule) (s : List Int) : Bool := (perms gs.length).all fun o => metB s (brkL gs rs o)
/-- The fewest rules of which each order breaks one. -/
structure Cnf (gs : List Guest) (rs : List Rule) (l : List Int) : Prop where
  sub : List.Sublist l (mustL rs)
  hit : hitB gs rs l = true
  least : ∀ y, List.Sublist y (mustL rs) → hitB gs rs y = true → 0 ≤ lsI y l
theorem Cnf.unique {gs : List Guest} {rs : List Rule} {l l' : List Int} (h : Cnf gs rs l) (h' : Cnf gs rs l') : l = l' := by
  have h1 := h.least _ h'.sub h'.hit
  have h2 := h'.least _ h.sub h.hit
  rw [lsI_anti l l'] at h1
  exact lsI_eq.1 (by omega)
theorem must_members (rs : List Rule) (h : rs.length ≤ 12) : membersL (mustN rs) = mustL rs := members_bits _ _ (by omega)
theorem brk_members (gs : List Guest) (rs : List Rule) (o : List Int) (h : rs.length ≤ 12) : membersL (brk gs rs o) = brkL gs rs o := members_bits _ _ (by omega)
theorem mustL_lt (rs : List Rule) (h : rs.length ≤ 12) : (mustL rs).Pairwise (· < ·) := by
  rw [← must_members rs h]; exact bits_lt _ _
theorem mem_mustN {rs : List Rule} (h : rs.length ≤ 12) {k : Nat} : (k : Int) ∈ mustL rs ↔ (mustN rs).testBit k = true := by
  rw [← must_members rs h]
  have := mem_members (Nat.lt_trans (mustN_lt rs) (pow62 h)) (x := (k : Int)) (by omega)
  simpa using this
/-- A part of a set, as a list. -/
theorem sub_list {rs : List Rule} (h : rs.length ≤ 12) {t : Nat} (ht : t &&& mustN rs = t) : List.Sublist (membersL t) (mustL rs) := by
  have h62 : t < 2 ^ 62 := Nat.lt_of_le_of_lt (sub_le ht) (Nat.lt_trans (mustN_lt rs) (pow62 h))
  refine sorted_sub (mustL_lt rs h) (bits_lt _ _) fun x hx => ?_
  obtain ⟨k, rfl, _, hk⟩ := mem_bits.1 hx
  rw [mem_mustN h]
  rw [← ht, Nat.testBit_and, Bool.and_eq_true] at hk
  exact hk.2
theorem list_sub {rs : List Rule} (h : rs.length ≤ 12) {l : List Int} (hl : List.Sublist l (mustL rs)) : ∃ t, t &&& mustN rs = t ∧ membersL t = l := by
  have hi : inc rs.length l := by
    refine ⟨(mustL_lt rs h).sublist hl, fun x hx => ?_⟩
    have := hl.subset hx
    have := plcF_mem _ rs 0 this
    omega
  obtain ⟨t, h1, h2⟩ := members_onto (by omega) hi
  refine ⟨t, Nat.eq_of_testBit_eq fun k => ?_, h2⟩
  rw [Nat.testBit_and]
  cases hk : t.testBit k with
  | false => rfl
  | true =>
    have h62 : t < 2 ^ 62 := Nat.lt_trans h1 (pow62 h)
    have hm := (mem_members h62 (x := (k : Int)) (by omega)).2 (by simpa using hk)
    rw [h2] at hm
    rw [(mem_mustN h).1 (hl.subset hm)]; rfl
theorem and_met {a b : Nat} (ha : a < 2 ^ 62) (hb : b < 2 ^ 62) : (a &&& b ≠ 0) ↔ metB (membersL b) (membersL a) = true := by
  unfold metB
  rw [List.any_eq_true]
  constructor
  · intro h
    obtain ⟨k, hk⟩ := Nat.exists_testBit_of_ne_zero h
    rw [Nat.testBit_and, Bool.and_eq_true] at hk
    exact ⟨k, (mem_members hb (by omega)).2 (by simpa using hk.2), decide_eq_true ((mem_members ha (by omega)).2 (by simpa using hk.1))⟩
  · rintro ⟨i, hi, hd⟩ h0
    have hi2 := of_decide_eq_true hd
    obtain ⟨k, rfl, _, hk⟩ := mem_bits.1 hi
    have hk2 := (mem_members ha (by omega)).1 hi2
    have : (a &&& b).testBit k = true := by rw [Nat.testBit_and, hk, Bool.and_true]; simpa using hk2
    rw [h0] at this; simp at this
/-- What an order breaks, and a part of what must be kept. -/
theorem brk_met (gs : List Guest) {rs : List Rule} (h : rs.length ≤ 12) (o : List Int) {t : Nat} (ht : t &&& mustN rs = t) : ((brk gs rs o &&& mustN rs) &&& t ≠ 0) ↔ metB (membersL t) (brkL gs rs o) = true := by
  have h62 : t < 2 ^ 62 := Nat.lt_of_le_of_lt (sub_le ht) (Nat.lt_trans (mustN_lt rs) (pow62 h))
  rw [Nat.and_assoc, Nat.and_comm (mustN rs) t, ht, and_met (Nat.lt_trans (brk_lt gs rs o) (pow62 h)) h62]
  rw [brk_members gs rs o h]
theorem perms_ne (n : Nat) : perms n ≠ [] := by
  have h : numsL n ∈ perms n := mem_perms.2 ⟨by simp, by
    have := numsL_lt n
    exact this.imp fun h => by omega, fun x hx => mem_numsL.1 hx⟩
  intro hc; rw [hc] at h; cases h
/-- The answer: the rules, and the error. -/
def cfP (gs : List Guest) (rs : List Rule) : List Int × Int :=
  if pErr gs rs = 0 then (if okL gs rs = [] then (((chs (mustL rs) (mustL rs).length).find? (hitB gs rs)).getD [], 0) else ([], 7)) else ([], pErr gs rs)
theorem hit_ne {gs : List Guest} {rs : List Rule} {s : List Int} (h : hitB gs rs s = true) : s ≠ [] := by
  rintro rfl
  obtain ⟨o, ho⟩ := List.exists_mem_of_ne_nil _ (perms_ne gs.length)
  have := List.all_eq_true.1 h o ho
  simp [metB] at this
theorem Cnf.chs {gs : List Guest} {rs : List Rule} (h12 : rs.length ≤ 12) {l : List Int} (h : Cnf gs rs l) : (chs (mustL rs) (mustL rs).length).find? (hitB gs rs) = some l := by
  have hs := chs_sorted (mustL_lt rs h12) (mustL rs).length
  have hm : ∀ {y}, List.Sublist y (mustL rs) → y ≠ [] → y ∈ Go.Abs.chs (mustL rs) (mustL rs).length := fun {y} hy hn => by
    rw [chs_mem]
    exact ⟨by cases y <;> simp at hn ⊢, hy.length_le, chK_all hy⟩
  have hl := hm h.sub (hit_ne h.hit)
  cases hf : (Go.Abs.chs (mustL rs) (mustL rs).length).find? (hitB gs rs) with
  | none => exact absurd h.hit (by have := List.find?_eq_none.1 hf l hl; simpa using this)
  | some f =>
    congr 1
    obtain ⟨hhit, pre, post, hsp, hpre⟩ := List.find?_eq_some_iff_append.1 hf
    have hfm : f ∈ Go.Abs.chs (mustL rs) (mustL rs).length := by rw [hsp]; simp
    have hle := h.least f (chK_sub (chs_mem.1 hfm).2.2) hhit
    rw [hsp] at hl hs
    rcases List.mem_append.1 hl with h1 | h1
    · have := hpre l h1; rw [h.hit] at this; simp at this
    · rcases List.mem_cons.1 h1 with rfl | h1
      · rfl
      · have := (List.pairwise_cons.1 (List.pairwise_append.1 hs).2.1).1 l h1
        omega
theorem cfP_ok {gs : List Guest} {rs : List Rule} (hp : pErr gs rs = 0) (h12 : rs.length ≤ 12) (h0 : okL gs rs = []) {l : List Int} (h : Cnf gs rs l) : cfP gs rs = (l, 0) := by
  rw [cfP, if_pos hp, if_pos h0, h.chs h12]; rfl
theorem plcF_len (p : Rule → Bool) (rs : List Rule) : (plcF p 0 rs).length ≤ rs.length := by
  rw [plcF_filter, List.length_map]
  have := List.length_filter_le (fun k => ((rs[k - 0]?).map p).getD false) (List.range' 0 rs.length)
  rwa [List.length_range'] at this
theorem must_hit {gs : List Guest} {rs : List Rule} (h12 : rs.length ≤ 12) (hok : okL gs rs = []) : hitB gs rs (mustL rs) = true := by
  have hself : mustN rs &&& mustN rs = mustN rs := Nat.and_self _
  rw [← must_members rs h12, hitB, List.all_eq_true]
  intro o ho
  rw [← brk_met gs h12 o hself, Nat.and_assoc, hself]
  intro hz
  have : o ∈ okL gs rs := List.mem_filter.2 ⟨ho, (must_alw gs rs o).1 hz⟩
  rw [hok] at this; cases this
theorem cfP_cnf {gs : List Guest} {rs : List Rule} (hp : pErr gs rs = 0) (h12 : rs.length ≤ 12) (hok : okL gs rs = []) : ∃ l, Cnf gs rs l ∧ cfP gs rs = (l, 0) := by
  have hmh := must_hit h12 hok
  have hs := chs_sorted (mustL_lt rs h12) (mustL rs).length
  have hm : ∀ {y}, List.Sublist y (mustL rs) → y ≠ [] → y ∈ Go.Abs.chs (mustL rs) (mustL rs).length := fun {y} hy hn => by
    rw [chs_mem]
    exact ⟨by cases y <;> simp at hn ⊢, hy.length_le, chK_all hy⟩
  cases hf : (chs (mustL rs) (mustL rs).length).find? (hitB gs rs) with
  | none => exact absurd hmh (by have := List.find?_eq_none.1 hf _ (hm (List.Sublist.refl _) (hit_ne hmh)); simpa using this)
  | some f =>
    obtain ⟨hhit, pre, post, hsp, hpre⟩ := List.find?_eq_some_iff_append.1 hf
    have hfm : f ∈ Go.Abs.chs (mustL rs) (mustL rs).length := by rw [hsp]; simp
    refine ⟨f, ⟨chK_sub (chs_mem.1 hfm).2.2, hhit, fun y hy hyh => ?_⟩, by rw [cfP, if_pos hp, if_pos hok, hf]; rfl⟩
    have hym := hm hy (hit_ne hyh)
    rw [hsp] at hym hs
    rcases List.mem_append.1 hym with h1 | h1
    · have := hpre y h1; rw [hyh] at this; simp at this
    · rcases List.mem_cons.1 h1 with rfl | h1
      · rw [lsI_eq.2 rfl]; exact Int.le_refl _
      · have := (List.pairwise_cons.1 (List.pairwise_append.1 hs).2.1).1 y h1
        rw [lsI_anti f y]; omega
/-- A list as a function hands it back: nil, or with numbers. -/
def lsV : List Int → AV
  | [] => .nsl
  | l => .slc 1 (iR l) .non
theorem lsV_sub : ∀ l, Sub (lsV l) (.slc 1 (iR l) .non)
  | [] => Sub.nil
  | _ :: _ => Sub.refl _
theorem lsV_ne {l : List Int} (h : l ≠ []) : lsV l = .slc 1 (iR l) .non := by cases l <;> first | rfl | exact absurd rfl h
end Go.Abs
