/- A part of the proofs of the laws of this seat: contracts of the functions that they reach, each proved of the program's form in Lean. No condition beyond those that each contract names. -/
import Derived.Test.YtmekfgjlcaonjaaC2
import Derived.Test.YtmekfgjlcaonjaaC1
import Derived.Test.YtmekfgjlcaonjaaB
set_option linter.unusedVariables false
set_option linter.unusedSimpArgs false
set_option maxRecDepth 20000
set_option maxHeartbeats 4000000
namespace Go.Abs
/-- Whether an order's links follow one another; the least days; whether there are days. -/
def linkB (ls : List Lnk) : Int → List Int → Bool
  | _, [] => true
  | h, i :: r => decide ((lkAt ls i).f = h) && linkB ls (lkAt ls i).t r
def leB (ls : List Lnk) : Int → List Int → List Int
  | _, [] => []
  | d, i :: r => max (lkAt ls i).lo (d + 1) :: leB ls (max (lkAt ls i).lo (d + 1)) r
def fitB (ls : List Lnk) : Int → List Int → Bool
  | _, [] => true
  | d, i :: r => decide (max (lkAt ls i).lo (d + 1) ≤ (lkAt ls i).hi) && fitB ls (max (lkAt ls i).lo (d + 1)) r
theorem tcand_flat {β : Type} {ls : List Lnk} {o : List Int} {last h : Int} (g : Int × Int × Int → List β) : ∀ (l : List Lnk) (s : Nat), ls.drop s = l →
    (tcand o last h s l).flatMap g = (candF o l.length s).flatMap fun i => if (lkAt ls i).f = h ∧ max (lkAt ls i).lo (last + 1) ≤ (lkAt ls i).hi then g (i, max (lkAt ls i).lo (last + 1), (lkAt ls i).t) else []
  | [], _, _ => rfl
  | x :: l, s, hd => by
    have ih := tcand_flat (o := o) (last := last) (h := h) g l (s + 1) (by rw [← List.drop_drop, hd]; rfl)
    have hx : lkAt ls (s : Int) = x := by
      have : ls[s]? = some x := by rw [← List.head?_drop, hd]; rfl
      simp [lkAt, this]
    simp only [tcand, List.length_cons, candF]
    by_cases h1 : 0 ≤ idxI o s
    · rw [if_pos (.inr (.inr h1)), if_pos h1, ih]
    · rw [if_neg h1, List.flatMap_cons, hx]
      by_cases h2 : x.f = h ∧ max x.lo (last + 1) ≤ x.hi
      · rw [if_pos h2, if_neg (by intro h3; rcases h3 with h3 | h3 | h3; exact h3 h2.1; omega; exact h1 h3), List.flatMap_cons, ih]
      · rw [if_neg h2, if_pos (by
          by_cases h3 : x.f = h
          · exact .inr (.inl (by have := fun h4 => h2 ⟨h3, h4⟩; omega))
          · exact .inl h3), ih, List.nil_append]
theorem permsK_pfx {n : Nat} : ∀ {k : Nat} {o m : List Int}, m ∈ permsK n k o → m = o ++ m.drop o.length
  | 0, o, m, h => by simp [permsK] at h; subst h; simp
  | k + 1, o, m, h => by
    simp only [permsK, List.mem_flatMap] at h
    obtain ⟨g, _, h⟩ := h
    have := permsK_pfx h
    rw [this]
    simp
theorem permsK_dropc {n k : Nat} {o m : List Int} {i : Int} (h : m ∈ permsK n k (o ++ [i])) : m.drop o.length = i :: m.drop (o ++ [i]).length := by
  have h1 := permsK_pfx h
  generalize m.drop (o ++ [i]).length = q at *
  rw [h1]
  simp
theorem flatMap_congr' {α β : Type} {f g : α → List β} {l : List α} (h : ∀ x ∈ l, f x = g x) : l.flatMap f = l.flatMap g := by
  induction l with
  | nil => rfl
  | cons a l ih => rw [List.flatMap_cons, List.flatMap_cons, h a (by simp), ih fun x hx => h x (by simp [hx])]
/-- The tales that begin so are the orders, filtered. -/
theorem talesK_perms (ls : List Lnk) : ∀ (k : Nat) (o le : List Int) (h : Int),
    talesK ls k o le h = ((permsK ls.length k o).filter fun m => linkB ls h (m.drop o.length) && fitB ls (lastI le) (m.drop o.length)).map fun m => (m, le ++ leB ls (lastI le) (m.drop o.length))
  | 0, o, le, h => by simp [talesK, permsK, linkB, fitB, leB]
  | k + 1, o, le, h => by
    rw [talesK, tcand_flat (fun x => talesK ls k (o ++ [x.1]) (le ++ [x.2.1]) x.2.2) ls 0 rfl, permsK, List.filter_flatMap, List.map_flatMap]
    refine flatMap_congr' fun i _ => ?_
    dsimp only
    have hd : ∀ m ∈ permsK ls.length k (o ++ [i]), m.drop o.length = i :: m.drop (o ++ [i]).length := fun m hm => permsK_dropc hm
    by_cases hc : (lkAt ls i).f = h ∧ max (lkAt ls i).lo (lastI le + 1) ≤ (lkAt ls i).hi
    · rw [if_pos hc, talesK_perms ls k, lastI_snoc]
      rw [List.filter_congr (q := fun m => linkB ls (lkAt ls i).t (m.drop (o ++ [i]).length) && fitB ls (max (lkAt ls i).lo (lastI le + 1)) (m.drop (o ++ [i]).length)) (l := permsK ls.length k (o ++ [i])) (p := fun m => linkB ls h (m.drop o.length) && fitB ls (lastI le) (m.drop o.length))]
      · refine List.map_congr_left fun m hm => ?_
        rw [hd m (List.mem_filter.1 hm).1, leB, List.append_assoc]; rfl
      · intro m hm
        rw [hd m hm, linkB, fitB, decide_eq_true hc.1, decide_eq_true hc.2, Bool.true_and, Bool.true_and]
    · rw [if_neg hc]
      symm
      rw [List.map_eq_nil_iff, List.filter_eq_nil_iff]
      intro m hm
      rw [hd m hm, linkB, fitB]
      by_cases h1 : (lkAt ls i).f = h
      · rw [decide_eq_false (fun h2 => hc ⟨h1, h2⟩)]; simp
      · rw [decide_eq_false h1]; simp
/-- The orders that have a tale. -/
def okO (c : Chn) (m : List Int) : Bool := linkB c.ls c.maker m && fitB c.ls c.lo m
def leO (c : Chn) (m : List Int) : List Int := c.lo :: leB c.ls c.lo m
theorem talesF_perms (c : Chn) : talesF c = ((permsK c.ls.length c.ls.length []).filter (okO c)).map fun m => (m, leO c m) := by
  rw [talesF, talesK_perms]
  rfl
def leqL : List Int → List Int → Prop
  | [], [] => True
  | a :: r, b :: t => a ≤ b ∧ leqL r t
  | _, _ => False
theorem leqL.get : ∀ {l m : List Int}, leqL l m → ∀ j : Nat, getI l j ≤ getI m j
  | [], [], _, j => Int.le_refl _
  | a :: r, b :: t, h, 0 => h.1
  | a :: r, b :: t, h, j + 1 => leqL.get h.2 j
  | [], _ :: _, h, _ => h.elim
  | _ :: _, [], h, _ => h.elim
theorem leqL.len : ∀ {l m : List Int}, leqL l m → l.length = m.length
  | [], [], _ => rfl
  | a :: r, b :: t, h => by simp [leqL.len h.2]
  | [], _ :: _, h => h.elim
  | _ :: _, [], h => h.elim
theorem leqL.refl : ∀ l : List Int, leqL l l
  | [] => trivial
  | a :: l => ⟨Int.le_refl _, leqL.refl l⟩
theorem leqL.trans : ∀ {l m k : List Int}, leqL l m → leqL m k → leqL l k
  | [], [], [], _, _ => trivial
  | a :: l, b :: m, c :: k, h, g => ⟨Int.le_trans h.1 g.1, leqL.trans h.2 g.2⟩
  | [], [], _ :: _, _, g => g.elim
  | [], _ :: _, _, h, _ => h.elim
  | _ :: _, [], _, h, _ => h.elim
  | _ :: _, _ :: _, [], _, g => g.elim
/-- Days of an order's links, behind a day. -/
def dayd (ls : List Lnk) : Int → List Int → List Int → Prop
  | _, [], [] => True
  | d, i :: r, x :: xs => d < x ∧ (lkAt ls i).lo ≤ x ∧ x ≤ (lkAt ls i).hi ∧ dayd ls x r xs
  | _, _, _ => False
/-- A story's days. -/
def Story (c : Chn) (o : List Int) : List Int → Prop
  | [] => False
  | d :: ds => c.lo ≤ d ∧ d ≤ c.hi ∧ dayd c.ls d o ds
theorem dayd_fit {ls : List Lnk} : ∀ {d e : Int} {o xs : List Int}, dayd ls d o xs → e ≤ d → fitB ls e o = true ∧ leqL (leB ls e o) xs
  | _, _, [], [], _, _ => ⟨rfl, trivial⟩
  | d, e, i :: r, x :: xs, ⟨h1, h2, h3, h4⟩, h => by
    have hm : max (lkAt ls i).lo (e + 1) ≤ x := by omega
    have := dayd_fit h4 hm
    exact ⟨by rw [fitB, this.1, decide_eq_true (by omega)]; rfl, hm, this.2⟩
  | _, _, [], _ :: _, h, _ => h.elim
  | _, _, _ :: _, [], h, _ => h.elim
theorem fit_dayd {ls : List Lnk} : ∀ {d : Int} {o : List Int}, fitB ls d o = true → dayd ls d o (leB ls d o)
  | _, [], _ => trivial
  | d, i :: r, h => by
    rw [fitB, Bool.and_eq_true, decide_eq_true_eq] at h
    exact ⟨by omega, by omega, h.1, fit_dayd h.2⟩
abbrev hisO (ls : List Lnk) (o : List Int) : List Int := o.map fun i => (lkAt ls i).hi
theorem dayd_lat {ls : List Lnk} : ∀ {d : Int} {o xs : List Int}, dayd ls d o xs → d ≤ 100000 → (∀ i ∈ o, (lkAt ls i).hi ≤ 100000) → d ≤ (latB (hisO ls o)).1 - 1 ∧ leqL xs (latB (hisO ls o)).2
  | d, [], [], _, h, _ => ⟨by simp [latB]; omega, trivial⟩
  | d, i :: r, x :: xs, ⟨h1, h2, h3, h4⟩, h, hh => by
    have hi := hh i (by simp)
    have := dayd_lat h4 (by omega) fun j hj => hh j (by simp [hj])
    simp only [hisO, List.map_cons, latB] at this ⊢
    exact ⟨by omega, by omega, this.2⟩
  | _, [], _ :: _, h, _, _ => h.elim
  | _, _ :: _, [], h, _, _ => h.elim
theorem lat_dayd {ls : List Lnk} : ∀ {d e : Int} {o xs : List Int}, dayd ls d o xs → (∀ i ∈ o, (lkAt ls i).hi ≤ 100000) → e ≤ (latB (hisO ls o)).1 - 1 → dayd ls e o (latB (hisO ls o)).2
  | d, e, [], [], _, _, _ => trivial
  | d, e, i :: r, x :: xs, ⟨h1, h2, h3, h4⟩, hh, he => by
    have hi := hh i (by simp)
    have hx := dayd_lat h4 (by omega) fun j hj => hh j (by simp [hj])
    have ih := fun he => lat_dayd (e := min (lkAt ls i).hi ((latB (hisO ls r)).1 - 1)) h4 (fun j hj => hh j (by simp [hj])) he
    simp only [hisO, List.map_cons, latB] at he hx ih ⊢
    exact ⟨by omega, by omega, by omega, ih (by omega)⟩
  | _, _, [], _ :: _, h, _, _ => h.elim
  | _, _, _ :: _, [], h, _, _ => h.elim
structure DaysOK (c : Chn) : Prop where
  m : c.lo ≤ c.hi ∧ c.hi ≤ 100000
  h : ∀ l ∈ c.ls, l.hi ≤ 100000
theorem DaysOK.at {c : Chn} (h : DaysOK c) (i : Int) : (lkAt c.ls i).hi ≤ 100000 := by
  unfold lkAt
  cases hi : c.ls[i.toNat]? with
  | none => simp
  | some l => exact h.h l (List.mem_of_getElem? hi)
theorem story_bd {c : Chn} (ok : DaysOK c) {o ds : List Int} (h : Story c o ds) : fitB c.ls c.lo o = true ∧ leqL (leO c o) ds ∧ leqL ds (latF c o) := by
  cases ds with
  | nil => exact h.elim
  | cons d ds =>
    obtain ⟨h1, h2, h3⟩ := h
    have hf := dayd_fit h3 h1
    have hl := dayd_lat h3 (by have := ok.m; omega) fun i _ => ok.at i
    exact ⟨hf.1, ⟨h1, hf.2⟩, ⟨by have := hl.1; simp only [hisO] at this; show d ≤ min c.hi _; omega, hl.2⟩⟩
theorem story_le {c : Chn} (ok : DaysOK c) {o : List Int} (h : fitB c.ls c.lo o = true) : Story c o (leO c o) := ⟨Int.le_refl _, ok.m.1, fit_dayd h⟩
theorem story_lat {c : Chn} (ok : DaysOK c) {o : List Int} (h : fitB c.ls c.lo o = true) : Story c o (latF c o) := by
  have h1 := fit_dayd h
  have hl := dayd_lat h1 (by have := ok.m; omega) fun i _ => ok.at i
  have := ok.m
  exact ⟨by show c.lo ≤ min c.hi _; have := hl.1; simp only [hisO] at this; omega, by show min c.hi _ ≤ c.hi; omega, lat_dayd h1 (fun i _ => ok.at i) (by show min c.hi _ ≤ _; simp only [hisO]; omega)⟩
theorem le_lat {c : Chn} (ok : DaysOK c) {o : List Int} (h : fitB c.ls c.lo o = true) : leqL (leO c o) (latF c o) := (story_bd ok (story_le ok h)).2.2
theorem tale_iff {c : Chn} {x : List Int × List Int} : x ∈ talesF c ↔ x.1 ∈ permsK c.ls.length c.ls.length [] ∧ okO c x.1 = true ∧ x.2 = leO c x.1 := by
  rw [talesF_perms, List.mem_map]
  constructor
  · rintro ⟨m, hm, rfl⟩
    exact ⟨(List.mem_filter.1 hm).1, (List.mem_filter.1 hm).2, rfl⟩
  · rintro ⟨h1, h2, h3⟩
    exact ⟨x.1, List.mem_filter.2 ⟨h1, h2⟩, by rw [← h3]⟩
end Go.Abs
