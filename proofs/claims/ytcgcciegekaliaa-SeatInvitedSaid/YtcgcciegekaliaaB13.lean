/- A part of the proofs of the laws of this seat: contracts of the functions that they reach, each proved of the program's form in Lean. No condition beyond those that each contract names. -/
import Derived.Test.YtcgcciegekaliaaB4
import Derived.Test.YtcgcciegekaliaaB0
import Derived.Test.YtcgcciegekaliaaB6
import Derived.Test.YtcgcciegekaliaaB5
import Derived.Test.YtcgcciegekaliaaB7
import Derived.Test.YtcgcciegekaliaaB12
import Derived.Test.YtcgcciegekaliaaB8
set_option linter.unusedVariables false
set_option linter.unusedSimpArgs false
set_option maxRecDepth 20000
set_option maxHeartbeats 4000000
/-! ### The chapter's examples; SeatMenu -/
namespace Go.Abs
open Go.Proofs
/-- aloeswood/aloeswoodlaw08.three -/
def ir61 : IFn :=
  ⟨10, [(0, some (2, true))], (.seq (.ops [⟨(some 0), none, (.new [.nsl, .nsl])⟩])
  (.seq (.ops [⟨(some 1), none, (.bld [(.str ByteArray.empty), (.int .i64 0), (.int .i64 0), (.int .i64 0), (.int .i64 0)] [(0, 1, (.k (.str ⟨#[97, 110, 110]⟩))), (1, 1, (.k (.int .i64 3))), (2, 1, (.k (.int .i64 5)))])⟩,
    ⟨(some 2), none, (.bld [(.str ByteArray.empty), (.int .i64 0), (.int .i64 0), (.int .i64 0), (.int .i64 0)] [(0, 1, (.k (.str ⟨#[98, 111, 98]⟩))), (1, 1, (.k (.int .i64 1))), (2, 1, (.k (.int .i64 5)))])⟩,
    ⟨(some 3), none, (.bld [(.str ByteArray.empty), (.int .i64 0), (.int .i64 0), (.int .i64 0), (.int .i64 0)] [(0, 1, (.k (.str ⟨#[99, 105, 100]⟩))), (1, 1, (.k (.int .i64 2))), (2, 1, (.k (.int .i64 5)))])⟩,
    ⟨(some 4), none, (.bsl 5 [[(.str ByteArray.empty), (.int .i64 0), (.int .i64 0), (.int .i64 0), (.int .i64 0)], [(.str ByteArray.empty), (.int .i64 0), (.int .i64 0), (.int .i64 0), (.int .i64 0)], [(.str ByteArray.empty), (.int .i64 0), (.int .i64 0), (.int .i64 0), (.int .i64 0)]] [(0, (.t 1)), (1, (.t 2)), (2, (.t 3))])⟩,
    ⟨(some 5), none, (.bld [(.int .i64 0), (.int .i64 0), (.int .i64 0), (.int .i64 0)] [(0, 1, (.k (.int .i64 6))), (3, 1, (.k (.int .i64 10)))])⟩,
    ⟨(some 6), none, (.bld [(.int .i64 0), (.int .i64 0), (.int .i64 0), (.int .i64 0)] [(0, 1, (.k (.int .i64 4))), (1, 1, (.k (.int .i64 1)))])⟩,
    ⟨(some 7), none, (.bld [(.int .i64 0), (.int .i64 0), (.int .i64 0), (.int .i64 0)] [(0, 1, (.k (.int .i64 2))), (2, 1, (.k (.int .i64 2))), (3, 1, (.k (.int .i64 4)))])⟩,
    ⟨(some 8), none, (.bsl 4 [[(.int .i64 0), (.int .i64 0), (.int .i64 0), (.int .i64 0)], [(.int .i64 0), (.int .i64 0), (.int .i64 0), (.int .i64 0)], [(.int .i64 0), (.int .i64 0), (.int .i64 0), (.int .i64 0)]] [(0, (.t 5)), (1, (.t 6)), (2, (.t 7))])⟩,
    ⟨(some 9), none, (.bld [.nsl, .nsl] [(0, 1, (.t 4)), (1, 1, (.t 8))])⟩,
    ⟨none, none, (.st 2 (.t 0) (.t 9))⟩])
  .ret))⟩
def hint61 (P : Program) : Hint := {}

/-- aloeswood/aloeswoodlaw08.awake -/
def ir16 : IFn :=
  ⟨48, [(0, none)], (.seq (.ops [⟨(some 0), none, (.mov (.k (.bool false)))⟩])
  (.seq (.ops [⟨(some 8), none, (.callF 61 [])⟩,
    ⟨(some 9), none, (.callF 33 [(.t 8)])⟩,
    ⟨(some 7), none, (.mov (.t 9))⟩,
    ⟨(some 10), none, (.ext 0 (.t 7))⟩,
    ⟨(some 11), none, (.ext 1 (.t 7))⟩,
    ⟨(some 12), none, (.ext 2 (.t 7))⟩,
    ⟨(some 1), none, (.mov (.t 10))⟩,
    ⟨(some 2), none, (.mov (.t 11))⟩,
    ⟨(some 3), none, (.mov (.t 12))⟩])
  (.seq (.ops [⟨(some 14), none, (.bld [(.str ByteArray.empty), (.int .i64 0), (.int .i64 0), (.int .i64 0), (.int .i64 0)] [(0, 1, (.k (.str ⟨#[97, 110, 110]⟩)))])⟩,
    ⟨(some 15), none, (.bld [(.str ByteArray.empty), (.int .i64 0), (.int .i64 0), (.int .i64 0), (.int .i64 0)] [(0, 1, (.k (.str ⟨#[98, 111, 98]⟩))), (3, 1, (.k (.int .i64 1)))])⟩,
    ⟨(some 16), none, (.bsl 5 [[(.str ByteArray.empty), (.int .i64 0), (.int .i64 0), (.int .i64 0), (.int .i64 0)], [(.str ByteArray.empty), (.int .i64 0), (.int .i64 0), (.int .i64 0), (.int .i64 0)]] [(0, (.t 14)), (1, (.t 15))])⟩,
    ⟨(some 17), none, (.bld [(.int .i64 0), (.int .i64 0), (.int .i64 0)] [(1, 1, (.k (.int .i64 1))), (2, 1, (.k (.int .i64 5)))])⟩,
    ⟨(some 18), none, (.bld [(.int .i64 0), (.int .i64 0), (.int .i64 0)] [(1, 1, (.k (.int .i64 2))), (2, 1, (.k (.int .i64 9)))])⟩,
    ⟨(some 19), none, (.bsl 3 [[(.int .i64 0), (.int .i64 0), (.int .i64 0)], [(.int .i64 0), (.int .i64 0), (.int .i64 0)]] [(0, (.t 17)), (1, (.t 18))])⟩,
    ⟨(some 20), none, (.callF 22 [(.t 16), (.t 19), (.k (.int .i64 1)), (.k (.int .i64 1))])⟩,
    ⟨(some 13), none, (.mov (.t 20))⟩,
    ⟨(some 21), none, (.ext 0 (.t 13))⟩,
    ⟨(some 22), none, (.ext 1 (.t 13))⟩,
    ⟨(some 23), none, (.ext 2 (.t 13))⟩,
    ⟨(some 4), none, (.mov (.t 21))⟩,
    ⟨(some 5), none, (.mov (.t 22))⟩,
    ⟨(some 6), none, (.mov (.t 23))⟩])
  (.seq (.ops [⟨(some 24), none, (.mov (.t 3))⟩,
    ⟨(some 25), none, (.bin .eql (.t 24) (.k (.int .i64 0)))⟩,
    ⟨(some 26), none, (.mov (.t 25))⟩,
    ⟨(some 27), (some (26, true)), (.mov (.t 6))⟩,
    ⟨(some 28), (some (26, true)), (.bin .eql (.t 27) (.k (.int .i64 0)))⟩,
    ⟨(some 29), none, (.pick (.t 26) (.t 28) (.k (.bool false)))⟩,
    ⟨(some 30), none, (.mov (.t 29))⟩,
    ⟨(some 31), (some (30, true)), (.mov (.t 1))⟩,
    ⟨(some 32), (some (30, true)), (.bsl 1 [[(.int .i64 0)], [(.int .i64 0)], [(.int .i64 0)]] [(0, (.k (.int .i64 1))), (1, (.k (.int .i64 0))), (2, (.k (.int .i64 2)))])⟩,
    ⟨(some 33), (some (30, true)), (.callF 24 [(.t 31), (.t 32)])⟩,
    ⟨(some 34), none, (.pick (.t 30) (.t 33) (.k (.bool false)))⟩,
    ⟨(some 35), none, (.mov (.t 34))⟩,
    ⟨(some 36), (some (35, true)), (.mov (.t 2))⟩,
    ⟨(some 37), (some (35, true)), (.bin .eql (.t 36) (.k (.int .i64 10)))⟩,
    ⟨(some 38), none, (.pick (.t 35) (.t 37) (.k (.bool false)))⟩,
    ⟨(some 39), none, (.mov (.t 38))⟩,
    ⟨(some 40), (some (39, true)), (.mov (.t 4))⟩,
    ⟨(some 41), (some (39, true)), (.bsl 1 [[(.int .i64 0)]] [(0, (.k (.int .i64 1)))])⟩,
    ⟨(some 42), (some (39, true)), (.callF 24 [(.t 40), (.t 41)])⟩,
    ⟨(some 43), none, (.pick (.t 39) (.t 42) (.k (.bool false)))⟩,
    ⟨(some 44), none, (.mov (.t 43))⟩,
    ⟨(some 45), (some (44, true)), (.mov (.t 5))⟩,
    ⟨(some 46), (some (44, true)), (.bin .eql (.t 45) (.k (.int .i64 9)))⟩,
    ⟨(some 47), none, (.pick (.t 44) (.t 46) (.k (.bool false)))⟩,
    ⟨(some 0), none, (.mov (.t 47))⟩])
  .ret))))⟩
def hint16 (P : Program) : Hint := {}

def threeG : List Guest := [⟨⟨#[97, 110, 110]⟩, 3, 5, 0, 0⟩, ⟨⟨#[98, 111, 98]⟩, 1, 5, 0, 0⟩, ⟨⟨#[99, 105, 100]⟩, 2, 5, 0, 0⟩]
def threeR : List Rule := [⟨6, 0, 0, 10⟩, ⟨4, 1, 0, 0⟩, ⟨2, 0, 2, 4⟩]
theorem three_c : Fn0 Try.prog 61 [] (fun v => v = pA threeG threeR) := by
  refine RawC.walk (H := hint61 Try.prog) ir61 Try.func61 rfl rfl rfl ?_
  unfold ir61
  repeat' (first
    | with_reducible (first | refine Rd.p ?_ | refine zE ?_ | refine zE0 ?_)
    | with_reducible (first | refine zI fun y hy => ?_ | refine zL ?_ | refine zS ?_ | refine zA fun _ => ?_ | refine zV ?_ | refine zC ?_ | refine zG ?_ | refine zU ?_ | refine zG0 ?_ | refine zU0 ?_ | refine zF ?_)
    | with_reducible (first | refine zX ?_ | refine zD fun _ => ?_ | refine zD0 ?_ | refine zN ?_ | refine zF0 ?_ | refine zX0 ?_ | refine z1 ?_ | refine z2 ?_ | refine z3 ?_ | refine z4 ?_ | refine z5 ?_ | refine z6 ?_ | refine z7 ?_ | refine z8 ?_ | refine y1 ?_ | refine y2 ?_ | refine y3 ?_ | refine y4 ?_ | refine y5 ?_ | refine y6 ?_ | refine y7 ?_ | refine y8 ?_ | refine Rt.p (fun _ => ?_) fun _ => ?_)
    | ((with_reducible apply w_ixM); (focus exact rfl); (focus exact rfl); case' hk => intro y hy) | ((with_reducible (first | apply w_val | apply q_ends)); (focus exact rfl)))
  rfl
def twoG : List Guest := [⟨⟨#[97, 110, 110]⟩, 0, 0, 0, 0⟩, ⟨⟨#[98, 111, 98]⟩, 0, 0, 1, 0⟩]
def twoD : List Dish := [⟨0, 1, 5⟩, ⟨0, 2, 9⟩]
theorem best3 : bestP threeG threeR = (some [1, 0, 2], 10, 0) := by decide +kernel
theorem menu2 : menuP twoG twoD 1 1 = (some [1], 9, 0) := by decide +kernel
theorem best3_c : Fn0 Try.prog 33 [pA threeG threeR] (fun v => v = .tup [.slc 1 (iR [1, 0, 2]) .non, .int .i64 10, .int .i64 0]) := by
  have h := Best_c threeG threeR (by decide) (by decide) (by decide)
  rw [best3] at h
  exact h
theorem menu2_c : Fn0 Try.prog 22 [.slc 5 (gR twoG) .non, .slc 3 (dR twoD) .non, .int .i64 1, .int .i64 1] (fun v => v = .tup [.slc 1 (iR [1]) .non, .int .i64 9, .int .i64 0]) := by
  have h := Menu_c twoG twoD 1 1 (by decide) (by decide) (by decide)
  rw [menu2] at h
  exact h
theorem awake_c : Fn0 Try.prog 16 [] (fun v => v = .bool true) := by
  refine RawC.walk (H := hint16 Try.prog) ir16 Try.func16 rfl rfl rfl ?_
  unfold ir16
  repeat' (first
    | with_reducible (first | refine Rd.p ?_ | refine zE ?_ | refine zE0 ?_)
    | with_reducible (first | refine zI fun y hy => ?_ | refine zL ?_ | refine zS ?_ | refine zA fun _ => ?_ | refine zV ?_ | refine zC ?_ | refine zG ?_ | refine zU ?_ | refine zG0 ?_ | refine zU0 ?_ | refine zF ?_)
    | ((with_reducible refine acall_id ?_); refine ACall.val three_c rfl rfl ?_)
    | ((with_reducible refine acall_id ?_); refine ACall.val best3_c rfl rfl ?_)
    | ((with_reducible refine acall_id ?_); refine ACall.val menu2_c rfl rfl ?_)
    | ((with_reducible refine acall_id ?_); refine ACall.val (eq_c [1, 0, 2] [1, 0, 2] (by decide)) rfl rfl ?_)
    | ((with_reducible refine acall_id ?_); refine ACall.val (eq_c [1] [1] (by decide)) rfl rfl ?_)
    | with_reducible (first | refine zX ?_ | refine zD fun _ => ?_ | refine zD0 ?_ | refine zN ?_ | refine zF0 ?_ | refine zX0 ?_ | refine z1 ?_ | refine z2 ?_ | refine z3 ?_ | refine z4 ?_ | refine z5 ?_ | refine z6 ?_ | refine z7 ?_ | refine z8 ?_ | refine y1 ?_ | refine y2 ?_ | refine y3 ?_ | refine y4 ?_ | refine y5 ?_ | refine y6 ?_ | refine y7 ?_ | refine y8 ?_ | refine Rt.p (fun _ => ?_) fun _ => ?_)
    | ((with_reducible apply w_ixM); (focus exact rfl); (focus exact rfl); case' hk => intro y hy) | ((with_reducible (first | apply w_val | apply q_ends)); (focus exact rfl)))
  all_goals first | rfl | (exfalso; rename_i h; exact h rfl)
end Go.Abs
/-! ### The law of menus -/
namespace Go.Abs
theorem foldM_spec {l : List Guest} {ds : List Dish} {need : Int} : ∀ (ms : List (List Int)) (acc : Option (List Int) × Int), (∀ m, acc.1 = some m → enoughB l ds m need = true ∧ acc.2 = costM ds m) →
    ((ms.foldl (stepM l ds need) acc).1 = none → acc.1 = none ∧ ∀ m ∈ ms, enoughB l ds m need = false) ∧
    ∀ m, (ms.foldl (stepM l ds need) acc).1 = some m → (enoughB l ds m need = true ∧ (ms.foldl (stepM l ds need) acc).2 = costM ds m ∧ (m ∈ ms ∨ acc.1 = some m)) ∧ (∀ m' ∈ ms, enoughB l ds m' need = true → (ms.foldl (stepM l ds need) acc).2 ≤ costM ds m') ∧ (∀ m', acc.1 = some m' → (ms.foldl (stepM l ds need) acc).2 ≤ acc.2)
  | [], acc, h => ⟨fun h0 => ⟨h0, fun m hm => by cases hm⟩, fun m hm => ⟨⟨(h m hm).1, (h m hm).2, .inr hm⟩, fun m' hm' => (by cases hm'), fun m' _ => Int.le_refl _⟩⟩
  | m0 :: ms, acc, h => by
    rw [List.foldl_cons]
    by_cases hc : enoughB l ds m0 need = true ∧ (acc.1 = none ∨ costM ds m0 < acc.2)
    · have hst : stepM l ds need acc m0 = (some m0, costM ds m0) := by rw [stepM, if_pos hc]
      rw [hst]
      have ih := foldM_spec (l := l) (ds := ds) (need := need) ms (some m0, costM ds m0) (fun m hm => by cases hm; exact ⟨hc.1, rfl⟩)
      refine ⟨fun h0 => (by have := (ih.1 h0).1; cases this), fun m hm => ?_⟩
      obtain ⟨⟨k1, k2, k3⟩, k4, k5⟩ := ih.2 m hm
      have k6 := k5 m0 rfl
      refine ⟨⟨k1, k2, ?_⟩, fun m' hm' he => ?_, fun m' hm' => ?_⟩
      · rcases k3 with k3 | k3
        · exact .inl (by simp [k3])
        · cases k3; exact .inl (by simp)
      · rcases List.mem_cons.1 hm' with rfl | hm'
        · exact k6
        · exact k4 m' hm' he
      · rcases hc.2 with h1 | h1
        · rw [h1] at hm'; cases hm'
        · dsimp only at k6; omega
    · have hst : stepM l ds need acc m0 = acc := by rw [stepM, if_neg hc]
      rw [hst]
      have ih := foldM_spec (l := l) (ds := ds) (need := need) ms acc h
      refine ⟨fun h0 => ?_, fun m hm => ?_⟩
      · obtain ⟨k1, k2⟩ := ih.1 h0
        refine ⟨k1, fun m hm => ?_⟩
        rcases List.mem_cons.1 hm with rfl | hm
        · cases he : enoughB l ds m need with
          | false => rfl
          | true => exact absurd ⟨he, .inl k1⟩ hc
        · exact k2 m hm
      · obtain ⟨⟨k1, k2, k3⟩, k4, k5⟩ := ih.2 m hm
        refine ⟨⟨k1, k2, ?_⟩, fun m' hm' he => ?_, k5⟩
        · rcases k3 with k3 | k3
          · exact .inl (by simp [k3])
          · exact .inr k3
        · rcases List.mem_cons.1 hm' with rfl | hm'
          · have : acc.1 ≠ none ∧ ¬ costM ds m' < acc.2 := ⟨fun hn => hc ⟨he, .inl hn⟩, fun hl => hc ⟨he, .inr hl⟩⟩
            cases ha : acc.1 with
            | none => exact absurd ha this.1
            | some a => have := k5 a ha; omega
          · exact k4 m' hm' he
theorem idxF_of {t : Int} : ∀ {i : Nat} {ds : List Dish} {j : Nat} {d : Dish}, ds[j]? = some d → d.turn = t → ((i + j : Nat) : Int) ∈ idxF t i ds
  | i, x :: r, 0, d, h, ht => by
    simp at h; subst h
    rw [idxF, if_pos ht]; simp
  | i, x :: r, j + 1, d, h, ht => by
    have := idxF_of (i := i + 1) (ds := r) (j := j) (by simpa using h) ht
    rw [idxF]
    rw [show i + 1 + j = i + (j + 1) by omega] at this
    split
    · exact List.mem_cons_of_mem _ this
    · exact this
theorem menusK_turns {ds : List Dish} : ∀ {k : Nat} {b m : List Int}, m ∈ menusK ds k b → ∃ s, m = b ++ s ∧ s.length = k ∧ turnsOK ds b.length s = true
  | 0, b, m, h => by simp [menusK] at h; subst h; exact ⟨[], by simp, rfl, rfl⟩
  | k + 1, b, m, h => by
    simp only [menusK, List.mem_flatMap] at h
    obtain ⟨i, hi, h⟩ := h
    obtain ⟨s, hs, hl, ht⟩ := menusK_turns h
    obtain ⟨j, rfl, _, d, hd, hdt⟩ := idxF_mem hi
    refine ⟨(j : Int) :: s, by rw [hs]; simp, by simp [hl], ?_⟩
    rw [len_snoc] at ht
    have : dAt ds (j : Int) = d := by unfold dAt; simp at hd; simp [hd]
    rw [turnsOK, this, ht, hdt]; simp
theorem menusK_of {ds : List Dish} : ∀ {k : Nat} {b s : List Int}, s.length = k → (∀ i ∈ s, 0 ≤ i ∧ i < ds.length) → turnsOK ds b.length s = true → b ++ s ∈ menusK ds k b
  | 0, b, s, h, _, _ => by
    have : s = [] := List.eq_nil_of_length_eq_zero h
    subst this; simp [menusK]
  | k + 1, b, [], h, _, _ => by simp at h
  | k + 1, b, i :: s, h, hm, ht => by
    rw [turnsOK, Bool.and_eq_true] at ht
    have hi := hm i (by simp)
    obtain ⟨j, rfl⟩ := Int.eq_ofNat_of_zero_le hi.1
    have hj : j < ds.length := by omega
    have hd : dAt ds (j : Int) = ds[j] := by unfold dAt; simp [hj]
    simp only [menusK, List.mem_flatMap]
    refine ⟨(j : Int), ?_, ?_⟩
    · have := idxF_of (i := 0) (t := (b.length : Int)) (List.getElem?_eq_getElem hj) (by rw [← hd]; simpa using ht.1)
      simpa using this
    · have := menusK_of (ds := ds) (k := k) (b := b ++ [(j : Int)]) (s := s) (by simpa using h) (fun x hx => hm x (by simp [hx])) (by rw [len_snoc]; exact ht.2)
      simpa using this
theorem enough_less {l : List Guest} {ds : List Dish} {m : List Int} {n n' : Int} (h : n' ≤ n) (he : enoughB l ds m n = true) : enoughB l ds m n' = true := by
  unfold enoughB at he ⊢
  rw [List.all_eq_true] at he ⊢
  intro g hg
  have := he g hg
  simp at this ⊢; omega
/-- What the best menu is. -/
theorem menuP_spec {l : List Guest} {ds : List Dish} {turns need : Int} (hk : knownE l = 0) (hd : ds.length ≤ 16) (hok : dsErr ds = 0) (ht : 1 ≤ turns ∧ turns ≤ 4) (hn : 0 ≤ need ∧ need ≤ turns) :
    (menuP l ds turns need = (none, 0, 7) ∧ ∀ m ∈ menusK ds turns.toNat [], enoughB l ds m need = false) ∨
    ∃ m, menuP l ds turns need = (some m, costM ds m, 0) ∧ m ∈ menusK ds turns.toNat [] ∧ enoughB l ds m need = true ∧ ∀ m' ∈ menusK ds turns.toNat [], enoughB l ds m' need = true → costM ds m ≤ costM ds m' := by
  have hm : menuP l ds turns need = if (bestM l ds turns need).1 = none then (none, 0, 7) else ((bestM l ds turns need).1, (bestM l ds turns need).2, 0) := by
    rw [menuP, if_pos hk, if_neg (by omega), if_pos hok, if_pos (by simp only [Bool.and_eq_true, inB_t]; omega)]
  have hs := foldM_spec (l := l) (ds := ds) (need := need) (menusK ds turns.toNat []) (none, 0) (fun m hm => by cases hm)
  have hb : bestM l ds turns need = (menusK ds turns.toNat []).foldl (stepM l ds need) (none, 0) := rfl
  rw [← hb] at hs
  cases ho : (bestM l ds turns need).1 with
  | none =>
    left
    rw [hm, if_pos ho]
    exact ⟨rfl, (hs.1 ho).2⟩
  | some m =>
    right
    obtain ⟨⟨k1, k2, k3⟩, k4, _⟩ := hs.2 m ho
    refine ⟨m, ?_, k3.resolve_right (by simp), k1, fun m' hm' he => k2 ▸ k4 m' hm' he⟩
    rw [hm, if_neg (by rw [ho]; simp), ho, k2]
end Go.Abs
