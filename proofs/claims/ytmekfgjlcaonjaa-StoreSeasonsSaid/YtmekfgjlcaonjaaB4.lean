/- A part of the proofs of the laws of this seat: contracts of the functions that they reach, each proved of the program's form in Lean. No condition beyond those that each contract names. -/
import Derived.Test.YtmekfgjlcaonjaaB0
import Derived.Test.YtmekfgjlcaonjaaB3
import Derived.Test.YtmekfgjlcaonjaaB2
set_option linter.unusedVariables false
set_option linter.unusedSimpArgs false
set_option maxRecDepth 20000
set_option maxHeartbeats 4000000
/-! ### Menus -/
namespace Go.Abs
open Go.Proofs
/-- aloeswood/aloeswoodkit.Eq -/
def ir40 : IFn :=
  ⟨26, [(4, none)], (.seq (.ops [⟨(some 4), none, (.mov (.k (.bool false)))⟩])
  (.seq (.seq (.ops [⟨(some 6), none, (.mov (.t 0))⟩,
    ⟨(some 7), none, (.len false (.t 6))⟩,
    ⟨(some 8), none, (.mov (.t 1))⟩,
    ⟨(some 9), none, (.len false (.t 8))⟩,
    ⟨(some 10), none, (.bin .neq (.t 7) (.t 9))⟩])
  (.cnd (.t 10)
    (.seq (.ops [⟨(some 4), none, (.mov (.k (.bool false)))⟩])
    .ret)
    .skip))
  (.seq (.seq (.ops [⟨(some 5), none, (.mov (.k (.int .i64 0)))⟩])
  (.blk 0 (.loop (.seq (.seq (.ops [⟨(some 11), none, (.mov (.t 5))⟩,
        ⟨(some 12), none, (.mov (.t 0))⟩,
        ⟨(some 13), none, (.len false (.t 12))⟩,
        ⟨(some 14), none, (.bin .lss (.t 11) (.t 13))⟩])
      (.cnd (.t 14)
        .skip
        (.exit 0)))
      (.seq (.blk 1 (.seq (.ops [⟨(some 17), none, (.mov (.t 0))⟩,
          ⟨(some 18), none, (.mov (.t 5))⟩,
          ⟨(some 19), none, (.ixA 1 (.t 17) (.t 18))⟩,
          ⟨(some 20), none, (.ld 1 false (.t 19))⟩,
          ⟨(some 21), none, (.mov (.t 1))⟩,
          ⟨(some 22), none, (.mov (.t 5))⟩,
          ⟨(some 23), none, (.ixA 1 (.t 21) (.t 22))⟩,
          ⟨(some 24), none, (.ld 1 false (.t 23))⟩,
          ⟨(some 25), none, (.bin .neq (.t 20) (.t 24))⟩])
        (.cnd (.t 25)
          (.seq (.ops [⟨(some 4), none, (.mov (.k (.bool false)))⟩])
          .ret)
          .skip)))
      (.ops [⟨(some 15), none, (.mov (.t 5))⟩,
        ⟨(some 16), none, (.bin .add (.t 15) (.k (.int .i64 1)))⟩,
        ⟨(some 5), none, (.mov (.t 16))⟩]))))))
  (.seq (.ops [⟨(some 4), none, (.mov (.k (.bool true)))⟩])
  .ret))))⟩
def hint40 (P : Program) : Hint := {}

/-- slices.Clone[[]int,int] -/
def ir119 : IFn :=
  ⟨8, [(2, none)], (.seq (.ops [⟨(some 2), none, (.nil 1 2)⟩])
  (.seq (.seq (.ops [⟨(some 3), none, (.mov (.t 0))⟩,
    ⟨(some 4), none, (.eqn .slice false (.t 3) (.k .nsl))⟩])
  (.cnd (.t 4)
    (.seq (.ops [⟨(some 2), none, (.nil 1 2)⟩])
    .ret)
    .skip))
  (.seq (.ops [⟨(some 5), none, (.bsl 1 [] [])⟩,
    ⟨(some 6), none, (.mov (.t 0))⟩,
    ⟨(some 7), none, (.app 1 8 (.t 5) (.t 6) 2)⟩,
    ⟨(some 2), none, (.mov (.t 7))⟩])
  .ret)))⟩
def hint119 (P : Program) : Hint := { site := [(7, 2)], nils := [(2, 1)], frz := [], mve := [], wr := [] }

theorem eq_c (a b : List Int) (h : a.length < 2 ^ 62) : Fn0 Try.prog 40 [.slc 1 (iR a) .non, .slc 1 (iR b) .non] (fun v => v = .bool (decide (a = b))) := by
  refine RawC.walk (H := hint40 Try.prog) ir40 Try.func40 rfl rfl rfl ?_
  unfold ir40
  repeat' (first
    | with_reducible (first | refine Rd.p ?_ | refine w_alt ?_ ?_ | refine zE ?_ | refine zE0 ?_)
    | with_reducible (first | refine zI fun y hy => ?_ | refine zL ?_ | refine zS ?_ | refine zA fun _ => ?_ | refine zV ?_ | refine zC ?_ | refine zG ?_ | refine zU ?_ | refine zG0 ?_ | refine zU0 ?_ | refine zF ?_)
    | with_reducible (first | refine zX ?_ | refine zD fun _ => ?_ | refine zD0 ?_ | refine zN ?_ | refine zF0 ?_ | refine zX0 ?_ | refine z1 ?_ | refine z2 ?_ | refine z3 ?_ | refine z4 ?_ | refine z5 ?_ | refine z6 ?_ | refine z7 ?_ | refine z8 ?_ | refine y1 ?_ | refine y2 ?_ | refine y3 ?_ | refine y4 ?_ | refine y5 ?_ | refine y6 ?_ | refine y7 ?_ | refine y8 ?_ | refine Rt.p (fun _ => ?_) fun _ => ?_)
    | ((with_reducible apply w_ixM); (focus exact rfl); (focus exact rfl); case' hk => intro y hy) | ((with_reducible (first | apply w_val | apply q_ends)); (focus exact rfl)))
  · rename_i h1
    exact congrArg AV.bool (by simp; intro h; rw [h] at h1; exact h1 rfl)
  rename_i h1
  refine w_loopK [0, 1] [] (fun x : List Int × List Int × List Int => a = x.1 ++ x.2.1 ∧ b = x.1 ++ x.2.2 ∧ x.2.1.length = x.2.2.length) (fun x => x.2.1.length) (fun x => [(5, .int .i64 x.1.length)]) (fun _ => []) ([], a, b) ⟨rfl, rfl, by dsimp only; omega⟩ ⟨rfl, trivial⟩ trivial ?_
  rintro ⟨pre, pa, pb⟩ ⟨ha, hb, hl⟩ e σ
  dsimp only at ha hb hl ⊢
  have hlen := congrArg List.length ha
  cases pa with
  | nil =>
    cases pb with
    | cons _ _ => simp at hl
    | nil =>
      simp only [List.append_nil, List.length_append, List.length_nil] at hlen
      repeat' (first
        | with_reducible (first | refine Rd.p ?_ | refine w_alt ?_ ?_ | refine zE ?_ | refine zE0 ?_)
        | with_reducible (first | refine zI fun y hy => ?_ | refine zL ?_ | refine zS ?_ | refine zA fun _ => ?_ | refine zV ?_ | refine zC ?_ | refine zG ?_ | refine zU ?_ | refine zG0 ?_ | refine zU0 ?_ | refine zF ?_)
        | with_reducible (first | refine zX ?_ | refine zD fun _ => ?_ | refine zD0 ?_ | refine zN ?_ | refine zF0 ?_ | refine zX0 ?_ | refine z1 ?_ | refine z2 ?_ | refine z3 ?_ | refine z4 ?_ | refine z5 ?_ | refine z6 ?_ | refine z7 ?_ | refine z8 ?_ | refine y1 ?_ | refine y2 ?_ | refine y3 ?_ | refine y4 ?_ | refine y5 ?_ | refine y6 ?_ | refine y7 ?_ | refine y8 ?_ | refine Rt.p (fun _ => ?_) fun _ => ?_)
        | ((with_reducible apply w_ixM); (focus exact rfl); (focus exact rfl); case' hk => intro y hy) | ((with_reducible (first | apply w_val | apply q_ends)); (focus exact rfl)))
      exact congrArg AV.bool (by simp [ha, hb])
  | cons x pa =>
    cases pb with
    | nil => simp at hl
    | cons y pb =>
      simp only [List.length_append, List.length_cons] at hlen
      repeat' (first
        | with_reducible (first | refine Rd.p ?_ | refine w_alt ?_ ?_ | refine zE ?_ | refine zE0 ?_)
        | (first | refine w_ixP ha rfl rfl ?_ | refine w_ixP hb rfl rfl ?_)
        | with_reducible (first | refine zI fun y hy => ?_ | refine zL ?_ | refine zS ?_ | refine zA fun _ => ?_ | refine zV ?_ | refine zC ?_ | refine zG ?_ | refine zU ?_ | refine zG0 ?_ | refine zU0 ?_ | refine zF ?_)
        | with_reducible (first | refine zX ?_ | refine zD fun _ => ?_ | refine zD0 ?_ | refine zN ?_ | refine zF0 ?_ | refine zX0 ?_ | refine z1 ?_ | refine z2 ?_ | refine z3 ?_ | refine z4 ?_ | refine z5 ?_ | refine z6 ?_ | refine z7 ?_ | refine z8 ?_ | refine y1 ?_ | refine y2 ?_ | refine y3 ?_ | refine y4 ?_ | refine y5 ?_ | refine y6 ?_ | refine y7 ?_ | refine y8 ?_ | refine Rt.p (fun _ => ?_) fun _ => ?_)
        | ((with_reducible apply w_ixM); (focus exact rfl); (focus exact rfl); case' hk => intro y hy) | ((with_reducible (first | apply w_val | apply q_ends)); (focus exact rfl)))
      · rename_i h2
        exact congrArg AV.bool (by simp [ha, hb]; intro h; exact absurd h h2)
      · rename_i h2
        obtain rfl := Decidable.not_not.1 h2
        refine zQ (pre ++ [x], pa, pb) ?_ ?_
        · exact ⟨by rw [ha]; simp, by rw [hb]; simp, by simpa using hl⟩
        · simp
theorem clone_c (l : List Int) (a : AV) (ha : NowV a l) (h : l.length < 2 ^ 40) : Fn0 Try.prog 119 [a] (fun v => v = .slc 1 (iR l) .non) := by
  rcases ha with ⟨rfl, rfl⟩ | ⟨rfl, hne⟩
  · refine RawC.walk (H := hint119 Try.prog) ir119 Try.func119 rfl rfl rfl ?_
    unfold ir119
    repeat' (first
      | with_reducible (first | refine Rd.p ?_ | refine w_alt ?_ ?_ | refine zE ?_ | refine zE0 ?_)
      | with_reducible (first | refine zI fun y hy => ?_ | refine zL ?_ | refine zS ?_ | refine zA fun _ => ?_ | refine zV ?_ | refine zC ?_ | refine zG ?_ | refine zU ?_ | refine zG0 ?_ | refine zU0 ?_ | refine zF ?_)
      | with_reducible (first | refine zX ?_ | refine zD fun _ => ?_ | refine zD0 ?_ | refine zN ?_ | refine zF0 ?_ | refine zX0 ?_ | refine z1 ?_ | refine z2 ?_ | refine z3 ?_ | refine z4 ?_ | refine z5 ?_ | refine z6 ?_ | refine z7 ?_ | refine z8 ?_ | refine y1 ?_ | refine y2 ?_ | refine y3 ?_ | refine y4 ?_ | refine y5 ?_ | refine y6 ?_ | refine y7 ?_ | refine y8 ?_ | refine Rt.p (fun _ => ?_) fun _ => ?_)
      | ((with_reducible apply w_ixM); (focus exact rfl); (focus exact rfl); case' hk => intro y hy) | ((with_reducible (first | apply w_val | apply q_ends)); (focus exact rfl)))
    exact rfl
  · have hne' : (iR l) ≠ [] := by simpa using hne
    have hL : (iR l).length = l.length := by simp
    refine RawC.walk (H := hint119 Try.prog) ir119 Try.func119 rfl rfl rfl ?_
    unfold ir119
    repeat' (first
      | with_reducible (first | refine Rd.p ?_ | refine w_alt ?_ ?_ | refine zE ?_ | refine zE0 ?_)
      | with_reducible (first | refine zI fun y hy => ?_ | refine zL ?_ | refine zS ?_ | refine zA fun _ => ?_ | refine zV ?_ | refine zC ?_ | refine zG ?_ | refine zU ?_ | refine zG0 ?_ | refine zU0 ?_ | refine zF ?_)
      | with_reducible (first | refine zX ?_ | refine zD fun _ => ?_ | refine zD0 ?_ | refine zN ?_ | refine zF0 ?_ | refine zX0 ?_ | refine z1 ?_ | refine z2 ?_ | refine z3 ?_ | refine z4 ?_ | refine z5 ?_ | refine z6 ?_ | refine z7 ?_ | refine z8 ?_ | refine y1 ?_ | refine y2 ?_ | refine y3 ?_ | refine y4 ?_ | refine y5 ?_ | refine y6 ?_ | refine y7 ?_ | refine y8 ?_ | refine Rt.p (fun _ => ?_) fun _ => ?_)
      | ((with_reducible apply w_ixM); (focus exact rfl); (focus exact rfl); case' hk => intro y hy) | ((with_reducible (first | apply w_val | apply q_ends)); (focus exact rfl)))
    exact rfl
theorem cloneO_c (l : List Int) (a : AV) (ha : NowV a l) (h : l.length < 2 ^ 40) : RawC Try.prog 119 [a] (sg []) (SR (fun g : Nat => fun v => v = .slc 1 (iR l) (.own 2 g)) (fun g => [(2, (g, .row []))])) := by
  rcases ha with ⟨rfl, rfl⟩ | ⟨rfl, hne⟩
  · refine RawC.walk (H := hint119 Try.prog) ir119 Try.func119 rfl rfl rfl ?_
    unfold ir119
    repeat' (first
      | with_reducible (first | refine Rd.p ?_ | refine w_alt ?_ ?_ | refine zO ?_ | refine zE0 ?_)
      | with_reducible (first | refine zI fun y hy => ?_ | refine zL ?_ | refine zS ?_ | refine zA fun _ => ?_ | refine zV ?_ | refine zC ?_ | refine zG ?_ | refine zU ?_ | refine zG0 ?_ | refine zU0 ?_ | refine zF ?_)
      | with_reducible (first | refine zX ?_ | refine zD fun _ => ?_ | refine zD0 ?_ | refine zN ?_ | refine zF0 ?_ | refine zX0 ?_ | refine z1 ?_ | refine z2 ?_ | refine z3 ?_ | refine z4 ?_ | refine z5 ?_ | refine z6 ?_ | refine z7 ?_ | refine z8 ?_ | refine y1 ?_ | refine y2 ?_ | refine y3 ?_ | refine y4 ?_ | refine y5 ?_ | refine y6 ?_ | refine y7 ?_ | refine y8 ?_ | refine Rt.p (fun _ => ?_) fun _ => ?_)
      | ((with_reducible apply w_ixM); (focus exact rfl); (focus exact rfl); case' hk => intro y hy) | ((with_reducible (first | apply w_val | apply q_ends)); (focus exact rfl)))
    exact ⟨_, rfl, rfl, trivial⟩
  · have hne' : (iR l) ≠ [] := by simpa using hne
    have hL : (iR l).length = l.length := by simp
    refine RawC.walk (H := hint119 Try.prog) ir119 Try.func119 rfl rfl rfl ?_
    unfold ir119
    repeat' (first
      | with_reducible (first | refine Rd.p ?_ | refine w_alt ?_ ?_ | refine zO ?_ | refine zE0 ?_)
      | with_reducible (first | refine zI fun y hy => ?_ | refine zL ?_ | refine zS ?_ | refine zA fun _ => ?_ | refine zV ?_ | refine zC ?_ | refine zG ?_ | refine zU ?_ | refine zG0 ?_ | refine zU0 ?_ | refine zF ?_)
      | with_reducible (first | refine zX ?_ | refine zD fun _ => ?_ | refine zD0 ?_ | refine zN ?_ | refine zF0 ?_ | refine zX0 ?_ | refine z1 ?_ | refine z2 ?_ | refine z3 ?_ | refine z4 ?_ | refine z5 ?_ | refine z6 ?_ | refine z7 ?_ | refine z8 ?_ | refine y1 ?_ | refine y2 ?_ | refine y3 ?_ | refine y4 ?_ | refine y5 ?_ | refine y6 ?_ | refine y7 ?_ | refine y8 ?_ | refine Rt.p (fun _ => ?_) fun _ => ?_)
      | ((with_reducible apply w_ixM); (focus exact rfl); (focus exact rfl); case' hk => intro y hy) | ((with_reducible (first | apply w_val | apply q_ends)); (focus exact rfl)))
    exact ⟨_, rfl, rfl, trivial⟩
/-- The dish of a number; the numbers of the dishes of a turn. -/
def dAt (ds : List Dish) (i : Int) : Dish := (ds[i.toNat]?).getD ⟨0, 0, 0⟩
def idxF (t : Int) : Nat → List Dish → List Int
  | _, [] => []
  | i, d :: r => if d.turn = t then (i : Int) :: idxF t (i + 1) r else idxF t (i + 1) r
def menusK (ds : List Dish) : Nat → List Int → List (List Int)
  | 0, b => [b]
  | k + 1, b => (idxF b.length 0 ds).flatMap fun i => menusK ds k (b ++ [i])
theorem idxF_len (t : Int) : ∀ (i : Nat) (ds : List Dish), (idxF t i ds).length ≤ ds.length
  | _, [] => Nat.le_refl _
  | i, d :: r => by
    have := idxF_len t (i + 1) r
    simp only [idxF]; split <;> simp <;> omega
theorem idxF_mem {t : Int} : ∀ {i : Nat} {ds : List Dish} {x : Int}, x ∈ idxF t i ds → ∃ j : Nat, x = j ∧ i ≤ j ∧ ∃ d, ds[j - i]? = some d ∧ d.turn = t
  | i, d :: r, x, h => by
    simp only [idxF] at h
    split at h
    · rename_i hd
      rcases List.mem_cons.1 h with rfl | h
      · exact ⟨i, rfl, Nat.le_refl _, d, by simp, hd⟩
      · obtain ⟨j, h1, h2, y, h3, h4⟩ := idxF_mem h
        exact ⟨j, h1, by omega, y, by rw [show j - i = (j - (i + 1)) + 1 by omega]; simpa using h3, h4⟩
    · obtain ⟨j, h1, h2, y, h3, h4⟩ := idxF_mem h
      exact ⟨j, h1, by omega, y, by rw [show j - i = (j - (i + 1)) + 1 by omega]; simpa using h3, h4⟩
theorem menusK_len (ds : List Dish) (h : ds.length ≤ 16) : ∀ k b, (menusK ds k b).length ≤ 16 ^ k
  | 0, b => by simp [menusK]
  | k + 1, b => by
    simp only [menusK, List.length_flatMap]
    have hl := idxF_len b.length 0 ds
    have key : ∀ l : List Int, (l.map fun i => (menusK ds k (b ++ [i])).length).sum ≤ l.length * 16 ^ k := by
      intro l
      induction l with
      | nil => simp
      | cons x l ih =>
        have := menusK_len ds h k (b ++ [x])
        simp only [List.map_cons, List.sum_cons, List.length_cons, Nat.add_mul, Nat.one_mul]
        omega
    have h1 := key (idxF b.length 0 ds)
    have h2 : (idxF b.length 0 ds).length * 16 ^ k ≤ 16 * 16 ^ k := Nat.mul_le_mul_right _ (by omega)
    rw [Nat.pow_succ]; omega
theorem menusK_mem {ds : List Dish} : ∀ {k : Nat} {b m : List Int}, m ∈ menusK ds k b → m.length = b.length + k ∧ ((∀ i ∈ b, 0 ≤ i ∧ i < ds.length) → ∀ i ∈ m, 0 ≤ i ∧ i < ds.length)
  | 0, b, m, h => by simp [menusK] at h; subst h; exact ⟨rfl, id⟩
  | k + 1, b, m, h => by
    simp only [menusK, List.mem_flatMap] at h
    obtain ⟨i, hi, h⟩ := h
    obtain ⟨h1, h2⟩ := menusK_mem h
    simp at h1
    refine ⟨by omega, fun hb => h2 fun x hx => ?_⟩
    rcases List.mem_append.1 hx with hx | hx
    · exact hb x hx
    · simp at hx; subst hx
      obtain ⟨j, rfl, _, d, hd, _⟩ := idxF_mem hi
      have := (List.getElem?_eq_some_iff.1 hd).1
      omega
/-- How many dishes of a menu a guest surely can eat; whether that is enough for all. -/
def eatN (ds : List Dish) (g : Guest) : List Int → Int
  | [] => 0
  | i :: r => (if eatsV g (dAt ds i) = 1 then 1 else 0) + eatN ds g r
def enoughB (l : List Guest) (ds : List Dish) (m : List Int) (need : Int) : Bool := l.all fun g => decide (need ≤ eatN ds g m)
theorem eatN_snoc (ds : List Dish) (g : Guest) (i : Int) : ∀ m, eatN ds g (m ++ [i]) = eatN ds g m + (if eatsV g (dAt ds i) = 1 then 1 else 0)
  | [] => by simp [eatN]
  | x :: m => by simp only [List.cons_append, eatN, eatN_snoc ds g i m]; omega
theorem eatN_bd (ds : List Dish) (g : Guest) : ∀ m, 0 ≤ eatN ds g m ∧ eatN ds g m ≤ m.length
  | [] => by simp [eatN]
  | x :: m => by
    have := eatN_bd ds g m
    simp only [eatN, List.length_cons]
    split <;> omega
end Go.Abs
