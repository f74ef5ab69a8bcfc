/- A part of the proofs of the laws of this seat: contracts of the functions that they reach, each proved of the program's form in Lean. No condition beyond those that each contract names. -/
import Derived.Test.YtcgcciegekaliaaB0
import Derived.Test.YtcgcciegekaliaaB2
import Derived.Test.YtcgcciegekaliaaB9
import Derived.Test.YtcgcciegekaliaaB12
import Derived.Test.YtcgcciegekaliaaB37
set_option linter.unusedVariables false
set_option linter.unusedSimpArgs false
set_option maxRecDepth 20000
set_option maxHeartbeats 4000000
/-! ### Comparisons -/
namespace Go.Abs
open Go.Proofs
/-- cmp.isNaN[int] -/
def ir130 : IFn :=
  ⟨6, [(2, none)], (.seq (.ops [⟨(some 2), none, (.mov (.k (.bool false)))⟩])
  (.seq (.ops [⟨(some 3), none, (.mov (.t 0))⟩,
    ⟨(some 4), none, (.mov (.t 0))⟩,
    ⟨(some 5), none, (.bin .neq (.t 3) (.t 4))⟩,
    ⟨(some 2), none, (.mov (.t 5))⟩])
  .ret))⟩
def hint130 (P : Program) : Hint := {}

/-- cmp.Compare[int] -/
def ir120 : IFn :=
  ⟨20, [(4, none)], (.seq (.ops [⟨(some 4), none, (.mov (.k (.int .i64 0)))⟩])
  (.seq (.ops [⟨(some 7), none, (.mov (.t 0))⟩,
    ⟨(some 8), none, (.callF 130 [(.t 7)])⟩,
    ⟨(some 5), none, (.mov (.t 8))⟩])
  (.seq (.ops [⟨(some 9), none, (.mov (.t 1))⟩,
    ⟨(some 10), none, (.callF 130 [(.t 9)])⟩,
    ⟨(some 6), none, (.mov (.t 10))⟩])
  (.seq (.seq (.ops [⟨(some 11), none, (.mov (.t 5))⟩])
  (.cnd (.t 11)
    (.seq (.seq (.ops [⟨(some 12), none, (.mov (.t 6))⟩])
    (.cnd (.t 12)
      (.seq (.ops [⟨(some 4), none, (.mov (.k (.int .i64 0)))⟩])
      .ret)
      .skip))
    (.seq (.ops [⟨(some 4), none, (.mov (.k (.int .i64 (-1))))⟩])
    .ret))
    .skip))
  (.seq (.seq (.ops [⟨(some 13), none, (.mov (.t 6))⟩])
  (.cnd (.t 13)
    (.seq (.ops [⟨(some 4), none, (.mov (.k (.int .i64 1)))⟩])
    .ret)
    .skip))
  (.seq (.seq (.ops [⟨(some 14), none, (.mov (.t 0))⟩,
    ⟨(some 15), none, (.mov (.t 1))⟩,
    ⟨(some 16), none, (.bin .lss (.t 14) (.t 15))⟩])
  (.cnd (.t 16)
    (.seq (.ops [⟨(some 4), none, (.mov (.k (.int .i64 (-1))))⟩])
    .ret)
    .skip))
  (.seq (.seq (.ops [⟨(some 17), none, (.mov (.t 0))⟩,
    ⟨(some 18), none, (.mov (.t 1))⟩,
    ⟨(some 19), none, (.bin .gtr (.t 17) (.t 18))⟩])
  (.cnd (.t 19)
    (.seq (.ops [⟨(some 4), none, (.mov (.k (.int .i64 1)))⟩])
    .ret)
    .skip))
  (.seq (.ops [⟨(some 4), none, (.mov (.k (.int .i64 0)))⟩])
  .ret))))))))⟩
def hint120 (P : Program) : Hint := {}

/-- slices.Compare[[]int,int] -/
def ir121 : IFn :=
  ⟨36, [(4, none)], (.seq (.ops [⟨(some 4), none, (.mov (.k (.int .i64 0)))⟩])
  (.seq (.seq (.ops [⟨(some 9), none, (.mov (.t 0))⟩,
    ⟨(some 10), none, (.len false (.t 9))⟩,
    ⟨(some 11), none, (.mov (.k (.int .i64 0)))⟩])
  (.blk 0 (.loop (.seq (.ops [⟨(some 12), none, (.bin .lss (.t 11) (.t 10))⟩])
      (.seq (.cnd (.t 12)
        .skip
        (.exit 0))
      (.seq (.blk 1 (.seq (.ops [⟨(some 13), none, (.mov (.t 11))⟩,
          ⟨(some 14), none, (.ixA 1 (.t 9) (.t 11))⟩,
          ⟨(some 15), none, (.ld 1 false (.t 14))⟩,
          ⟨(some 5), none, (.mov (.t 13))⟩,
          ⟨(some 6), none, (.mov (.t 15))⟩])
        (.seq (.seq (.ops [⟨(some 16), none, (.mov (.t 5))⟩,
          ⟨(some 17), none, (.mov (.t 1))⟩,
          ⟨(some 18), none, (.len false (.t 17))⟩,
          ⟨(some 19), none, (.bin .geq (.t 16) (.t 18))⟩])
        (.cnd (.t 19)
          (.seq (.ops [⟨(some 4), none, (.mov (.k (.int .i64 1)))⟩])
          .ret)
          .skip))
        (.seq (.ops [⟨(some 20), none, (.mov (.t 1))⟩,
          ⟨(some 21), none, (.mov (.t 5))⟩,
          ⟨(some 22), none, (.ixA 1 (.t 20) (.t 21))⟩,
          ⟨(some 23), none, (.ld 1 false (.t 22))⟩,
          ⟨(some 7), none, (.mov (.t 23))⟩])
        (.seq (.ops [⟨(some 24), none, (.mov (.t 6))⟩,
          ⟨(some 25), none, (.mov (.t 7))⟩,
          ⟨(some 26), none, (.callF 120 [(.t 24), (.t 25)])⟩,
          ⟨(some 8), none, (.mov (.t 26))⟩])
        (.seq (.ops [⟨(some 27), none, (.mov (.t 8))⟩,
          ⟨(some 28), none, (.bin .neq (.t 27) (.k (.int .i64 0)))⟩])
        (.cnd (.t 28)
          (.seq (.ops [⟨(some 29), none, (.mov (.t 8))⟩,
            ⟨(some 4), none, (.mov (.t 29))⟩])
          .ret)
          .skip)))))))
      (.ops [⟨(some 30), none, (.bin .add (.t 11) (.k (.int .i64 1)))⟩,
        ⟨(some 11), none, (.mov (.t 30))⟩])))))))
  (.seq (.seq (.ops [⟨(some 31), none, (.mov (.t 0))⟩,
    ⟨(some 32), none, (.len false (.t 31))⟩,
    ⟨(some 33), none, (.mov (.t 1))⟩,
    ⟨(some 34), none, (.len false (.t 33))⟩,
    ⟨(some 35), none, (.bin .lss (.t 32) (.t 34))⟩])
  (.cnd (.t 35)
    (.seq (.ops [⟨(some 4), none, (.mov (.k (.int .i64 (-1))))⟩])
    .ret)
    .skip))
  (.seq (.ops [⟨(some 4), none, (.mov (.k (.int .i64 0)))⟩])
  .ret))))⟩
def hint121 (P : Program) : Hint := {}

/-- cmp.Or[int] -/
def ir119 : IFn :=
  ⟨18, [(2, none)], (.seq (.ops [⟨(some 2), none, (.mov (.k (.int .i64 0)))⟩])
  (.seq (.ops [⟨(some 3), none, (.mov (.k (.int .i64 0)))⟩])
  (.seq (.seq (.ops [⟨(some 6), none, (.mov (.t 0))⟩,
    ⟨(some 7), none, (.len false (.t 6))⟩,
    ⟨(some 8), none, (.mov (.k (.int .i64 0)))⟩])
  (.blk 0 (.loop (.seq (.ops [⟨(some 9), none, (.bin .lss (.t 8) (.t 7))⟩])
      (.seq (.cnd (.t 9)
        .skip
        (.exit 0))
      (.seq (.blk 1 (.seq (.ops [⟨(some 10), none, (.ixA 1 (.t 6) (.t 8))⟩,
          ⟨(some 11), none, (.ld 1 false (.t 10))⟩,
          ⟨(some 5), none, (.mov (.t 11))⟩])
        (.seq (.ops [⟨(some 12), none, (.mov (.t 5))⟩,
          ⟨(some 13), none, (.mov (.t 3))⟩,
          ⟨(some 14), none, (.bin .neq (.t 12) (.t 13))⟩])
        (.cnd (.t 14)
          (.seq (.ops [⟨(some 15), none, (.mov (.t 5))⟩,
            ⟨(some 2), none, (.mov (.t 15))⟩])
          .ret)
          .skip))))
      (.ops [⟨(some 16), none, (.bin .add (.t 8) (.k (.int .i64 1)))⟩,
        ⟨(some 8), none, (.mov (.t 16))⟩])))))))
  (.seq (.ops [⟨(some 17), none, (.mov (.t 3))⟩,
    ⟨(some 2), none, (.mov (.t 17))⟩])
  .ret))))⟩
def hint119 (P : Program) : Hint := {}

/-- aloeswood/seat.lists[int] -/
def ir96 : IFn :=
  ⟨15, [(4, none)], (.seq (.ops [⟨(some 4), none, (.mov (.k (.int .i64 0)))⟩])
  (.seq (.ops [⟨(some 5), none, (.mov (.t 0))⟩,
    ⟨(some 6), none, (.len false (.t 5))⟩,
    ⟨(some 7), none, (.mov (.t 1))⟩,
    ⟨(some 8), none, (.len false (.t 7))⟩,
    ⟨(some 9), none, (.callF 120 [(.t 6), (.t 8)])⟩,
    ⟨(some 10), none, (.mov (.t 0))⟩,
    ⟨(some 11), none, (.mov (.t 1))⟩,
    ⟨(some 12), none, (.callF 121 [(.t 10), (.t 11)])⟩,
    ⟨(some 13), none, (.bsl 1 [[(.int .i64 0)], [(.int .i64 0)]] [(0, (.t 9)), (1, (.t 12))])⟩,
    ⟨(some 14), none, (.callF 119 [(.t 13)])⟩,
    ⟨(some 4), none, (.mov (.t 14))⟩])
  .ret))⟩
def hint96 (P : Program) : Hint := {}

theorem isNaN_c (x : Int) : Fn0 Try.prog 130 [.int .i64 x] (fun v => v = .bool false) := by
  refine RawC.walk (H := hint130 Try.prog) ir130 Try.func130 rfl rfl rfl ?_
  unfold ir130
  repeat' (first
    | with_reducible (first | refine Rd.p ?_ | refine zE ?_ | refine zE0 ?_)
    | with_reducible (first | refine zI fun y hy => ?_ | refine zL ?_ | refine zS ?_ | refine zA fun _ => ?_ | refine zV ?_ | refine zC ?_ | refine zG ?_ | refine zU ?_ | refine zG0 ?_ | refine zU0 ?_ | refine zF ?_)
    | with_reducible (first | refine zX ?_ | refine zD fun _ => ?_ | refine zD0 ?_ | refine zN ?_ | refine zF0 ?_ | refine zX0 ?_ | refine z1 ?_ | refine z2 ?_ | refine z3 ?_ | refine z4 ?_ | refine z5 ?_ | refine z6 ?_ | refine z7 ?_ | refine z8 ?_ | refine y1 ?_ | refine y2 ?_ | refine y3 ?_ | refine y4 ?_ | refine y5 ?_ | refine y6 ?_ | refine y7 ?_ | refine y8 ?_ | refine Rt.p (fun _ => ?_) fun _ => ?_)
    | ((with_reducible apply w_ixM); (focus exact rfl); (focus exact rfl); case' hk => intro y hy) | ((with_reducible (first | apply w_val | apply q_ends)); (focus exact rfl)))
  exact congrArg AV.bool (decide_eq_false (by simp))
theorem compare_c (x y : Int) : Fn0 Try.prog 120 [.int .i64 x, .int .i64 y] (fun v => v = .int .i64 (cmpI x y)) := by
  refine RawC.walk (H := hint120 Try.prog) ir120 Try.func120 rfl rfl rfl ?_
  unfold ir120
  repeat' (first
    | with_reducible (first | refine Rd.p ?_ | refine zE ?_ | refine zE0 ?_)
    | with_reducible (first | refine zI fun y hy => ?_ | refine zL ?_ | refine zS ?_ | refine zA fun _ => ?_ | refine zV ?_ | refine zC ?_ | refine zG ?_ | refine zU ?_ | refine zG0 ?_ | refine zU0 ?_ | refine zF ?_)
    | ((with_reducible refine acall_id ?_); refine ACall.val (isNaN_c _) rfl rfl ?_)
    | with_reducible (first | refine zX ?_ | refine zD fun _ => ?_ | refine zD0 ?_ | refine zN ?_ | refine zF0 ?_ | refine zX0 ?_ | refine z1 ?_ | refine z2 ?_ | refine z3 ?_ | refine z4 ?_ | refine z5 ?_ | refine z6 ?_ | refine z7 ?_ | refine z8 ?_ | refine y1 ?_ | refine y2 ?_ | refine y3 ?_ | refine y4 ?_ | refine y5 ?_ | refine y6 ?_ | refine y7 ?_ | refine y8 ?_ | refine Rt.p (fun _ => ?_) fun _ => ?_)
    | ((with_reducible apply w_ixM); (focus exact rfl); (focus exact rfl); case' hk => intro y hy) | ((with_reducible (first | apply w_val | apply q_ends)); (focus exact rfl)))
  all_goals (refine congrArg (AV.int .i64) ?_; unfold cmpI)
  · rw [if_pos (by assumption)]
  · rw [if_neg (by assumption), if_pos (by assumption)]
  · rw [if_neg (by assumption), if_neg (by assumption)]
theorem lexI_app (p a b : List Int) : lexI (p ++ a) (p ++ b) = lexI a b := by
  induction p with
  | nil => rfl
  | cons x p ih => rw [List.cons_append, List.cons_append, lexI, if_pos (cmpI_eq.2 rfl), ih]
theorem scompare_c (a b : List Int) (ha : a.length < 1000000) (hb : b.length < 1000000) : Fn0 Try.prog 121 [.slc 1 (iR a) .non, .slc 1 (iR b) .non] (fun v => v = .int .i64 (lexI a b)) := by
  refine RawC.walk (H := hint121 Try.prog) ir121 Try.func121 rfl rfl rfl ?_
  unfold ir121
  repeat' (first
    | with_reducible (first | refine Rd.p ?_ | refine zE ?_ | refine zE0 ?_)
    | with_reducible (first | refine zI fun y hy => ?_ | refine zL ?_ | refine zS ?_ | refine zA fun _ => ?_ | refine zV ?_ | refine zC ?_ | refine zG ?_ | refine zU ?_ | refine zG0 ?_ | refine zU0 ?_ | refine zF ?_)
    | with_reducible (first | refine zX ?_ | refine zD fun _ => ?_ | refine zD0 ?_ | refine zN ?_ | refine zF0 ?_ | refine zX0 ?_ | refine z1 ?_ | refine z2 ?_ | refine z3 ?_ | refine z4 ?_ | refine z5 ?_ | refine z6 ?_ | refine z7 ?_ | refine z8 ?_ | refine y1 ?_ | refine y2 ?_ | refine y3 ?_ | refine y4 ?_ | refine y5 ?_ | refine y6 ?_ | refine y7 ?_ | refine y8 ?_ | refine Rt.p (fun _ => ?_) fun _ => ?_)
    | ((with_reducible apply w_ixM); (focus exact rfl); (focus exact rfl); case' hk => intro y hy) | ((with_reducible (first | apply w_val | apply q_ends)); (focus exact rfl)))
  refine w_loopK [0, 1, 9, 10] [] (fun x : List Int × List Int × List Int => a = x.1 ++ x.2.1 ∧ b = x.1 ++ x.2.2) (fun x => x.2.1.length) (fun x => [(11, .int .i64 x.1.length)]) (fun _ => []) ([], a, b) ⟨rfl, rfl⟩ ⟨rfl, trivial⟩ trivial ?_
  rintro ⟨pre, r, s⟩ ⟨h1, h2⟩ e σ
  dsimp only at h1 h2 ⊢
  have l1 := congrArg List.length h1
  have l2 := congrArg List.length h2
  rw [List.length_append] at l1 l2
  have hL : lexI a b = lexI r s := by rw [h1, h2, lexI_app]
  cases r with
  | nil =>
    rw [List.length_nil] at l1
    repeat' (first
      | with_reducible (first | refine Rd.p ?_ | refine zE ?_ | refine zE0 ?_)
      | with_reducible (first | refine zI fun y hy => ?_ | refine zL ?_ | refine zS ?_ | refine zA fun _ => ?_ | refine zV ?_ | refine zC ?_ | refine zG ?_ | refine zU ?_ | refine zG0 ?_ | refine zU0 ?_ | refine zF ?_)
      | with_reducible (first | refine zX ?_ | refine zD fun _ => ?_ | refine zD0 ?_ | refine zN ?_ | refine zF0 ?_ | refine zX0 ?_ | refine z1 ?_ | refine z2 ?_ | refine z3 ?_ | refine z4 ?_ | refine z5 ?_ | refine z6 ?_ | refine z7 ?_ | refine z8 ?_ | refine y1 ?_ | refine y2 ?_ | refine y3 ?_ | refine y4 ?_ | refine y5 ?_ | refine y6 ?_ | refine y7 ?_ | refine y8 ?_ | refine Rt.p (fun _ => ?_) fun _ => ?_)
      | ((with_reducible apply w_ixM); (focus exact rfl); (focus exact rfl); case' hk => intro y hy) | ((with_reducible (first | apply w_val | apply q_ends)); (focus exact rfl)))
    · cases s with
      | nil => rw [List.length_nil] at l2; omega
      | cons y s => rw [hL]; rfl
    · cases s with
      | nil => rw [hL]; rfl
      | cons y s => rw [List.length_cons] at l2; omega
  | cons x r =>
    rw [List.length_cons] at l1
    cases s with
    | nil =>
      rw [List.length_nil] at l2
      repeat' (first
        | with_reducible (first | refine Rd.p ?_ | refine zE ?_ | refine zE0 ?_)
        | (refine w_ixP h1 rfl rfl ?_)
        | with_reducible (first | refine zI fun y hy => ?_ | refine zL ?_ | refine zS ?_ | refine zA fun _ => ?_ | refine zV ?_ | refine zC ?_ | refine zG ?_ | refine zU ?_ | refine zG0 ?_ | refine zU0 ?_ | refine zF ?_)
        | with_reducible (first | refine zX ?_ | refine zD fun _ => ?_ | refine zD0 ?_ | refine zN ?_ | refine zF0 ?_ | refine zX0 ?_ | refine z1 ?_ | refine z2 ?_ | refine z3 ?_ | refine z4 ?_ | refine z5 ?_ | refine z6 ?_ | refine z7 ?_ | refine z8 ?_ | refine y1 ?_ | refine y2 ?_ | refine y3 ?_ | refine y4 ?_ | refine y5 ?_ | refine y6 ?_ | refine y7 ?_ | refine y8 ?_ | refine Rt.p (fun _ => ?_) fun _ => ?_)
        | ((with_reducible apply w_ixM); (focus exact rfl); (focus exact rfl); case' hk => intro y hy) | ((with_reducible (first | apply w_val | apply q_ends)); (focus exact rfl)))
      rw [hL]; rfl
    | cons y s =>
      rw [List.length_cons] at l2
      rw [lexI] at hL
      repeat' (first
        | with_reducible (first | refine Rd.p ?_ | refine zE ?_ | refine zE0 ?_)
        | (first | refine w_ixP h1 rfl rfl ?_ | refine w_ixP h2 rfl rfl ?_)
        | with_reducible (first | refine zI fun y hy => ?_ | refine zL ?_ | refine zS ?_ | refine zA fun _ => ?_ | refine zV ?_ | refine zC ?_ | refine zG ?_ | refine zU ?_ | refine zG0 ?_ | refine zU0 ?_ | refine zF ?_)
        | ((with_reducible refine acall_id ?_); refine ACall.val (compare_c _ _) rfl rfl ?_)
        | with_reducible (first | refine zX ?_ | refine zD fun _ => ?_ | refine zD0 ?_ | refine zN ?_ | refine zF0 ?_ | refine zX0 ?_ | refine z1 ?_ | refine z2 ?_ | refine z3 ?_ | refine z4 ?_ | refine z5 ?_ | refine z6 ?_ | refine z7 ?_ | refine z8 ?_ | refine y1 ?_ | refine y2 ?_ | refine y3 ?_ | refine y4 ?_ | refine y5 ?_ | refine y6 ?_ | refine y7 ?_ | refine y8 ?_ | refine Rt.p (fun _ => ?_) fun _ => ?_)
        | ((with_reducible apply w_ixM); (focus exact rfl); (focus exact rfl); case' hk => intro y hy) | ((with_reducible (first | apply w_val | apply q_ends)); (focus exact rfl)))
      · rename_i h; rw [hL, if_neg h]; rfl
      · rename_i h
        rw [if_pos (Decidable.not_not.1 h)] at hL
        have hxy := cmpI_eq.1 (Decidable.not_not.1 h)
        refine zQ (pre ++ [x], r, s) ?_ ?_
        · dsimp only
          exact ⟨by rw [h1]; simp, by rw [h2, hxy]; simp⟩
        · simp
def orI : List Int → Int
  | [] => 0
  | x :: r => if x = 0 then orI r else x
theorem or_c (l : List Int) (hl : l.length < 1000000) : Fn0 Try.prog 119 [.slc 1 (iR l) .non] (fun v => v = .int .i64 (orI l)) := by
  refine RawC.walk (H := hint119 Try.prog) ir119 Try.func119 rfl rfl rfl ?_
  unfold ir119
  repeat' (first
    | with_reducible (first | refine Rd.p ?_ | refine zE ?_ | refine zE0 ?_)
    | with_reducible (first | refine zI fun y hy => ?_ | refine zL ?_ | refine zS ?_ | refine zA fun _ => ?_ | refine zV ?_ | refine zC ?_ | refine zG ?_ | refine zU ?_ | refine zG0 ?_ | refine zU0 ?_ | refine zF ?_)
    | with_reducible (first | refine zX ?_ | refine zD fun _ => ?_ | refine zD0 ?_ | refine zN ?_ | refine zF0 ?_ | refine zX0 ?_ | refine z1 ?_ | refine z2 ?_ | refine z3 ?_ | refine z4 ?_ | refine z5 ?_ | refine z6 ?_ | refine z7 ?_ | refine z8 ?_ | refine y1 ?_ | refine y2 ?_ | refine y3 ?_ | refine y4 ?_ | refine y5 ?_ | refine y6 ?_ | refine y7 ?_ | refine y8 ?_ | refine Rt.p (fun _ => ?_) fun _ => ?_)
    | ((with_reducible apply w_ixM); (focus exact rfl); (focus exact rfl); case' hk => intro y hy) | ((with_reducible (first | apply w_val | apply q_ends)); (focus exact rfl)))
  refine w_loopK [3, 6, 7] [] (fun x : List Int × List Int => l = x.1 ++ x.2 ∧ orI l = orI x.2) (fun x => x.2.length) (fun x => [(8, .int .i64 x.1.length)]) (fun _ => []) ([], l) ⟨rfl, rfl⟩ ⟨rfl, trivial⟩ trivial ?_
  rintro ⟨pre, post⟩ ⟨hp, hb⟩ e σ
  dsimp only at hp hb ⊢
  have hlen := congrArg List.length hp
  cases post with
  | nil =>
    simp only [List.append_nil, List.length_append, List.length_nil] at hlen
    repeat' (first
      | with_reducible (first | refine Rd.p ?_ | refine zE ?_ | refine zE0 ?_)
      | with_reducible (first | refine zI fun y hy => ?_ | refine zL ?_ | refine zS ?_ | refine zA fun _ => ?_ | refine zV ?_ | refine zC ?_ | refine zG ?_ | refine zU ?_ | refine zG0 ?_ | refine zU0 ?_ | refine zF ?_)
      | with_reducible (first | refine zX ?_ | refine zD fun _ => ?_ | refine zD0 ?_ | refine zN ?_ | refine zF0 ?_ | refine zX0 ?_ | refine z1 ?_ | refine z2 ?_ | refine z3 ?_ | refine z4 ?_ | refine z5 ?_ | refine z6 ?_ | refine z7 ?_ | refine z8 ?_ | refine y1 ?_ | refine y2 ?_ | refine y3 ?_ | refine y4 ?_ | refine y5 ?_ | refine y6 ?_ | refine y7 ?_ | refine y8 ?_ | refine Rt.p (fun _ => ?_) fun _ => ?_)
      | ((with_reducible apply w_ixM); (focus exact rfl); (focus exact rfl); case' hk => intro y hy) | ((with_reducible (first | apply w_val | apply q_ends)); (focus exact rfl)))
    rw [hb]; rfl
  | cons c post =>
    simp only [List.length_append, List.length_cons] at hlen
    rw [orI] at hb
    repeat' (first
      | with_reducible (first | refine Rd.p ?_ | refine zE ?_ | refine zE0 ?_)
      | (refine w_ixP hp rfl rfl ?_)
      | with_reducible (first | refine zI fun y hy => ?_ | refine zL ?_ | refine zS ?_ | refine zA fun _ => ?_ | refine zV ?_ | refine zC ?_ | refine zG ?_ | refine zU ?_ | refine zG0 ?_ | refine zU0 ?_ | refine zF ?_)
      | with_reducible (first | refine zX ?_ | refine zD fun _ => ?_ | refine zD0 ?_ | refine zN ?_ | refine zF0 ?_ | refine zX0 ?_ | refine z1 ?_ | refine z2 ?_ | refine z3 ?_ | refine z4 ?_ | refine z5 ?_ | refine z6 ?_ | refine z7 ?_ | refine z8 ?_ | refine y1 ?_ | refine y2 ?_ | refine y3 ?_ | refine y4 ?_ | refine y5 ?_ | refine y6 ?_ | refine y7 ?_ | refine y8 ?_ | refine Rt.p (fun _ => ?_) fun _ => ?_)
      | ((with_reducible apply w_ixM); (focus exact rfl); (focus exact rfl); case' hk => intro y hy) | ((with_reducible (first | apply w_val | apply q_ends)); (focus exact rfl)))
    · rename_i h; rw [hb, if_neg h]; rfl
    · rename_i h
      refine zQ (pre ++ [c], post) ?_ ?_
      · dsimp only
        exact ⟨by rw [hp]; simp, by rw [hb, if_pos (Decidable.not_not.1 h)]⟩
      · simp
theorem lists_c (a b : List Int) (ha : a.length < 1000000) (hb : b.length < 1000000) : Fn0 Try.prog 96 [.slc 1 (iR a) .non, .slc 1 (iR b) .non] (fun v => v = .int .i64 (lsI a b)) := by
  refine RawC.walk (H := hint96 Try.prog) ir96 Try.func96 rfl rfl rfl ?_
  unfold ir96
  repeat' (first
    | with_reducible (first | refine Rd.p ?_ | refine zE ?_ | refine zE0 ?_)
    | with_reducible (first | refine zI fun y hy => ?_ | refine zL ?_ | refine zS ?_ | refine zA fun _ => ?_ | refine zV ?_ | refine zC ?_ | refine zG ?_ | refine zU ?_ | refine zG0 ?_ | refine zU0 ?_ | refine zF ?_)
    | ((with_reducible refine acall_id ?_); refine ACall.val (compare_c _ _) rfl rfl ?_)
    | ((with_reducible refine acall_id ?_); refine ACall.val (scompare_c _ _ ha hb) rfl rfl ?_)
    | ((with_reducible refine acall_id ?_); refine ACall.val (or_c [_, _] (by simp)) rfl rfl ?_)
    | with_reducible (first | refine zX ?_ | refine zD fun _ => ?_ | refine zD0 ?_ | refine zN ?_ | refine zF0 ?_ | refine zX0 ?_ | refine z1 ?_ | refine z2 ?_ | refine z3 ?_ | refine z4 ?_ | refine z5 ?_ | refine z6 ?_ | refine z7 ?_ | refine z8 ?_ | refine y1 ?_ | refine y2 ?_ | refine y3 ?_ | refine y4 ?_ | refine y5 ?_ | refine y6 ?_ | refine y7 ?_ | refine y8 ?_ | refine Rt.p (fun _ => ?_) fun _ => ?_)
    | ((with_reducible apply w_ixM); (focus exact rfl); (focus exact rfl); case' hk => intro y hy) | ((with_reducible (first | apply w_val | apply q_ends)); (focus exact rfl)))
  refine congrArg (AV.int .i64) ?_
  rw [orI, orI, orI, lsI]
  split
  · split
    · rename_i h; exact h.symm
    · rfl
  · rfl
end Go.Abs
