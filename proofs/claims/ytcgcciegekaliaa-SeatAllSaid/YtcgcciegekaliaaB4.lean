/- A part of the proofs of the laws of this seat: contracts of the functions that they reach, each proved of the program's form in Lean. No condition beyond those that each contract names. -/
import Derived.Test.YtcgcciegekaliaaB0
import Derived.Test.YtcgcciegekaliaaB3
import Derived.Test.YtcgcciegekaliaaB2
set_option linter.unusedVariables false
set_option linter.unusedSimpArgs false
set_option maxRecDepth 20000
set_option maxHeartbeats 4000000
/-! ### Menus -/
namespace Go.Abs
open Go.Proofs
/-- aloeswood/aloeswoodkit.Eq -/
def ir24 : IFn :=
  ⟨26, [(4, none)], (.seq (.ops [⟨(some 4), none, (.mov (.k (.bool false)))⟩])
  (.seq (.seq (.ops [⟨(some 6), none, (.mov (.t 0))⟩,
    ⟨(some 7), none, (.len false (.t 6))⟩,
    ⟨(some 8), none, (.mov (.t 1))⟩,
    ⟨(some 9), none, (.len false (.t 8))⟩,
    ⟨(some 10), none, (.bin .neq (.t 7) (.t 9))⟩])
  (.cnd (.t 10)
    (.seq (.ops [⟨(some 4), none, (.mov (.k (.bool false)))⟩])
    .ret)
    .skip))
  (.seq (.seq (.ops [⟨(some 5), none, (.mov (.k (.int .i64 0)))⟩])
  (.blk 0 (.loop (.seq (.seq (.ops [⟨(some 11), none, (.mov (.t 5))⟩,
        ⟨(some 12), none, (.mov (.t 0))⟩,
        ⟨(some 13), none, (.len false (.t 12))⟩,
        ⟨(some 14), none, (.bin .lss (.t 11) (.t 13))⟩])
      (.cnd (.t 14)
        .skip
        (.exit 0)))
      (.seq (.blk 1 (.seq (.ops [⟨(some 17), none, (.mov (.t 0))⟩,
          ⟨(some 18), none, (.mov (.t 5))⟩,
          ⟨(some 19), none, (.ixA 1 (.t 17) (.t 18))⟩,
          ⟨(some 20), none, (.ld 1 false (.t 19))⟩,
          ⟨(some 21), none, (.mov (.t 1))⟩,
          ⟨(some 22), none, (.mov (.t 5))⟩,
          ⟨(some 23), none, (.ixA 1 (.t 21) (.t 22))⟩,
          ⟨(some 24), none, (.ld 1 false (.t 23))⟩,
          ⟨(some 25), none, (.bin .neq (.t 20) (.t 24))⟩])
        (.cnd (.t 25)
          (.seq (.ops [⟨(some 4), none, (.mov (.k (.bool false)))⟩])
          .ret)
          .skip)))
      (.ops [⟨(some 15), none, (.mov (.t 5))⟩,
        ⟨(some 16), none, (.bin .add (.t 15) (.k (.int .i64 1)))⟩,
        ⟨(some 5), none, (.mov (.t 16))⟩]))))))
  (.seq (.ops [⟨(some 4), none, (.mov (.k (.bool true)))⟩])
  .ret))))⟩
def hint24 (P : Program) : Hint := {}

/-- slices.Clone[[]int,int] -/
def ir72 : IFn :=
  ⟨8, [(2, none)], (.seq (.ops [⟨(some 2), none, (.nil 1 2)⟩])
  (.seq (.seq (.ops [⟨(some 3), none, (.mov (.t 0))⟩,
    ⟨(some 4), none, (.eqn .slice false (.t 3) (.k .nsl))⟩])
  (.cnd (.t 4)
    (.seq (.ops [⟨(some 2), none, (.nil 1 2)⟩])
    .ret)
    .skip))
  (.seq (.ops [⟨(some 5), none, (.bsl 1 [] [])⟩,
    ⟨(some 6), none, (.mov (.t 0))⟩,
    ⟨(some 7), none, (.app 1 8 (.t 5) (.t 6) 2)⟩,
    ⟨(some 2), none, (.mov (.t 7))⟩])
  .ret)))⟩
def hint72 (P : Program) : Hint := { site := [(7, 2)], nils := [(2, 1)], frz := [], mve := [], wr := [] }

/-- aloeswood/aloeswoodref08.menus -/
def ir76 : IFn :=
  ⟨41, [(6, none)], (.seq (.ops [⟨(some 6), none, (.mov (.k .nsl))⟩])
  (.seq (.seq (.ops [⟨(some 9), none, (.mov (.t 2))⟩,
    ⟨(some 10), none, (.len false (.t 9))⟩,
    ⟨(some 11), none, (.mov (.t 1))⟩,
    ⟨(some 12), none, (.bin .eql (.t 10) (.t 11))⟩])
  (.cnd (.t 12)
    (.seq (.ops [⟨(some 13), none, (.mov (.t 2))⟩,
      ⟨(some 14), none, (.bsl 1 [[.nsl]] [(0, (.t 13))])⟩,
      ⟨(some 6), none, (.mov (.t 14))⟩])
    .ret)
    .skip))
  (.seq (.ops [⟨(some 7), none, (.nil 1 7)⟩])
  (.seq (.seq (.ops [⟨(some 8), none, (.mov (.k (.int .i64 0)))⟩])
  (.blk 0 (.loop (.seq (.seq (.ops [⟨(some 15), none, (.mov (.t 8))⟩,
        ⟨(some 16), none, (.mov (.t 0))⟩,
        ⟨(some 17), none, (.len false (.t 16))⟩,
        ⟨(some 18), none, (.bin .lss (.t 15) (.t 17))⟩])
      (.cnd (.t 18)
        .skip
        (.exit 0)))
      (.seq (.blk 1 (.seq (.ops [⟨(some 21), none, (.mov (.t 0))⟩,
          ⟨(some 22), none, (.mov (.t 8))⟩,
          ⟨(some 23), none, (.ixA 3 (.t 21) (.t 22))⟩,
          ⟨(some 24), none, (.flA 0 (.t 23))⟩,
          ⟨(some 25), none, (.ld 1 false (.t 24))⟩,
          ⟨(some 26), none, (.mov (.t 2))⟩,
          ⟨(some 27), none, (.len false (.t 26))⟩,
          ⟨(some 28), none, (.bin .eql (.t 25) (.t 27))⟩])
        (.cnd (.t 28)
          (.ops [⟨(some 29), none, (.mov (.t 7))⟩,
            ⟨(some 30), none, (.mov (.t 0))⟩,
            ⟨(some 31), none, (.mov (.t 1))⟩,
            ⟨(some 32), none, (.bsl 1 [] [])⟩,
            ⟨(some 33), none, (.mov (.t 2))⟩,
            ⟨(some 34), none, (.app 1 8 (.t 32) (.t 33) 34)⟩,
            ⟨(some 35), none, (.mov (.t 8))⟩,
            ⟨(some 36), none, (.bsl 1 [[(.int .i64 0)]] [(0, (.t 35))])⟩,
            ⟨(some 37), none, (.app 1 8 (.t 34) (.t 36) 37)⟩,
            ⟨(some 38), none, (.callF 76 [(.t 30), (.t 31), (.t 37)])⟩,
            ⟨(some 39), none, (.app 1 24 (.t 29) (.t 38) 7)⟩,
            ⟨(some 7), none, (.mov (.t 39))⟩])
          .skip)))
      (.ops [⟨(some 19), none, (.mov (.t 8))⟩,
        ⟨(some 20), none, (.bin .add (.t 19) (.k (.int .i64 1)))⟩,
        ⟨(some 8), none, (.mov (.t 20))⟩]))))))
  (.seq (.ops [⟨(some 40), none, (.mov (.t 7))⟩,
    ⟨(some 6), none, (.mov (.t 40))⟩])
  .ret)))))⟩
def hint76 (P : Program) : Hint := { site := [(39, 7)], nils := [(7, 1)], frz := [], mve := [], wr := [] }

/-- aloeswood/aloeswoodref08.enough -/
def ir77 : IFn :=
  ⟨42, [(8, none)], (.seq (.ops [⟨(some 8), none, (.mov (.k (.bool false)))⟩])
  (.seq (.seq (.ops [⟨(some 9), none, (.mov (.k (.int .i64 0)))⟩])
  (.blk 0 (.loop (.seq (.seq (.ops [⟨(some 12), none, (.mov (.t 9))⟩,
        ⟨(some 13), none, (.mov (.t 0))⟩,
        ⟨(some 14), none, (.len false (.t 13))⟩,
        ⟨(some 15), none, (.bin .lss (.t 12) (.t 14))⟩])
      (.cnd (.t 15)
        .skip
        (.exit 0)))
      (.seq (.blk 1 (.seq (.ops [⟨(some 10), none, (.mov (.k (.int .i64 0)))⟩])
        (.seq (.seq (.ops [⟨(some 11), none, (.mov (.k (.int .i64 0)))⟩])
        (.blk 2 (.loop (.seq (.seq (.ops [⟨(some 18), none, (.mov (.t 11))⟩,
              ⟨(some 19), none, (.mov (.t 2))⟩,
              ⟨(some 20), none, (.len false (.t 19))⟩,
              ⟨(some 21), none, (.bin .lss (.t 18) (.t 20))⟩])
            (.cnd (.t 21)
              .skip
              (.exit 2)))
            (.seq (.blk 3 (.seq (.ops [⟨(some 24), none, (.mov (.t 0))⟩,
                ⟨(some 25), none, (.mov (.t 9))⟩,
                ⟨(some 26), none, (.ixA 5 (.t 24) (.t 25))⟩,
                ⟨(some 27), none, (.ld 5 true (.t 26))⟩,
                ⟨(some 28), none, (.mov (.t 1))⟩,
                ⟨(some 29), none, (.mov (.t 2))⟩,
                ⟨(some 30), none, (.mov (.t 11))⟩,
                ⟨(some 31), none, (.ixA 1 (.t 29) (.t 30))⟩,
                ⟨(some 32), none, (.ld 1 false (.t 31))⟩,
                ⟨(some 33), none, (.ixA 3 (.t 28) (.t 32))⟩,
                ⟨(some 34), none, (.ld 3 true (.t 33))⟩,
                ⟨(some 35), none, (.callF 80 [(.t 27), (.t 34)])⟩,
                ⟨(some 36), none, (.bin .eql (.t 35) (.k (.int .i64 1)))⟩])
              (.cnd (.t 36)
                (.ops [⟨(some 37), none, (.mov (.t 10))⟩,
                  ⟨(some 38), none, (.bin .add (.t 37) (.k (.int .i64 1)))⟩,
                  ⟨(some 10), none, (.mov (.t 38))⟩])
                .skip)))
            (.ops [⟨(some 22), none, (.mov (.t 11))⟩,
              ⟨(some 23), none, (.bin .add (.t 22) (.k (.int .i64 1)))⟩,
              ⟨(some 11), none, (.mov (.t 23))⟩]))))))
        (.seq (.ops [⟨(some 39), none, (.mov (.t 10))⟩,
          ⟨(some 40), none, (.mov (.t 3))⟩,
          ⟨(some 41), none, (.bin .lss (.t 39) (.t 40))⟩])
        (.cnd (.t 41)
          (.seq (.ops [⟨(some 8), none, (.mov (.k (.bool false)))⟩])
          .ret)
          .skip)))))
      (.ops [⟨(some 16), none, (.mov (.t 9))⟩,
        ⟨(some 17), none, (.bin .add (.t 16) (.k (.int .i64 1)))⟩,
        ⟨(some 9), none, (.mov (.t 17))⟩]))))))
  (.seq (.ops [⟨(some 8), none, (.mov (.k (.bool true)))⟩])
  .ret)))⟩
def hint77 (P : Program) : Hint := {}

theorem eq_c (a b : List Int) (h : a.length < 2 ^ 62) : Fn0 Try.prog 24 [.slc 1 (iR a) .non, .slc 1 (iR b) .non] (fun v => v = .bool (decide (a = b))) := by
  refine RawC.walk (H := hint24 Try.prog) ir24 Try.func24 rfl rfl rfl ?_
  unfold ir24
  repeat' (first
    | with_reducible (first | refine Rd.p ?_ | refine zE ?_ | refine zE0 ?_)
    | with_reducible (first | refine zI fun y hy => ?_ | refine zL ?_ | refine zS ?_ | refine zA fun _ => ?_ | refine zV ?_ | refine zC ?_ | refine zG ?_ | refine zU ?_ | refine zG0 ?_ | refine zU0 ?_ | refine zF ?_)
    | with_reducible (first | refine zX ?_ | refine zD fun _ => ?_ | refine zD0 ?_ | refine zN ?_ | refine zF0 ?_ | refine zX0 ?_ | refine z1 ?_ | refine z2 ?_ | refine z3 ?_ | refine z4 ?_ | refine z5 ?_ | refine z6 ?_ | refine z7 ?_ | refine z8 ?_ | refine y1 ?_ | refine y2 ?_ | refine y3 ?_ | refine y4 ?_ | refine y5 ?_ | refine y6 ?_ | refine y7 ?_ | refine y8 ?_ | refine Rt.p (fun _ => ?_) fun _ => ?_)
    | ((with_reducible apply w_ixM); (focus exact rfl); (focus exact rfl); case' hk => intro y hy) | ((with_reducible (first | apply w_val | apply q_ends)); (focus exact rfl)))
  · rename_i h1
    exact congrArg AV.bool (by simp; intro h; rw [h] at h1; exact h1 rfl)
  rename_i h1
  refine w_loopK [0, 1] [] (fun x : List Int × List Int × List Int => a = x.1 ++ x.2.1 ∧ b = x.1 ++ x.2.2 ∧ x.2.1.length = x.2.2.length) (fun x => x.2.1.length) (fun x => [(5, .int .i64 x.1.length)]) (fun _ => []) ([], a, b) ⟨rfl, rfl, by dsimp only; omega⟩ ⟨rfl, trivial⟩ trivial ?_
  rintro ⟨pre, pa, pb⟩ ⟨ha, hb, hl⟩ e σ
  dsimp only at ha hb hl ⊢
  have hlen := congrArg List.length ha
  cases pa with
  | nil =>
    cases pb with
    | cons _ _ => simp at hl
    | nil =>
      simp only [List.append_nil, List.length_append, List.length_nil] at hlen
      repeat' (first
        | with_reducible (first | refine Rd.p ?_ | refine zE ?_ | refine zE0 ?_)
        | with_reducible (first | refine zI fun y hy => ?_ | refine zL ?_ | refine zS ?_ | refine zA fun _ => ?_ | refine zV ?_ | refine zC ?_ | refine zG ?_ | refine zU ?_ | refine zG0 ?_ | refine zU0 ?_ | refine zF ?_)
        | with_reducible (first | refine zX ?_ | refine zD fun _ => ?_ | refine zD0 ?_ | refine zN ?_ | refine zF0 ?_ | refine zX0 ?_ | refine z1 ?_ | refine z2 ?_ | refine z3 ?_ | refine z4 ?_ | refine z5 ?_ | refine z6 ?_ | refine z7 ?_ | refine z8 ?_ | refine y1 ?_ | refine y2 ?_ | refine y3 ?_ | refine y4 ?_ | refine y5 ?_ | refine y6 ?_ | refine y7 ?_ | refine y8 ?_ | refine Rt.p (fun _ => ?_) fun _ => ?_)
        | ((with_reducible apply w_ixM); (focus exact rfl); (focus exact rfl); case' hk => intro y hy) | ((with_reducible (first | apply w_val | apply q_ends)); (focus exact rfl)))
      exact congrArg AV.bool (by simp [ha, hb])
  | cons x pa =>
    cases pb with
    | nil => simp at hl
    | cons y pb =>
      simp only [List.length_append, List.length_cons] at hlen
      repeat' (first
        | with_reducible (first | refine Rd.p ?_ | refine zE ?_ | refine zE0 ?_)
        | (first | refine w_ixP ha rfl rfl ?_ | refine w_ixP hb rfl rfl ?_)
        | with_reducible (first | refine zI fun y hy => ?_ | refine zL ?_ | refine zS ?_ | refine zA fun _ => ?_ | refine zV ?_ | refine zC ?_ | refine zG ?_ | refine zU ?_ | refine zG0 ?_ | refine zU0 ?_ | refine zF ?_)
        | with_reducible (first | refine zX ?_ | refine zD fun _ => ?_ | refine zD0 ?_ | refine zN ?_ | refine zF0 ?_ | refine zX0 ?_ | refine z1 ?_ | refine z2 ?_ | refine z3 ?_ | refine z4 ?_ | refine z5 ?_ | refine z6 ?_ | refine z7 ?_ | refine z8 ?_ | refine y1 ?_ | refine y2 ?_ | refine y3 ?_ | refine y4 ?_ | refine y5 ?_ | refine y6 ?_ | refine y7 ?_ | refine y8 ?_ | refine Rt.p (fun _ => ?_) fun _ => ?_)
        | ((with_reducible apply w_ixM); (focus exact rfl); (focus exact rfl); case' hk => intro y hy) | ((with_reducible (first | apply w_val | apply q_ends)); (focus exact rfl)))
      · rename_i h2
        exact congrArg AV.bool (by simp [ha, hb]; intro h; exact absurd h h2)
      · rename_i h2
        obtain rfl := Decidable.not_not.1 h2
        refine zQ (pre ++ [x], pa, pb) ?_ ?_
        · exact ⟨by rw [ha]; simp, by rw [hb]; simp, by simpa using hl⟩
        · simp
theorem clone_c (l : List Int) (a : AV) (ha : NowV a l) (h : l.length < 2 ^ 40) : Fn0 Try.prog 72 [a] (fun v => v = .slc 1 (iR l) .non) := by
  rcases ha with ⟨rfl, rfl⟩ | ⟨rfl, hne⟩
  · refine RawC.walk (H := hint72 Try.prog) ir72 Try.func72 rfl rfl rfl ?_
    unfold ir72
    repeat' (first
      | with_reducible (first | refine Rd.p ?_ | refine zE ?_ | refine zE0 ?_)
      | with_reducible (first | refine zI fun y hy => ?_ | refine zL ?_ | refine zS ?_ | refine zA fun _ => ?_ | refine zV ?_ | refine zC ?_ | refine zG ?_ | refine zU ?_ | refine zG0 ?_ | refine zU0 ?_ | refine zF ?_)
      | with_reducible (first | refine zX ?_ | refine zD fun _ => ?_ | refine zD0 ?_ | refine zN ?_ | refine zF0 ?_ | refine zX0 ?_ | refine z1 ?_ | refine z2 ?_ | refine z3 ?_ | refine z4 ?_ | refine z5 ?_ | refine z6 ?_ | refine z7 ?_ | refine z8 ?_ | refine y1 ?_ | refine y2 ?_ | refine y3 ?_ | refine y4 ?_ | refine y5 ?_ | refine y6 ?_ | refine y7 ?_ | refine y8 ?_ | refine Rt.p (fun _ => ?_) fun _ => ?_)
      | ((with_reducible apply w_ixM); (focus exact rfl); (focus exact rfl); case' hk => intro y hy) | ((with_reducible (first | apply w_val | apply q_ends)); (focus exact rfl)))
    exact rfl
  · have hne' : (iR l) ≠ [] := by simpa using hne
    have hL : (iR l).length = l.length := by simp
    refine RawC.walk (H := hint72 Try.prog) ir72 Try.func72 rfl rfl rfl ?_
    unfold ir72
    repeat' (first
      | with_reducible (first | refine Rd.p ?_ | refine zE ?_ | refine zE0 ?_)
      | with_reducible (first | refine zI fun y hy => ?_ | refine zL ?_ | refine zS ?_ | refine zA fun _ => ?_ | refine zV ?_ | refine zC ?_ | refine zG ?_ | refine zU ?_ | refine zG0 ?_ | refine zU0 ?_ | refine zF ?_)
      | with_reducible (first | refine zX ?_ | refine zD fun _ => ?_ | refine zD0 ?_ | refine zN ?_ | refine zF0 ?_ | refine zX0 ?_ | refine z1 ?_ | refine z2 ?_ | refine z3 ?_ | refine z4 ?_ | refine z5 ?_ | refine z6 ?_ | refine z7 ?_ | refine z8 ?_ | refine y1 ?_ | refine y2 ?_ | refine y3 ?_ | refine y4 ?_ | refine y5 ?_ | refine y6 ?_ | refine y7 ?_ | refine y8 ?_ | refine Rt.p (fun _ => ?_) fun _ => ?_)
      | ((with_reducible apply w_ixM); (focus exact rfl); (focus exact rfl); case' hk => intro y hy) | ((with_reducible (first | apply w_val | apply q_ends)); (focus exact rfl)))
    exact rfl
theorem cloneO_c (l : List Int) (a : AV) (ha : NowV a l) (h : l.length < 2 ^ 40) : RawC Try.prog 72 [a] (sg []) (SR (fun g : Nat => fun v => v = .slc 1 (iR l) (.own 2 g)) (fun g => [(2, (g, .row []))])) := by
  rcases ha with ⟨rfl, rfl⟩ | ⟨rfl, hne⟩
  · refine RawC.walk (H := hint72 Try.prog) ir72 Try.func72 rfl rfl rfl ?_
    unfold ir72
    repeat' (first
      | with_reducible (first | refine Rd.p ?_ | refine zO ?_ | refine zE0 ?_)
      | with_reducible (first | refine zI fun y hy => ?_ | refine zL ?_ | refine zS ?_ | refine zA fun _ => ?_ | refine zV ?_ | refine zC ?_ | refine zG ?_ | refine zU ?_ | refine zG0 ?_ | refine zU0 ?_ | refine zF ?_)
      | with_reducible (first | refine zX ?_ | refine zD fun _ => ?_ | refine zD0 ?_ | refine zN ?_ | refine zF0 ?_ | refine zX0 ?_ | refine z1 ?_ | refine z2 ?_ | refine z3 ?_ | refine z4 ?_ | refine z5 ?_ | refine z6 ?_ | refine z7 ?_ | refine z8 ?_ | refine y1 ?_ | refine y2 ?_ | refine y3 ?_ | refine y4 ?_ | refine y5 ?_ | refine y6 ?_ | refine y7 ?_ | refine y8 ?_ | refine Rt.p (fun _ => ?_) fun _ => ?_)
      | ((with_reducible apply w_ixM); (focus exact rfl); (focus exact rfl); case' hk => intro y hy) | ((with_reducible (first | apply w_val | apply q_ends)); (focus exact rfl)))
    exact ⟨_, rfl, rfl, trivial⟩
  · have hne' : (iR l) ≠ [] := by simpa using hne
    have hL : (iR l).length = l.length := by simp
    refine RawC.walk (H := hint72 Try.prog) ir72 Try.func72 rfl rfl rfl ?_
    unfold ir72
    repeat' (first
      | with_reducible (first | refine Rd.p ?_ | refine zO ?_ | refine zE0 ?_)
      | with_reducible (first | refine zI fun y hy => ?_ | refine zL ?_ | refine zS ?_ | refine zA fun _ => ?_ | refine zV ?_ | refine zC ?_ | refine zG ?_ | refine zU ?_ | refine zG0 ?_ | refine zU0 ?_ | refine zF ?_)
      | with_reducible (first | refine zX ?_ | refine zD fun _ => ?_ | refine zD0 ?_ | refine zN ?_ | refine zF0 ?_ | refine zX0 ?_ | refine z1 ?_ | refine z2 ?_ | refine z3 ?_ | refine z4 ?_ | refine z5 ?_ | refine z6 ?_ | refine z7 ?_ | refine z8 ?_ | refine y1 ?_ | refine y2 ?_ | refine y3 ?_ | refine y4 ?_ | refine y5 ?_ | refine y6 ?_ | refine y7 ?_ | refine y8 ?_ | refine Rt.p (fun _ => ?_) fun _ => ?_)
      | ((with_reducible apply w_ixM); (focus exact rfl); (focus exact rfl); case' hk => intro y hy) | ((with_reducible (first | apply w_val | apply q_ends)); (focus exact rfl)))
    exact ⟨_, rfl, rfl, trivial⟩
/-- The dish of a number; the numbers of the dishes of a turn. -/
def dAt (ds : List Dish) (i : Int) : Dish := (ds[i.toNat]?).getD ⟨0, 0, 0⟩
def idxF (t : Int) : Nat → List Dish → List Int
  | _, [] => []
  | i, d :: r => if d.turn = t then (i : Int) :: idxF t (i + 1) r else idxF t (i + 1) r
def menusK (ds : List Dish) : Nat → List Int → List (List Int)
  | 0, b => [b]
  | k + 1, b => (idxF b.length 0 ds).flatMap fun i => menusK ds k (b ++ [i])
theorem idxF_len (t : Int) : ∀ (i : Nat) (ds : List Dish), (idxF t i ds).length ≤ ds.length
  | _, [] => Nat.le_refl _
  | i, d :: r => by
    have := idxF_len t (i + 1) r
    simp only [idxF]; split <;> simp <;> omega
theorem idxF_mem {t : Int} : ∀ {i : Nat} {ds : List Dish} {x : Int}, x ∈ idxF t i ds → ∃ j : Nat, x = j ∧ i ≤ j ∧ ∃ d, ds[j - i]? = some d ∧ d.turn = t
  | i, d :: r, x, h => by
    simp only [idxF] at h
    split at h
    · rename_i hd
      rcases List.mem_cons.1 h with rfl | h
      · exact ⟨i, rfl, Nat.le_refl _, d, by simp, hd⟩
      · obtain ⟨j, h1, h2, y, h3, h4⟩ := idxF_mem h
        exact ⟨j, h1, by omega, y, by rw [show j - i = (j - (i + 1)) + 1 by omega]; simpa using h3, h4⟩
    · obtain ⟨j, h1, h2, y, h3, h4⟩ := idxF_mem h
      exact ⟨j, h1, by omega, y, by rw [show j - i = (j - (i + 1)) + 1 by omega]; simpa using h3, h4⟩
theorem menusK_len (ds : List Dish) (h : ds.length ≤ 16) : ∀ k b, (menusK ds k b).length ≤ 16 ^ k
  | 0, b => by simp [menusK]
  | k + 1, b => by
    simp only [menusK, List.length_flatMap]
    have hl := idxF_len b.length 0 ds
    have key : ∀ l : List Int, (l.map fun i => (menusK ds k (b ++ [i])).length).sum ≤ l.length * 16 ^ k := by
      intro l
      induction l with
      | nil => simp
      | cons x l ih =>
        have := menusK_len ds h k (b ++ [x])
        simp only [List.map_cons, List.sum_cons, List.length_cons, Nat.add_mul, Nat.one_mul]
        omega
    have h1 := key (idxF b.length 0 ds)
    have h2 : (idxF b.length 0 ds).length * 16 ^ k ≤ 16 * 16 ^ k := Nat.mul_le_mul_right _ (by omega)
    rw [Nat.pow_succ]; omega
theorem menusK_mem {ds : List Dish} : ∀ {k : Nat} {b m : List Int}, m ∈ menusK ds k b → m.length = b.length + k ∧ ((∀ i ∈ b, 0 ≤ i ∧ i < ds.length) → ∀ i ∈ m, 0 ≤ i ∧ i < ds.length)
  | 0, b, m, h => by simp [menusK] at h; subst h; exact ⟨rfl, id⟩
  | k + 1, b, m, h => by
    simp only [menusK, List.mem_flatMap] at h
    obtain ⟨i, hi, h⟩ := h
    obtain ⟨h1, h2⟩ := menusK_mem h
    simp at h1
    refine ⟨by omega, fun hb => h2 fun x hx => ?_⟩
    rcases List.mem_append.1 hx with hx | hx
    · exact hb x hx
    · simp at hx; subst hx
      obtain ⟨j, rfl, _, d, hd, _⟩ := idxF_mem hi
      have := (List.getElem?_eq_some_iff.1 hd).1
      omega
theorem rmenus_c (ds : List Dish) (hds : ds.length ≤ 16) (turns : Nat) : ∀ (k : Nat) (b : List Int), b.length + k = turns → turns ≤ 4 →
    Fn0 Try.prog 76 [.slc 3 (dR ds) .non, .int .i64 turns, .slc 1 (iR b) .non] (fun v => v = .slc 1 (llR (menusK ds k b)) .non)
  | 0, b, hb, h4 => by
    refine RawC.walk (H := hint76 Try.prog) ir76 Try.func76 rfl rfl rfl ?_
    unfold ir76
    repeat' (first
      | with_reducible (first | refine Rd.p ?_ | refine zE ?_ | refine zE0 ?_)
      | with_reducible (first | refine zI fun y hy => ?_ | refine zL ?_ | refine zS ?_ | refine zA fun _ => ?_ | refine zV ?_ | refine zC ?_ | refine zG ?_ | refine zU ?_ | refine zG0 ?_ | refine zU0 ?_ | refine zF ?_)
      | with_reducible (first | refine zX ?_ | refine zD fun _ => ?_ | refine zD0 ?_ | refine zN ?_ | refine zF0 ?_ | refine zX0 ?_ | refine z1 ?_ | refine z2 ?_ | refine z3 ?_ | refine z4 ?_ | refine z5 ?_ | refine z6 ?_ | refine z7 ?_ | refine z8 ?_ | refine y1 ?_ | refine y2 ?_ | refine y3 ?_ | refine y4 ?_ | refine y5 ?_ | refine y6 ?_ | refine y7 ?_ | refine y8 ?_ | refine Rt.p (fun _ => ?_) fun _ => ?_)
      | ((with_reducible apply w_ixM); (focus exact rfl); (focus exact rfl); case' hk => intro y hy) | ((with_reducible (first | apply w_val | apply q_ends)); (focus exact rfl)))
    exact rfl
  | k + 1, b, hb, h4 => by
    obtain ⟨B, hB, hk⟩ : ∃ B, B ≤ 100000 ∧ ∀ c : List Int, (menusK ds k c).length ≤ B := ⟨16 ^ 4, by decide, fun c => Nat.le_trans (menusK_len ds hds k c) (Nat.pow_le_pow_right (by omega) (by omega : k ≤ 4))⟩
    refine RawC.walk (H := hint76 Try.prog) ir76 Try.func76 rfl rfl rfl ?_
    unfold ir76
    repeat' (first
      | with_reducible (first | refine Rd.p ?_ | refine zE ?_ | refine zE0 ?_)
      | with_reducible (first | refine zI fun y hy => ?_ | refine zL ?_ | refine zS ?_ | refine zA fun _ => ?_ | refine zV ?_ | refine zC ?_ | refine zG ?_ | refine zU ?_ | refine zG0 ?_ | refine zU0 ?_ | refine zF ?_)
      | with_reducible (first | refine zX ?_ | refine zD fun _ => ?_ | refine zD0 ?_ | refine zN ?_ | refine zF0 ?_ | refine zX0 ?_ | refine z1 ?_ | refine z2 ?_ | refine z3 ?_ | refine z4 ?_ | refine z5 ?_ | refine z6 ?_ | refine z7 ?_ | refine z8 ?_ | refine y1 ?_ | refine y2 ?_ | refine y3 ?_ | refine y4 ?_ | refine y5 ?_ | refine y6 ?_ | refine y7 ?_ | refine y8 ?_ | refine Rt.p (fun _ => ?_) fun _ => ?_)
      | ((with_reducible apply w_ixM); (focus exact rfl); (focus exact rfl); case' hk => intro y hy) | ((with_reducible (first | apply w_val | apply q_ends)); (focus exact rfl)))
    rename_i g0
    refine w_loopK [0, 1, 2] [] (fun x : List Dish × List Dish × List (List Int) × Nat => ds = x.1 ++ x.2.1 ∧ menusK ds (k + 1) b = x.2.2.1 ++ (idxF b.length x.1.length x.2.1).flatMap (fun i => menusK ds k (b ++ [i])) ∧ x.2.2.1.length ≤ x.1.length * B)
      (fun x => x.2.1.length) (fun x => [(8, .int .i64 x.1.length), (7, .slc 1 (llR x.2.2.1) (.own 7 x.2.2.2))]) (fun x => [(7, (x.2.2.2, .row []))]) ([], ds, [], g0) ⟨rfl, rfl, by simp⟩ ⟨rfl, rfl, trivial⟩ ⟨rfl, trivial⟩ ?_
    rintro ⟨pre, post, out, g⟩ ⟨hl, hm, ho⟩ e σ
    dsimp only at hl hm ho ⊢
    have hlen := congrArg List.length hl
    cases post with
    | nil =>
      simp only [List.append_nil, List.length_append, List.length_nil] at hlen
      repeat' (first
        | with_reducible (first | refine Rd.p ?_ | refine zE ?_ | refine zE0 ?_)
        | with_reducible (first | refine zI fun y hy => ?_ | refine zL ?_ | refine zS ?_ | refine zA fun _ => ?_ | refine zV ?_ | refine zC ?_ | refine zG ?_ | refine zU ?_ | refine zG0 ?_ | refine zU0 ?_ | refine zF ?_)
        | with_reducible (first | refine zX ?_ | refine zD fun _ => ?_ | refine zD0 ?_ | refine zN ?_ | refine zF0 ?_ | refine zX0 ?_ | refine z1 ?_ | refine z2 ?_ | refine z3 ?_ | refine z4 ?_ | refine z5 ?_ | refine z6 ?_ | refine z7 ?_ | refine z8 ?_ | refine y1 ?_ | refine y2 ?_ | refine y3 ?_ | refine y4 ?_ | refine y5 ?_ | refine y6 ?_ | refine y7 ?_ | refine y8 ?_ | refine Rt.p (fun _ => ?_) fun _ => ?_)
        | ((with_reducible apply w_ixM); (focus exact rfl); (focus exact rfl); case' hk => intro y hy) | ((with_reducible (first | apply w_val | apply q_ends)); (focus exact rfl)))
      rw [hm]; simp [idxF, tupV, untag, untagL]
    | cons d post =>
      simp only [List.length_append, List.length_cons] at hlen
      simp only [idxF] at hm
      have hk1 := hk (b ++ [(pre.length : Int)])
      have hpB : pre.length * B ≤ 16 * 100000 := Nat.mul_le_mul (by omega) hB
      repeat' (first
        | with_reducible (first | refine Rd.p ?_ | refine zE ?_ | refine zE0 ?_)
        | (refine w_ixP hl rfl rfl ?_)
        | with_reducible (first | refine zI fun y hy => ?_ | refine zL ?_ | refine zS ?_ | refine zA fun _ => ?_ | refine zV ?_ | refine zC ?_ | refine zG ?_ | refine zU ?_ | refine zG0 ?_ | refine zU0 ?_ | refine zF ?_)
        | ((with_reducible refine acall_id ?_); refine ACall.val (rmenus_c ds hds turns k (b ++ [(pre.length : Int)]) (by simp; omega) h4) rfl rfl ?_)
        | with_reducible (first | refine zX ?_ | refine zD fun _ => ?_ | refine zD0 ?_ | refine zN ?_ | refine zF0 ?_ | refine zX0 ?_ | refine z1 ?_ | refine z2 ?_ | refine z3 ?_ | refine z4 ?_ | refine z5 ?_ | refine z6 ?_ | refine z7 ?_ | refine z8 ?_ | refine y1 ?_ | refine y2 ?_ | refine y3 ?_ | refine y4 ?_ | refine y5 ?_ | refine y6 ?_ | refine y7 ?_ | refine y8 ?_ | refine Rt.p (fun _ => ?_) fun _ => ?_)
        | ((with_reducible apply w_ixM); (focus exact rfl); (focus exact rfl); case' hk => intro y hy) | ((with_reducible (first | apply w_val | apply q_ends)); (focus exact rfl)))
      · rename_i hd _ _ _
        rw [if_pos hd, List.flatMap_cons, ← List.append_assoc] at hm
        refine zQ (pre ++ [d], post, out ++ menusK ds k (b ++ [(pre.length : Int)]), _) ?_ ?_
        · exact ⟨by rw [hl]; simp, by rw [hm]; simp, by simp only [List.length_append, List.length_singleton, Nat.add_mul, Nat.one_mul]; omega⟩
        · simp
      · rename_i hd
        rw [if_neg hd] at hm
        refine zQ (pre ++ [d], post, out, _) ?_ ?_
        · exact ⟨by rw [hl]; simp, by rw [hm]; simp, by simp only [List.length_append, List.length_singleton, Nat.add_mul, Nat.one_mul]; omega⟩
        · simp
/-- How many dishes of a menu a guest surely can eat; whether that is enough for all. -/
def eatN (ds : List Dish) (g : Guest) : List Int → Int
  | [] => 0
  | i :: r => (if eatsV g (dAt ds i) = 1 then 1 else 0) + eatN ds g r
def enoughB (l : List Guest) (ds : List Dish) (m : List Int) (need : Int) : Bool := l.all fun g => decide (need ≤ eatN ds g m)
theorem eatN_snoc (ds : List Dish) (g : Guest) (i : Int) : ∀ m, eatN ds g (m ++ [i]) = eatN ds g m + (if eatsV g (dAt ds i) = 1 then 1 else 0)
  | [] => by simp [eatN]
  | x :: m => by simp only [List.cons_append, eatN, eatN_snoc ds g i m]; omega
theorem eatN_bd (ds : List Dish) (g : Guest) : ∀ m, 0 ≤ eatN ds g m ∧ eatN ds g m ≤ m.length
  | [] => by simp [eatN]
  | x :: m => by
    have := eatN_bd ds g m
    simp only [eatN, List.length_cons]
    split <;> omega
theorem renough_c (l : List Guest) (ds : List Dish) (m : List Int) (need : Int) (hl0 : l.length < 1000) (hm0 : m.length < 1000) (hm : ∀ i ∈ m, 0 ≤ i ∧ i < ds.length) :
    Fn0 Try.prog 77 [.slc 5 (gR l) .non, .slc 3 (dR ds) .non, .slc 1 (iR m) .non, .int .i64 need] (fun v => v = .bool (enoughB l ds m need)) := by
  refine RawC.walk (H := hint77 Try.prog) ir77 Try.func77 rfl rfl rfl ?_
  unfold ir77
  repeat' (first
    | with_reducible (first | refine Rd.p ?_ | refine zE ?_ | refine zE0 ?_)
    | with_reducible (first | refine zI fun y hy => ?_ | refine zL ?_ | refine zS ?_ | refine zA fun _ => ?_ | refine zV ?_ | refine zC ?_ | refine zG ?_ | refine zU ?_ | refine zG0 ?_ | refine zU0 ?_ | refine zF ?_)
    | with_reducible (first | refine zX ?_ | refine zD fun _ => ?_ | refine zD0 ?_ | refine zN ?_ | refine zF0 ?_ | refine zX0 ?_ | refine z1 ?_ | refine z2 ?_ | refine z3 ?_ | refine z4 ?_ | refine z5 ?_ | refine z6 ?_ | refine z7 ?_ | refine z8 ?_ | refine y1 ?_ | refine y2 ?_ | refine y3 ?_ | refine y4 ?_ | refine y5 ?_ | refine y6 ?_ | refine y7 ?_ | refine y8 ?_ | refine Rt.p (fun _ => ?_) fun _ => ?_)
    | ((with_reducible apply w_ixM); (focus exact rfl); (focus exact rfl); case' hk => intro y hy) | ((with_reducible (first | apply w_val | apply q_ends)); (focus exact rfl)))
  refine w_loopK [0, 1, 2, 3] [] (fun x : List Guest × List Guest => l = x.1 ++ x.2 ∧ x.1.all (fun g => decide (need ≤ eatN ds g m)) = true) (fun x => x.2.length) (fun x => [(9, .int .i64 x.1.length)]) (fun _ => []) ([], l) ⟨rfl, rfl⟩ ⟨rfl, trivial⟩ trivial ?_
  rintro ⟨pre, post⟩ ⟨hl, hb⟩ e σ
  dsimp only at hl hb ⊢
  have hlen := congrArg List.length hl
  cases post with
  | nil =>
    simp only [List.append_nil, List.length_append, List.length_nil] at hlen
    repeat' (first
      | with_reducible (first | refine Rd.p ?_ | refine zE ?_ | refine zE0 ?_)
      | with_reducible (first | refine zI fun y hy => ?_ | refine zL ?_ | refine zS ?_ | refine zA fun _ => ?_ | refine zV ?_ | refine zC ?_ | refine zG ?_ | refine zU ?_ | refine zG0 ?_ | refine zU0 ?_ | refine zF ?_)
      | with_reducible (first | refine zX ?_ | refine zD fun _ => ?_ | refine zD0 ?_ | refine zN ?_ | refine zF0 ?_ | refine zX0 ?_ | refine z1 ?_ | refine z2 ?_ | refine z3 ?_ | refine z4 ?_ | refine z5 ?_ | refine z6 ?_ | refine z7 ?_ | refine z8 ?_ | refine y1 ?_ | refine y2 ?_ | refine y3 ?_ | refine y4 ?_ | refine y5 ?_ | refine y6 ?_ | refine y7 ?_ | refine y8 ?_ | refine Rt.p (fun _ => ?_) fun _ => ?_)
      | ((with_reducible apply w_ixM); (focus exact rfl); (focus exact rfl); case' hk => intro y hy) | ((with_reducible (first | apply w_val | apply q_ends)); (focus exact rfl)))
    exact congrArg AV.bool (by unfold enoughB; rw [hl, List.append_nil, hb])
  | cons c post =>
    simp only [List.length_append, List.length_cons] at hlen
    repeat' (first
      | with_reducible (first | refine Rd.p ?_ | refine zE ?_ | refine zE0 ?_)
      | with_reducible (first | refine zI fun y hy => ?_ | refine zL ?_ | refine zS ?_ | refine zA fun _ => ?_ | refine zV ?_ | refine zC ?_ | refine zG ?_ | refine zU ?_ | refine zG0 ?_ | refine zU0 ?_ | refine zF ?_)
      | with_reducible (first | refine zX ?_ | refine zD fun _ => ?_ | refine zD0 ?_ | refine zN ?_ | refine zF0 ?_ | refine zX0 ?_ | refine z1 ?_ | refine z2 ?_ | refine z3 ?_ | refine z4 ?_ | refine z5 ?_ | refine z6 ?_ | refine z7 ?_ | refine z8 ?_ | refine y1 ?_ | refine y2 ?_ | refine y3 ?_ | refine y4 ?_ | refine y5 ?_ | refine y6 ?_ | refine y7 ?_ | refine y8 ?_ | refine Rt.p (fun _ => ?_) fun _ => ?_)
      | ((with_reducible apply w_ixM); (focus exact rfl); (focus exact rfl); case' hk => intro y hy) | ((with_reducible (first | apply w_val | apply q_ends)); (focus exact rfl)))
    refine w_loopK [0, 1, 2, 3, 9] [] (fun x : List Int × List Int => m = x.1 ++ x.2) (fun x => x.2.length) (fun x => [(11, .int .i64 x.1.length), (10, .int .i64 (eatN ds c x.1))]) (fun _ => []) ([], m) rfl ⟨rfl, rfl, trivial⟩ trivial ?_
    rintro ⟨pre1, post1⟩ hl1 e σ
    dsimp only at hl1 ⊢
    have hlen1 := congrArg List.length hl1
    have hbd := eatN_bd ds c pre1
    cases post1 with
    | nil =>
      simp only [List.append_nil, List.length_append, List.length_nil] at hlen1 hl1
      subst hl1
      repeat' (first
        | with_reducible (first | refine Rd.p ?_ | refine zE ?_ | refine zE0 ?_)
        | with_reducible (first | refine zI fun y hy => ?_ | refine zL ?_ | refine zS ?_ | refine zA fun _ => ?_ | refine zV ?_ | refine zC ?_ | refine zG ?_ | refine zU ?_ | refine zG0 ?_ | refine zU0 ?_ | refine zF ?_)
        | with_reducible (first | refine zX ?_ | refine zD fun _ => ?_ | refine zD0 ?_ | refine zN ?_ | refine zF0 ?_ | refine zX0 ?_ | refine z1 ?_ | refine z2 ?_ | refine z3 ?_ | refine z4 ?_ | refine z5 ?_ | refine z6 ?_ | refine z7 ?_ | refine z8 ?_ | refine y1 ?_ | refine y2 ?_ | refine y3 ?_ | refine y4 ?_ | refine y5 ?_ | refine y6 ?_ | refine y7 ?_ | refine y8 ?_ | refine Rt.p (fun _ => ?_) fun _ => ?_)
        | ((with_reducible apply w_ixM); (focus exact rfl); (focus exact rfl); case' hk => intro y hy) | ((with_reducible (first | apply w_val | apply q_ends)); (focus exact rfl)))
      · exact congrArg AV.bool (by unfold enoughB; rw [hl, List.all_append, hb]; simp; intro h; omega)
      · refine zQ (pre ++ [c], post) ?_ ?_
        · exact ⟨by rw [hl]; simp, by rw [List.all_append, hb]; simp; omega⟩
        · simp
    | cons i post1 =>
      simp only [List.length_append, List.length_cons] at hlen1
      have hi := hm i (by rw [hl1]; simp)
      have hsn := eatN_snoc ds c i pre1
      repeat' (first
        | with_reducible (first | refine Rd.p ?_ | refine zE ?_ | refine zE0 ?_)
        | (first | refine w_ixP hl rfl rfl ?_ | refine w_ixP hl1 rfl rfl ?_)
        | with_reducible (first | refine zI fun y hy => ?_ | refine zL ?_ | refine zS ?_ | refine zA fun _ => ?_ | refine zV ?_ | refine zC ?_ | refine zG ?_ | refine zU ?_ | refine zG0 ?_ | refine zU0 ?_ | refine zF ?_)
        | ((with_reducible refine acall_id ?_); refine ACall.val (reats_c _ _) rfl rfl ?_)
        | with_reducible (first | refine zX ?_ | refine zD fun _ => ?_ | refine zD0 ?_ | refine zN ?_ | refine zF0 ?_ | refine zX0 ?_ | refine z1 ?_ | refine z2 ?_ | refine z3 ?_ | refine z4 ?_ | refine z5 ?_ | refine z6 ?_ | refine z7 ?_ | refine z8 ?_ | refine y1 ?_ | refine y2 ?_ | refine y3 ?_ | refine y4 ?_ | refine y5 ?_ | refine y6 ?_ | refine y7 ?_ | refine y8 ?_ | refine Rt.p (fun _ => ?_) fun _ => ?_)
        | ((with_reducible apply w_ixM); (focus exact rfl); (focus exact rfl); case' hk => intro y hy) | ((with_reducible (first | apply w_val | apply q_ends)); (focus exact rfl)))
      · rename_i h1
        rw [show dAt ds i = y by simp [dAt, hy], if_pos h1] at hsn
        refine zQ (pre1 ++ [i], post1) ?_ ?_
        · rw [hl1]; simp
        · simp
      · rename_i h1
        rw [show dAt ds i = y by simp [dAt, hy], if_neg h1] at hsn
        refine zQ (pre1 ++ [i], post1) ?_ ?_
        · rw [hl1]; simp
        · simp
end Go.Abs
