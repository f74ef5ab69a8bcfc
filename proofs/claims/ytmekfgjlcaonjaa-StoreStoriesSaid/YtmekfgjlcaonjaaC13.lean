/- A part of the proofs of the laws of this seat: contracts of the functions that they reach, each proved of the program's form in Lean. No condition beyond those that each contract names. -/
import Derived.Test.YtmekfgjlcaonjaaC12
import Derived.Test.YtmekfgjlcaonjaaC11
import Derived.Test.YtmekfgjlcaonjaaC10
import Derived.Test.YtmekfgjlcaonjaaC9
import Derived.Test.YtmekfgjlcaonjaaC8
import Derived.Test.YtmekfgjlcaonjaaC7
import Derived.Test.YtmekfgjlcaonjaaC5
import Derived.Test.YtmekfgjlcaonjaaC4
import Derived.Test.YtmekfgjlcaonjaaC2
import Derived.Test.YtmekfgjlcaonjaaC1
import Derived.Test.YtmekfgjlcaonjaaB
set_option linter.unusedVariables false
set_option linter.unusedSimpArgs false
set_option maxRecDepth 20000
set_option maxHeartbeats 4000000
namespace Go.Abs
open Go.Proofs
/-- aloeswood/aloeswoodkit.EqSpans -/
def ir29 : IFn :=
  ⟨26, [(4, none)], (.seq (.ops [⟨(some 4), none, (.mov (.k (.bool false)))⟩])
  (.seq (.seq (.ops [⟨(some 6), none, (.mov (.t 0))⟩,
    ⟨(some 7), none, (.len false (.t 6))⟩,
    ⟨(some 8), none, (.mov (.t 1))⟩,
    ⟨(some 9), none, (.len false (.t 8))⟩,
    ⟨(some 10), none, (.bin .neq (.t 7) (.t 9))⟩])
  (.cnd (.t 10)
    (.seq (.ops [⟨(some 4), none, (.mov (.k (.bool false)))⟩])
    .ret)
    .skip))
  (.seq (.seq (.ops [⟨(some 5), none, (.mov (.k (.int .i64 0)))⟩])
  (.blk 0 (.loop (.seq (.seq (.ops [⟨(some 11), none, (.mov (.t 5))⟩,
        ⟨(some 12), none, (.mov (.t 0))⟩,
        ⟨(some 13), none, (.len false (.t 12))⟩,
        ⟨(some 14), none, (.bin .lss (.t 11) (.t 13))⟩])
      (.cnd (.t 14)
        .skip
        (.exit 0)))
      (.seq (.blk 1 (.seq (.ops [⟨(some 17), none, (.mov (.t 0))⟩,
          ⟨(some 18), none, (.mov (.t 5))⟩,
          ⟨(some 19), none, (.ixA 2 (.t 17) (.t 18))⟩,
          ⟨(some 20), none, (.ld 2 true (.t 19))⟩,
          ⟨(some 21), none, (.mov (.t 1))⟩,
          ⟨(some 22), none, (.mov (.t 5))⟩,
          ⟨(some 23), none, (.ixA 2 (.t 21) (.t 22))⟩,
          ⟨(some 24), none, (.ld 2 true (.t 23))⟩,
          ⟨(some 25), none, (.eqn (.flat [.i, .i]) true (.t 20) (.t 24))⟩])
        (.cnd (.t 25)
          (.seq (.ops [⟨(some 4), none, (.mov (.k (.bool false)))⟩])
          .ret)
          .skip)))
      (.ops [⟨(some 15), none, (.mov (.t 5))⟩,
        ⟨(some 16), none, (.bin .add (.t 15) (.k (.int .i64 1)))⟩,
        ⟨(some 5), none, (.mov (.t 16))⟩]))))))
  (.seq (.ops [⟨(some 4), none, (.mov (.k (.bool true)))⟩])
  .ret))))⟩
def hint29 (P : Program) : Hint := {}
/-- aloeswood/aloeswoodlaw09.span -/
def ir31 : IFn :=
  ⟨8, [(4, some (2, true))], (.seq (.ops [⟨(some 4), none, (.new [(.int .i64 0), (.int .i64 0)])⟩])
  (.seq (.ops [⟨(some 5), none, (.mov (.t 0))⟩,
    ⟨(some 6), none, (.mov (.t 1))⟩,
    ⟨(some 7), none, (.bld [(.int .i64 0), (.int .i64 0)] [(0, 1, (.t 5)), (1, 1, (.t 6))])⟩,
    ⟨none, none, (.st 2 (.t 4) (.t 7))⟩])
  .ret))⟩
def hint31 (P : Program) : Hint := {}
/-- aloeswood/aloeswoodlaw09.bowl -/
def ir71 : IFn :=
  ⟨8, [(0, some (4, true))], (.seq (.ops [⟨(some 0), none, (.new [(.int .i64 0), (.int .i64 0), (.int .i64 0), .nsl])⟩])
  (.seq (.ops [⟨(some 1), none, (.callF 31 [(.k (.int .i64 10)), (.k (.int .i64 20))])⟩,
    ⟨(some 2), none, (.callF 31 [(.k (.int .i64 30)), (.k (.int .i64 40))])⟩,
    ⟨(some 3), none, (.bld [(.int .i64 0), (.int .i64 0), (.int .i64 0), (.int .i64 0)] [(0, 1, (.k (.int .i64 1))), (1, 1, (.k (.int .i64 2))), (2, 2, (.t 2))])⟩,
    ⟨(some 4), none, (.callF 31 [(.k (.int .i64 15)), (.k (.int .i64 35))])⟩,
    ⟨(some 5), none, (.bld [(.int .i64 0), (.int .i64 0), (.int .i64 0), (.int .i64 0)] [(0, 1, (.k (.int .i64 0))), (1, 1, (.k (.int .i64 1))), (2, 2, (.t 4))])⟩,
    ⟨(some 6), none, (.bsl 4 [[(.int .i64 0), (.int .i64 0), (.int .i64 0), (.int .i64 0)], [(.int .i64 0), (.int .i64 0), (.int .i64 0), (.int .i64 0)]] [(0, (.t 3)), (1, (.t 5))])⟩,
    ⟨(some 7), none, (.bld [(.int .i64 0), (.int .i64 0), (.int .i64 0), .nsl] [(1, 2, (.t 1)), (3, 1, (.t 6))])⟩,
    ⟨none, none, (.st 4 (.t 0) (.t 7))⟩])
  .ret))⟩
def hint71 (P : Program) : Hint := {}
/-- aloeswood/aloeswoodlaw09.year -/
def ir72 : IFn :=
  ⟨7, [(0, some (2, true))], (.seq (.ops [⟨(some 0), none, (.new [.nsl, .nsl])⟩])
  (.seq (.ops [⟨(some 1), none, (.bsl 1 [[(.int .i64 0)], [(.int .i64 0)]] [(0, (.k (.int .i64 2))), (1, (.k (.int .i64 1)))])⟩,
    ⟨(some 2), none, (.bsl 1 [[(.int .i64 0)], [(.int .i64 0)]] [(0, (.k (.int .i64 0))), (1, (.k (.int .i64 1)))])⟩,
    ⟨(some 3), none, (.bsl 1 [[(.int .i64 0)], [(.int .i64 0)]] [(0, (.k (.int .i64 1))), (1, (.k (.int .i64 2)))])⟩,
    ⟨(some 4), none, (.bsl 1 [[(.int .i64 0)], [(.int .i64 0)]] [(0, (.k (.int .i64 0))), (1, (.k (.int .i64 2)))])⟩,
    ⟨(some 5), none, (.bsl 1 [[.nsl], [.nsl], [.nsl]] [(0, (.t 2)), (1, (.t 3)), (2, (.t 4))])⟩,
    ⟨(some 6), none, (.bld [.nsl, .nsl] [(0, 1, (.t 1)), (1, 1, (.t 5))])⟩,
    ⟨none, none, (.st 2 (.t 0) (.t 6))⟩])
  .ret))⟩
def hint72 (P : Program) : Hint := {}
/-- aloeswood/aloeswoodlaw09.awake -/
def ir16 : IFn :=
  ⟨56, [(0, none)], (.seq (.ops [⟨(some 0), none, (.mov (.k (.bool false)))⟩])
  (.seq (.ops [⟨(some 9), none, (.callF 71 [])⟩,
    ⟨(some 10), none, (.callF 24 [(.t 9)])⟩,
    ⟨(some 8), none, (.mov (.t 10))⟩,
    ⟨(some 11), none, (.ext 0 (.t 8))⟩,
    ⟨(some 12), none, (.ext 1 (.t 8))⟩,
    ⟨(some 13), none, (.ext 2 (.t 8))⟩,
    ⟨(some 1), none, (.new [(.int .i64 0), (.int .i64 0)])⟩,
    ⟨none, none, (.st 2 (.t 1) (.t 11))⟩,
    ⟨(some 2), none, (.mov (.t 12))⟩,
    ⟨(some 3), none, (.mov (.t 13))⟩])
  (.seq (.ops [⟨(some 15), none, (.callF 72 [])⟩,
    ⟨(some 16), none, (.callF 44 [(.t 15)])⟩,
    ⟨(some 14), none, (.mov (.t 16))⟩,
    ⟨(some 17), none, (.ext 0 (.t 14))⟩,
    ⟨(some 18), none, (.ext 1 (.t 14))⟩,
    ⟨(some 4), none, (.mov (.t 17))⟩,
    ⟨(some 5), none, (.mov (.t 18))⟩])
  (.seq (.ops [⟨(some 20), none, (.callF 71 [])⟩,
    ⟨(some 21), none, (.callF 36 [(.t 20), (.k (.int .i64 32))])⟩,
    ⟨(some 19), none, (.mov (.t 21))⟩,
    ⟨(some 22), none, (.ext 0 (.t 19))⟩,
    ⟨(some 23), none, (.ext 1 (.t 19))⟩,
    ⟨(some 6), none, (.mov (.t 22))⟩,
    ⟨(some 7), none, (.mov (.t 23))⟩])
  (.seq (.ops [⟨(some 24), none, (.mov (.t 3))⟩,
    ⟨(some 25), none, (.bin .eql (.t 24) (.k (.int .i64 0)))⟩,
    ⟨(some 26), none, (.mov (.t 25))⟩,
    ⟨(some 27), (some (26, true)), (.mov (.t 5))⟩,
    ⟨(some 28), (some (26, true)), (.bin .eql (.t 27) (.k (.int .i64 0)))⟩,
    ⟨(some 29), none, (.pick (.t 26) (.t 28) (.k (.bool false)))⟩,
    ⟨(some 30), none, (.mov (.t 29))⟩,
    ⟨(some 31), (some (30, true)), (.mov (.t 7))⟩,
    ⟨(some 32), (some (30, true)), (.bin .eql (.t 31) (.k (.int .i64 0)))⟩,
    ⟨(some 33), none, (.pick (.t 30) (.t 32) (.k (.bool false)))⟩,
    ⟨(some 34), none, (.mov (.t 33))⟩,
    ⟨(some 35), (some (34, true)), (.ld 2 true (.t 1))⟩,
    ⟨(some 36), (some (34, true)), (.callF 31 [(.k (.int .i64 10)), (.k (.int .i64 20))])⟩,
    ⟨none, (some (34, true)), (.chk 2 true (.t 1) 35)⟩,
    ⟨(some 37), (some (34, true)), (.eqn (.flat [.i, .i]) false (.t 35) (.t 36))⟩,
    ⟨(some 38), none, (.pick (.t 34) (.t 37) (.k (.bool false)))⟩,
    ⟨(some 39), none, (.mov (.t 38))⟩,
    ⟨(some 40), (some (39, true)), (.mov (.t 2))⟩,
    ⟨(some 41), (some (39, true)), (.callF 31 [(.k (.int .i64 30)), (.k (.int .i64 40))])⟩,
    ⟨(some 42), (some (39, true)), (.callF 31 [(.k (.int .i64 15)), (.k (.int .i64 35))])⟩,
    ⟨(some 43), (some (39, true)), (.bsl 2 [[(.int .i64 0), (.int .i64 0)], [(.int .i64 0), (.int .i64 0)]] [(0, (.t 41)), (1, (.t 42))])⟩,
    ⟨(some 44), (some (39, true)), (.callF 29 [(.t 40), (.t 43)])⟩,
    ⟨(some 45), none, (.pick (.t 39) (.t 44) (.k (.bool false)))⟩,
    ⟨(some 46), none, (.mov (.t 45))⟩,
    ⟨(some 47), (some (46, true)), (.mov (.t 4))⟩,
    ⟨(some 48), (some (46, true)), (.bsl 1 [[(.int .i64 0)], [(.int .i64 0)]] [(0, (.k (.int .i64 0))), (1, (.k (.int .i64 1)))])⟩,
    ⟨(some 49), (some (46, true)), (.callF 40 [(.t 47), (.t 48)])⟩,
    ⟨(some 50), none, (.pick (.t 46) (.t 49) (.k (.bool false)))⟩,
    ⟨(some 51), none, (.mov (.t 50))⟩,
    ⟨(some 52), (some (51, true)), (.mov (.t 6))⟩,
    ⟨(some 53), (some (51, true)), (.bsl 1 [[(.int .i64 0)], [(.int .i64 0)], [(.int .i64 0)]] [(0, (.k (.int .i64 0))), (1, (.k (.int .i64 1))), (2, (.k (.int .i64 2)))])⟩,
    ⟨(some 54), (some (51, true)), (.callF 40 [(.t 52), (.t 53)])⟩,
    ⟨(some 55), none, (.pick (.t 51) (.t 54) (.k (.bool false)))⟩,
    ⟨(some 0), none, (.mov (.t 55))⟩])
  .ret)))))⟩
def hint16 (P : Program) : Hint := {}
theorem eqSpans_c (a b : List (Int × Int)) (h : a.length < 2 ^ 62) : Fn0 Try.prog 29 [.slc 2 (sR a) .non, .slc 2 (sR b) .non] (fun v => v = .bool (decide (a = b))) := by
  refine RawC.walk (H := hint29 Try.prog) ir29 Try.func29 rfl (by kernel_rfl) rfl ?_
  unfold ir29
  repeat' (first
    | with_reducible (first | refine Rd.p ?_ | refine w_alt ?_ ?_ | refine zE ?_ | refine zE0 ?_)
    | with_reducible (first | refine zI fun y hy => ?_ | refine zL ?_ | refine zS ?_ | refine zA fun _ => ?_ | refine zV ?_ | refine zC ?_ | refine zG ?_ | refine zU ?_ | refine zG0 ?_ | refine zU0 ?_ | refine zF ?_)
    | with_reducible (first | refine zX ?_ | refine zD fun _ => ?_ | refine zD0 ?_ | refine zN ?_ | refine zF0 ?_ | refine zX0 ?_ | refine z1 ?_ | refine z2 ?_ | refine z3 ?_ | refine z4 ?_ | refine z5 ?_ | refine z6 ?_ | refine z7 ?_ | refine z8 ?_ | refine y1 ?_ | refine y2 ?_ | refine y3 ?_ | refine y4 ?_ | refine y5 ?_ | refine y6 ?_ | refine y7 ?_ | refine y8 ?_ | refine Rt.p (fun _ => ?_) fun _ => ?_)
    | ((with_reducible apply w_ixM); (focus exact rfl); (focus exact rfl); case' hk => intro y hy) | ((with_reducible (first | apply w_val | apply q_ends)); (focus exact rfl)))
  · rename_i h1
    exact congrArg AV.bool (by simp; intro h; rw [h] at h1; exact h1 rfl)
  rename_i h1
  refine w_loopK [0, 1] [] (fun x : List (Int × Int) × List (Int × Int) × List (Int × Int) => a = x.1 ++ x.2.1 ∧ b = x.1 ++ x.2.2 ∧ x.2.1.length = x.2.2.length) (fun x => x.2.1.length) (fun x => [(5, .int .i64 x.1.length)]) (fun _ => []) ([], a, b) ⟨rfl, rfl, by dsimp only; omega⟩ ⟨rfl, trivial⟩ trivial ?_
  rintro ⟨pre, pa, pb⟩ ⟨ha, hb, hl⟩ e σ
  dsimp only at ha hb hl ⊢
  have hlen := congrArg List.length ha
  cases pa with
  | nil =>
    cases pb with
    | cons _ _ => simp at hl
    | nil =>
      simp only [List.append_nil, List.length_append, List.length_nil] at hlen
      repeat' (first
        | with_reducible (first | refine Rd.p ?_ | refine w_alt ?_ ?_ | refine zE ?_ | refine zE0 ?_)
        | with_reducible (first | refine zI fun y hy => ?_ | refine zL ?_ | refine zS ?_ | refine zA fun _ => ?_ | refine zV ?_ | refine zC ?_ | refine zG ?_ | refine zU ?_ | refine zG0 ?_ | refine zU0 ?_ | refine zF ?_)
        | with_reducible (first | refine zX ?_ | refine zD fun _ => ?_ | refine zD0 ?_ | refine zN ?_ | refine zF0 ?_ | refine zX0 ?_ | refine z1 ?_ | refine z2 ?_ | refine z3 ?_ | refine z4 ?_ | refine z5 ?_ | refine z6 ?_ | refine z7 ?_ | refine z8 ?_ | refine y1 ?_ | refine y2 ?_ | refine y3 ?_ | refine y4 ?_ | refine y5 ?_ | refine y6 ?_ | refine y7 ?_ | refine y8 ?_ | refine Rt.p (fun _ => ?_) fun _ => ?_)
        | ((with_reducible apply w_ixM); (focus exact rfl); (focus exact rfl); case' hk => intro y hy) | ((with_reducible (first | apply w_val | apply q_ends)); (focus exact rfl)))
      exact congrArg AV.bool (by simp [ha, hb])
  | cons x pa =>
    cases pb with
    | nil => simp at hl
    | cons y pb =>
      simp only [List.length_append, List.length_cons] at hlen
      repeat' (first
        | with_reducible (first | refine Rd.p ?_ | refine w_alt ?_ ?_ | refine zE ?_ | refine zE0 ?_)
        | (first | refine w_ixP ha rfl rfl ?_ | refine w_ixP hb rfl rfl ?_)
        | with_reducible (first | refine zI fun y hy => ?_ | refine zL ?_ | refine zS ?_ | refine zA fun _ => ?_ | refine zV ?_ | refine zC ?_ | refine zG ?_ | refine zU ?_ | refine zG0 ?_ | refine zU0 ?_ | refine zF ?_)
        | with_reducible (first | refine zX ?_ | refine zD fun _ => ?_ | refine zD0 ?_ | refine zN ?_ | refine zF0 ?_ | refine zX0 ?_ | refine z1 ?_ | refine z2 ?_ | refine z3 ?_ | refine z4 ?_ | refine z5 ?_ | refine z6 ?_ | refine z7 ?_ | refine z8 ?_ | refine y1 ?_ | refine y2 ?_ | refine y3 ?_ | refine y4 ?_ | refine y5 ?_ | refine y6 ?_ | refine y7 ?_ | refine y8 ?_ | refine Rt.p (fun _ => ?_) fun _ => ?_)
        | ((with_reducible apply w_ixM); (focus exact rfl); (focus exact rfl); case' hk => intro y hy) | ((with_reducible (first | apply w_val | apply q_ends)); (focus exact rfl)))
      · rename_i h2
        have hne : x ≠ y := by rintro rfl; simp at h2
        exact congrArg AV.bool (by simp [ha, hb, hne])
      · rename_i h2
        obtain rfl : x = y := by
          have : x.1 = y.1 ∧ x.2 = y.2 := by simpa using h2
          exact Prod.ext this.1 this.2
        refine zQ (pre ++ [x], pa, pb) ?_ ?_
        · exact ⟨by rw [ha]; simp, by rw [hb]; simp, by simpa using hl⟩
        · simp
theorem span_c (a b : Int) : Fn0 Try.prog 31 [.int .i64 a, .int .i64 b] (fun v => v = .agg [.int .i64 a, .int .i64 b]) := by
  refine RawC.walk (H := hint31 Try.prog) ir31 Try.func31 rfl rfl rfl ?_
  unfold ir31
  repeat' (first
    | with_reducible (first | refine Rd.p ?_ | refine w_alt ?_ ?_ | refine zE ?_ | refine zE0 ?_)
    | with_reducible (first | refine zI fun y hy => ?_ | refine zL ?_ | refine zS ?_ | refine zA fun _ => ?_ | refine zV ?_ | refine zC ?_ | refine zG ?_ | refine zU ?_ | refine zG0 ?_ | refine zU0 ?_ | refine zF ?_)
    | with_reducible (first | refine zX ?_ | refine zD fun _ => ?_ | refine zD0 ?_ | refine zN ?_ | refine zF0 ?_ | refine zX0 ?_ | refine z1 ?_ | refine z2 ?_ | refine z3 ?_ | refine z4 ?_ | refine z5 ?_ | refine z6 ?_ | refine z7 ?_ | refine z8 ?_ | refine y1 ?_ | refine y2 ?_ | refine y3 ?_ | refine y4 ?_ | refine y5 ?_ | refine y6 ?_ | refine y7 ?_ | refine y8 ?_ | refine Rt.p (fun _ => ?_) fun _ => ?_)
    | ((with_reducible apply w_ixM); (focus exact rfl); (focus exact rfl); case' hk => intro y hy) | ((with_reducible (first | apply w_val | apply q_ends)); (focus exact rfl)))
  rfl
def bowlC : Chn := ⟨0, 10, 20, [⟨1, 2, 30, 40⟩, ⟨0, 1, 15, 35⟩]⟩
theorem bowl_c : Fn0 Try.prog 71 [] (fun v => v = cA bowlC) := by
  refine RawC.walk (H := hint71 Try.prog) ir71 Try.func71 rfl rfl rfl ?_
  unfold ir71
  repeat' (first
    | with_reducible (first | refine Rd.p ?_ | refine w_alt ?_ ?_ | refine zE ?_ | refine zE0 ?_)
    | with_reducible (first | refine zI fun y hy => ?_ | refine zL ?_ | refine zS ?_ | refine zA fun _ => ?_ | refine zV ?_ | refine zC ?_ | refine zG ?_ | refine zU ?_ | refine zG0 ?_ | refine zU0 ?_ | refine zF ?_)
    | ((with_reducible refine acall_id ?_); refine ACall.val (span_c _ _) rfl rfl ?_)
    | with_reducible (first | refine zX ?_ | refine zD fun _ => ?_ | refine zD0 ?_ | refine zN ?_ | refine zF0 ?_ | refine zX0 ?_ | refine z1 ?_ | refine z2 ?_ | refine z3 ?_ | refine z4 ?_ | refine z5 ?_ | refine z6 ?_ | refine z7 ?_ | refine z8 ?_ | refine y1 ?_ | refine y2 ?_ | refine y3 ?_ | refine y4 ?_ | refine y5 ?_ | refine y6 ?_ | refine y7 ?_ | refine y8 ?_ | refine Rt.p (fun _ => ?_) fun _ => ?_)
    | ((with_reducible apply w_ixM); (focus exact rfl); (focus exact rfl); case' hk => intro y hy) | ((with_reducible (first | apply w_val | apply q_ends)); (focus exact rfl)))
  rfl
def yearC : Sea := ⟨[2, 1], [[0, 1], [1, 2], [0, 2]]⟩
theorem year_c : Fn0 Try.prog 72 [] (fun v => v = seA yearC) := by
  refine RawC.walk (H := hint72 Try.prog) ir72 Try.func72 rfl rfl rfl ?_
  unfold ir72
  repeat' (first
    | with_reducible (first | refine Rd.p ?_ | refine w_alt ?_ ?_ | refine zE ?_ | refine zE0 ?_)
    | with_reducible (first | refine zI fun y hy => ?_ | refine zL ?_ | refine zS ?_ | refine zA fun _ => ?_ | refine zV ?_ | refine zC ?_ | refine zG ?_ | refine zU ?_ | refine zG0 ?_ | refine zU0 ?_ | refine zF ?_)
    | with_reducible (first | refine zX ?_ | refine zD fun _ => ?_ | refine zD0 ?_ | refine zN ?_ | refine zF0 ?_ | refine zX0 ?_ | refine z1 ?_ | refine z2 ?_ | refine z3 ?_ | refine z4 ?_ | refine z5 ?_ | refine z6 ?_ | refine z7 ?_ | refine z8 ?_ | refine y1 ?_ | refine y2 ?_ | refine y3 ?_ | refine y4 ?_ | refine y5 ?_ | refine y6 ?_ | refine y7 ?_ | refine y8 ?_ | refine Rt.p (fun _ => ?_) fun _ => ?_)
    | ((with_reducible apply w_ixM); (focus exact rfl); (focus exact rfl); case' hk => intro y hy) | ((with_reducible (first | apply w_val | apply q_ends)); (focus exact rfl)))
  rfl
theorem bowl_tales : talesF bowlC = [([1, 0], [10, 15, 30])] := by decide
theorem bowl_ok : chainE bowlC = 0 := by decide
theorem bowl_days : daysF bowlC = ([10, 20], [30, 40, 15, 35]) := by decide
theorem bowl_ask : askE bowlC 32 = 0 := by decide
theorem year_ok : seaE yearC = 0 := by decide
theorem year_plan : planF yearC = [0, 1] := by decide
theorem srt_uniq : ∀ {l m : List Int}, l.Pairwise (· < ·) → m.Pairwise (· < ·) → (∀ w, w ∈ l ↔ w ∈ m) → l = m
  | [], [], _, _, _ => rfl
  | [], b :: m, _, _, h => by have := (h b).2 (by simp); simp at this
  | a :: l, [], _, _, h => by have := (h a).1 (by simp); simp at this
  | a :: l, b :: m, hl, hm, h => by
    rw [List.pairwise_cons] at hl hm
    have hab : a = b := by
      have h1 := (h a).1 (by simp)
      have h2 := (h b).2 (by simp)
      rcases List.mem_cons.1 h1 with h1 | h1
      · exact h1
      rcases List.mem_cons.1 h2 with h2 | h2
      · exact h2.symm
      have := hl.1 b h2
      have := hm.1 a h1
      omega
    subst hab
    rw [srt_uniq hl.2 hm.2 fun w => ?_]
    have := h w
    simp only [List.mem_cons] at this
    constructor
    · intro hw
      rcases this.1 (.inr hw) with rfl | h1
      · have := hl.1 w hw; omega
      · exact h1
    · intro hw
      rcases this.2 (.inr hw) with rfl | h1
      · have := hm.1 w hw; omega
      · exact h1
theorem bowl_hold {l : List Int} (h : HolP bowlC 32 l) : l = [0, 1, 2] := by
  rw [HolP, if_pos bowl_ask] at h
  obtain ⟨hs, hm⟩ := h
  have hw : ∀ w, w ∈ l ↔ w ∈ [(0 : Int), 1, 2] := by
    intro w
    rw [hm, holdC, bowl_tales]
    constructor
    · rintro ⟨x, hx, h⟩
      obtain rfl : x = ([1, 0], [10, 15, 30]) := by simpa using hx
      rcases h with ⟨rfl, h⟩ | ⟨j, hj, rfl, h⟩
      · exact absurd h (by decide)
      · have hj2 : j ≤ 2 := hj
        rcases (by omega : j = 0 ∨ j = 1 ∨ j = 2) with rfl | rfl | rfl <;> decide
    · intro h
      refine ⟨([1, 0], [10, 15, 30]), by simp, .inr ?_⟩
      simp only [List.mem_cons, List.mem_nil_iff, or_false] at h
      rcases h with rfl | rfl | rfl
      · exact ⟨0, by decide, by decide, by decide, by decide⟩
      · exact ⟨1, by decide, by decide, by decide, by decide⟩
      · exact ⟨2, by decide, by decide, by decide, by decide⟩
  exact srt_uniq hs (by decide) hw
theorem wake_s : Fn0 Try.prog 16 [] (fun v => v = .bool true) := by
  have hd : Fn0 Try.prog 24 [cA bowlC] (fun v => v = .tup [.agg [.int .i64 10, .int .i64 20], .slc 2 (sR [(30, 40), (15, 35)]) .non, .int .i64 0]) := by
    have := days_c bowlC (by decide)
    simp only [if_pos bowl_ok, bowl_days] at this
    exact this
  have hp : Fn0 Try.prog 44 [seA yearC] (fun v => v = .tup [.slc 1 (iR [0, 1]) .non, .int .i64 0]) := by
    have := Plan_s yearC (by decide) (by decide) (by decide)
    rw [year_plan, year_ok] at this
    exact this
  have hh : Fn0 Try.prog 36 [cA bowlC, .int .i64 32] (fun v => v = .tup [.slc 1 (iR [0, 1, 2]) .non, .int .i64 0]) := by
    refine RawC.mono (Holders_s bowlC 32 (by decide)) fun v _ => ?_
    rintro ⟨l, a, rfl, hN, hP⟩
    obtain rfl := bowl_hold hP
    rw [bowl_ask]
    rcases hN with ⟨_, h⟩ | ⟨rfl, _⟩
    · simp at h
    · rfl
  refine RawC.walk (H := hint16 Try.prog) ir16 Try.func16 rfl (by kernel_rfl) rfl ?_
  unfold ir16
  repeat' (first
    | with_reducible (first | refine Rd.p ?_ | refine w_alt ?_ ?_ | refine zE ?_ | refine zE0 ?_)
    | with_reducible (first | refine zI fun y hy => ?_ | refine zL ?_ | refine zS ?_ | refine zA fun _ => ?_ | refine zV ?_ | refine zC ?_ | refine zG ?_ | refine zU ?_ | refine zG0 ?_ | refine zU0 ?_ | refine zF ?_)
    | ((with_reducible refine acall_id ?_); refine ACall.val bowl_c rfl rfl ?_)
    | ((with_reducible refine acall_id ?_); refine ACall.val hd rfl rfl ?_)
    | ((with_reducible refine acall_id ?_); refine ACall.val year_c rfl rfl ?_)
    | ((with_reducible refine acall_id ?_); refine ACall.val hp rfl rfl ?_)
    | ((with_reducible refine acall_id ?_); refine ACall.val hh rfl rfl ?_)
    | ((with_reducible refine acall_id ?_); refine ACall.val (span_c _ _) rfl rfl ?_)
    | ((with_reducible refine acall_id ?_); refine ACall.val (eqSpans_c [(30, 40), (15, 35)] [(30, 40), (15, 35)] (by decide)) rfl rfl ?_)
    | ((with_reducible refine acall_id ?_); refine ACall.val (eq_c [0, 1] [0, 1] (by decide)) rfl rfl ?_)
    | ((with_reducible refine acall_id ?_); refine ACall.val (eq_c [0, 1, 2] [0, 1, 2] (by decide)) rfl rfl ?_)
    | with_reducible (first | refine zX ?_ | refine zD fun _ => ?_ | refine zD0 ?_ | refine zN ?_ | refine zF0 ?_ | refine zX0 ?_ | refine z1 ?_ | refine z2 ?_ | refine z3 ?_ | refine z4 ?_ | refine z5 ?_ | refine z6 ?_ | refine z7 ?_ | refine z8 ?_ | refine y1 ?_ | refine y2 ?_ | refine y3 ?_ | refine y4 ?_ | refine y5 ?_ | refine y6 ?_ | refine y7 ?_ | refine y8 ?_ | refine Rt.p (fun _ => ?_) fun _ => ?_)
    | ((with_reducible apply w_ixM); (focus exact rfl); (focus exact rfl); case' hk => intro y hy) | ((with_reducible (first | apply w_val | apply q_ends)); (focus exact rfl)))
  · rfl
  · rename_i h; exact absurd h (by decide)
end Go.Abs
