/- A part of the proofs of the laws of this seat: contracts of the functions that they reach, each proved of the program's form in Lean. No condition beyond those that each contract names. -/
import Derived.Test.YtcgcciegekaliaaB4
import Derived.Test.YtcgcciegekaliaaB0
import Derived.Test.YtcgcciegekaliaaB6
import Derived.Test.YtcgcciegekaliaaB5
import Derived.Test.YtcgcciegekaliaaB12
import Derived.Test.YtcgcciegekaliaaB8
set_option linter.unusedVariables false
set_option linter.unusedSimpArgs false
set_option maxRecDepth 20000
set_option maxHeartbeats 4000000
/-! ### The chapter's examples -/
namespace Go.Abs
open Go.Proofs
/-- aloeswood/aloeswoodlaw08.three -/
def ir61 : IFn :=
  ⟨10, [(0, some (2, true))], (.seq (.ops [⟨(some 0), none, (.new [.nsl, .nsl])⟩])
  (.seq (.ops [⟨(some 1), none, (.bld [(.str ByteArray.empty), (.int .i64 0), (.int .i64 0), (.int .i64 0), (.int .i64 0)] [(0, 1, (.k (.str ⟨#[97, 110, 110]⟩))), (1, 1, (.k (.int .i64 3))), (2, 1, (.k (.int .i64 5)))])⟩,
    ⟨(some 2), none, (.bld [(.str ByteArray.empty), (.int .i64 0), (.int .i64 0), (.int .i64 0), (.int .i64 0)] [(0, 1, (.k (.str ⟨#[98, 111, 98]⟩))), (1, 1, (.k (.int .i64 1))), (2, 1, (.k (.int .i64 5)))])⟩,
    ⟨(some 3), none, (.bld [(.str ByteArray.empty), (.int .i64 0), (.int .i64 0), (.int .i64 0), (.int .i64 0)] [(0, 1, (.k (.str ⟨#[99, 105, 100]⟩))), (1, 1, (.k (.int .i64 2))), (2, 1, (.k (.int .i64 5)))])⟩,
    ⟨(some 4), none, (.bsl 5 [[(.str ByteArray.empty), (.int .i64 0), (.int .i64 0), (.int .i64 0), (.int .i64 0)], [(.str ByteArray.empty), (.int .i64 0), (.int .i64 0), (.int .i64 0), (.int .i64 0)], [(.str ByteArray.empty), (.int .i64 0), (.int .i64 0), (.int .i64 0), (.int .i64 0)]] [(0, (.t 1)), (1, (.t 2)), (2, (.t 3))])⟩,
    ⟨(some 5), none, (.bld [(.int .i64 0), (.int .i64 0), (.int .i64 0), (.int .i64 0)] [(0, 1, (.k (.int .i64 6))), (3, 1, (.k (.int .i64 10)))])⟩,
    ⟨(some 6), none, (.bld [(.int .i64 0), (.int .i64 0), (.int .i64 0), (.int .i64 0)] [(0, 1, (.k (.int .i64 4))), (1, 1, (.k (.int .i64 1)))])⟩,
    ⟨(some 7), none, (.bld [(.int .i64 0), (.int .i64 0), (.int .i64 0), (.int .i64 0)] [(0, 1, (.k (.int .i64 2))), (2, 1, (.k (.int .i64 2))), (3, 1, (.k (.int .i64 4)))])⟩,
    ⟨(some 8), none, (.bsl 4 [[(.int .i64 0), (.int .i64 0), (.int .i64 0), (.int .i64 0)], [(.int .i64 0), (.int .i64 0), (.int .i64 0), (.int .i64 0)], [(.int .i64 0), (.int .i64 0), (.int .i64 0), (.int .i64 0)]] [(0, (.t 5)), (1, (.t 6)), (2, (.t 7))])⟩,
    ⟨(some 9), none, (.bld [.nsl, .nsl] [(0, 1, (.t 4)), (1, 1, (.t 8))])⟩,
    ⟨none, none, (.st 2 (.t 0) (.t 9))⟩])
  .ret))⟩
def hint61 (P : Program) : Hint := {}

/-- aloeswood/aloeswoodlaw08.awake -/
def ir16 : IFn :=
  ⟨48, [(0, none)], (.seq (.ops [⟨(some 0), none, (.mov (.k (.bool false)))⟩])
  (.seq (.ops [⟨(some 8), none, (.callF 61 [])⟩,
    ⟨(some 9), none, (.callF 33 [(.t 8)])⟩,
    ⟨(some 7), none, (.mov (.t 9))⟩,
    ⟨(some 10), none, (.ext 0 (.t 7))⟩,
    ⟨(some 11), none, (.ext 1 (.t 7))⟩,
    ⟨(some 12), none, (.ext 2 (.t 7))⟩,
    ⟨(some 1), none, (.mov (.t 10))⟩,
    ⟨(some 2), none, (.mov (.t 11))⟩,
    ⟨(some 3), none, (.mov (.t 12))⟩])
  (.seq (.ops [⟨(some 14), none, (.bld [(.str ByteArray.empty), (.int .i64 0), (.int .i64 0), (.int .i64 0), (.int .i64 0)] [(0, 1, (.k (.str ⟨#[97, 110, 110]⟩)))])⟩,
    ⟨(some 15), none, (.bld [(.str ByteArray.empty), (.int .i64 0), (.int .i64 0), (.int .i64 0), (.int .i64 0)] [(0, 1, (.k (.str ⟨#[98, 111, 98]⟩))), (3, 1, (.k (.int .i64 1)))])⟩,
    ⟨(some 16), none, (.bsl 5 [[(.str ByteArray.empty), (.int .i64 0), (.int .i64 0), (.int .i64 0), (.int .i64 0)], [(.str ByteArray.empty), (.int .i64 0), (.int .i64 0), (.int .i64 0), (.int .i64 0)]] [(0, (.t 14)), (1, (.t 15))])⟩,
    ⟨(some 17), none, (.bld [(.int .i64 0), (.int .i64 0), (.int .i64 0)] [(1, 1, (.k (.int .i64 1))), (2, 1, (.k (.int .i64 5)))])⟩,
    ⟨(some 18), none, (.bld [(.int .i64 0), (.int .i64 0), (.int .i64 0)] [(1, 1, (.k (.int .i64 2))), (2, 1, (.k (.int .i64 9)))])⟩,
    ⟨(some 19), none, (.bsl 3 [[(.int .i64 0), (.int .i64 0), (.int .i64 0)], [(.int .i64 0), (.int .i64 0), (.int .i64 0)]] [(0, (.t 17)), (1, (.t 18))])⟩,
    ⟨(some 20), none, (.callF 22 [(.t 16), (.t 19), (.k (.int .i64 1)), (.k (.int .i64 1))])⟩,
    ⟨(some 13), none, (.mov (.t 20))⟩,
    ⟨(some 21), none, (.ext 0 (.t 13))⟩,
    ⟨(some 22), none, (.ext 1 (.t 13))⟩,
    ⟨(some 23), none, (.ext 2 (.t 13))⟩,
    ⟨(some 4), none, (.mov (.t 21))⟩,
    ⟨(some 5), none, (.mov (.t 22))⟩,
    ⟨(some 6), none, (.mov (.t 23))⟩])
  (.seq (.ops [⟨(some 24), none, (.mov (.t 3))⟩,
    ⟨(some 25), none, (.bin .eql (.t 24) (.k (.int .i64 0)))⟩,
    ⟨(some 26), none, (.mov (.t 25))⟩,
    ⟨(some 27), (some (26, true)), (.mov (.t 6))⟩,
    ⟨(some 28), (some (26, true)), (.bin .eql (.t 27) (.k (.int .i64 0)))⟩,
    ⟨(some 29), none, (.pick (.t 26) (.t 28) (.k (.bool false)))⟩,
    ⟨(some 30), none, (.mov (.t 29))⟩,
    ⟨(some 31), (some (30, true)), (.mov (.t 1))⟩,
    ⟨(some 32), (some (30, true)), (.bsl 1 [[(.int .i64 0)], [(.int .i64 0)], [(.int .i64 0)]] [(0, (.k (.int .i64 1))), (1, (.k (.int .i64 0))), (2, (.k (.int .i64 2)))])⟩,
    ⟨(some 33), (some (30, true)), (.callF 24 [(.t 31), (.t 32)])⟩,
    ⟨(some 34), none, (.pick (.t 30) (.t 33) (.k (.bool false)))⟩,
    ⟨(some 35), none, (.mov (.t 34))⟩,
    ⟨(some 36), (some (35, true)), (.mov (.t 2))⟩,
    ⟨(some 37), (some (35, true)), (.bin .eql (.t 36) (.k (.int .i64 10)))⟩,
    ⟨(some 38), none, (.pick (.t 35) (.t 37) (.k (.bool false)))⟩,
    ⟨(some 39), none, (.mov (.t 38))⟩,
    ⟨(some 40), (some (39, true)), (.mov (.t 4))⟩,
    ⟨(some 41), (some (39, true)), (.bsl 1 [[(.int .i64 0)]] [(0, (.k (.int .i64 1)))])⟩,
    ⟨(some 42), (some (39, true)), (.callF 24 [(.t 40), (.t 41)])⟩,
    ⟨(some 43), none, (.pick (.t 39) (.t 42) (.k (.bool false)))⟩,
    ⟨(some 44), none, (.mov (.t 43))⟩,
    ⟨(some 45), (some (44, true)), (.mov (.t 5))⟩,
    ⟨(some 46), (some (44, true)), (.bin .eql (.t 45) (.k (.int .i64 9)))⟩,
    ⟨(some 47), none, (.pick (.t 44) (.t 46) (.k (.bool false)))⟩,
    ⟨(some 0), none, (.mov (.t 47))⟩])
  .ret))))⟩
def hint16 (P : Program) : Hint := {}

def threeG : List Guest := [⟨⟨#[97, 110, 110]⟩, 3, 5, 0, 0⟩, ⟨⟨#[98, 111, 98]⟩, 1, 5, 0, 0⟩, ⟨⟨#[99, 105, 100]⟩, 2, 5, 0, 0⟩]
def threeR : List Rule := [⟨6, 0, 0, 10⟩, ⟨4, 1, 0, 0⟩, ⟨2, 0, 2, 4⟩]
theorem three_c : Fn0 Try.prog 61 [] (fun v => v = pA threeG threeR) := by
  refine RawC.walk (H := hint61 Try.prog) ir61 Try.func61 rfl rfl rfl ?_
  unfold ir61
  repeat' (first
    | with_reducible (first | refine Rd.p ?_ | refine zE ?_ | refine zE0 ?_)
    | with_reducible (first | refine zI fun y hy => ?_ | refine zL ?_ | refine zS ?_ | refine zA fun _ => ?_ | refine zV ?_ | refine zC ?_ | refine zG ?_ | refine zU ?_ | refine zG0 ?_ | refine zU0 ?_ | refine zF ?_)
    | with_reducible (first | refine zX ?_ | refine zD fun _ => ?_ | refine zD0 ?_ | refine zN ?_ | refine zF0 ?_ | refine zX0 ?_ | refine z1 ?_ | refine z2 ?_ | refine z3 ?_ | refine z4 ?_ | refine z5 ?_ | refine z6 ?_ | refine z7 ?_ | refine z8 ?_ | refine y1 ?_ | refine y2 ?_ | refine y3 ?_ | refine y4 ?_ | refine y5 ?_ | refine y6 ?_ | refine y7 ?_ | refine y8 ?_ | refine Rt.p (fun _ => ?_) fun _ => ?_)
    | ((with_reducible apply w_ixM); (focus exact rfl); (focus exact rfl); case' hk => intro y hy) | ((with_reducible (first | apply w_val | apply q_ends)); (focus exact rfl)))
  rfl
def twoG : List Guest := [⟨⟨#[97, 110, 110]⟩, 0, 0, 0, 0⟩, ⟨⟨#[98, 111, 98]⟩, 0, 0, 1, 0⟩]
def twoD : List Dish := [⟨0, 1, 5⟩, ⟨0, 2, 9⟩]
theorem best3 : bestP threeG threeR = (some [1, 0, 2], 10, 0) := by decide +kernel
theorem menu2 : menuP twoG twoD 1 1 = (some [1], 9, 0) := by decide +kernel
theorem best3_c : Fn0 Try.prog 33 [pA threeG threeR] (fun v => v = .tup [.slc 1 (iR [1, 0, 2]) .non, .int .i64 10, .int .i64 0]) := by
  have h := Best_c threeG threeR (by decide) (by decide) (by decide)
  rw [best3] at h
  exact h
theorem menu2_c : Fn0 Try.prog 22 [.slc 5 (gR twoG) .non, .slc 3 (dR twoD) .non, .int .i64 1, .int .i64 1] (fun v => v = .tup [.slc 1 (iR [1]) .non, .int .i64 9, .int .i64 0]) := by
  have h := Menu_c twoG twoD 1 1 (by decide) (by decide) (by decide)
  rw [menu2] at h
  exact h
theorem awake_c : Fn0 Try.prog 16 [] (fun v => v = .bool true) := by
  refine RawC.walk (H := hint16 Try.prog) ir16 Try.func16 rfl rfl rfl ?_
  unfold ir16
  repeat' (first
    | with_reducible (first | refine Rd.p ?_ | refine zE ?_ | refine zE0 ?_)
    | with_reducible (first | refine zI fun y hy => ?_ | refine zL ?_ | refine zS ?_ | refine zA fun _ => ?_ | refine zV ?_ | refine zC ?_ | refine zG ?_ | refine zU ?_ | refine zG0 ?_ | refine zU0 ?_ | refine zF ?_)
    | ((with_reducible refine acall_id ?_); refine ACall.val three_c rfl rfl ?_)
    | ((with_reducible refine acall_id ?_); refine ACall.val best3_c rfl rfl ?_)
    | ((with_reducible refine acall_id ?_); refine ACall.val menu2_c rfl rfl ?_)
    | ((with_reducible refine acall_id ?_); refine ACall.val (eq_c [1, 0, 2] [1, 0, 2] (by decide)) rfl rfl ?_)
    | ((with_reducible refine acall_id ?_); refine ACall.val (eq_c [1] [1] (by decide)) rfl rfl ?_)
    | with_reducible (first | refine zX ?_ | refine zD fun _ => ?_ | refine zD0 ?_ | refine zN ?_ | refine zF0 ?_ | refine zX0 ?_ | refine z1 ?_ | refine z2 ?_ | refine z3 ?_ | refine z4 ?_ | refine z5 ?_ | refine z6 ?_ | refine z7 ?_ | refine z8 ?_ | refine y1 ?_ | refine y2 ?_ | refine y3 ?_ | refine y4 ?_ | refine y5 ?_ | refine y6 ?_ | refine y7 ?_ | refine y8 ?_ | refine Rt.p (fun _ => ?_) fun _ => ?_)
    | ((with_reducible apply w_ixM); (focus exact rfl); (focus exact rfl); case' hk => intro y hy) | ((with_reducible (first | apply w_val | apply q_ends)); (focus exact rfl)))
  all_goals first | rfl | (exfalso; rename_i h; exact h rfl)
end Go.Abs
