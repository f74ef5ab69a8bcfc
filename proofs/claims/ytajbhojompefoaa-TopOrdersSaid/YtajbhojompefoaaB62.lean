/- A part of the proofs of the laws of this seat: contracts of the functions that they reach, each proved of the program's form in Lean. No condition beyond those that each contract names. -/
import Derived.Test.YtajbhojompefoaaB0
import Derived.Test.YtajbhojompefoaaB4
import Derived.Test.YtajbhojompefoaaB5
import Derived.Test.YtajbhojompefoaaB8
import Derived.Test.YtajbhojompefoaaB9
import Derived.Test.YtajbhojompefoaaB10
import Derived.Test.YtajbhojompefoaaB11
import Derived.Test.YtajbhojompefoaaB12
import Derived.Test.YtajbhojompefoaaB16
import Derived.Test.YtajbhojompefoaaB17
import Derived.Test.YtajbhojompefoaaB60
import Derived.Test.YtajbhojompefoaaB61
set_option linter.unusedVariables false
set_option linter.unusedSimpArgs false
set_option maxRecDepth 20000
set_option maxHeartbeats 4000000
/-! ### TopOrders: the example; the counts -/
namespace Go.Abs
open Go.Proofs
/-- aloeswood/aloeswoodtop.seatedAwake -/
def ir10 : IFn :=
  ⟨42, [(0, none)], (.seq (.ops [⟨(some 0), none, (.mov (.k (.bool false)))⟩])
  (.seq (.ops [⟨(some 6), none, (.callF 8 [(.k (.int .i64 4))])⟩,
    ⟨(some 5), none, (.mov (.t 6))⟩,
    ⟨(some 7), none, (.ext 0 (.t 5))⟩,
    ⟨(some 8), none, (.ext 1 (.t 5))⟩,
    ⟨(some 1), none, (.mov (.t 7))⟩,
    ⟨(some 2), none, (.mov (.t 8))⟩])
  (.seq (.ops [⟨(some 10), none, (.bld [(.str ByteArray.empty), (.int .i64 0), (.int .i64 0), (.int .i64 0), (.int .i64 0)] [(0, 1, (.k (.str ⟨#[97]⟩)))])⟩,
    ⟨(some 11), none, (.bld [(.str ByteArray.empty), (.int .i64 0), (.int .i64 0), (.int .i64 0), (.int .i64 0)] [(0, 1, (.k (.str ⟨#[98]⟩)))])⟩,
    ⟨(some 12), none, (.bld [(.str ByteArray.empty), (.int .i64 0), (.int .i64 0), (.int .i64 0), (.int .i64 0)] [(0, 1, (.k (.str ⟨#[99]⟩)))])⟩,
    ⟨(some 13), none, (.bsl 5 [[(.str ByteArray.empty), (.int .i64 0), (.int .i64 0), (.int .i64 0), (.int .i64 0)], [(.str ByteArray.empty), (.int .i64 0), (.int .i64 0), (.int .i64 0), (.int .i64 0)], [(.str ByteArray.empty), (.int .i64 0), (.int .i64 0), (.int .i64 0), (.int .i64 0)]] [(0, (.t 10)), (1, (.t 11)), (2, (.t 12))])⟩,
    ⟨(some 14), none, (.bld [(.int .i64 0), (.int .i64 0), (.int .i64 0), (.int .i64 0)] [(0, 1, (.k (.int .i64 4))), (1, 1, (.k (.int .i64 1)))])⟩,
    ⟨(some 15), none, (.bsl 4 [[(.int .i64 0), (.int .i64 0), (.int .i64 0), (.int .i64 0)]] [(0, (.t 14))])⟩,
    ⟨(some 16), none, (.bld [.nsl, .nsl] [(0, 1, (.t 13)), (1, 1, (.t 15))])⟩,
    ⟨(some 17), none, (.callF 16 [(.t 16)])⟩,
    ⟨(some 9), none, (.mov (.t 17))⟩,
    ⟨(some 18), none, (.ext 0 (.t 9))⟩,
    ⟨(some 19), none, (.ext 1 (.t 9))⟩,
    ⟨(some 3), none, (.mov (.t 18))⟩,
    ⟨(some 4), none, (.mov (.t 19))⟩])
  (.seq (.ops [⟨(some 20), none, (.mov (.t 2))⟩,
    ⟨(some 21), none, (.bin .eql (.t 20) (.k (.int .i64 0)))⟩,
    ⟨(some 22), none, (.mov (.t 21))⟩,
    ⟨(some 23), (some (22, true)), (.mov (.t 4))⟩,
    ⟨(some 24), (some (22, true)), (.bin .eql (.t 23) (.k (.int .i64 0)))⟩,
    ⟨(some 25), none, (.pick (.t 22) (.t 24) (.k (.bool false)))⟩,
    ⟨(some 26), none, (.mov (.t 25))⟩,
    ⟨(some 27), (some (26, true)), (.mov (.t 1))⟩,
    ⟨(some 28), (some (26, true)), (.len false (.t 27))⟩,
    ⟨(some 29), (some (26, true)), (.bin .eql (.t 28) (.k (.int .i64 4)))⟩,
    ⟨(some 30), none, (.pick (.t 26) (.t 29) (.k (.bool false)))⟩,
    ⟨(some 31), none, (.mov (.t 30))⟩,
    ⟨(some 32), (some (31, true)), (.mov (.t 1))⟩,
    ⟨(some 33), (some (31, true)), (.ixA 1 (.t 32) (.k (.int .i64 1)))⟩,
    ⟨(some 34), (some (31, true)), (.ld 1 false (.t 33))⟩,
    ⟨(some 35), (some (31, true)), (.bsl 1 [[(.int .i64 0)], [(.int .i64 0)], [(.int .i64 0)], [(.int .i64 0)]] [(0, (.k (.int .i64 1))), (1, (.k (.int .i64 2))), (2, (.k (.int .i64 0))), (3, (.k (.int .i64 3)))])⟩,
    ⟨(some 36), (some (31, true)), (.callF 17 [(.t 34), (.t 35)])⟩,
    ⟨(some 37), none, (.pick (.t 31) (.t 36) (.k (.bool false)))⟩,
    ⟨(some 38), none, (.mov (.t 37))⟩,
    ⟨(some 39), (some (38, true)), (.mov (.t 3))⟩,
    ⟨(some 40), (some (38, true)), (.bin .eql (.t 39) (.k (.int .i64 2)))⟩,
    ⟨(some 41), none, (.pick (.t 38) (.t 40) (.k (.bool false)))⟩,
    ⟨(some 0), none, (.mov (.t 41))⟩])
  .ret))))⟩
def hint10 (P : Program) : Hint := {}

def smallG : List Guest := [⟨⟨#[97]⟩, 0, 0, 0, 0⟩, ⟨⟨#[98]⟩, 0, 0, 0, 0⟩, ⟨⟨#[99]⟩, 0, 0, 0, 0⟩]
theorem small_count : (pErr smallG [⟨4, 1, 0, 0⟩] = 0) ∧ (okL smallG [⟨4, 1, 0, 0⟩]).length = 2 := by decide +kernel
theorem rounds4 : roundsL 4 = [[0, 1, 3, 2], [1, 2, 0, 3], [2, 3, 1, 0], [3, 0, 2, 1]] := by decide +kernel
theorem seatedAwake_c : Fn0 Try.prog 10 [] (fun v => v = .bool true) := by
  have hR := Rounds_c 4 (by decide) (by decide)
  rw [rounds4] at hR
  have hC := Count_c smallG [⟨4, 1, 0, 0⟩] (by decide) (by decide) (by decide)
  rw [if_pos small_count.1, small_count.1, small_count.2] at hC
  refine RawC.walk (H := hint10 Try.prog) ir10 Try.func10 rfl rfl rfl ?_
  unfold ir10
  repeat' (first
    | with_reducible (first | refine Rd.p ?_ | refine zE ?_ | refine zE0 ?_)
    | with_reducible (first | refine zI fun y hy => ?_ | refine zL ?_ | refine zS ?_ | refine zA fun _ => ?_ | refine zV ?_ | refine zC ?_ | refine zG ?_ | refine zU ?_ | refine zG0 ?_ | refine zU0 ?_ | refine zF ?_)
    | ((with_reducible refine acall_id ?_); refine ACall.val hR rfl rfl ?_)
    | (refine ACall.wval (args' := [pA smallG [⟨4, 1, 0, 0⟩]]) (.cons (Sub.agg (.cons Sub.tag (.cons Sub.tag .nil))) .nil) hC rfl rfl ?_)
    | ((with_reducible refine acall_id ?_); refine ACall.val (eq_c [1, 2, 0, 3] [1, 2, 0, 3] (by decide)) rfl rfl ?_)
    | (refine ACall.wval (args' := [.slc 1 (iR [1, 2, 0, 3]) .non, .slc 1 (iR [1, 2, 0, 3]) .non]) (.cons (Sub.refl _) (.cons Sub.tag .nil)) (eq_c [1, 2, 0, 3] [1, 2, 0, 3] (by decide)) rfl rfl ?_)
    | with_reducible (first | refine zX ?_ | refine zD fun _ => ?_ | refine zD0 ?_ | refine zN ?_ | refine zF0 ?_ | refine zX0 ?_ | refine z1 ?_ | refine z2 ?_ | refine z3 ?_ | refine z4 ?_ | refine z5 ?_ | refine z6 ?_ | refine z7 ?_ | refine z8 ?_ | refine y1 ?_ | refine y2 ?_ | refine y3 ?_ | refine y4 ?_ | refine y5 ?_ | refine y6 ?_ | refine y7 ?_ | refine y8 ?_ | refine Rt.p (fun _ => ?_) fun _ => ?_)
    | ((with_reducible apply w_ixM); (focus exact rfl); (focus exact rfl); case' hk => intro y hy) | ((with_reducible (first | apply w_val | apply q_ends)); (focus exact rfl)))
  · have hy2 : some ([1, 2, 0, 3] : List Int) = some y := hy
    cases hy2
    repeat' (first
      | with_reducible (first | refine Rd.p ?_ | refine zE ?_ | refine zE0 ?_)
      | with_reducible (first | refine zI fun y hy => ?_ | refine zL ?_ | refine zS ?_ | refine zA fun _ => ?_ | refine zV ?_ | refine zC ?_ | refine zG ?_ | refine zU ?_ | refine zG0 ?_ | refine zU0 ?_ | refine zF ?_)
      | (refine ACall.wval (args' := [.slc 1 (iR [1, 2, 0, 3]) .non, .slc 1 (iR [1, 2, 0, 3]) .non]) (.cons (Sub.refl _) (.cons Sub.tag .nil)) (eq_c [1, 2, 0, 3] [1, 2, 0, 3] (by decide)) rfl rfl ?_)
      | with_reducible (first | refine zX ?_ | refine zD fun _ => ?_ | refine zD0 ?_ | refine zN ?_ | refine zF0 ?_ | refine zX0 ?_ | refine z1 ?_ | refine z2 ?_ | refine z3 ?_ | refine z4 ?_ | refine z5 ?_ | refine z6 ?_ | refine z7 ?_ | refine z8 ?_ | refine y1 ?_ | refine y2 ?_ | refine y3 ?_ | refine y4 ?_ | refine y5 ?_ | refine y6 ?_ | refine y7 ?_ | refine y8 ?_ | refine Rt.p (fun _ => ?_) fun _ => ?_)
      | ((with_reducible apply w_ixM); (focus exact rfl); (focus exact rfl); case' hk => intro y hy) | ((with_reducible (first | apply w_val | apply q_ends)); (focus exact rfl)))
    all_goals first | rfl | (exfalso; rename_i h; exact h rfl)
  · rename_i h; exact absurd rfl h
end Go.Abs
