/- A part of the proofs of the laws of this seat: contracts of the functions that they reach, each proved of the program's form in Lean. No condition beyond those that each contract names. -/
import Derived.Test.YtajbhojompefoaaB0
import Derived.Test.YtajbhojompefoaaB1
import Derived.Test.YtajbhojompefoaaB8
import Derived.Test.YtajbhojompefoaaB9
import Derived.Test.YtajbhojompefoaaB10
import Derived.Test.YtajbhojompefoaaB11
import Derived.Test.YtajbhojompefoaaB12
import Derived.Test.YtajbhojompefoaaB14a
import Derived.Test.YtajbhojompefoaaB16
import Derived.Test.YtajbhojompefoaaB17
import Derived.Test.YtajbhojompefoaaB20
import Derived.Test.YtajbhojompefoaaB30
import Derived.Test.YtajbhojompefoaaB60
import Derived.Test.YtajbhojompefoaaB61
import Derived.Test.YtajbhojompefoaaB62
import Derived.Test.YtajbhojompefoaaB63
set_option linter.unusedVariables false
set_option linter.unusedSimpArgs false
set_option maxRecDepth 20000
set_option maxHeartbeats 4000000
/-! ### TopOrders: the law's walk -/
namespace Go.Abs
open Go.Proofs
/-- aloeswood/aloeswoodtop.TopOrders -/
def ir3 : IFn :=
  ⟨135, [(4, none)], (.seq (.ops [⟨(some 4), none, (.mov (.k (.bool false)))⟩])
  (.seq (.ops [⟨(some 20), none, (.mov (.t 0))⟩,
    ⟨(some 21), none, (.callF 4 [(.t 20), (.k (.int .i64 6))])⟩,
    ⟨(some 22), none, (.bin .add (.k (.int .i64 2)) (.t 21))⟩,
    ⟨(some 5), none, (.mov (.t 22))⟩])
  (.seq (.ops [⟨(some 23), none, (.mov (.t 1))⟩,
    ⟨(some 24), none, (.callF 5 [(.t 23)])⟩,
    ⟨(some 6), none, (.mov (.t 24))⟩])
  (.seq (.ops [⟨(some 25), none, (.mov (.t 6))⟩,
    ⟨(some 26), none, (.mov (.t 5))⟩,
    ⟨(some 27), none, (.callF 6 [(.t 25), (.t 26)])⟩,
    ⟨(some 7), none, (.mov (.t 27))⟩])
  (.seq (.ops [⟨(some 28), none, (.mov (.t 7))⟩,
    ⟨(some 29), none, (.mov (.t 6))⟩,
    ⟨(some 30), none, (.mov (.t 5))⟩,
    ⟨(some 31), none, (.bin .sub (.t 30) (.k (.int .i64 1)))⟩,
    ⟨(some 32), none, (.callF 7 [(.t 29), (.k (.int .i64 1)), (.t 31)])⟩,
    ⟨(some 33), none, (.bin .add (.t 28) (.t 32))⟩,
    ⟨(some 34), none, (.mov (.t 5))⟩,
    ⟨(some 35), none, (.callF 4 [(.t 33), (.t 34)])⟩,
    ⟨(some 8), none, (.mov (.t 35))⟩])
  (.seq (.ops [⟨(some 37), none, (.mov (.t 5))⟩,
    ⟨(some 38), none, (.callF 8 [(.t 37)])⟩,
    ⟨(some 36), none, (.mov (.t 38))⟩,
    ⟨(some 39), none, (.ext 0 (.t 36))⟩,
    ⟨(some 40), none, (.ext 1 (.t 36))⟩,
    ⟨(some 9), none, (.mov (.t 39))⟩,
    ⟨(some 10), none, (.mov (.t 40))⟩])
  (.seq (.seq (.ops [⟨(some 41), none, (.mov (.t 10))⟩,
    ⟨(some 42), none, (.bin .neq (.t 41) (.k (.int .i64 0)))⟩,
    ⟨(some 43), none, (.mov (.t 42))⟩,
    ⟨(some 44), (some (43, false)), (.mov (.t 9))⟩,
    ⟨(some 45), (some (43, false)), (.len false (.t 44))⟩,
    ⟨(some 46), (some (43, false)), (.bin .eql (.t 45) (.k (.int .i64 0)))⟩,
    ⟨(some 47), none, (.pick (.t 43) (.k (.bool true)) (.t 46))⟩,
    ⟨(some 48), none, (.mov (.t 47))⟩,
    ⟨(some 49), (some (48, false)), (.mov (.t 9))⟩,
    ⟨(some 50), (some (48, false)), (.len false (.t 49))⟩,
    ⟨(some 51), (some (48, false)), (.mov (.t 5))⟩,
    ⟨(some 52), (some (48, false)), (.bin .rem (.t 50) (.t 51))⟩,
    ⟨(some 53), (some (48, false)), (.bin .neq (.t 52) (.k (.int .i64 0)))⟩,
    ⟨(some 54), none, (.pick (.t 48) (.k (.bool true)) (.t 53))⟩])
  (.cnd (.t 54)
    (.seq (.ops [⟨(some 4), none, (.mov (.k (.bool false)))⟩])
    .ret)
    .skip))
  (.seq (.ops [⟨(some 55), none, (.mov (.t 9))⟩,
    ⟨(some 56), none, (.len false (.t 55))⟩,
    ⟨(some 57), none, (.mov (.t 5))⟩,
    ⟨(some 58), none, (.bin .quo (.t 56) (.t 57))⟩,
    ⟨(some 11), none, (.mov (.t 58))⟩])
  (.seq (.ops [⟨(some 60), none, (.mov (.t 5))⟩,
    ⟨(some 61), none, (.mov (.t 9))⟩,
    ⟨(some 62), none, (.mov (.t 7))⟩,
    ⟨(some 63), none, (.bld [(.int .i64 0), (.int .i64 0), (.int .i64 0), (.int .i64 0)] [(0, 1, (.k (.int .i64 4))), (1, 1, (.t 62)), (3, 1, (.k (.int .i64 3)))])⟩,
    ⟨(some 64), none, (.callF 9 [(.t 60), (.t 61), (.t 63)])⟩,
    ⟨(some 59), none, (.mov (.t 64))⟩,
    ⟨(some 65), none, (.ext 0 (.t 59))⟩,
    ⟨(some 66), none, (.ext 1 (.t 59))⟩,
    ⟨(some 12), none, (.mov (.t 65))⟩,
    ⟨(some 13), none, (.mov (.t 66))⟩])
  (.seq (.ops [⟨(some 68), none, (.mov (.t 5))⟩,
    ⟨(some 69), none, (.mov (.t 9))⟩,
    ⟨(some 70), none, (.mov (.t 7))⟩,
    ⟨(some 71), none, (.bld [(.int .i64 0), (.int .i64 0), (.int .i64 0), (.int .i64 0)] [(0, 1, (.k (.int .i64 5))), (1, 1, (.t 70)), (3, 1, (.k (.int .i64 3)))])⟩,
    ⟨(some 72), none, (.callF 9 [(.t 68), (.t 69), (.t 71)])⟩,
    ⟨(some 67), none, (.mov (.t 72))⟩,
    ⟨(some 73), none, (.ext 0 (.t 67))⟩,
    ⟨(some 74), none, (.ext 1 (.t 67))⟩,
    ⟨(some 14), none, (.mov (.t 73))⟩,
    ⟨(some 15), none, (.mov (.t 74))⟩])
  (.seq (.ops [⟨(some 76), none, (.mov (.t 5))⟩,
    ⟨(some 77), none, (.mov (.t 9))⟩,
    ⟨(some 78), none, (.mov (.t 7))⟩,
    ⟨(some 79), none, (.mov (.t 8))⟩,
    ⟨(some 80), none, (.bld [(.int .i64 0), (.int .i64 0), (.int .i64 0), (.int .i64 0)] [(0, 1, (.k (.int .i64 2))), (1, 1, (.t 78)), (2, 1, (.t 79)), (3, 1, (.k (.int .i64 2)))])⟩,
    ⟨(some 81), none, (.callF 9 [(.t 76), (.t 77), (.t 80)])⟩,
    ⟨(some 75), none, (.mov (.t 81))⟩,
    ⟨(some 82), none, (.ext 0 (.t 75))⟩,
    ⟨(some 83), none, (.ext 1 (.t 75))⟩,
    ⟨(some 16), none, (.mov (.t 82))⟩,
    ⟨(some 17), none, (.mov (.t 83))⟩])
  (.seq (.ops [⟨(some 85), none, (.mov (.t 5))⟩,
    ⟨(some 86), none, (.mov (.t 9))⟩,
    ⟨(some 87), none, (.mov (.t 7))⟩,
    ⟨(some 88), none, (.mov (.t 8))⟩,
    ⟨(some 89), none, (.bld [(.int .i64 0), (.int .i64 0), (.int .i64 0), (.int .i64 0)] [(0, 1, (.k (.int .i64 1))), (1, 1, (.t 87)), (2, 1, (.t 88)), (3, 1, (.k (.int .i64 2)))])⟩,
    ⟨(some 90), none, (.callF 9 [(.t 85), (.t 86), (.t 89)])⟩,
    ⟨(some 84), none, (.mov (.t 90))⟩,
    ⟨(some 91), none, (.ext 0 (.t 84))⟩,
    ⟨(some 92), none, (.ext 1 (.t 84))⟩,
    ⟨(some 18), none, (.mov (.t 91))⟩,
    ⟨(some 19), none, (.mov (.t 92))⟩])
  (.seq (.seq (.ops [⟨(some 93), none, (.mov (.t 13))⟩,
    ⟨(some 94), none, (.not (.t 93))⟩,
    ⟨(some 95), none, (.mov (.t 94))⟩,
    ⟨(some 96), (some (95, false)), (.mov (.t 15))⟩,
    ⟨(some 97), (some (95, false)), (.not (.t 96))⟩,
    ⟨(some 98), none, (.pick (.t 95) (.k (.bool true)) (.t 97))⟩,
    ⟨(some 99), none, (.mov (.t 98))⟩,
    ⟨(some 100), (some (99, false)), (.mov (.t 17))⟩,
    ⟨(some 101), (some (99, false)), (.not (.t 100))⟩,
    ⟨(some 102), none, (.pick (.t 99) (.k (.bool true)) (.t 101))⟩,
    ⟨(some 103), none, (.mov (.t 102))⟩,
    ⟨(some 104), (some (103, false)), (.mov (.t 19))⟩,
    ⟨(some 105), (some (103, false)), (.not (.t 104))⟩,
    ⟨(some 106), none, (.pick (.t 103) (.k (.bool true)) (.t 105))⟩,
    ⟨(some 107), none, (.mov (.t 106))⟩,
    ⟨(some 108), (some (107, false)), (.mov (.t 11))⟩,
    ⟨(some 109), (some (107, false)), (.bin .gtr (.t 108) (.k (.int .i64 1)))⟩,
    ⟨(some 110), (some (107, false)), (.mov (.t 109))⟩,
    ⟨(some 111), (some (110, true)), (.mov (.t 18))⟩,
    ⟨(some 112), (some (110, true)), (.bin .mul (.k (.int .i64 2)) (.t 111))⟩,
    ⟨(some 113), (some (110, true)), (.mov (.t 9))⟩,
    ⟨(some 114), (some (110, true)), (.len false (.t 113))⟩,
    ⟨(some 115), (some (110, true)), (.bin .neq (.t 112) (.t 114))⟩,
    ⟨(some 116), (some (107, false)), (.pick (.t 110) (.t 115) (.k (.bool false)))⟩,
    ⟨(some 117), none, (.pick (.t 107) (.k (.bool true)) (.t 116))⟩])
  (.cnd (.t 117)
    (.seq (.ops [⟨(some 4), none, (.mov (.k (.bool false)))⟩])
    .ret)
    .skip))
  (.seq (.ops [⟨(some 118), none, (.mov (.t 12))⟩,
    ⟨(some 119), none, (.mov (.t 11))⟩,
    ⟨(some 120), none, (.bin .eql (.t 118) (.t 119))⟩,
    ⟨(some 121), none, (.mov (.t 120))⟩,
    ⟨(some 122), (some (121, true)), (.mov (.t 14))⟩,
    ⟨(some 123), (some (121, true)), (.mov (.t 11))⟩,
    ⟨(some 124), (some (121, true)), (.bin .eql (.t 122) (.t 123))⟩,
    ⟨(some 125), none, (.pick (.t 121) (.t 124) (.k (.bool false)))⟩,
    ⟨(some 126), none, (.mov (.t 125))⟩,
    ⟨(some 127), (some (126, true)), (.mov (.t 16))⟩,
    ⟨(some 128), (some (126, true)), (.mov (.t 11))⟩,
    ⟨(some 129), (some (126, true)), (.bin .mul (.k (.int .i64 2)) (.t 128))⟩,
    ⟨(some 130), (some (126, true)), (.bin .eql (.t 127) (.t 129))⟩,
    ⟨(some 131), none, (.pick (.t 126) (.t 130) (.k (.bool false)))⟩,
    ⟨(some 132), none, (.mov (.t 131))⟩,
    ⟨(some 133), (some (132, true)), (.callF 10 [])⟩,
    ⟨(some 134), none, (.pick (.t 132) (.t 133) (.k (.bool false)))⟩,
    ⟨(some 4), none, (.mov (.t 134))⟩])
  .ret))))))))))))))⟩
def hint3 (P : Program) : Hint := {}

theorem topOrders_c (gu : Int) (hgu : -9223372036854775808 ≤ gu ∧ gu ≤ 9223372036854775807) (nums : List Int) (hn : nums.length < 2 ^ 62) : Fn0 Try.prog 3 [.int .i64 gu, .slc 1 (iR nums) .non] (fun v => v = .bool true) := by
  have hf := fitN_c gu 6 hgu (by omega)
  have hk0 : 0 ≤ gu % 6 := Int.emod_nonneg _ (by omega)
  have hk1 : gu % 6 < 6 := Int.emod_lt_of_pos _ (by omega)
  generalize gu % 6 = k at hf hk0 hk1
  obtain ⟨n, hnk⟩ : ∃ n : Nat, (n : Int) = 2 + k := ⟨(2 + k).toNat, by omega⟩
  have hn2 : 2 ≤ n := by omega
  have hn8 : n < 8 := by omega
  refine RawC.walk (H := hint3 Try.prog) ir3 Try.func3 rfl rfl rfl ?_
  unfold ir3
  repeat' (first
    | with_reducible (first | refine Rd.p ?_ | refine zE ?_ | refine zE0 ?_)
    | with_reducible (first | refine zI fun y hy => ?_ | refine zL ?_ | refine zS ?_ | refine zA fun _ => ?_ | refine zV ?_ | refine zC ?_ | refine zG ?_ | refine zU ?_ | refine zG0 ?_ | refine zU0 ?_ | refine zF ?_)
    | ((with_reducible refine acall_id ?_); refine ACall.val hf rfl rfl ?_)
    | ((with_reducible refine acall_id ?_); refine ACall.liftS (boxOf_s nums hn) [] (some 6) rfl rfl rfl trivial (fun _ => rfl) ?_; rintro ⟨gb, w⟩ _ rfl)
    | with_reducible (first | refine zX ?_ | refine zD fun _ => ?_ | refine zD0 ?_ | refine zN ?_ | refine zF0 ?_ | refine zX0 ?_ | refine z1 ?_ | refine z2 ?_ | refine z3 ?_ | refine z4 ?_ | refine z5 ?_ | refine z6 ?_ | refine z7 ?_ | refine z8 ?_ | refine y1 ?_ | refine y2 ?_ | refine y3 ?_ | refine y4 ?_ | refine y5 ?_ | refine y6 ?_ | refine y7 ?_ | refine y8 ?_ | refine Rt.p (fun _ => ?_) fun _ => ?_)
    | ((with_reducible apply w_ixM); (focus exact rfl); (focus exact rfl); case' hk => intro y hy) | ((with_reducible (first | apply w_val | apply q_ends)); (focus exact rfl)))
  rw [← hnk]
  repeat' (first
    | with_reducible (first | refine Rd.p ?_ | refine zE ?_ | refine zE0 ?_)
    | with_reducible (first | refine zI fun y hy => ?_ | refine zL ?_ | refine zS ?_ | refine zA fun _ => ?_ | refine zV ?_ | refine zC ?_ | refine zG ?_ | refine zU ?_ | refine zG0 ?_ | refine zU0 ?_ | refine zF ?_)
    | ((with_reducible refine acall_id ?_); refine ACall.box (upp_c _ _ _ (by omega) (by omega)) rfl rfl rfl ?_; rintro _ _ ⟨x, rfl, hx0, hx1⟩)
    | ((with_reducible refine acall_id ?_); refine ACall.box (any_c _ _ _ _ (by omega) (by omega) (by omega) (by omega)) rfl rfl rfl ?_; rintro _ _ ⟨j, rfl, hj1, hj2⟩)
    | with_reducible (first | refine zX ?_ | refine zD fun _ => ?_ | refine zD0 ?_ | refine zN ?_ | refine zF0 ?_ | refine zX0 ?_ | refine z1 ?_ | refine z2 ?_ | refine z3 ?_ | refine z4 ?_ | refine z5 ?_ | refine z6 ?_ | refine z7 ?_ | refine z8 ?_ | refine y1 ?_ | refine y2 ?_ | refine y3 ?_ | refine y4 ?_ | refine y5 ?_ | refine y6 ?_ | refine y7 ?_ | refine y8 ?_ | refine Rt.p (fun _ => ?_) fun _ => ?_)
    | ((with_reducible apply w_ixM); (focus exact rfl); (focus exact rfl); case' hk => intro y hy) | ((with_reducible (first | apply w_val | apply q_ends)); (focus exact rfl)))
  have hF := fitN_c (x + j) n (by omega) (by omega)
  have hy0 : 0 ≤ (x + j) % (n : Int) := Int.emod_nonneg _ (by omega)
  have hy1 : (x + j) % (n : Int) < n := Int.emod_lt_of_pos _ (by omega)
  have hyx : (x + j) % (n : Int) ≠ x := by
    by_cases h : x + j < n
    · rw [Int.emod_eq_of_lt (by omega) h]; omega
    · have : (x + j) % (n : Int) = x + j - n := by
        rw [← Int.sub_emod_right, Int.emod_eq_of_lt (by omega) (by omega)]
      omega
  generalize (x + j) % (n : Int) = y at hF hy0 hy1 hyx
  obtain ⟨a, rfl⟩ := Int.eq_ofNat_of_zero_le hx0
  obtain ⟨b, rfl⟩ := Int.eq_ofNat_of_zero_le hy0
  have H := lawT_all (n := n) (x := a) (y := b) hn8 hn2 (by omega) (by omega) (by omega)
  simp only [lawT, Bool.and_eq_true, beq_iff_eq, decide_eq_true_eq, Bool.or_eq_true] at H
  obtain ⟨⟨⟨⟨⟨⟨⟨⟨⟨⟨⟨H1, H2⟩, H3⟩, H4⟩, H5⟩, H6⟩, H7⟩, H8⟩, H9⟩, H10⟩, H11⟩, H12⟩ := H
  have hpm : ∀ l ∈ roundsL n, isPerm n l := fun l hl => by
    have := List.all_eq_true.1 H8 l hl
    rw [Bool.and_eq_true, decide_eq_true_eq] at this
    exact (ordB_perm this.1).1 this.2
  have hR := Rounds_c n (by omega) (by omega)
  have K1 := kept_c n (by omega) (roundsL n) (by omega) hpm ⟨4, a, 0, 3⟩ H9 ⟨(by decide : (0 : Int) ≤ 3), (by decide : (3 : Int) ≤ 1000)⟩
  have K2 := kept_c n (by omega) (roundsL n) (by omega) hpm ⟨5, a, 0, 3⟩ H10 ⟨(by decide : (0 : Int) ≤ 3), (by decide : (3 : Int) ≤ 1000)⟩
  have K3 := kept_c n (by omega) (roundsL n) (by omega) hpm ⟨2, a, b, 2⟩ H11 ⟨(by decide : (0 : Int) ≤ 2), (by decide : (2 : Int) ≤ 1000)⟩
  have K4 := kept_c n (by omega) (roundsL n) (by omega) hpm ⟨1, a, b, 2⟩ H12 ⟨(by decide : (0 : Int) ≤ 2), (by decide : (2 : Int) ≤ 1000)⟩
  rw [show ((roundsL n).filter fun l => keepsB (keptG n) (atL l) ⟨4, a, 0, 3⟩).length = (roundsL n).length / n from H4] at K1
  rw [show ((roundsL n).filter fun l => keepsB (keptG n) (atL l) ⟨5, a, 0, 3⟩).length = (roundsL n).length / n from H5] at K2
  rw [show ((roundsL n).filter fun l => keepsB (keptG n) (atL l) ⟨2, a, b, 2⟩).length = 2 * ((roundsL n).length / n) from H6] at K3
  change _ ∨ 2 * ((roundsL n).filter fun l => keepsB (keptG n) (atL l) ⟨1, a, b, 2⟩).length = _ at H7
  have hbf : ((roundsL n).filter fun l => keepsB (keptG n) (atL l) ⟨1, a, b, 2⟩).length ≤ (roundsL n).length := List.length_filter_le _ _
  generalize ((roundsL n).filter fun l => keepsB (keptG n) (atL l) ⟨1, a, b, 2⟩).length = bf at K4 H7 hbf
  have hlr : (llR (roundsL n)).length = (roundsL n).length := by simp
  have hq : (((roundsL n).length : Int)).tdiv n = (((roundsL n).length / n : Nat) : Int) := rfl
  have hm : (((roundsL n).length : Int)).tmod n = (((roundsL n).length % n : Nat) : Int) := rfl
  have hqle : (roundsL n).length / n ≤ (roundsL n).length := Nat.div_le_self _ _
  repeat' (first
    | with_reducible (first | refine Rd.p ?_ | refine zE ?_ | refine zE0 ?_)
    | with_reducible (first | refine zI fun y hy => ?_ | refine zL ?_ | refine zS ?_ | refine zA fun _ => ?_ | refine zV ?_ | refine zC ?_ | refine zG ?_ | refine zU ?_ | refine zG0 ?_ | refine zU0 ?_ | refine zF ?_)
    | ((with_reducible refine acall_id ?_); refine ACall.val hF rfl rfl ?_)
    | ((with_reducible refine acall_id ?_); refine ACall.val hR rfl rfl ?_)
    | ((with_reducible refine acall_id ?_); refine ACall.val K1 rfl rfl ?_)
    | ((with_reducible refine acall_id ?_); refine ACall.val K2 rfl rfl ?_)
    | ((with_reducible refine acall_id ?_); refine ACall.val K3 rfl rfl ?_)
    | ((with_reducible refine acall_id ?_); refine ACall.val K4 rfl rfl ?_)
    | ((with_reducible refine acall_id ?_); refine ACall.val seatedAwake_c rfl rfl ?_)
    | with_reducible (first | refine zX ?_ | refine zD fun _ => ?_ | refine zD0 ?_ | refine zN ?_ | refine zF0 ?_ | refine zX0 ?_ | refine z1 ?_ | refine z2 ?_ | refine z3 ?_ | refine z4 ?_ | refine z5 ?_ | refine z6 ?_ | refine z7 ?_ | refine z8 ?_ | refine y1 ?_ | refine y2 ?_ | refine y3 ?_ | refine y4 ?_ | refine y5 ?_ | refine y6 ?_ | refine y7 ?_ | refine y8 ?_ | refine Rt.p (fun _ => ?_) fun _ => ?_)
    | ((with_reducible apply w_ixM); (focus exact rfl); (focus exact rfl); case' hk => intro y hy) | ((with_reducible (first | apply w_val | apply q_ends)); (focus exact rfl)))
  all_goals rfl
end Go.Abs
