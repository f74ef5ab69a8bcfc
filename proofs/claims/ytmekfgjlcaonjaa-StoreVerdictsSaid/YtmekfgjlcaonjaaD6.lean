/- A part of the proofs of the laws of this seat: contracts of the functions that they reach, each proved of the program's form in Lean. No condition beyond those that each contract names. -/
import Derived.Test.YtmekfgjlcaonjaaD5
import Derived.Test.YtmekfgjlcaonjaaD4
import Derived.Test.YtmekfgjlcaonjaaD2
import Derived.Test.YtmekfgjlcaonjaaD1
import Derived.Test.YtmekfgjlcaonjaaC13
import Derived.Test.YtmekfgjlcaonjaaC7
import Derived.Test.YtmekfgjlcaonjaaC6
import Derived.Test.YtmekfgjlcaonjaaC3
import Derived.Test.YtmekfgjlcaonjaaC2
import Derived.Test.YtmekfgjlcaonjaaC1
import Derived.Test.YtmekfgjlcaonjaaB0
import Derived.Test.YtmekfgjlcaonjaaB1
import Derived.Test.YtmekfgjlcaonjaaB4
import Derived.Test.YtmekfgjlcaonjaaB9
import Derived.Test.YtmekfgjlcaonjaaB14a
import Derived.Test.YtmekfgjlcaonjaaB20
import Derived.Test.YtmekfgjlcaonjaaB25
import Derived.Test.YtmekfgjlcaonjaaB29
import Derived.Test.YtmekfgjlcaonjaaB36
import Derived.Test.YtmekfgjlcaonjaaB47
set_option linter.unusedVariables false
set_option linter.unusedSimpArgs false
set_option maxRecDepth 20000
set_option maxHeartbeats 1600000
/-! ### The law of verdicts -/
namespace Go.Abs
open Go.Proofs
/-- aloeswood/aloeswoodlaw09.StoreVerdicts -/
def ir9 : IFn :=
  ⟨159, [(2, none)], (.seq (.ops [⟨(some 2), none, (.mov (.k (.bool false)))⟩])
  (.seq (.ops [⟨(some 19), none, (.mov (.t 0))⟩,
    ⟨(some 20), none, (.callF 17 [(.t 19)])⟩,
    ⟨(some 3), none, (.mov (.t 20))⟩])
  (.seq (.ops [⟨(some 21), none, (.mov (.t 3))⟩,
    ⟨(some 22), none, (.callF 18 [(.t 21), (.k (.int .i64 6)), (.k (.int .i64 5)), (.k (.int .i64 4))])⟩,
    ⟨(some 4), none, (.new [(.int .i64 0), (.int .i64 0), (.int .i64 0), .nsl])⟩,
    ⟨none, none, (.st 4 (.t 4) (.t 22))⟩])
  (.seq (.ops [⟨(some 23), none, (.mov (.t 3))⟩,
    ⟨(some 24), none, (.callF 20 [(.t 23), (.k (.int .i64 6))])⟩,
    ⟨(some 25), none, (.mov (.t 3))⟩,
    ⟨(some 26), none, (.callF 20 [(.t 25), (.k (.int .i64 60))])⟩,
    ⟨(some 5), none, (.mov (.t 24))⟩,
    ⟨(some 6), none, (.mov (.t 26))⟩])
  (.seq (.ops [⟨(some 28), none, (.ld 4 true (.t 4))⟩,
    ⟨(some 29), none, (.mov (.t 5))⟩,
    ⟨(some 30), none, (.mov (.t 6))⟩,
    ⟨(some 31), none, (.callF 53 [(.t 28), (.t 29), (.t 30)])⟩,
    ⟨(some 27), none, (.mov (.t 31))⟩,
    ⟨(some 32), none, (.ext 0 (.t 27))⟩,
    ⟨(some 33), none, (.ext 1 (.t 27))⟩,
    ⟨(some 7), none, (.mov (.t 32))⟩,
    ⟨(some 8), none, (.mov (.t 33))⟩])
  (.seq (.ops [⟨(some 35), none, (.ld 4 true (.t 4))⟩,
    ⟨(some 36), none, (.mov (.t 6))⟩,
    ⟨(some 37), none, (.callF 36 [(.t 35), (.t 36)])⟩,
    ⟨(some 34), none, (.mov (.t 37))⟩,
    ⟨(some 38), none, (.ext 0 (.t 34))⟩,
    ⟨(some 39), none, (.ext 1 (.t 34))⟩,
    ⟨(some 9), none, (.mov (.t 38))⟩,
    ⟨(some 10), none, (.mov (.t 39))⟩])
  (.seq (.ops [⟨(some 41), none, (.ld 4 true (.t 4))⟩,
    ⟨(some 42), none, (.callF 36 [(.t 41), (.k (.int .i64 100000))])⟩,
    ⟨(some 40), none, (.mov (.t 42))⟩,
    ⟨(some 43), none, (.ext 0 (.t 40))⟩,
    ⟨(some 44), none, (.ext 1 (.t 40))⟩,
    ⟨(some 11), none, (.mov (.t 43))⟩,
    ⟨(some 12), none, (.mov (.t 44))⟩])
  (.seq (.ops [⟨(some 46), none, (.ld 4 true (.t 4))⟩,
    ⟨(some 47), none, (.callF 22 [(.t 46)])⟩,
    ⟨(some 45), none, (.mov (.t 47))⟩,
    ⟨(some 48), none, (.ext 0 (.t 45))⟩,
    ⟨(some 49), none, (.ext 1 (.t 45))⟩,
    ⟨(some 13), none, (.mov (.t 48))⟩,
    ⟨(some 14), none, (.mov (.t 49))⟩])
  (.seq (.seq (.ops [⟨(some 50), none, (.mov (.t 8))⟩,
    ⟨(some 51), none, (.bin .neq (.t 50) (.k (.int .i64 0)))⟩,
    ⟨(some 52), none, (.mov (.t 51))⟩,
    ⟨(some 53), (some (52, false)), (.mov (.t 10))⟩,
    ⟨(some 54), (some (52, false)), (.bin .neq (.t 53) (.k (.int .i64 0)))⟩,
    ⟨(some 55), none, (.pick (.t 52) (.k (.bool true)) (.t 54))⟩,
    ⟨(some 56), none, (.mov (.t 55))⟩,
    ⟨(some 57), (some (56, false)), (.mov (.t 12))⟩,
    ⟨(some 58), (some (56, false)), (.bin .neq (.t 57) (.k (.int .i64 0)))⟩,
    ⟨(some 59), none, (.pick (.t 56) (.k (.bool true)) (.t 58))⟩,
    ⟨(some 60), none, (.mov (.t 59))⟩,
    ⟨(some 61), (some (60, false)), (.mov (.t 14))⟩,
    ⟨(some 62), (some (60, false)), (.bin .neq (.t 61) (.k (.int .i64 0)))⟩,
    ⟨(some 63), none, (.pick (.t 60) (.k (.bool true)) (.t 62))⟩,
    ⟨(some 64), none, (.mov (.t 63))⟩,
    ⟨(some 65), (some (64, false)), (.mov (.t 9))⟩,
    ⟨(some 66), (some (64, false)), (.len false (.t 65))⟩,
    ⟨(some 67), (some (64, false)), (.bin .eql (.t 66) (.k (.int .i64 0)))⟩,
    ⟨(some 68), none, (.pick (.t 64) (.k (.bool true)) (.t 67))⟩,
    ⟨(some 69), none, (.mov (.t 68))⟩,
    ⟨(some 70), (some (69, false)), (.mov (.t 7))⟩,
    ⟨(some 71), (some (69, false)), (.bin .eql (.t 70) (.k (.int .i64 1)))⟩,
    ⟨(some 72), (some (69, false)), (.mov (.t 9))⟩,
    ⟨(some 73), (some (69, false)), (.mov (.t 5))⟩,
    ⟨(some 74), (some (69, false)), (.bsl 1 [[(.int .i64 0)]] [(0, (.t 73))])⟩,
    ⟨(some 75), (some (69, false)), (.callF 40 [(.t 72), (.t 74)])⟩,
    ⟨(some 76), (some (69, false)), (.eqn .bool true (.t 71) (.t 75))⟩,
    ⟨(some 77), none, (.pick (.t 69) (.k (.bool true)) (.t 76))⟩,
    ⟨(some 78), none, (.mov (.t 77))⟩,
    ⟨(some 79), (some (78, false)), (.mov (.t 7))⟩,
    ⟨(some 80), (some (78, false)), (.bin .eql (.t 79) (.k (.int .i64 2)))⟩,
    ⟨(some 81), (some (78, false)), (.mov (.t 9))⟩,
    ⟨(some 82), (some (78, false)), (.mov (.t 5))⟩,
    ⟨(some 83), (some (78, false)), (.callF 37 [(.t 81), (.t 82)])⟩,
    ⟨(some 84), (some (78, false)), (.not (.t 83))⟩,
    ⟨(some 85), (some (78, false)), (.eqn .bool true (.t 80) (.t 84))⟩,
    ⟨(some 86), none, (.pick (.t 78) (.k (.bool true)) (.t 85))⟩])
  (.cnd (.t 86)
    (.seq (.ops [⟨(some 2), none, (.mov (.k (.bool false)))⟩])
    .ret)
    .skip))
  (.seq (.ops [⟨(some 15), none, (.mov (.k (.int .i64 0)))⟩])
  (.seq (.seq (.ops [⟨(some 16), none, (.mov (.k (.int .i64 0)))⟩])
  (.blk 0 (.loop (.seq (.seq (.ops [⟨(some 87), none, (.mov (.t 16))⟩,
        ⟨(some 88), none, (.bin .lss (.t 87) (.k (.int .i64 20)))⟩])
      (.cnd (.t 88)
        .skip
        (.exit 0)))
      (.seq (.blk 1 (.seq (.ops [⟨(some 91), none, (.flA 3 (.t 4))⟩,
          ⟨(some 92), none, (.ld 1 false (.t 91))⟩,
          ⟨(some 93), none, (.len false (.t 92))⟩,
          ⟨(some 94), none, (.bin .eql (.t 93) (.k (.int .i64 0)))⟩,
          ⟨(some 95), none, (.mov (.t 94))⟩,
          ⟨(some 96), (some (95, true)), (.mov (.t 16))⟩,
          ⟨(some 97), (some (95, true)), (.flA 0 (.t 4))⟩,
          ⟨(some 98), (some (95, true)), (.ld 1 false (.t 97))⟩,
          ⟨(some 99), (some (95, true)), (.bin .eql (.t 96) (.t 98))⟩,
          ⟨(some 100), none, (.pick (.t 95) (.t 99) (.k (.bool false)))⟩,
          ⟨(some 17), none, (.mov (.t 100))⟩])
        (.seq (.seq (.ops [⟨(some 18), none, (.mov (.k (.int .i64 0)))⟩])
        (.blk 2 (.loop (.seq (.seq (.ops [⟨(some 101), none, (.mov (.t 18))⟩,
              ⟨(some 102), none, (.mov (.t 13))⟩,
              ⟨(some 103), none, (.len false (.t 102))⟩,
              ⟨(some 104), none, (.bin .lss (.t 101) (.t 103))⟩,
              ⟨(some 105), none, (.mov (.t 104))⟩,
              ⟨(some 106), (some (105, true)), (.flA 3 (.t 4))⟩,
              ⟨(some 107), (some (105, true)), (.ld 1 false (.t 106))⟩,
              ⟨(some 108), (some (105, true)), (.len false (.t 107))⟩,
              ⟨(some 109), (some (105, true)), (.bin .gtr (.t 108) (.k (.int .i64 0)))⟩,
              ⟨(some 110), none, (.pick (.t 105) (.t 109) (.k (.bool false)))⟩])
            (.cnd (.t 110)
              .skip
              (.exit 2)))
            (.seq (.blk 3 (.seq (.seq (.ops [⟨(some 113), none, (.mov (.t 13))⟩,
                ⟨(some 114), none, (.mov (.t 18))⟩,
                ⟨(some 115), none, (.ixA 1 (.t 113) (.t 114))⟩,
                ⟨(some 116), none, (.ld 1 false (.t 115))⟩,
                ⟨(some 117), none, (.len false (.t 116))⟩,
                ⟨(some 118), none, (.flA 3 (.t 4))⟩,
                ⟨(some 119), none, (.ld 1 false (.t 118))⟩,
                ⟨(some 120), none, (.len false (.t 119))⟩,
                ⟨(some 121), none, (.bin .neq (.t 117) (.t 120))⟩])
              (.cnd (.t 121)
                (.seq (.ops [⟨(some 2), none, (.mov (.k (.bool false)))⟩])
                .ret)
                .skip))
              (.ops [⟨(some 122), none, (.mov (.t 17))⟩,
                ⟨(some 123), none, (.mov (.t 122))⟩,
                ⟨(some 124), (some (123, false)), (.flA 3 (.t 4))⟩,
                ⟨(some 125), (some (123, false)), (.ld 1 false (.t 124))⟩,
                ⟨(some 126), (some (123, false)), (.mov (.t 13))⟩,
                ⟨(some 127), (some (123, false)), (.mov (.t 18))⟩,
                ⟨(some 128), (some (123, false)), (.ixA 1 (.t 126) (.t 127))⟩,
                ⟨(some 129), (some (123, false)), (.ld 1 false (.t 128))⟩,
                ⟨(some 130), (some (123, false)), (.mov (.t 13))⟩,
                ⟨(some 131), (some (123, false)), (.mov (.t 18))⟩,
                ⟨(some 132), (some (123, false)), (.ixA 1 (.t 130) (.t 131))⟩,
                ⟨(some 133), (some (123, false)), (.ld 1 false (.t 132))⟩,
                ⟨(some 134), (some (123, false)), (.len false (.t 133))⟩,
                ⟨(some 135), (some (123, false)), (.bin .sub (.t 134) (.k (.int .i64 1)))⟩,
                ⟨(some 136), (some (123, false)), (.ixA 1 (.t 129) (.t 135))⟩,
                ⟨(some 137), (some (123, false)), (.ld 1 false (.t 136))⟩,
                ⟨(some 138), (some (123, false)), (.ixA 4 (.t 125) (.t 137))⟩,
                ⟨(some 139), (some (123, false)), (.flA 1 (.t 138))⟩,
                ⟨(some 140), (some (123, false)), (.ld 1 false (.t 139))⟩,
                ⟨(some 141), (some (123, false)), (.mov (.t 16))⟩,
                ⟨(some 142), (some (123, false)), (.bin .eql (.t 140) (.t 141))⟩,
                ⟨(some 143), none, (.pick (.t 123) (.k (.bool true)) (.t 142))⟩,
                ⟨(some 17), none, (.mov (.t 143))⟩])))
            (.ops [⟨(some 111), none, (.mov (.t 18))⟩,
              ⟨(some 112), none, (.bin .add (.t 111) (.k (.int .i64 1)))⟩,
              ⟨(some 18), none, (.mov (.t 112))⟩]))))))
        (.seq (.seq (.ops [⟨(some 144), none, (.mov (.t 17))⟩])
        (.cnd (.t 144)
          (.ops [⟨(some 145), none, (.mov (.t 15))⟩,
            ⟨(some 146), none, (.bin .add (.t 145) (.k (.int .i64 1)))⟩,
            ⟨(some 15), none, (.mov (.t 146))⟩])
          .skip))
        (.seq (.ops [⟨(some 147), none, (.mov (.t 11))⟩,
          ⟨(some 148), none, (.mov (.t 16))⟩,
          ⟨(some 149), none, (.callF 37 [(.t 147), (.t 148)])⟩,
          ⟨(some 150), none, (.mov (.t 17))⟩,
          ⟨(some 151), none, (.eqn .bool true (.t 149) (.t 150))⟩])
        (.cnd (.t 151)
          (.seq (.ops [⟨(some 2), none, (.mov (.k (.bool false)))⟩])
          .ret)
          .skip))))))
      (.ops [⟨(some 89), none, (.mov (.t 16))⟩,
        ⟨(some 90), none, (.bin .add (.t 89) (.k (.int .i64 1)))⟩,
        ⟨(some 16), none, (.mov (.t 90))⟩]))))))
  (.seq (.ops [⟨(some 152), none, (.mov (.t 11))⟩,
    ⟨(some 153), none, (.len false (.t 152))⟩,
    ⟨(some 154), none, (.mov (.t 15))⟩,
    ⟨(some 155), none, (.bin .eql (.t 153) (.t 154))⟩,
    ⟨(some 156), none, (.mov (.t 155))⟩,
    ⟨(some 157), (some (156, true)), (.callF 16 [])⟩,
    ⟨(some 158), none, (.pick (.t 156) (.t 157) (.k (.bool false)))⟩,
    ⟨(some 2), none, (.mov (.t 158))⟩])
  .ret))))))))))))⟩
def hint9 (P : Program) : Hint := {}

theorem verdicts_c (nums : List Int) (hn : nums.length < 2 ^ 62) : Fn0 Try.prog 9 [.slc 1 (iR nums) .non] (fun v => v = .bool true) := by
  refine RawC.walk (H := hint9 Try.prog) ir9 Try.func9 rfl rfl rfl ?_
  unfold ir9
  repeat' (first
    | with_reducible (first | refine Rd.p ?_ | refine w_alt ?_ ?_ | refine zE ?_ | refine zE0 ?_)
    | with_reducible (first | refine zI fun y hy => ?_ | refine zL ?_ | refine zS ?_ | refine zA fun _ => ?_ | refine zV ?_ | refine zC ?_ | refine zG ?_ | refine zU ?_ | refine zG0 ?_ | refine zU0 ?_ | refine zF ?_)
    | ((with_reducible refine acall_id ?_); refine ACall.liftS (boxOf_s nums hn) [] (some 6) rfl rfl rfl trivial (fun _ => rfl) ?_; rintro ⟨gb, w⟩ _ rfl)
    | ((with_reducible refine acall_id ?_); refine ACall.box (chainOf_c _ _ 6 5 4 (by omega) (by omega) (by omega)) rfl rfl rfl ?_; rintro _ _ ⟨c, rfl, hE, hk⟩)
    | ((with_reducible refine acall_id ?_); refine ACall.box (upp_c _ _ 6 (by omega) (by omega)) rfl rfl rfl ?_; rintro _ _ ⟨ow, rfl, ho1, ho2⟩)
    | ((with_reducible refine acall_id ?_); refine ACall.box (upp_c _ _ 60 (by omega) (by omega)) rfl rfl rfl ?_; rintro _ _ ⟨day, rfl, hd1, hd2⟩)
    | with_reducible (first | refine zX ?_ | refine zD fun _ => ?_ | refine zD0 ?_ | refine zN ?_ | refine zF0 ?_ | refine zX0 ?_ | refine z1 ?_ | refine z2 ?_ | refine z3 ?_ | refine z4 ?_ | refine z5 ?_ | refine z6 ?_ | refine z7 ?_ | refine z8 ?_ | refine y1 ?_ | refine y2 ?_ | refine y3 ?_ | refine y4 ?_ | refine y5 ?_ | refine y6 ?_ | refine y7 ?_ | refine y8 ?_ | refine Rt.p (fun _ => ?_) fun _ => ?_)
    | ((with_reducible apply w_ixM); (focus exact rfl); (focus exact rfl); case' hk => intro y hy) | ((with_reducible (first | apply w_val | apply q_ends)); (focus exact rfl)))
  have ok := formE_0 (chainE_0 hE).1
  have h7 := ok.n
  have hin : inB day 0 100000 = true := inB_t.2 (by omega)
  have ha : askE c day = 0 := by rw [askE, if_pos hE, if_pos hin]
  have ha2 : askE c 100000 = 0 := by rw [askE, if_pos hE]; rfl
  have hO := Owned_s c ow day (by omega)
  have hH := HoldersV_s c day (by omega) ha
  have hH2 := HoldersV_s c 100000 (by omega) ha2
  have hR := orders_s c (by omega)
  rw [hE] at hR
  obtain ⟨o0, os, hos⟩ : ∃ o os, ordsF c = o :: os := by
    cases h : ordsF c with
    | nil => exact absurd h (ordsF_ne hE)
    | cons o os => exact ⟨o, os, rfl⟩
  have hRv : optL2 (ordsF c) = .slc 1 (llR (ordsF c)) .non := by rw [hos]; rfl
  rw [hRv] at hR
  obtain ⟨hv2, hv1, hv3⟩ := own_iff ha (who := ow) (by omega)
  rw [hv2] at hO
  generalize (ownV c ow day).1 = V at *
  have hne := holL_ne hE day
  have hlen0 : (holL c day).length ≠ 0 := fun h => hne (List.length_eq_zero_iff.1 h)
  have hlL : (holL c day).length < 1000 := by
    have := List.length_filter_le (p := fun w => @decide _ (Classical.propDecidable (holdC c day w))) ((List.range 21).map fun (k : Nat) => (k : Int) - 1)
    simp only [List.length_map, List.length_range] at this
    unfold holL; omega
  have hlM : (holL c 100000).length < 1000 := by
    have := List.length_filter_le (p := fun w => @decide _ (Classical.propDecidable (holdC c 100000 w))) ((List.range 21).map fun (k : Nat) => (k : Int) - 1)
    simp only [List.length_map, List.length_range] at this
    unfold holL; omega
  have hEq := eq_c (holL c day) [ow] (by omega)
  have hHas := has_c (holL c day) ow (by omega)
  have hca : cntL (holL c 100000) 20 = (holL c 100000).length := cntL_all ((holL_lt c 100000).imp fun h e => by omega) (last_max hE)
  have hlb := fun w => lastB_all hE w
  have hlr : (ordsF c).length < 1000000 := by rw [ordsF, if_pos hE, List.length_map]; exact talesF_len c h7
  have hmem := fun o (h : o ∈ ordsF c) => ordsF_mem h
  generalize holL c day = H at *
  generalize hL : holL c 100000 = L at *
  generalize hos2 : ordsF c = R at *
  have hRl : R.length ≠ 0 := by rw [hos]; simp
  repeat' (first
    | with_reducible (first | refine Rd.p ?_ | refine w_alt ?_ ?_ | refine zE ?_ | refine zE0 ?_)
    | with_reducible (first | refine zI fun y hy => ?_ | refine zL ?_ | refine zS ?_ | refine zA fun _ => ?_ | refine zV ?_ | refine zC ?_ | refine zG ?_ | refine zU ?_ | refine zG0 ?_ | refine zU0 ?_ | refine zF ?_)
    | ((with_reducible refine acall_id ?_); refine ACall.val hO rfl rfl ?_)
    | ((with_reducible refine acall_id ?_); refine ACall.val hH rfl rfl ?_)
    | ((with_reducible refine acall_id ?_); refine ACall.val hH2 rfl rfl ?_)
    | ((with_reducible refine acall_id ?_); refine ACall.val hR rfl rfl ?_)
    | ((with_reducible refine acall_id ?_); refine ACall.val hEq rfl rfl ?_)
    | ((with_reducible refine acall_id ?_); refine ACall.val hHas rfl rfl ?_)
    | with_reducible (first | refine zX ?_ | refine zD fun _ => ?_ | refine zD0 ?_ | refine zN ?_ | refine zF0 ?_ | refine zX0 ?_ | refine z1 ?_ | refine z2 ?_ | refine z3 ?_ | refine z4 ?_ | refine z5 ?_ | refine z6 ?_ | refine z7 ?_ | refine z8 ?_ | refine y1 ?_ | refine y2 ?_ | refine y3 ?_ | refine y4 ?_ | refine y5 ?_ | refine y6 ?_ | refine y7 ?_ | refine y8 ?_ | refine Rt.p (fun _ => ?_) fun _ => ?_)
    | ((with_reducible apply w_ixM); (focus exact rfl); (focus exact rfl); case' hk => intro y hy) | ((with_reducible (first | apply w_val | apply q_ends)); (focus exact rfl)))
  all_goals try (exfalso; rename_i h; simp [negB, hv1, hv3] at h; done)
  refine w_loopK [4, 11, 13] [4] (fun g : Nat => g ≤ 20) (fun g => 20 - g) (fun g => [(16, .int .i64 g), (15, .int .i64 (cntL L g))]) (fun _ => []) 0 (by show (0 : Nat) ≤ 20; omega) ⟨rfl, rfl, trivial⟩ trivial ?_
  rintro gg hg e σ
  dsimp only at hg ⊢
  by_cases hgt : gg < 20
  case neg =>
    obtain rfl : gg = 20 := by omega
    repeat' (first
      | with_reducible (first | refine Rd.p ?_ | refine w_alt ?_ ?_ | refine zE ?_ | refine zE0 ?_)
      | with_reducible (first | refine zI fun y hy => ?_ | refine zL ?_ | refine zS ?_ | refine zA fun _ => ?_ | refine zV ?_ | refine zC ?_ | refine zG ?_ | refine zU ?_ | refine zG0 ?_ | refine zU0 ?_ | refine zF ?_)
      | ((with_reducible refine acall_id ?_); refine ACall.val wake_s rfl rfl ?_)
      | with_reducible (first | refine zX ?_ | refine zD fun _ => ?_ | refine zD0 ?_ | refine zN ?_ | refine zF0 ?_ | refine zX0 ?_ | refine z1 ?_ | refine z2 ?_ | refine z3 ?_ | refine z4 ?_ | refine z5 ?_ | refine z6 ?_ | refine z7 ?_ | refine z8 ?_ | refine y1 ?_ | refine y2 ?_ | refine y3 ?_ | refine y4 ?_ | refine y5 ?_ | refine y6 ?_ | refine y7 ?_ | refine y8 ?_ | refine Rt.p (fun _ => ?_) fun _ => ?_)
      | ((with_reducible apply w_ixM); (focus exact rfl); (focus exact rfl); case' hk => intro y hy) | ((with_reducible (first | apply w_val | apply q_ends)); (focus exact rfl)))
    all_goals rfl
  have hcs := cntL_succ L gg
  have hcl := cntL_le L gg
  have hHg := has_c L gg (by omega)
  obtain hm | ⟨m, hm⟩ : c.ls.length = 0 ∨ ∃ m, c.ls.length = m + 1 := by
    cases c.ls.length with
    | zero => exact .inl rfl
    | succ m => exact .inr ⟨m, rfl⟩
  · repeat' (first
      | with_reducible (first | refine Rd.p ?_ | refine w_alt ?_ ?_ | refine zE ?_ | refine zE0 ?_)
      | with_reducible (first | refine zI fun y hy => ?_ | refine zL ?_ | refine zS ?_ | refine zA fun _ => ?_ | refine zV ?_ | refine zC ?_ | refine zG ?_ | refine zU ?_ | refine zG0 ?_ | refine zU0 ?_ | refine zF ?_)
      | with_reducible (first | refine zX ?_ | refine zD fun _ => ?_ | refine zD0 ?_ | refine zN ?_ | refine zF0 ?_ | refine zX0 ?_ | refine z1 ?_ | refine z2 ?_ | refine z3 ?_ | refine z4 ?_ | refine z5 ?_ | refine z6 ?_ | refine z7 ?_ | refine z8 ?_ | refine y1 ?_ | refine y2 ?_ | refine y3 ?_ | refine y4 ?_ | refine y5 ?_ | refine y6 ?_ | refine y7 ?_ | refine y8 ?_ | refine Rt.p (fun _ => ?_) fun _ => ?_)
      | ((with_reducible apply w_ixM); (focus exact rfl); (focus exact rfl); case' hk => intro y hy) | ((with_reducible (first | apply w_val | apply q_ends)); (focus exact rfl)))
    have hlbg := hlb gg
    have hlm : lastB c R gg = decide ((gg : Int) = c.maker) := by
      rw [hos, lastB, hm]
      rw [Bool.eq_iff_iff, List.any_eq_true, decide_eq_true_eq]
      exact ⟨fun ⟨_, _, h⟩ => (of_decide_eq_true h).symm, fun h => ⟨o0, by simp, decide_eq_true h.symm⟩⟩
    rw [hlbg] at hlm
    refine w_loopK [4, 11, 13, 15, 16] [4] (fun _ : Unit => True) (fun _ => 1) (fun _ => [(18, .int .i64 0), (17, .bool (decide ((gg : Int) = c.maker)))]) (fun _ => []) () trivial ⟨rfl, rfl, trivial⟩ trivial ?_
    rintro _ _ e σ
    by_cases hgL : (gg : Int) ∈ L
    · rw [if_pos hgL] at hcs
      rw [decide_eq_true hgL] at hHg hlm
      have hgm : (gg : Int) = c.maker := of_decide_eq_true hlm.symm
      repeat' (first
        | with_reducible (first | refine Rd.p ?_ | refine w_alt ?_ ?_ | refine zE ?_ | refine zE0 ?_)
        | with_reducible (first | refine zI fun y hy => ?_ | refine zL ?_ | refine zS ?_ | refine zA fun _ => ?_ | refine zV ?_ | refine zC ?_ | refine zG ?_ | refine zU ?_ | refine zG0 ?_ | refine zU0 ?_ | refine zF ?_)
        | ((with_reducible refine acall_id ?_); refine ACall.val hHg rfl rfl ?_)
        | with_reducible (first | refine zX ?_ | refine zD fun _ => ?_ | refine zD0 ?_ | refine zN ?_ | refine zF0 ?_ | refine zX0 ?_ | refine z1 ?_ | refine z2 ?_ | refine z3 ?_ | refine z4 ?_ | refine z5 ?_ | refine z6 ?_ | refine z7 ?_ | refine z8 ?_ | refine y1 ?_ | refine y2 ?_ | refine y3 ?_ | refine y4 ?_ | refine y5 ?_ | refine y6 ?_ | refine y7 ?_ | refine y8 ?_ | refine Rt.p (fun _ => ?_) fun _ => ?_)
        | ((with_reducible apply w_ixM); (focus exact rfl); (focus exact rfl); case' hk => intro y hy) | ((with_reducible (first | apply w_val | apply q_ends)); (focus exact rfl)))
      all_goals try (exfalso; rename_i h; simp [negB, hgm] at h; done)
      refine q_loop (gg + 1) (by show gg + 1 ≤ 20; omega) (by show 20 - (gg + 1) < 20 - gg; omega) (slots_cons (by show AV.int .i64 _ = AV.int .i64 _; refine int_eq ?_; omega) (slots_cons (by show AV.int .i64 _ = AV.int .i64 _; refine int_eq ?_; omega) slots_nil)) trivial (by repeat' (first | exact kept_nil | apply kept_cons | rfl)) (by repeat' (first | exact kept_nil | apply kept_cons | rfl))
    · rw [if_neg hgL] at hcs
      rw [decide_eq_false hgL] at hHg hlm
      have hgm : ¬ (gg : Int) = c.maker := of_decide_eq_false hlm.symm
      repeat' (first
        | with_reducible (first | refine Rd.p ?_ | refine w_alt ?_ ?_ | refine zE ?_ | refine zE0 ?_)
        | with_reducible (first | refine zI fun y hy => ?_ | refine zL ?_ | refine zS ?_ | refine zA fun _ => ?_ | refine zV ?_ | refine zC ?_ | refine zG ?_ | refine zU ?_ | refine zG0 ?_ | refine zU0 ?_ | refine zF ?_)
        | ((with_reducible refine acall_id ?_); refine ACall.val hHg rfl rfl ?_)
        | with_reducible (first | refine zX ?_ | refine zD fun _ => ?_ | refine zD0 ?_ | refine zN ?_ | refine zF0 ?_ | refine zX0 ?_ | refine z1 ?_ | refine z2 ?_ | refine z3 ?_ | refine z4 ?_ | refine z5 ?_ | refine z6 ?_ | refine z7 ?_ | refine z8 ?_ | refine y1 ?_ | refine y2 ?_ | refine y3 ?_ | refine y4 ?_ | refine y5 ?_ | refine y6 ?_ | refine y7 ?_ | refine y8 ?_ | refine Rt.p (fun _ => ?_) fun _ => ?_)
        | ((with_reducible apply w_ixM); (focus exact rfl); (focus exact rfl); case' hk => intro y hy) | ((with_reducible (first | apply w_val | apply q_ends)); (focus exact rfl)))
      all_goals try (exfalso; rename_i h; simp [negB, hgm] at h; done)
      refine q_loop (gg + 1) (by show gg + 1 ≤ 20; omega) (by show 20 - (gg + 1) < 20 - gg; omega) (slots_cons (by show AV.int .i64 _ = AV.int .i64 _; refine int_eq ?_; omega) (slots_cons (by show AV.int .i64 _ = AV.int .i64 _; refine int_eq ?_; omega) slots_nil)) trivial (by repeat' (first | exact kept_nil | apply kept_cons | rfl)) (by repeat' (first | exact kept_nil | apply kept_cons | rfl))
  · repeat' (first
      | with_reducible (first | refine Rd.p ?_ | refine w_alt ?_ ?_ | refine zE ?_ | refine zE0 ?_)
      | with_reducible (first | refine zI fun y hy => ?_ | refine zL ?_ | refine zS ?_ | refine zA fun _ => ?_ | refine zV ?_ | refine zC ?_ | refine zG ?_ | refine zU ?_ | refine zG0 ?_ | refine zU0 ?_ | refine zF ?_)
      | with_reducible (first | refine zX ?_ | refine zD fun _ => ?_ | refine zD0 ?_ | refine zN ?_ | refine zF0 ?_ | refine zX0 ?_ | refine z1 ?_ | refine z2 ?_ | refine z3 ?_ | refine z4 ?_ | refine z5 ?_ | refine z6 ?_ | refine z7 ?_ | refine z8 ?_ | refine y1 ?_ | refine y2 ?_ | refine y3 ?_ | refine y4 ?_ | refine y5 ?_ | refine y6 ?_ | refine y7 ?_ | refine y8 ?_ | refine Rt.p (fun _ => ?_) fun _ => ?_)
      | ((with_reducible apply w_ixM); (focus exact rfl); (focus exact rfl); case' hk => intro y hy) | ((with_reducible (first | apply w_val | apply q_ends)); (focus exact rfl)))
    refine w_loopK [4, 11, 13, 15, 16] [4] (fun x : List (List Int) × List (List Int) => R = x.1 ++ x.2) (fun x => x.2.length) (fun x => [(18, .int .i64 x.1.length), (17, .bool (lastB c x.1 gg))]) (fun _ => []) ([], R) rfl ⟨rfl, rfl, trivial⟩ trivial ?_
    rintro ⟨pre, post⟩ hpp e σ
    dsimp only at hpp ⊢
    have hlen := congrArg List.length hpp
    rw [List.length_append] at hlen
    cases post with
    | nil =>
      rw [List.append_nil] at hpp
      simp only [List.length_nil] at hlen
      have hlbg := hlb gg
      rw [hpp] at hlbg
      by_cases hgL : (gg : Int) ∈ L
      · rw [if_pos hgL] at hcs
        rw [decide_eq_true hgL] at hlbg hHg
        repeat' (first
          | with_reducible (first | refine Rd.p ?_ | refine w_alt ?_ ?_ | refine zE ?_ | refine zE0 ?_)
          | with_reducible (first | refine zI fun y hy => ?_ | refine zL ?_ | refine zS ?_ | refine zA fun _ => ?_ | refine zV ?_ | refine zC ?_ | refine zG ?_ | refine zU ?_ | refine zG0 ?_ | refine zU0 ?_ | refine zF ?_)
          | ((with_reducible refine acall_id ?_); refine ACall.val hHg rfl rfl ?_)
          | with_reducible (first | refine zX ?_ | refine zD fun _ => ?_ | refine zD0 ?_ | refine zN ?_ | refine zF0 ?_ | refine zX0 ?_ | refine z1 ?_ | refine z2 ?_ | refine z3 ?_ | refine z4 ?_ | refine z5 ?_ | refine z6 ?_ | refine z7 ?_ | refine z8 ?_ | refine y1 ?_ | refine y2 ?_ | refine y3 ?_ | refine y4 ?_ | refine y5 ?_ | refine y6 ?_ | refine y7 ?_ | refine y8 ?_ | refine Rt.p (fun _ => ?_) fun _ => ?_)
          | ((with_reducible apply w_ixM); (focus exact rfl); (focus exact rfl); case' hk => intro y hy) | ((with_reducible (first | apply w_val | apply q_ends)); (focus exact rfl)))
        all_goals try (exfalso; rename_i h; simp [negB, hlbg] at h; done)
        refine q_loop (gg + 1) (by show gg + 1 ≤ 20; omega) (by show 20 - (gg + 1) < 20 - gg; omega) (slots_cons (by show AV.int .i64 _ = AV.int .i64 _; refine int_eq ?_; omega) (slots_cons (by show AV.int .i64 _ = AV.int .i64 _; refine int_eq ?_; omega) slots_nil)) trivial (by repeat' (first | exact kept_nil | apply kept_cons | rfl)) (by repeat' (first | exact kept_nil | apply kept_cons | rfl))
      · rw [if_neg hgL] at hcs
        rw [decide_eq_false hgL] at hlbg hHg
        repeat' (first
          | with_reducible (first | refine Rd.p ?_ | refine w_alt ?_ ?_ | refine zE ?_ | refine zE0 ?_)
          | with_reducible (first | refine zI fun y hy => ?_ | refine zL ?_ | refine zS ?_ | refine zA fun _ => ?_ | refine zV ?_ | refine zC ?_ | refine zG ?_ | refine zU ?_ | refine zG0 ?_ | refine zU0 ?_ | refine zF ?_)
          | ((with_reducible refine acall_id ?_); refine ACall.val hHg rfl rfl ?_)
          | with_reducible (first | refine zX ?_ | refine zD fun _ => ?_ | refine zD0 ?_ | refine zN ?_ | refine zF0 ?_ | refine zX0 ?_ | refine z1 ?_ | refine z2 ?_ | refine z3 ?_ | refine z4 ?_ | refine z5 ?_ | refine z6 ?_ | refine z7 ?_ | refine z8 ?_ | refine y1 ?_ | refine y2 ?_ | refine y3 ?_ | refine y4 ?_ | refine y5 ?_ | refine y6 ?_ | refine y7 ?_ | refine y8 ?_ | refine Rt.p (fun _ => ?_) fun _ => ?_)
          | ((with_reducible apply w_ixM); (focus exact rfl); (focus exact rfl); case' hk => intro y hy) | ((with_reducible (first | apply w_val | apply q_ends)); (focus exact rfl)))
        all_goals try (exfalso; rename_i h; simp [negB, hlbg] at h; done)
        refine q_loop (gg + 1) (by show gg + 1 ≤ 20; omega) (by show 20 - (gg + 1) < 20 - gg; omega) (slots_cons (by show AV.int .i64 _ = AV.int .i64 _; refine int_eq ?_; omega) (slots_cons (by show AV.int .i64 _ = AV.int .i64 _; refine int_eq ?_; omega) slots_nil)) trivial (by repeat' (first | exact kept_nil | apply kept_cons | rfl)) (by repeat' (first | exact kept_nil | apply kept_cons | rfl))
    | cons y post =>
      simp only [List.length_cons] at hlen
      have hy := hmem y (by rw [hpp]; simp)
      have hgi := getI_mem (l := y) (k := m) (by omega)
      have hgb := hy.2 _ hgi
      have hgp : getI y ((y.length : Int) - 1) = getI y m := by rw [show (y.length : Int) - 1 = m by omega]
      have hgb2 : 0 ≤ getI y ((y.length : Int) - 1) ∧ getI y ((y.length : Int) - 1) < c.ls.length := by rw [hgp]; exact hgb
      have hwo : whoAt c y c.ls.length = (lkAt c.ls (getI y m)).t := by rw [hm]; rfl
      have hls := lastB_snoc c pre y gg
      rw [hwo] at hls
      cases hb : lastB c pre gg with
      | true =>
        rw [hb, Bool.true_or] at hls
        repeat' (first
          | with_reducible (first | refine Rd.p ?_ | refine w_alt ?_ ?_ | refine zE ?_ | refine zE0 ?_)
          | (refine w_ixP hpp rfl rfl ?_)
          | with_reducible (first | refine zI fun y hy => ?_ | refine zL ?_ | refine zS ?_ | refine zA fun _ => ?_ | refine zV ?_ | refine zC ?_ | refine zG ?_ | refine zU ?_ | refine zG0 ?_ | refine zU0 ?_ | refine zF ?_)
          | with_reducible (first | refine zX ?_ | refine zD fun _ => ?_ | refine zD0 ?_ | refine zN ?_ | refine zF0 ?_ | refine zX0 ?_ | refine z1 ?_ | refine z2 ?_ | refine z3 ?_ | refine z4 ?_ | refine z5 ?_ | refine z6 ?_ | refine z7 ?_ | refine z8 ?_ | refine y1 ?_ | refine y2 ?_ | refine y3 ?_ | refine y4 ?_ | refine y5 ?_ | refine y6 ?_ | refine y7 ?_ | refine y8 ?_ | refine Rt.p (fun _ => ?_) fun _ => ?_)
          | ((with_reducible apply w_ixM); (focus exact rfl); (focus exact rfl); case' hk => intro y hy) | ((with_reducible (first | apply w_val | apply q_ends)); (focus exact rfl)))
        refine q_loop (pre ++ [y], post) (by show R = _; rw [hpp]; simp) (by simp) (slots_cons (by show AV.int .i64 _ = AV.int .i64 _; refine int_eq ?_; simp) (slots_cons (by show AV.bool _ = AV.bool _; rw [hls]) slots_nil)) trivial (by repeat' (first | exact kept_nil | apply kept_cons | rfl)) (by repeat' (first | exact kept_nil | apply kept_cons | rfl))
      | false =>
        rw [hb, Bool.false_or] at hls
        repeat' (first
          | with_reducible (first | refine Rd.p ?_ | refine w_alt ?_ ?_ | refine zE ?_ | refine zE0 ?_)
          | (refine w_ixP hpp rfl rfl ?_)
          | with_reducible refine zGi ?_
          | (refine w_ixL rfl rfl hgb2 ?_)
          | with_reducible (first | refine zI fun y hy => ?_ | refine zL ?_ | refine zS ?_ | refine zA fun _ => ?_ | refine zV ?_ | refine zC ?_ | refine zG ?_ | refine zU ?_ | refine zG0 ?_ | refine zU0 ?_ | refine zF ?_)
          | with_reducible (first | refine zX ?_ | refine zD fun _ => ?_ | refine zD0 ?_ | refine zN ?_ | refine zF0 ?_ | refine zX0 ?_ | refine z1 ?_ | refine z2 ?_ | refine z3 ?_ | refine z4 ?_ | refine z5 ?_ | refine z6 ?_ | refine z7 ?_ | refine z8 ?_ | refine y1 ?_ | refine y2 ?_ | refine y3 ?_ | refine y4 ?_ | refine y5 ?_ | refine y6 ?_ | refine y7 ?_ | refine y8 ?_ | refine Rt.p (fun _ => ?_) fun _ => ?_)
          | ((with_reducible apply w_ixM); (focus exact rfl); (focus exact rfl); case' hk => intro y hy) | ((with_reducible (first | apply w_val | apply q_ends)); (focus exact rfl)))
        refine q_loop (pre ++ [y], post) (by show R = _; rw [hpp]; simp) (by simp) (slots_cons (by show AV.int .i64 _ = AV.int .i64 _; refine int_eq ?_; simp) (slots_cons (by show AV.bool _ = AV.bool _; refine congrArg AV.bool ?_; simp only [hls, hgp]) slots_nil)) trivial (by repeat' (first | exact kept_nil | apply kept_cons | rfl)) (by repeat' (first | exact kept_nil | apply kept_cons | rfl))
end Go.Abs
