/- A part of the proofs of the laws of this seat: contracts of the functions that they reach, each proved of the program's form in Lean. No condition beyond those that each contract names. -/
import Derived.Test.YtmekfgjlcaonjaaE3
import Derived.Test.YtmekfgjlcaonjaaE2
import Derived.Test.YtmekfgjlcaonjaaE1
import Derived.Test.YtmekfgjlcaonjaaD8
import Derived.Test.YtmekfgjlcaonjaaC16
import Derived.Test.YtmekfgjlcaonjaaC15
import Derived.Test.YtmekfgjlcaonjaaC14
import Derived.Test.YtmekfgjlcaonjaaC13
import Derived.Test.YtmekfgjlcaonjaaC12
import Derived.Test.YtmekfgjlcaonjaaC11
import Derived.Test.YtmekfgjlcaonjaaC10
import Derived.Test.YtmekfgjlcaonjaaC8
import Derived.Test.YtmekfgjlcaonjaaC2
import Derived.Test.YtmekfgjlcaonjaaC1
import Derived.Test.YtmekfgjlcaonjaaB0
import Derived.Test.YtmekfgjlcaonjaaB1
import Derived.Test.YtmekfgjlcaonjaaB4
import Derived.Test.YtmekfgjlcaonjaaB9
import Derived.Test.YtmekfgjlcaonjaaB14a
import Derived.Test.YtmekfgjlcaonjaaB20
import Derived.Test.YtmekfgjlcaonjaaB29
set_option linter.unusedVariables false
set_option linter.unusedSimpArgs false
set_option maxRecDepth 20000
set_option maxHeartbeats 4000000
/-! ### The law of seasons -/
namespace Go.Abs
open Go.Proofs
/-- aloeswood/aloeswoodlaw09.StoreSeasons -/
def ir10 : IFn :=
  ⟨194, [(8, none)], (.seq (.ops [⟨(some 4), none, (.box 2 (.t 0))⟩,
    ⟨(some 8), none, (.mov (.k (.bool false)))⟩])
  (.seq (.seq (.ops [⟨(some 32), none, (.ld 2 true (.t 4))⟩,
    ⟨(some 33), none, (.callF 41 [(.t 32)])⟩,
    ⟨(some 34), none, (.mov (.t 33))⟩,
    ⟨(some 35), (some (34, false)), (.mov (.t 2))⟩,
    ⟨(some 36), (some (34, false)), (.len false (.t 35))⟩,
    ⟨(some 37), (some (34, false)), (.bin .gtr (.t 36) (.k (.int .i64 20)))⟩,
    ⟨(some 38), none, (.pick (.t 34) (.k (.bool true)) (.t 37))⟩])
  (.cnd (.t 38)
    (.seq (.ops [⟨(some 39), none, (.callF 16 [])⟩,
      ⟨(some 8), none, (.mov (.t 39))⟩])
    .ret)
    .skip))
  (.seq (.ops [⟨(some 40), none, (.mov (.t 3))⟩,
    ⟨(some 41), none, (.callF 17 [(.t 40)])⟩,
    ⟨(some 9), none, (.mov (.t 41))⟩])
  (.seq (.ops [⟨(some 42), none, (.mov (.t 9))⟩,
    ⟨(some 43), none, (.callF 42 [(.t 42), (.k (.int .i64 9))])⟩,
    ⟨(some 10), none, (.new [.nsl, .nsl])⟩,
    ⟨none, none, (.st 2 (.t 10) (.t 43))⟩])
  (.seq (.ops [⟨(some 44), none, (.ld 2 true (.t 10))⟩,
    ⟨(some 45), none, (.callF 57 [(.t 44)])⟩,
    ⟨(some 11), none, (.mov (.t 45))⟩])
  (.seq (.ops [⟨(some 12), none, (.nil 1 12)⟩])
  (.seq (.seq (.ops [⟨(some 46), none, (.mov (.t 9))⟩,
    ⟨(some 47), none, (.flA 1 (.t 10))⟩,
    ⟨(some 48), none, (.ld 1 false (.t 47))⟩,
    ⟨(some 49), none, (.len false (.t 48))⟩,
    ⟨(some 50), none, (.bin .add (.t 49) (.k (.int .i64 1)))⟩,
    ⟨(some 51), none, (.callF 20 [(.t 46), (.t 50)])⟩,
    ⟨(some 13), none, (.mov (.t 51))⟩])
  (.blk 0 (.loop (.seq (.seq (.ops [⟨(some 52), none, (.mov (.t 13))⟩,
        ⟨(some 53), none, (.bin .gtr (.t 52) (.k (.int .i64 0)))⟩])
      (.cnd (.t 53)
        .skip
        (.exit 0)))
      (.seq (.blk 1 (.ops [⟨(some 56), none, (.mov (.t 12))⟩,
          ⟨(some 57), none, (.mov (.t 9))⟩,
          ⟨(some 58), none, (.mov (.t 11))⟩,
          ⟨(some 59), none, (.callF 20 [(.t 57), (.t 58)])⟩,
          ⟨(some 60), none, (.bsl 1 [[(.int .i64 0)]] [(0, (.t 59))])⟩,
          ⟨(some 61), none, (.app 1 8 (.t 56) (.t 60) 12)⟩,
          ⟨(some 12), none, (.mov (.t 61))⟩]))
      (.ops [⟨(some 54), none, (.mov (.t 13))⟩,
        ⟨(some 55), none, (.bin .sub (.t 54) (.k (.int .i64 1)))⟩,
        ⟨(some 13), none, (.mov (.t 55))⟩]))))))
  (.seq (.ops [⟨(some 62), none, (.ld 2 true (.t 4))⟩,
    ⟨(some 63), none, (.ld 2 true (.t 10))⟩,
    ⟨(some 64), none, (.ld 2 true (.t 10))⟩,
    ⟨(some 65), none, (.bsl 2 [[.nsl, .nsl], [.nsl, .nsl], [.nsl, .nsl]] [(0, (.t 62)), (1, (.t 63)), (2, (.t 64))])⟩,
    ⟨(some 66), none, (.mov (.t 1))⟩,
    ⟨(some 67), none, (.mov (.t 9))⟩,
    ⟨(some 68), none, (.mov (.t 11))⟩,
    ⟨(some 69), none, (.bin .add (.t 68) (.k (.int .i64 1)))⟩,
    ⟨(some 71), none, (.mov (.t 1))⟩,
    ⟨(some 73), none, (.mov (.t 2))⟩,
    ⟨(some 74), none, (.mov (.t 12))⟩,
    ⟨(some 75), none, (.mov (.t 2))⟩,
    ⟨(some 76), none, (.bsl 1 [[.nsl], [.nsl], [.nsl]] [(0, (.t 73)), (1, (.t 74)), (2, (.t 75))])⟩,
    ⟨(some 70), none, (.callF 20 [(.t 67), (.t 69)])⟩,
    ⟨none, none, (.chk 2 true (.t 4) 62)⟩,
    ⟨none, none, (.chk 2 true (.t 10) 63)⟩,
    ⟨none, none, (.chk 2 true (.t 10) 64)⟩,
    ⟨(some 72), none, (.bsl 1 [[(.int .i64 0)], [(.int .i64 0)], [(.int .i64 0)]] [(0, (.t 66)), (1, (.t 70)), (2, (.t 71))])⟩,
    ⟨(some 14), none, (.mov (.t 65))⟩,
    ⟨(some 15), none, (.mov (.t 72))⟩,
    ⟨(some 16), none, (.mov (.t 76))⟩])
  (.seq (.seq (.ops [⟨(some 17), none, (.mov (.k (.int .i64 0)))⟩])
  (.blk 2 (.loop (.seq (.seq (.ops [⟨(some 77), none, (.mov (.t 17))⟩,
        ⟨(some 78), none, (.mov (.t 14))⟩,
        ⟨(some 79), none, (.len false (.t 78))⟩,
        ⟨(some 80), none, (.bin .lss (.t 77) (.t 79))⟩])
      (.cnd (.t 80)
        .skip
        (.exit 2)))
      (.seq (.blk 3 (.seq (.ops [⟨none, none, (.kil 18)⟩,
          ⟨(some 83), none, (.mov (.t 14))⟩,
          ⟨(some 84), none, (.mov (.t 17))⟩,
          ⟨(some 85), none, (.ixA 2 (.t 83) (.t 84))⟩,
          ⟨(some 86), none, (.ld 2 true (.t 85))⟩,
          ⟨(some 88), none, (.mov (.t 16))⟩,
          ⟨(some 89), none, (.mov (.t 17))⟩,
          ⟨(some 90), none, (.ixA 1 (.t 88) (.t 89))⟩,
          ⟨(some 91), none, (.ld 1 false (.t 90))⟩,
          ⟨(some 87), none, (.callF 43 [(.t 86)])⟩,
          ⟨none, none, (.chk 1 false (.t 90) 91)⟩,
          ⟨(some 92), none, (.callF 58 [(.t 91)])⟩,
          ⟨(some 18), none, (.new [.nsl, .nsl])⟩,
          ⟨none, none, (.st 2 (.t 18) (.t 87))⟩,
          ⟨(some 19), none, (.mov (.t 92))⟩])
        (.seq (.ops [⟨(some 94), none, (.ld 2 true (.t 18))⟩,
          ⟨(some 95), none, (.mov (.t 15))⟩,
          ⟨(some 96), none, (.mov (.t 17))⟩,
          ⟨(some 97), none, (.ixA 1 (.t 95) (.t 96))⟩,
          ⟨(some 98), none, (.ld 1 false (.t 97))⟩,
          ⟨(some 99), none, (.callF 59 [(.t 94), (.t 98)])⟩,
          ⟨(some 93), none, (.mov (.t 99))⟩,
          ⟨(some 100), none, (.ext 0 (.t 93))⟩,
          ⟨(some 101), none, (.ext 1 (.t 93))⟩,
          ⟨(some 20), none, (.mov (.t 100))⟩,
          ⟨(some 21), none, (.mov (.t 101))⟩])
        (.seq (.ops [⟨(some 103), none, (.mov (.t 14))⟩,
          ⟨(some 104), none, (.mov (.t 17))⟩,
          ⟨(some 105), none, (.ixA 2 (.t 103) (.t 104))⟩,
          ⟨(some 106), none, (.ld 2 true (.t 105))⟩,
          ⟨(some 107), none, (.mov (.t 15))⟩,
          ⟨(some 108), none, (.mov (.t 17))⟩,
          ⟨(some 109), none, (.ixA 1 (.t 107) (.t 108))⟩,
          ⟨(some 110), none, (.ld 1 false (.t 109))⟩,
          ⟨(some 111), none, (.callF 60 [(.t 106), (.t 110)])⟩,
          ⟨(some 102), none, (.mov (.t 111))⟩,
          ⟨(some 112), none, (.ext 0 (.t 102))⟩,
          ⟨(some 113), none, (.ext 1 (.t 102))⟩,
          ⟨(some 22), none, (.mov (.t 112))⟩,
          ⟨(some 23), none, (.mov (.t 113))⟩])
        (.seq (.ops [⟨(some 115), none, (.ld 2 true (.t 18))⟩,
          ⟨(some 116), none, (.mov (.t 19))⟩,
          ⟨(some 117), none, (.callF 49 [(.t 115), (.t 116)])⟩,
          ⟨(some 114), none, (.mov (.t 117))⟩,
          ⟨(some 118), none, (.ext 0 (.t 114))⟩,
          ⟨(some 119), none, (.ext 1 (.t 114))⟩,
          ⟨(some 120), none, (.ext 2 (.t 114))⟩,
          ⟨(some 121), none, (.ext 3 (.t 114))⟩,
          ⟨(some 24), none, (.mov (.t 118))⟩,
          ⟨(some 25), none, (.mov (.t 119))⟩,
          ⟨(some 26), none, (.mov (.t 120))⟩,
          ⟨(some 27), none, (.mov (.t 121))⟩])
        (.seq (.ops [⟨(some 123), none, (.mov (.t 14))⟩,
          ⟨(some 124), none, (.mov (.t 17))⟩,
          ⟨(some 125), none, (.ixA 2 (.t 123) (.t 124))⟩,
          ⟨(some 126), none, (.ld 2 true (.t 125))⟩,
          ⟨(some 127), none, (.mov (.t 16))⟩,
          ⟨(some 128), none, (.mov (.t 17))⟩,
          ⟨(some 129), none, (.ixA 1 (.t 127) (.t 128))⟩,
          ⟨(some 130), none, (.ld 1 false (.t 129))⟩,
          ⟨(some 131), none, (.callF 61 [(.t 126), (.t 130)])⟩,
          ⟨(some 122), none, (.mov (.t 131))⟩,
          ⟨(some 132), none, (.ext 0 (.t 122))⟩,
          ⟨(some 133), none, (.ext 1 (.t 122))⟩,
          ⟨(some 134), none, (.ext 2 (.t 122))⟩,
          ⟨(some 135), none, (.ext 3 (.t 122))⟩,
          ⟨(some 28), none, (.mov (.t 132))⟩,
          ⟨(some 29), none, (.mov (.t 133))⟩,
          ⟨(some 30), none, (.mov (.t 134))⟩,
          ⟨(some 31), none, (.mov (.t 135))⟩])
        (.seq (.ops [⟨(some 136), none, (.ld 2 true (.t 18))⟩,
          ⟨(some 138), none, (.mov (.t 14))⟩,
          ⟨(some 139), none, (.mov (.t 17))⟩,
          ⟨(some 140), none, (.ixA 2 (.t 138) (.t 139))⟩,
          ⟨(some 141), none, (.ld 2 true (.t 140))⟩,
          ⟨(some 137), none, (.callF 62 [(.t 136)])⟩,
          ⟨none, none, (.chk 2 true (.t 140) 141)⟩,
          ⟨(some 142), none, (.callF 63 [(.t 141)])⟩,
          ⟨(some 143), none, (.bin .neq (.t 137) (.t 142))⟩,
          ⟨(some 144), none, (.mov (.t 143))⟩,
          ⟨(some 145), (some (144, false)), (.mov (.t 21))⟩,
          ⟨(some 146), (some (144, false)), (.mov (.t 23))⟩,
          ⟨(some 147), (some (144, false)), (.bin .neq (.t 145) (.t 146))⟩,
          ⟨(some 148), none, (.pick (.t 144) (.k (.bool true)) (.t 147))⟩,
          ⟨(some 149), none, (.mov (.t 148))⟩,
          ⟨(some 150), (some (149, false)), (.mov (.t 27))⟩,
          ⟨(some 151), (some (149, false)), (.mov (.t 31))⟩,
          ⟨(some 152), (some (149, false)), (.bin .neq (.t 150) (.t 151))⟩,
          ⟨(some 153), none, (.pick (.t 149) (.k (.bool true)) (.t 152))⟩,
          ⟨(some 154), none, (.mov (.t 153))⟩,
          ⟨(some 155), (some (154, false)), (.mov (.t 24))⟩,
          ⟨(some 156), (some (154, false)), (.mov (.t 28))⟩,
          ⟨(some 157), (some (154, false)), (.bin .neq (.t 155) (.t 156))⟩,
          ⟨(some 158), none, (.pick (.t 154) (.k (.bool true)) (.t 157))⟩,
          ⟨(some 159), none, (.mov (.t 158))⟩,
          ⟨(some 160), (some (159, false)), (.mov (.t 25))⟩,
          ⟨(some 161), (some (159, false)), (.mov (.t 29))⟩,
          ⟨(some 162), (some (159, false)), (.bin .neq (.t 160) (.t 161))⟩,
          ⟨(some 163), none, (.pick (.t 159) (.k (.bool true)) (.t 162))⟩,
          ⟨(some 164), none, (.mov (.t 163))⟩,
          ⟨(some 165), (some (164, false)), (.mov (.t 26))⟩,
          ⟨(some 166), (some (164, false)), (.mov (.t 30))⟩,
          ⟨(some 167), (some (164, false)), (.bin .neq (.t 165) (.t 166))⟩,
          ⟨(some 168), none, (.pick (.t 164) (.k (.bool true)) (.t 167))⟩,
          ⟨(some 169), none, (.mov (.t 168))⟩,
          ⟨(some 170), (some (169, false)), (.mov (.t 20))⟩,
          ⟨(some 171), (some (169, false)), (.mov (.t 22))⟩,
          ⟨(some 172), (some (169, false)), (.callF 40 [(.t 170), (.t 171)])⟩,
          ⟨(some 173), (some (169, false)), (.not (.t 172))⟩,
          ⟨(some 174), none, (.pick (.t 169) (.k (.bool true)) (.t 173))⟩,
          ⟨(some 175), none, (.mov (.t 174))⟩,
          ⟨(some 176), (some (175, false)), (.ld 2 true (.t 18))⟩,
          ⟨(some 177), (some (175, false)), (.mov (.t 14))⟩,
          ⟨(some 178), (some (175, false)), (.mov (.t 17))⟩,
          ⟨(some 179), (some (175, false)), (.ixA 2 (.t 177) (.t 178))⟩,
          ⟨(some 180), (some (175, false)), (.ld 2 true (.t 179))⟩,
          ⟨(some 181), (some (175, false)), (.callF 48 [(.t 176), (.t 180)])⟩,
          ⟨(some 182), (some (175, false)), (.not (.t 181))⟩,
          ⟨(some 183), none, (.pick (.t 175) (.k (.bool true)) (.t 182))⟩,
          ⟨(some 184), none, (.mov (.t 183))⟩,
          ⟨(some 185), (some (184, false)), (.mov (.t 19))⟩,
          ⟨(some 186), (some (184, false)), (.mov (.t 16))⟩,
          ⟨(some 187), (some (184, false)), (.mov (.t 17))⟩,
          ⟨(some 188), (some (184, false)), (.ixA 1 (.t 186) (.t 187))⟩,
          ⟨(some 189), (some (184, false)), (.ld 1 false (.t 188))⟩,
          ⟨(some 190), (some (184, false)), (.callF 40 [(.t 185), (.t 189)])⟩,
          ⟨(some 191), (some (184, false)), (.not (.t 190))⟩,
          ⟨(some 192), none, (.pick (.t 184) (.k (.bool true)) (.t 191))⟩])
        (.cnd (.t 192)
          (.seq (.ops [⟨(some 8), none, (.mov (.k (.bool false)))⟩])
          .ret)
          .skip))))))))
      (.ops [⟨(some 81), none, (.mov (.t 17))⟩,
        ⟨(some 82), none, (.bin .add (.t 81) (.k (.int .i64 1)))⟩,
        ⟨(some 17), none, (.mov (.t 82))⟩]))))))
  (.seq (.ops [⟨(some 193), none, (.callF 16 [])⟩,
    ⟨(some 8), none, (.mov (.t 193))⟩])
  .ret))))))))))⟩
def hint10 (P : Program) : Hint := { site := [(61, 12)], nils := [(12, 1)], frz := [], mve := [], wr := [] }

theorem eqN_c : Fn0 Try.prog 40 [.nsl, .nsl] (fun v => v = .bool true) := by
  have h := eq_c [] [] (by decide)
  rw [decide_eq_true rfl] at h
  exact RawC.weak (fun _ _ hr => SubL.rel (.cons Sub.nil (.cons Sub.nil .nil)) hr) h
theorem get3 {α : Type} {a b c x : α} {i : Nat} (h : [a, b, c][i]? = some x) : x = a ∨ x = b ∨ x = c := by
  rcases i with _ | _ | _ | i <;> simp at h
  · exact .inl h.symm
  · exact .inr (.inl h.symm)
  · exact .inr (.inr h.symm)
theorem seasons_c (s : Sea) (number : Int) (plan nums : List Int) (h1 : s.ss.length < 2 ^ 63) (h2 : s.gs.length < 2 ^ 63) (h3 : ∀ l ∈ s.gs, l.length < 2 ^ 63) (hp : plan.length < 2 ^ 60) (hn : nums.length < 2 ^ 62) :
    Fn0 Try.prog 10 [seA s, .int .i64 number, .slc 1 (iR plan) .non, .slc 1 (iR nums) .non] (fun v => v = .bool true) := by
  have hV := vast_c s h1 h2 h3
  cases hv : vastB s with
  | true =>
    rw [hv] at hV
    refine RawC.walk (H := hint10 Try.prog) ir10 Try.func10 rfl rfl rfl ?_
    unfold ir10
    repeat' (first
      | with_reducible (first | refine Rd.p ?_ | refine w_alt ?_ ?_ | refine zE ?_ | refine zE0 ?_)
      | with_reducible (first | refine zI fun y hy => ?_ | refine zL ?_ | refine zS ?_ | refine zA fun _ => ?_ | refine zV ?_ | refine zC ?_ | refine zG ?_ | refine zU ?_ | refine zG0 ?_ | refine zU0 ?_ | refine zF ?_)
      | ((with_reducible refine acall_id ?_); refine ACall.val hV rfl rfl ?_)
      | ((with_reducible refine acall_id ?_); refine ACall.val wake_s rfl rfl ?_)
      | with_reducible (first | refine zX ?_ | refine zD fun _ => ?_ | refine zD0 ?_ | refine zN ?_ | refine zF0 ?_ | refine zX0 ?_ | refine z1 ?_ | refine z2 ?_ | refine z3 ?_ | refine z4 ?_ | refine z5 ?_ | refine z6 ?_ | refine z7 ?_ | refine z8 ?_ | refine y1 ?_ | refine y2 ?_ | refine y3 ?_ | refine y4 ?_ | refine y5 ?_ | refine y6 ?_ | refine y7 ?_ | refine y8 ?_ | refine Rt.p (fun _ => ?_) fun _ => ?_)
      | ((with_reducible apply w_ixM); (focus exact rfl); (focus exact rfl); case' hk => intro y hy) | ((with_reducible (first | apply w_val | apply q_ends)); (focus exact rfl)))
    rfl
  | false =>
  rw [hv] at hV
  have sm := vastB_f hv
  by_cases hpl : 20 < plan.length
  · refine RawC.walk (H := hint10 Try.prog) ir10 Try.func10 rfl rfl rfl ?_
    unfold ir10
    repeat' (first
      | with_reducible (first | refine Rd.p ?_ | refine w_alt ?_ ?_ | refine zE ?_ | refine zE0 ?_)
      | with_reducible (first | refine zI fun y hy => ?_ | refine zL ?_ | refine zS ?_ | refine zA fun _ => ?_ | refine zV ?_ | refine zC ?_ | refine zG ?_ | refine zU ?_ | refine zG0 ?_ | refine zU0 ?_ | refine zF ?_)
      | ((with_reducible refine acall_id ?_); refine ACall.val hV rfl rfl ?_)
      | ((with_reducible refine acall_id ?_); refine ACall.val wake_s rfl rfl ?_)
      | with_reducible (first | refine zX ?_ | refine zD fun _ => ?_ | refine zD0 ?_ | refine zN ?_ | refine zF0 ?_ | refine zX0 ?_ | refine z1 ?_ | refine z2 ?_ | refine z3 ?_ | refine z4 ?_ | refine z5 ?_ | refine z6 ?_ | refine z7 ?_ | refine z8 ?_ | refine y1 ?_ | refine y2 ?_ | refine y3 ?_ | refine y4 ?_ | refine y5 ?_ | refine y6 ?_ | refine y7 ?_ | refine y8 ?_ | refine Rt.p (fun _ => ?_) fun _ => ?_)
      | ((with_reducible apply w_ixM); (focus exact rfl); (focus exact rfl); case' hk => intro y hy) | ((with_reducible (first | apply w_val | apply q_ends)); (focus exact rfl)))
    rfl
  refine RawC.walk (H := hint10 Try.prog) ir10 Try.func10 rfl rfl rfl ?_
  unfold ir10
  repeat' (first
    | with_reducible (first | refine Rd.p ?_ | refine w_alt ?_ ?_ | refine zE ?_ | refine zE0 ?_)
    | with_reducible (first | refine zI fun y hy => ?_ | refine zL ?_ | refine zS ?_ | refine zA fun _ => ?_ | refine zV ?_ | refine zC ?_ | refine zG ?_ | refine zU ?_ | refine zG0 ?_ | refine zU0 ?_ | refine zF ?_)
    | ((with_reducible refine acall_id ?_); refine ACall.val hV rfl rfl ?_)
    | ((with_reducible refine acall_id ?_); refine ACall.liftS (boxOf_s nums hn) [] (some 6) rfl rfl rfl trivial (fun _ => rfl) ?_; rintro ⟨gb, w⟩ _ rfl)
    | ((with_reducible refine acall_id ?_); refine ACall.box (seasonOf_c _ _ 9 (by omega)) rfl rfl rfl ?_; rintro _ _ ⟨s2, rfl, hE, hgk⟩)
    | ((with_reducible refine acall_id ?_); refine ACall.val (combR_c s2 (okS_of hE).s4 (okS_of hE).s6) rfl rfl ?_)
    | ((with_reducible refine acall_id ?_); refine ACall.box (upp_c _ _ (s2.gs.length + 1) (by omega) (by omega)) rfl rfl rfl ?_; rintro _ _ ⟨m, rfl, hm1, hm2⟩)
    | with_reducible (first | refine zX ?_ | refine zD fun _ => ?_ | refine zD0 ?_ | refine zN ?_ | refine zF0 ?_ | refine zX0 ?_ | refine z1 ?_ | refine z2 ?_ | refine z3 ?_ | refine z4 ?_ | refine z5 ?_ | refine z6 ?_ | refine z7 ?_ | refine z8 ?_ | refine y1 ?_ | refine y2 ?_ | refine y3 ?_ | refine y4 ?_ | refine y5 ?_ | refine y6 ?_ | refine y7 ?_ | refine y8 ?_ | refine Rt.p (fun _ => ?_) fun _ => ?_)
    | ((with_reducible apply w_ixM); (focus exact rfl); (focus exact rfl); case' hk => intro y hy) | ((with_reducible (first | apply w_val | apply q_ends)); (focus exact rfl)))
  have ok := okS_of hE
  have h4 := ok.s4
  have h9 := ok.g9
  have hcb := combF_bd s2.ss.length s2.ss rfl ok.s6
  have hcb2 : combF s2.ss ≤ 1296 := by
    have : (6 : Int) ^ s2.ss.length ≤ 1296 := by
      rcases (by omega : s2.ss.length = 0 ∨ s2.ss.length = 1 ∨ s2.ss.length = 2 ∨ s2.ss.length = 3 ∨ s2.ss.length = 4) with h | h | h | h | h
      all_goals (rw [h]; decide)
    omega
  have sm2 : Sml s2 := ⟨by omega, by omega, fun l hl => by have := ok.g12 l hl; omega⟩
  rename_i g4 _ g10 g12 w1
  refine w_loopK [1, 2, 4, 9, 10, 11] [4, 10] (fun x : List Int × Nat × Int => x.1.length ≤ m) (fun x => (m - x.1.length).toNat) (fun x => [(13, .int .i64 (m - x.1.length)), (12, .slc 1 (iR x.1) (.own 12 x.2.1))]) (fun x => [(41, (gb, .row [.int .u64 x.2.2])), (12, (x.2.1, .row []))]) ([], g12, w1) (by show ((([] : List Int).length : Nat) : Int) ≤ m; simp; omega) ⟨by show AV.int .i64 _ = AV.int .i64 _; refine int_eq ?_; simp, rfl, trivial⟩ (by exact ⟨rfl, rfl, trivial⟩) ?_
  rintro ⟨xs, g12, w⟩ hxs e σ
  dsimp only at hxs ⊢
  by_cases hlt : (xs.length : Int) < m
  · have hsn : ∀ z, (xs ++ [z]).length = xs.length + 1 := fun z => by simp
    repeat' (first
      | with_reducible (first | refine Rd.p ?_ | refine w_alt ?_ ?_ | refine zE ?_ | refine zE0 ?_)
      | with_reducible (first | refine zI fun y hy => ?_ | refine zL ?_ | refine zS ?_ | refine zA fun _ => ?_ | refine zV ?_ | refine zC ?_ | refine zG ?_ | refine zU ?_ | refine zG0 ?_ | refine zU0 ?_ | refine zF ?_)
      | ((with_reducible refine acall_id ?_); refine ACall.box (upp_c _ _ (combF s2.ss) (by omega) (by omega)) rfl rfl rfl ?_; rintro _ _ ⟨z, rfl, hz1, hz2⟩)
      | with_reducible (first | refine zX ?_ | refine zD fun _ => ?_ | refine zD0 ?_ | refine zN ?_ | refine zF0 ?_ | refine zX0 ?_ | refine z1 ?_ | refine z2 ?_ | refine z3 ?_ | refine z4 ?_ | refine z5 ?_ | refine z6 ?_ | refine z7 ?_ | refine z8 ?_ | refine y1 ?_ | refine y2 ?_ | refine y3 ?_ | refine y4 ?_ | refine y5 ?_ | refine y6 ?_ | refine y7 ?_ | refine y8 ?_ | refine Rt.p (fun _ => ?_) fun _ => ?_)
      | ((with_reducible apply w_ixM); (focus exact rfl); (focus exact rfl); case' hk => intro y hy) | ((with_reducible (first | apply w_val | apply q_ends)); (focus exact rfl)))
    refine q_loop (xs ++ [z], _, _) (by dsimp only; rw [hsn]; omega) (by dsimp only; rw [hsn]; omega) (slots_cons (by show AV.int .i64 _ = AV.int .i64 _; refine int_eq ?_; dsimp only; rw [hsn]; omega) (slots_cons rfl slots_nil)) (by exact ⟨rfl, rfl, trivial⟩) (by repeat' (first | exact kept_nil | apply kept_cons | rfl)) (by repeat' (first | exact kept_nil | apply kept_cons | rfl))
  have hxl : xs.length ≤ 9 := by omega
  repeat' (first
    | with_reducible (first | refine Rd.p ?_ | refine w_alt ?_ ?_ | refine zE ?_ | refine zE0 ?_)
    | with_reducible (first | refine zI fun y hy => ?_ | refine zL ?_ | refine zS ?_ | refine zA fun _ => ?_ | refine zV ?_ | refine zC ?_ | refine zG ?_ | refine zU ?_ | refine zG0 ?_ | refine zU0 ?_ | refine zF ?_)
    | ((with_reducible refine acall_id ?_); refine ACall.box (upp_c _ _ (combF s2.ss + 1) (by omega) (by omega)) rfl rfl rfl ?_; rintro _ _ ⟨y, rfl, hy1, hy2⟩)
    | with_reducible (first | refine zX ?_ | refine zD fun _ => ?_ | refine zD0 ?_ | refine zN ?_ | refine zF0 ?_ | refine zX0 ?_ | refine z1 ?_ | refine z2 ?_ | refine z3 ?_ | refine z4 ?_ | refine z5 ?_ | refine z6 ?_ | refine z7 ?_ | refine z8 ?_ | refine y1 ?_ | refine y2 ?_ | refine y3 ?_ | refine y4 ?_ | refine y5 ?_ | refine y6 ?_ | refine y7 ?_ | refine y8 ?_ | refine Rt.p (fun _ => ?_) fun _ => ?_)
    | ((with_reducible apply w_ixM); (focus exact rfl); (focus exact rfl); case' hk => intro y hy) | ((with_reducible (first | apply w_val | apply q_ends)); (focus exact rfl)))
  have hS3 : ∀ x ∈ [s, s2, s2], Sml x := fun x hx => by simp at hx; rcases hx with rfl | rfl; exact sm; exact sm2
  have hP3 : ∀ p ∈ [plan, xs, plan], p.length ≤ 20 := fun p hp => by simp at hp; rcases hp with rfl | rfl | rfl <;> omega
  obtain ⟨SS, hSS⟩ : ∃ SS, SS = [s, s2, s2] := ⟨_, rfl⟩
  obtain ⟨NS, hNS⟩ : ∃ NS, NS = [number, y, number] := ⟨_, rfl⟩
  obtain ⟨PS, hPS⟩ : ∃ PS, PS = [plan, xs, plan] := ⟨_, rfl⟩
  rw [← hSS] at hS3
  rw [← hPS] at hP3
  have l1 : SS.length = 3 := by rw [hSS]; rfl
  have l2 : NS.length = 3 := by rw [hNS]; rfl
  have l3 : PS.length = 3 := by rw [hPS]; rfl
  refine w_loopK [] [] (fun i : Nat => i ≤ 3) (fun i => 3 - i) (fun i => [(17, .int .i64 i), (14, .slc 2 (SS.map seC) .full), (15, .slc 1 (iR NS) .full), (16, .slc 1 (llR PS) .full)]) (fun _ => []) 0 (by show (0 : Nat) ≤ 3; omega) ⟨rfl, by rw [hSS]; rfl, by rw [hNS]; rfl, by rw [hPS]; rfl, trivial⟩ trivial ?_
  rintro i hi e σ
  try dsimp only at hi ⊢
  by_cases hi3 : i < 3
  case neg =>
    obtain rfl : i = 3 := by omega
    repeat' (first
      | with_reducible (first | refine Rd.p ?_ | refine w_alt ?_ ?_ | refine zE ?_ | refine zE0 ?_)
      | with_reducible (first | refine zI fun y hy => ?_ | refine zL ?_ | refine zS ?_ | refine zA fun _ => ?_ | refine zV ?_ | refine zC ?_ | refine zG ?_ | refine zU ?_ | refine zG0 ?_ | refine zU0 ?_ | refine zF ?_)
      | ((with_reducible refine acall_id ?_); refine ACall.val wake_s rfl rfl ?_)
      | with_reducible (first | refine zX ?_ | refine zD fun _ => ?_ | refine zD0 ?_ | refine zN ?_ | refine zF0 ?_ | refine zX0 ?_ | refine z1 ?_ | refine z2 ?_ | refine z3 ?_ | refine z4 ?_ | refine z5 ?_ | refine z6 ?_ | refine z7 ?_ | refine z8 ?_ | refine y1 ?_ | refine y2 ?_ | refine y3 ?_ | refine y4 ?_ | refine y5 ?_ | refine y6 ?_ | refine y7 ?_ | refine y8 ?_ | refine Rt.p (fun _ => ?_) fun _ => ?_)
      | ((with_reducible apply w_ixM); (focus exact rfl); (focus exact rfl); case' hk => intro y hy) | ((with_reducible (first | apply w_val | apply q_ends)); (focus exact rfl)))
    all_goals rfl
  obtain ⟨x, hx⟩ : ∃ x, SS[i]? = some x := ⟨_, List.getElem?_eq_getElem (by omega)⟩
  obtain ⟨n, hnn⟩ : ∃ n, NS[i]? = some n := ⟨_, List.getElem?_eq_getElem (by omega)⟩
  obtain ⟨p, hpp⟩ : ∃ p, PS[i]? = some p := ⟨_, List.getElem?_eq_getElem (by omega)⟩
  have smx : Sml x := hS3 x (List.mem_of_getElem? hx)
  have hpx : p.length ≤ 20 := hP3 p (List.mem_of_getElem? hpp)
  clear hSS hNS hPS hS3 hP3
  have hOS := ownSeason_c x smx
  have hI := ints_c p (by omega)
  have q1 : x.ss.length < 1000 := by have := smx.ss; omega
  have q2 : x.gs.length < 1000 := by have := smx.gs; omega
  have q3 : ∀ l ∈ x.gs, l.length < 1000 := fun l hl => by have := smx.g l hl; omega
  have hC := Combination_s x n q1 q2 q3
  have hC2 := rCombination_s x n q1 q2 q3
  have hR := Repeats_s x p _ (.inr rfl) q1 q2 q3 (by omega)
  have hR2 := rRepeats_s x p q1 q2 q3 (by omega)
  have hK := checkS_s x q1 q2 q3
  have hK2 := rcheckS_s x q1 q2 q3
  have hQS := eqSeasons_c x smx
  have hQ := eq_c p p (by omega)
  rw [decide_eq_true rfl] at hQ
  have hlc := comR_len x.ss n
  generalize repV x p = rv at *
  generalize repE x p = re at *
  generalize seaE x = se at *
  by_cases hce : comE x n = 0
  · simp only [if_pos hce] at hC hC2
    have hQ2 := eq_c (comR x.ss n).1 (comR x.ss n).1 (by omega)
    rw [decide_eq_true rfl] at hQ2
    generalize (comR x.ss n).1 = cm at *
    repeat' (first
      | with_reducible (first | refine Rd.p ?_ | refine w_alt ?_ ?_ | refine zE ?_ | refine zE0 ?_)
      | (refine w_ixE (f := seC) hx rfl rfl ?_)
      | (refine w_ixE hnn rfl rfl ?_)
      | (refine w_ixE (f := fun l => [AV.slc 1 (iR l) .non]) hpp rfl rfl ?_)
      | with_reducible (first | refine zI fun y hy => ?_ | refine zL ?_ | refine zS ?_ | refine zA fun _ => ?_ | refine zV ?_ | refine zC ?_ | refine zG ?_ | refine zU ?_ | refine zG0 ?_ | refine zU0 ?_ | refine zF ?_)
      | ((with_reducible refine acall_id ?_); refine ACall.val hOS rfl rfl ?_)
      | ((with_reducible refine acall_id ?_); refine ACall.val hI rfl rfl ?_)
      | ((with_reducible refine acall_id ?_); refine ACall.val hC rfl rfl ?_)
      | ((with_reducible refine acall_id ?_); refine ACall.val hC2 rfl rfl ?_)
      | ((with_reducible refine acall_id ?_); refine ACall.val hR rfl rfl ?_)
      | ((with_reducible refine acall_id ?_); refine ACall.val hR2 rfl rfl ?_)
      | ((with_reducible refine acall_id ?_); refine ACall.val hK rfl rfl ?_)
      | ((with_reducible refine acall_id ?_); refine ACall.val hK2 rfl rfl ?_)
      | ((with_reducible refine acall_id ?_); refine ACall.val hQ2 rfl rfl ?_)
      | ((with_reducible refine acall_id ?_); refine ACall.val hQS rfl rfl ?_)
      | ((with_reducible refine acall_id ?_); refine ACall.val hQ rfl rfl ?_)
      | with_reducible (first | refine zX ?_ | refine zD fun _ => ?_ | refine zD0 ?_ | refine zN ?_ | refine zF0 ?_ | refine zX0 ?_ | refine z1 ?_ | refine z2 ?_ | refine z3 ?_ | refine z4 ?_ | refine z5 ?_ | refine z6 ?_ | refine z7 ?_ | refine z8 ?_ | refine y1 ?_ | refine y2 ?_ | refine y3 ?_ | refine y4 ?_ | refine y5 ?_ | refine y6 ?_ | refine y7 ?_ | refine y8 ?_ | refine Rt.p (fun _ => ?_) fun _ => ?_)
      | ((with_reducible apply w_ixM); (focus exact rfl); (focus exact rfl); case' hk => intro y hy) | ((with_reducible (first | apply w_val | apply q_ends)); (focus exact rfl)))
    exact q_loop (i + 1) (by show i + 1 ≤ 3; omega) (by show 3 - (i + 1) < 3 - i; omega) (slots_cons (by show AV.int .i64 _ = AV.int .i64 _; refine int_eq ?_; simp) (slots_cons rfl (slots_cons rfl (slots_cons rfl slots_nil)))) trivial (by repeat' (first | exact kept_nil | apply kept_cons | rfl)) (by repeat' (first | exact kept_nil | apply kept_cons | rfl))
  · simp only [if_neg hce] at hC hC2
    have hQ2 := eqN_c
    generalize comE x n = ce at *
    repeat' (first
      | with_reducible (first | refine Rd.p ?_ | refine w_alt ?_ ?_ | refine zE ?_ | refine zE0 ?_)
      | (refine w_ixE (f := seC) hx rfl rfl ?_)
      | (refine w_ixE hnn rfl rfl ?_)
      | (refine w_ixE (f := fun l => [AV.slc 1 (iR l) .non]) hpp rfl rfl ?_)
      | with_reducible (first | refine zI fun y hy => ?_ | refine zL ?_ | refine zS ?_ | refine zA fun _ => ?_ | refine zV ?_ | refine zC ?_ | refine zG ?_ | refine zU ?_ | refine zG0 ?_ | refine zU0 ?_ | refine zF ?_)
      | ((with_reducible refine acall_id ?_); refine ACall.val hOS rfl rfl ?_)
      | ((with_reducible refine acall_id ?_); refine ACall.val hI rfl rfl ?_)
      | ((with_reducible refine acall_id ?_); refine ACall.val hC rfl rfl ?_)
      | ((with_reducible refine acall_id ?_); refine ACall.val hC2 rfl rfl ?_)
      | ((with_reducible refine acall_id ?_); refine ACall.val hR rfl rfl ?_)
      | ((with_reducible refine acall_id ?_); refine ACall.val hR2 rfl rfl ?_)
      | ((with_reducible refine acall_id ?_); refine ACall.val hK rfl rfl ?_)
      | ((with_reducible refine acall_id ?_); refine ACall.val hK2 rfl rfl ?_)
      | ((with_reducible refine acall_id ?_); refine ACall.val hQ2 rfl rfl ?_)
      | ((with_reducible refine acall_id ?_); refine ACall.val hQS rfl rfl ?_)
      | ((with_reducible refine acall_id ?_); refine ACall.val hQ rfl rfl ?_)
      | with_reducible (first | refine zX ?_ | refine zD fun _ => ?_ | refine zD0 ?_ | refine zN ?_ | refine zF0 ?_ | refine zX0 ?_ | refine z1 ?_ | refine z2 ?_ | refine z3 ?_ | refine z4 ?_ | refine z5 ?_ | refine z6 ?_ | refine z7 ?_ | refine z8 ?_ | refine y1 ?_ | refine y2 ?_ | refine y3 ?_ | refine y4 ?_ | refine y5 ?_ | refine y6 ?_ | refine y7 ?_ | refine y8 ?_ | refine Rt.p (fun _ => ?_) fun _ => ?_)
      | ((with_reducible apply w_ixM); (focus exact rfl); (focus exact rfl); case' hk => intro y hy) | ((with_reducible (first | apply w_val | apply q_ends)); (focus exact rfl)))
    exact q_loop (i + 1) (by show i + 1 ≤ 3; omega) (by show 3 - (i + 1) < 3 - i; omega) (slots_cons (by show AV.int .i64 _ = AV.int .i64 _; refine int_eq ?_; simp) (slots_cons rfl (slots_cons rfl (slots_cons rfl slots_nil)))) trivial (by repeat' (first | exact kept_nil | apply kept_cons | rfl)) (by repeat' (first | exact kept_nil | apply kept_cons | rfl))
end Go.Abs
