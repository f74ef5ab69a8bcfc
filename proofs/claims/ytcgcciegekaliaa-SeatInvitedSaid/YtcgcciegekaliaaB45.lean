/- A part of the proofs of the laws of this seat: contracts of the functions that they reach, each proved of the program's form in Lean. No condition beyond those that each contract names. -/
import Derived.Test.YtcgcciegekaliaaB0
import Derived.Test.YtcgcciegekaliaaB1
import Derived.Test.YtcgcciegekaliaaB2
import Derived.Test.YtcgcciegekaliaaB4
import Derived.Test.YtcgcciegekaliaaB7
import Derived.Test.YtcgcciegekaliaaB9
import Derived.Test.YtcgcciegekaliaaB13
import Derived.Test.YtcgcciegekaliaaB14
import Derived.Test.YtcgcciegekaliaaB36
import Derived.Test.YtcgcciegekaliaaB37
import Derived.Test.YtcgcciegekaliaaB39
import Derived.Test.YtcgcciegekaliaaB40
import Derived.Test.YtcgcciegekaliaaB46
set_option linter.unusedVariables false
set_option linter.unusedSimpArgs false
set_option maxRecDepth 20000
set_option maxHeartbeats 4000000
/-! ### SeatInvited -/
namespace Go.Abs
open Go.Proofs
/-- aloeswood/aloeswoodlaw08.SeatInvited -/
def ir14 : IFn :=
  ⟨153, [(2, none)], (.seq (.ops [⟨(some 2), none, (.mov (.k (.bool false)))⟩])
  (.seq (.ops [⟨(some 21), none, (.mov (.t 0))⟩,
    ⟨(some 22), none, (.callF 17 [(.t 21)])⟩,
    ⟨(some 3), none, (.mov (.t 22))⟩])
  (.seq (.ops [⟨(some 23), none, (.mov (.t 3))⟩,
    ⟨(some 24), none, (.mov (.t 3))⟩,
    ⟨(some 25), none, (.callF 19 [(.t 24), (.k (.int .i64 9))])⟩,
    ⟨(some 26), none, (.callF 18 [(.t 23), (.t 25)])⟩,
    ⟨(some 4), none, (.mov (.t 26))⟩])
  (.seq (.ops [⟨(some 27), none, (.mov (.t 3))⟩,
    ⟨(some 28), none, (.mov (.t 4))⟩,
    ⟨(some 29), none, (.len false (.t 28))⟩,
    ⟨(some 30), none, (.callF 57 [(.t 27), (.t 29), (.k (.int .i64 8))])⟩,
    ⟨(some 31), none, (.mov (.t 3))⟩,
    ⟨(some 32), none, (.callF 19 [(.t 31), (.k (.int .i64 8))])⟩,
    ⟨(some 5), none, (.mov (.t 30))⟩,
    ⟨(some 6), none, (.mov (.t 32))⟩])
  (.seq (.ops [⟨(some 34), none, (.mov (.t 4))⟩,
    ⟨(some 35), none, (.mov (.t 5))⟩,
    ⟨(some 36), none, (.mov (.t 6))⟩,
    ⟨(some 37), none, (.callF 58 [(.t 34), (.t 35), (.t 36)])⟩,
    ⟨(some 33), none, (.mov (.t 37))⟩,
    ⟨(some 38), none, (.ext 0 (.t 33))⟩,
    ⟨(some 39), none, (.ext 1 (.t 33))⟩,
    ⟨(some 40), none, (.ext 2 (.t 33))⟩,
    ⟨(some 7), none, (.mov (.t 38))⟩,
    ⟨(some 8), none, (.mov (.t 39))⟩,
    ⟨(some 9), none, (.mov (.t 40))⟩])
  (.seq (.seq (.ops [⟨(some 41), none, (.mov (.t 9))⟩,
    ⟨(some 42), none, (.bin .neq (.t 41) (.k (.int .i64 0)))⟩,
    ⟨(some 43), none, (.mov (.t 42))⟩,
    ⟨(some 44), (some (43, false)), (.mov (.t 7))⟩,
    ⟨(some 45), (some (43, false)), (.len false (.t 44))⟩,
    ⟨(some 46), (some (43, false)), (.mov (.t 6))⟩,
    ⟨(some 47), (some (43, false)), (.bin .gtr (.t 45) (.t 46))⟩,
    ⟨(some 48), none, (.pick (.t 43) (.k (.bool true)) (.t 47))⟩])
  (.cnd (.t 48)
    (.seq (.ops [⟨(some 2), none, (.mov (.k (.bool false)))⟩])
    .ret)
    .skip))
  (.seq (.ops [⟨(some 10), none, (.mov (.k (.bool false)))⟩])
  (.seq (.ops [⟨(some 11), none, (.mov (.k (.int .i64 1)))⟩])
  (.seq (.seq (.ops [⟨(some 12), none, (.mov (.k (.int .i64 0)))⟩])
  (.blk 0 (.loop (.seq (.seq (.ops [⟨(some 49), none, (.mov (.t 12))⟩,
        ⟨(some 50), none, (.mov (.t 4))⟩,
        ⟨(some 51), none, (.len false (.t 50))⟩,
        ⟨(some 52), none, (.bin .lss (.t 49) (.t 51))⟩])
      (.cnd (.t 52)
        .skip
        (.exit 0)))
      (.seq (.blk 1 (.ops [⟨(some 55), none, (.mov (.t 11))⟩,
          ⟨(some 56), none, (.bin .mul (.k (.int .i64 2)) (.t 55))⟩,
          ⟨(some 11), none, (.mov (.t 56))⟩]))
      (.ops [⟨(some 53), none, (.mov (.t 12))⟩,
        ⟨(some 54), none, (.bin .add (.t 53) (.k (.int .i64 1)))⟩,
        ⟨(some 12), none, (.mov (.t 54))⟩]))))))
  (.seq (.seq (.ops [⟨(some 13), none, (.mov (.k (.int .i64 0)))⟩])
  (.blk 2 (.loop (.seq (.seq (.ops [⟨(some 57), none, (.mov (.t 13))⟩,
        ⟨(some 58), none, (.mov (.t 11))⟩,
        ⟨(some 59), none, (.bin .lss (.t 57) (.t 58))⟩])
      (.cnd (.t 59)
        .skip
        (.exit 2)))
      (.seq (.blk 3 (.seq (.ops [⟨(some 14), none, (.nil 1 14)⟩])
        (.seq (.ops [⟨(some 15), none, (.mov (.k (.int .i64 0)))⟩])
        (.seq (.seq (.ops [⟨(some 62), none, (.mov (.t 13))⟩,
          ⟨(some 16), none, (.mov (.k (.int .i64 0)))⟩,
          ⟨(some 17), none, (.mov (.t 62))⟩])
        (.blk 4 (.loop (.seq (.seq (.ops [⟨(some 63), none, (.mov (.t 16))⟩,
              ⟨(some 64), none, (.mov (.t 4))⟩,
              ⟨(some 65), none, (.len false (.t 64))⟩,
              ⟨(some 66), none, (.bin .lss (.t 63) (.t 65))⟩])
            (.cnd (.t 66)
              .skip
              (.exit 4)))
            (.seq (.blk 5 (.seq (.ops [⟨(some 71), none, (.mov (.t 17))⟩,
                ⟨(some 72), none, (.bin .rem (.t 71) (.k (.int .i64 2)))⟩,
                ⟨(some 73), none, (.bin .eql (.t 72) (.k (.int .i64 1)))⟩])
              (.cnd (.t 73)
                (.ops [⟨(some 74), none, (.mov (.t 14))⟩,
                  ⟨(some 75), none, (.mov (.t 16))⟩,
                  ⟨(some 76), none, (.bsl 1 [[(.int .i64 0)]] [(0, (.t 75))])⟩,
                  ⟨(some 78), none, (.mov (.t 15))⟩,
                  ⟨(some 79), none, (.mov (.t 4))⟩,
                  ⟨(some 80), none, (.mov (.t 16))⟩,
                  ⟨(some 81), none, (.ixA 5 (.t 79) (.t 80))⟩,
                  ⟨(some 82), none, (.flA 2 (.t 81))⟩,
                  ⟨(some 83), none, (.ld 1 false (.t 82))⟩,
                  ⟨(some 84), none, (.bin .add (.t 78) (.t 83))⟩,
                  ⟨(some 77), none, (.app 1 8 (.t 74) (.t 76) 14)⟩,
                  ⟨none, none, (.chk 1 false (.t 82) 83)⟩,
                  ⟨(some 14), none, (.mov (.t 77))⟩,
                  ⟨(some 15), none, (.mov (.t 84))⟩])
                .skip)))
            (.ops [⟨(some 67), none, (.mov (.t 16))⟩,
              ⟨(some 68), none, (.bin .add (.t 67) (.k (.int .i64 1)))⟩,
              ⟨(some 69), none, (.mov (.t 17))⟩,
              ⟨(some 70), none, (.bin .quo (.t 69) (.k (.int .i64 2)))⟩,
              ⟨(some 16), none, (.mov (.t 68))⟩,
              ⟨(some 17), none, (.mov (.t 70))⟩]))))))
        (.seq (.ops [⟨(some 85), none, (.mov (.t 14))⟩,
          ⟨(some 86), none, (.len false (.t 85))⟩,
          ⟨(some 87), none, (.mov (.t 6))⟩,
          ⟨(some 88), none, (.bin .leq (.t 86) (.t 87))⟩,
          ⟨(some 18), none, (.mov (.t 88))⟩])
        (.seq (.seq (.ops [⟨(some 19), none, (.mov (.k (.int .i64 0)))⟩])
        (.blk 6 (.loop (.seq (.seq (.ops [⟨(some 89), none, (.mov (.t 19))⟩,
              ⟨(some 90), none, (.mov (.t 5))⟩,
              ⟨(some 91), none, (.len false (.t 90))⟩,
              ⟨(some 92), none, (.bin .lss (.t 89) (.t 91))⟩])
            (.cnd (.t 92)
              .skip
              (.exit 6)))
            (.seq (.blk 7 (.ops [⟨(some 95), none, (.mov (.t 18))⟩,
                ⟨(some 96), none, (.mov (.t 95))⟩,
                ⟨(some 97), (some (96, true)), (.mov (.t 14))⟩,
                ⟨(some 98), (some (96, true)), (.mov (.t 5))⟩,
                ⟨(some 99), (some (96, true)), (.mov (.t 19))⟩,
                ⟨(some 100), (some (96, true)), (.ixA 3 (.t 98) (.t 99))⟩,
                ⟨(some 101), (some (96, true)), (.ld 3 true (.t 100))⟩,
                ⟨(some 102), (some (96, true)), (.callF 60 [(.t 97), (.t 101)])⟩,
                ⟨(some 103), none, (.pick (.t 96) (.t 102) (.k (.bool false)))⟩,
                ⟨(some 18), none, (.mov (.t 103))⟩]))
            (.ops [⟨(some 93), none, (.mov (.t 19))⟩,
              ⟨(some 94), none, (.bin .add (.t 93) (.k (.int .i64 1)))⟩,
              ⟨(some 19), none, (.mov (.t 94))⟩]))))))
        (.seq (.ops [⟨(some 104), none, (.mov (.t 14))⟩,
          ⟨(some 105), none, (.mov (.t 7))⟩,
          ⟨(some 106), none, (.callF 24 [(.t 104), (.t 105)])⟩,
          ⟨(some 20), none, (.mov (.t 106))⟩])
        (.seq (.ops [⟨(some 107), none, (.mov (.t 10))⟩,
          ⟨(some 108), none, (.mov (.t 107))⟩,
          ⟨(some 109), (some (108, false)), (.mov (.t 20))⟩,
          ⟨(some 110), (some (108, false)), (.mov (.t 109))⟩,
          ⟨(some 111), (some (110, true)), (.mov (.t 18))⟩,
          ⟨(some 112), (some (108, false)), (.pick (.t 110) (.t 111) (.k (.bool false)))⟩,
          ⟨(some 113), (some (108, false)), (.mov (.t 112))⟩,
          ⟨(some 114), (some (113, true)), (.mov (.t 15))⟩,
          ⟨(some 115), (some (113, true)), (.mov (.t 8))⟩,
          ⟨(some 116), (some (113, true)), (.bin .eql (.t 114) (.t 115))⟩,
          ⟨(some 117), (some (108, false)), (.pick (.t 113) (.t 116) (.k (.bool false)))⟩,
          ⟨(some 118), none, (.pick (.t 108) (.k (.bool true)) (.t 117))⟩,
          ⟨(some 10), none, (.mov (.t 118))⟩])
        (.seq (.ops [⟨(some 119), none, (.mov (.t 18))⟩,
          ⟨(some 120), none, (.mov (.t 119))⟩,
          ⟨(some 121), (some (120, true)), (.mov (.t 15))⟩,
          ⟨(some 122), (some (120, true)), (.mov (.t 8))⟩,
          ⟨(some 123), (some (120, true)), (.bin .gtr (.t 121) (.t 122))⟩,
          ⟨(some 124), (some (120, true)), (.mov (.t 123))⟩,
          ⟨(some 125), (some (124, false)), (.mov (.t 15))⟩,
          ⟨(some 126), (some (124, false)), (.mov (.t 8))⟩,
          ⟨(some 127), (some (124, false)), (.bin .eql (.t 125) (.t 126))⟩,
          ⟨(some 128), (some (124, false)), (.mov (.t 127))⟩,
          ⟨(some 129), (some (128, true)), (.mov (.t 14))⟩,
          ⟨(some 130), (some (128, true)), (.len false (.t 129))⟩,
          ⟨(some 131), (some (128, true)), (.mov (.t 7))⟩,
          ⟨(some 132), (some (128, true)), (.len false (.t 131))⟩,
          ⟨(some 133), (some (128, true)), (.bin .lss (.t 130) (.t 132))⟩,
          ⟨(some 134), (some (128, true)), (.mov (.t 133))⟩,
          ⟨(some 135), (some (134, false)), (.mov (.t 14))⟩,
          ⟨(some 136), (some (134, false)), (.len false (.t 135))⟩,
          ⟨(some 137), (some (134, false)), (.mov (.t 7))⟩,
          ⟨(some 138), (some (134, false)), (.len false (.t 137))⟩,
          ⟨(some 139), (some (134, false)), (.bin .eql (.t 136) (.t 138))⟩,
          ⟨(some 140), (some (134, false)), (.mov (.t 139))⟩,
          ⟨(some 141), (some (140, true)), (.mov (.t 14))⟩,
          ⟨(some 142), (some (140, true)), (.mov (.t 7))⟩,
          ⟨(some 143), (some (140, true)), (.callF 51 [(.t 141), (.t 142)])⟩,
          ⟨(some 144), (some (134, false)), (.pick (.t 140) (.t 143) (.k (.bool false)))⟩,
          ⟨(some 145), (some (128, true)), (.pick (.t 134) (.k (.bool true)) (.t 144))⟩,
          ⟨(some 146), (some (124, false)), (.pick (.t 128) (.t 145) (.k (.bool false)))⟩,
          ⟨(some 147), (some (120, true)), (.pick (.t 124) (.k (.bool true)) (.t 146))⟩,
          ⟨(some 148), none, (.pick (.t 120) (.t 147) (.k (.bool false)))⟩])
        (.cnd (.t 148)
          (.seq (.ops [⟨(some 2), none, (.mov (.k (.bool false)))⟩])
          .ret)
          .skip))))))))))
      (.ops [⟨(some 60), none, (.mov (.t 13))⟩,
        ⟨(some 61), none, (.bin .add (.t 60) (.k (.int .i64 1)))⟩,
        ⟨(some 13), none, (.mov (.t 61))⟩]))))))
  (.seq (.ops [⟨(some 149), none, (.mov (.t 10))⟩,
    ⟨(some 150), none, (.mov (.t 149))⟩,
    ⟨(some 151), (some (150, true)), (.callF 16 [])⟩,
    ⟨(some 152), none, (.pick (.t 150) (.t 151) (.k (.bool false)))⟩,
    ⟨(some 2), none, (.mov (.t 152))⟩])
  .ret)))))))))))⟩
def hint14 (P : Program) : Hint := { site := [(77, 14)], nils := [(14, 1)], frz := [], wr := [] }

def befB : List Int → List Int → Bool
  | x :: a, y :: b => if x = y then befB a b else decide (x < y)
  | _, _ => false
theorem befB_lex : ∀ {a b : List Int}, a.length = b.length → (befB a b = true ↔ lexI a b < 0)
  | [], [], _ => by simp [befB, lexI]
  | [], _ :: _, h => by simp at h
  | _ :: _, [], h => by simp at h
  | x :: a, y :: b, h => by
    simp only [List.length_cons, Nat.add_right_cancel_iff] at h
    rw [befB, lexI]
    by_cases e : x = y
    · rw [if_pos e, if_pos (cmpI_eq.2 e)]; exact befB_lex h
    · rw [if_neg e, if_neg (fun h => e (cmpI_eq.1 h)), decide_eq_true_eq, cmpI_lt]
theorem befB_app : ∀ (p : List Int) (a b : List Int), befB (p ++ a) (p ++ b) = befB a b
  | [], _, _ => rfl
  | x :: p, a, b => by rw [List.cons_append, List.cons_append, befB, if_pos rfl]; exact befB_app p a b
theorem lbefore_c (a b : List Int) (ha : a.length < 1000000) (hb : b.length < 1000000) : Fn0 Try.prog 51 [.slc 1 (iR a) .non, .slc 1 (iR b) .non] (fun v => v = .bool (befB a b)) := by
  refine RawC.walk (H := hint51 Try.prog) ir51 Try.func51 rfl rfl rfl ?_
  unfold ir51
  repeat' (first
    | with_reducible (first | refine Rd.p ?_ | refine zE ?_ | refine zE0 ?_)
    | with_reducible (first | refine zI fun y hy => ?_ | refine zL ?_ | refine zS ?_ | refine zA fun _ => ?_ | refine zV ?_ | refine zC ?_ | refine zG ?_ | refine zU ?_ | refine zG0 ?_ | refine zU0 ?_ | refine zF ?_)
    | with_reducible (first | refine zX ?_ | refine zD fun _ => ?_ | refine zD0 ?_ | refine zN ?_ | refine zF0 ?_ | refine zX0 ?_ | refine z1 ?_ | refine z2 ?_ | refine z3 ?_ | refine z4 ?_ | refine z5 ?_ | refine z6 ?_ | refine z7 ?_ | refine z8 ?_ | refine y1 ?_ | refine y2 ?_ | refine y3 ?_ | refine y4 ?_ | refine y5 ?_ | refine y6 ?_ | refine y7 ?_ | refine y8 ?_ | refine Rt.p (fun _ => ?_) fun _ => ?_)
    | ((with_reducible apply w_ixM); (focus exact rfl); (focus exact rfl); case' hk => intro y hy) | ((with_reducible (first | apply w_val | apply q_ends)); (focus exact rfl)))
  refine w_loopK [0, 1] [] (fun x : List Int × List Int × List Int => a = x.1 ++ x.2.1 ∧ b = x.1 ++ x.2.2) (fun x => x.2.1.length) (fun x => [(5, .int .i64 x.1.length)]) (fun _ => []) ([], a, b) ⟨rfl, rfl⟩ ⟨rfl, trivial⟩ trivial ?_
  rintro ⟨p, a', b'⟩ ⟨h1, h2⟩ e σ
  dsimp only at h1 h2 ⊢
  have hl1 := congrArg List.length h1
  have hl2 := congrArg List.length h2
  cases a' with
  | nil =>
    simp only [List.append_nil, List.length_append, List.length_nil] at hl1 hl2
    repeat' (first
      | with_reducible (first | refine Rd.p ?_ | refine zE ?_ | refine zE0 ?_)
      | with_reducible (first | refine zI fun y hy => ?_ | refine zL ?_ | refine zS ?_ | refine zA fun _ => ?_ | refine zV ?_ | refine zC ?_ | refine zG ?_ | refine zU ?_ | refine zG0 ?_ | refine zU0 ?_ | refine zF ?_)
      | with_reducible (first | refine zX ?_ | refine zD fun _ => ?_ | refine zD0 ?_ | refine zN ?_ | refine zF0 ?_ | refine zX0 ?_ | refine z1 ?_ | refine z2 ?_ | refine z3 ?_ | refine z4 ?_ | refine z5 ?_ | refine z6 ?_ | refine z7 ?_ | refine z8 ?_ | refine y1 ?_ | refine y2 ?_ | refine y3 ?_ | refine y4 ?_ | refine y5 ?_ | refine y6 ?_ | refine y7 ?_ | refine y8 ?_ | refine Rt.p (fun _ => ?_) fun _ => ?_)
      | ((with_reducible apply w_ixM); (focus exact rfl); (focus exact rfl); case' hk => intro y hy) | ((with_reducible (first | apply w_val | apply q_ends)); (focus exact rfl)))
    all_goals (refine congrArg AV.bool ?_; rw [h1, h2, befB_app]; rfl)
  | cons x a' =>
    cases b' with
    | nil =>
      simp only [List.append_nil, List.length_append, List.length_nil, List.length_cons] at hl1 hl2
      repeat' (first
        | with_reducible (first | refine Rd.p ?_ | refine zE ?_ | refine zE0 ?_)
        | with_reducible (first | refine zI fun y hy => ?_ | refine zL ?_ | refine zS ?_ | refine zA fun _ => ?_ | refine zV ?_ | refine zC ?_ | refine zG ?_ | refine zU ?_ | refine zG0 ?_ | refine zU0 ?_ | refine zF ?_)
        | with_reducible (first | refine zX ?_ | refine zD fun _ => ?_ | refine zD0 ?_ | refine zN ?_ | refine zF0 ?_ | refine zX0 ?_ | refine z1 ?_ | refine z2 ?_ | refine z3 ?_ | refine z4 ?_ | refine z5 ?_ | refine z6 ?_ | refine z7 ?_ | refine z8 ?_ | refine y1 ?_ | refine y2 ?_ | refine y3 ?_ | refine y4 ?_ | refine y5 ?_ | refine y6 ?_ | refine y7 ?_ | refine y8 ?_ | refine Rt.p (fun _ => ?_) fun _ => ?_)
        | ((with_reducible apply w_ixM); (focus exact rfl); (focus exact rfl); case' hk => intro y hy) | ((with_reducible (first | apply w_val | apply q_ends)); (focus exact rfl)))
      all_goals (refine congrArg AV.bool ?_; rw [h1, h2, befB_app]; rfl)
    | cons y b' =>
      simp only [List.length_append, List.length_cons] at hl1 hl2
      have hB : befB a b = if x = y then befB a' b' else decide (x < y) := by rw [h1, h2, befB_app]; rfl
      repeat' (first
        | with_reducible (first | refine Rd.p ?_ | refine zE ?_ | refine zE0 ?_)
        | (first | refine w_ixP h1 rfl rfl ?_ | refine w_ixP h2 rfl rfl ?_)
        | with_reducible (first | refine zI fun y hy => ?_ | refine zL ?_ | refine zS ?_ | refine zA fun _ => ?_ | refine zV ?_ | refine zC ?_ | refine zG ?_ | refine zU ?_ | refine zG0 ?_ | refine zU0 ?_ | refine zF ?_)
        | with_reducible (first | refine zX ?_ | refine zD fun _ => ?_ | refine zD0 ?_ | refine zN ?_ | refine zF0 ?_ | refine zX0 ?_ | refine z1 ?_ | refine z2 ?_ | refine z3 ?_ | refine z4 ?_ | refine z5 ?_ | refine z6 ?_ | refine z7 ?_ | refine z8 ?_ | refine y1 ?_ | refine y2 ?_ | refine y3 ?_ | refine y4 ?_ | refine y5 ?_ | refine y6 ?_ | refine y7 ?_ | refine y8 ?_ | refine Rt.p (fun _ => ?_) fun _ => ?_)
        | ((with_reducible apply w_ixM); (focus exact rfl); (focus exact rfl); case' hk => intro y hy) | ((with_reducible (first | apply w_val | apply q_ends)); (focus exact rfl)))
      · rename_i h
        rw [hB, if_neg h]; rfl
      · rename_i h
        have h := Decidable.not_not.1 h
        subst h
        refine zQ (p ++ [x], a', b') ?_ ?_
        · exact ⟨by rw [h1]; simp, by rw [h2]; simp⟩
        · simp
theorem lsI_bef {a b : List Int} (h : ¬ lsI a b < 0) : ¬ a.length < b.length ∧ (a.length = b.length → befB a b = false) := by
  unfold lsI at h
  constructor
  · intro hl
    have := (cmpI_lt (x := (a.length : Int)) (y := b.length)).2 (by omega)
    rw [if_neg (by omega)] at h; exact h this
  · intro hl
    rw [if_pos (cmpI_eq.2 (by omega))] at h
    cases hb : befB a b with
    | false => rfl
    | true => exact absurd ((befB_lex hl).1 hb) h
theorem bits_all {set n : Nat} (h : set < 2 ^ n) (hn : n ≤ 62) : bitsL set n = membersL set := by
  refine (bitsL_high (k := n) (n := 62) ?_ hn).symm
  rw [Nat.shiftRight_eq_div_pow, Nat.div_eq_of_lt h]
theorem tmod_nat (n : Nat) : ((n : Int)).tmod 2 = ((n % 2 : Nat) : Int) := (Int.ofNat_tmod n 2).symm
theorem tdiv_nat (n : Nat) : ((n : Int)).tdiv 2 = ((n / 2 : Nat) : Int) := (Int.ofNat_tdiv n 2).symm
theorem bit_div (set i : Nat) : set.testBit i = decide (set / 2 ^ i % 2 = 1) := by
  rw [Nat.testBit_eq_decide_div_mod_eq]
theorem div_succ (set i : Nat) : set / 2 ^ (i + 1) = set / 2 ^ i / 2 := by rw [Nat.pow_succ, Nat.div_div_eq_div_mul]
theorem inv0_c (gs : List Guest) (bs : List Bond) (seats : Int) (hl0 : gs.length < 1000) (hb0 : bs.length < 1000) (hs : ∀ g ∈ gs, g.name.size ≤ 1000) :
    Fn0 Try.prog 58 [.slc 5 (gR gs) .non, .slc 3 (bR bs) .non, .int .i64 seats] (fun v => v = .tup [.slc 1 (iR (invP gs bs seats).1) .non, .int .i64 (invP gs bs seats).2.1, .int .i64 (invP gs bs seats).2.2]) :=
  (Invite0_c gs bs seats hl0 hb0 hs).subV (Sub.tup (.cons (sub_lst _) (.cons (Sub.refl _) (.cons (Sub.refl _) .nil))))
theorem seatInvited_c (nums : List Int) (hn : nums.length < 2 ^ 62) :
    Fn0 Try.prog 14 [.slc 1 (iR nums) .non] (fun v => v = .bool true) := by
  refine RawC.walk (H := hint14 Try.prog) ir14 Try.func14 rfl rfl rfl ?_
  unfold ir14
  repeat' (first
    | with_reducible (first | refine Rd.p ?_ | refine zE ?_ | refine zE0 ?_)
    | with_reducible (first | refine zI fun y hy => ?_ | refine zL ?_ | refine zS ?_ | refine zA fun _ => ?_ | refine zV ?_ | refine zC ?_ | refine zG ?_ | refine zU ?_ | refine zG0 ?_ | refine zU0 ?_ | refine zF ?_)
    | ((with_reducible refine acall_id ?_); refine ACall.liftS (boxOf_s nums hn) [] (some 6) rfl rfl rfl trivial (fun _ => rfl) ?_; rintro ⟨gb, w⟩ _ rfl)
    | ((with_reducible refine acall_id ?_); refine ACall.box (upp_c _ _ 9 (by omega) (by omega)) rfl rfl rfl ?_; rintro _ _ ⟨n, rfl, hn1, hn2⟩)
    | ((with_reducible refine acall_id ?_); refine ACall.box (guestsOf_c _ _ _ (by omega)) rfl rfl rfl ?_; rintro _ _ ⟨gs, rfl, hgs, hgl⟩)
    | ((with_reducible refine acall_id ?_); refine ACall.box (bondsOf_c _ _ gs.length 8 (by omega) (by omega)) rfl rfl rfl ?_; rintro _ _ ⟨bs, rfl, hds, hd1⟩)
    | ((with_reducible refine acall_id ?_); refine ACall.box (upp_c _ _ 8 (by omega) (by omega)) rfl rfl rfl ?_; rintro _ _ ⟨seats, rfl, hq1, hq2⟩)
    | with_reducible (first | refine zX ?_ | refine zD fun _ => ?_ | refine zD0 ?_ | refine zN ?_ | refine zF0 ?_ | refine zX0 ?_ | refine z1 ?_ | refine z2 ?_ | refine z3 ?_ | refine z4 ?_ | refine z5 ?_ | refine z6 ?_ | refine z7 ?_ | refine z8 ?_ | refine y1 ?_ | refine y2 ?_ | refine y3 ?_ | refine y4 ?_ | refine y5 ?_ | refine y6 ?_ | refine y7 ?_ | refine y8 ?_ | refine Rt.p (fun _ => ?_) fun _ => ?_)
    | ((with_reducible apply w_ixM); (focus exact rfl); (focus exact rfl); case' hk => intro y hy) | ((with_reducible (first | apply w_val | apply q_ends)); (focus exact rfl)))
  obtain ⟨hge, hsz⟩ := madeG_ok hgs
  have hk : knownE gs = 0 := by rw [knownE, if_neg (by omega)]; exact hge
  have hP : invP gs bs seats = ((bestI gs bs seats (2 ^ gs.length)).1, (bestI gs bs seats (2 ^ gs.length)).2, 0) := by
    rw [invP, if_neg (by omega), if_neg (by omega), if_neg (by omega), if_pos (inB_t.2 (by omega))]
  have hI := inv0_c gs bs seats (by omega) (by omega) (fun g hg => by have := hsz g hg; omega)
  have hB := bestI_spec gs bs seats hq1 (by omega)
  rw [hP] at hI
  have hbl := hB.inc.len
  have hhon := (known_inv hk).2
  generalize (bestI gs bs seats (2 ^ gs.length)).1 = best at hI hB hbl
  generalize (bestI gs bs seats (2 ^ gs.length)).2 = most at hI hB
  dsimp only at hI
  have hbo := hB.ok
  have hbo1 : (best.length : Int) ≤ seats := by rw [okI, Bool.and_eq_true, decide_eq_true_eq] at hbo; exact hbo.1
  obtain ⟨kb, hkb, hkbm⟩ := members_onto (by omega) hB.inc
  repeat' (first
    | with_reducible (first | refine Rd.p ?_ | refine zE ?_ | refine zE0 ?_)
    | with_reducible (first | refine zI fun y hy => ?_ | refine zL ?_ | refine zS ?_ | refine zA fun _ => ?_ | refine zV ?_ | refine zC ?_ | refine zG ?_ | refine zU ?_ | refine zG0 ?_ | refine zU0 ?_ | refine zF ?_)
    | ((with_reducible refine acall_id ?_); refine ACall.val hI rfl rfl ?_)
    | with_reducible (first | refine zX ?_ | refine zD fun _ => ?_ | refine zD0 ?_ | refine zN ?_ | refine zF0 ?_ | refine zX0 ?_ | refine z1 ?_ | refine z2 ?_ | refine z3 ?_ | refine z4 ?_ | refine z5 ?_ | refine z6 ?_ | refine z7 ?_ | refine z8 ?_ | refine y1 ?_ | refine y2 ?_ | refine y3 ?_ | refine y4 ?_ | refine y5 ?_ | refine y6 ?_ | refine y7 ?_ | refine y8 ?_ | refine Rt.p (fun _ => ?_) fun _ => ?_)
    | ((with_reducible apply w_ixM); (focus exact rfl); (focus exact rfl); case' hk => intro y hy) | ((with_reducible (first | apply w_val | apply q_ends)); (focus exact rfl)))
  refine w_loopK [4, 5, 6, 7, 8] [] (fun i : Nat => i ≤ gs.length) (fun i => gs.length - i) (fun i => [(12, .int .i64 i), (11, .int .i64 ((2 ^ i : Nat) : Int)), (10, .bool false)]) (fun _ => []) 0 (Nat.zero_le _) ⟨rfl, rfl, rfl, trivial⟩ trivial ?_
  rintro i hi e σ
  have hp8 : (2 ^ gs.length : Nat) ≤ 256 := Nat.pow_le_pow_right (n := 2) (j := 8) (by omega) (by omega)
  by_cases hi2 : i < gs.length
  · have hpi : (2 ^ i : Nat) ≤ 256 := Nat.pow_le_pow_right (n := 2) (j := 8) (by omega) (by omega)
    have hps : (2 ^ (i + 1) : Nat) = 2 * 2 ^ i := by rw [Nat.pow_succ]; omega
    repeat' (first
      | with_reducible (first | refine Rd.p ?_ | refine zE ?_ | refine zE0 ?_)
      | with_reducible (first | refine zI fun y hy => ?_ | refine zL ?_ | refine zS ?_ | refine zA fun _ => ?_ | refine zV ?_ | refine zC ?_ | refine zG ?_ | refine zU ?_ | refine zG0 ?_ | refine zU0 ?_ | refine zF ?_)
      | with_reducible (first | refine zX ?_ | refine zD fun _ => ?_ | refine zD0 ?_ | refine zN ?_ | refine zF0 ?_ | refine zX0 ?_ | refine z1 ?_ | refine z2 ?_ | refine z3 ?_ | refine z4 ?_ | refine z5 ?_ | refine z6 ?_ | refine z7 ?_ | refine z8 ?_ | refine y1 ?_ | refine y2 ?_ | refine y3 ?_ | refine y4 ?_ | refine y5 ?_ | refine y6 ?_ | refine y7 ?_ | refine y8 ?_ | refine Rt.p (fun _ => ?_) fun _ => ?_)
      | ((with_reducible apply w_ixM); (focus exact rfl); (focus exact rfl); case' hk => intro y hy) | ((with_reducible (first | apply w_val | apply q_ends)); (focus exact rfl)))
    refine q_loop (i + 1) ?_ ?_ (by exact ⟨rfl, int_eq (by rw [hps]; omega), rfl, trivial⟩) (by repeat' (first | exact slots_nil | apply slots_cons | rfl | (rw [map_snoc]; rfl) | (rw [len_snoc]; rfl) | (rw [hS]; rfl) | (rw [hS, map_snoc]; rfl) | (refine int_eq ?_; (try dsimp only); omega) | (refine congrArg AV.bool ?_; simp_all; done))) (by repeat' (first | exact kept_nil | apply kept_cons | rfl)) (by repeat' (first | exact kept_nil | apply kept_cons | rfl))
    · exact hi2
    · omega
  obtain rfl : i = gs.length := by omega
  repeat' (first
    | with_reducible (first | refine Rd.p ?_ | refine zE ?_ | refine zE0 ?_)
    | with_reducible (first | refine zI fun y hy => ?_ | refine zL ?_ | refine zS ?_ | refine zA fun _ => ?_ | refine zV ?_ | refine zC ?_ | refine zG ?_ | refine zU ?_ | refine zG0 ?_ | refine zU0 ?_ | refine zF ?_)
    | with_reducible (first | refine zX ?_ | refine zD fun _ => ?_ | refine zD0 ?_ | refine zN ?_ | refine zF0 ?_ | refine zX0 ?_ | refine z1 ?_ | refine z2 ?_ | refine z3 ?_ | refine z4 ?_ | refine z5 ?_ | refine z6 ?_ | refine z7 ?_ | refine z8 ?_ | refine y1 ?_ | refine y2 ?_ | refine y3 ?_ | refine y4 ?_ | refine y5 ?_ | refine y6 ?_ | refine y7 ?_ | refine y8 ?_ | refine Rt.p (fun _ => ?_) fun _ => ?_)
    | ((with_reducible apply w_ixM); (focus exact rfl); (focus exact rfl); case' hk => intro y hy) | ((with_reducible (first | apply w_val | apply q_ends)); (focus exact rfl)))
  refine w_loopK [4, 5, 6, 7, 8, 11] [] (fun x : Nat × Bool => x.1 ≤ 2 ^ gs.length ∧ (kb < x.1 → x.2 = true)) (fun x => 2 ^ gs.length - x.1) (fun x => [(13, .int .i64 x.1), (10, .bool x.2)]) (fun _ => []) (0, false) ⟨Nat.zero_le _, fun h => absurd h (Nat.not_lt_zero _)⟩ ⟨rfl, rfl, trivial⟩ trivial ?_
  rintro ⟨set, met⟩ ⟨hs1, hs2⟩ e2 σ2
  dsimp only at hs1 hs2 ⊢
  by_cases hlt : set < 2 ^ gs.length
  case neg =>
    obtain rfl := hs2 (by omega)
    repeat' (first
      | with_reducible (first | refine Rd.p ?_ | refine zE ?_ | refine zE0 ?_)
      | with_reducible (first | refine zI fun y hy => ?_ | refine zL ?_ | refine zS ?_ | refine zA fun _ => ?_ | refine zV ?_ | refine zC ?_ | refine zG ?_ | refine zU ?_ | refine zG0 ?_ | refine zU0 ?_ | refine zF ?_)
      | ((with_reducible refine acall_id ?_); refine ACall.val awake_c rfl rfl ?_)
      | with_reducible (first | refine zX ?_ | refine zD fun _ => ?_ | refine zD0 ?_ | refine zN ?_ | refine zF0 ?_ | refine zX0 ?_ | refine z1 ?_ | refine z2 ?_ | refine z3 ?_ | refine z4 ?_ | refine z5 ?_ | refine z6 ?_ | refine z7 ?_ | refine z8 ?_ | refine y1 ?_ | refine y2 ?_ | refine y3 ?_ | refine y4 ?_ | refine y5 ?_ | refine y6 ?_ | refine y7 ?_ | refine y8 ?_ | refine Rt.p (fun _ => ?_) fun _ => ?_)
      | ((with_reducible apply w_ixM); (focus exact rfl); (focus exact rfl); case' hk => intro y hy) | ((with_reducible (first | apply w_val | apply q_ends)); (focus exact rfl)))
    rfl
  repeat' (first
    | with_reducible (first | refine Rd.p ?_ | refine zE ?_ | refine zE0 ?_)
    | with_reducible (first | refine zI fun y hy => ?_ | refine zL ?_ | refine zS ?_ | refine zA fun _ => ?_ | refine zV ?_ | refine zC ?_ | refine zG ?_ | refine zU ?_ | refine zG0 ?_ | refine zU0 ?_ | refine zF ?_)
    | with_reducible (first | refine zX ?_ | refine zD fun _ => ?_ | refine zD0 ?_ | refine zN ?_ | refine zF0 ?_ | refine zX0 ?_ | refine z1 ?_ | refine z2 ?_ | refine z3 ?_ | refine z4 ?_ | refine z5 ?_ | refine z6 ?_ | refine z7 ?_ | refine z8 ?_ | refine y1 ?_ | refine y2 ?_ | refine y3 ?_ | refine y4 ?_ | refine y5 ?_ | refine y6 ?_ | refine y7 ?_ | refine y8 ?_ | refine Rt.p (fun _ => ?_) fun _ => ?_)
    | ((with_reducible apply w_ixM); (focus exact rfl); (focus exact rfl); case' hk => intro y hy) | ((with_reducible (first | apply w_val | apply q_ends)); (focus exact rfl)))
  rename_i g14
  refine w_loopK [4, 5, 6, 7, 8, 10, 11, 13] [] (fun x : Nat × Nat => x.1 ≤ gs.length) (fun x => gs.length - x.1) (fun x => [(16, .int .i64 x.1), (17, .int .i64 ((set / 2 ^ x.1 : Nat) : Int)), (14, .slc 1 (iR (bitsL set x.1)) (.own 14 x.2)), (15, .int .i64 (honS gs (bitsL set x.1)))]) (fun x => [(14, (x.2, .row []))]) (0, g14) (Nat.zero_le _) ⟨rfl, by rw [Nat.pow_zero, Nat.div_one]; rfl, rfl, rfl, trivial⟩ ⟨rfl, trivial⟩ ?_
  rintro ⟨j, g14⟩ hj e3 σ3
  dsimp only at hj ⊢
  have hbb := honS_bd hhon (bitsL set j)
  have hbl2 := bitsL_len set j
  by_cases hj2 : j < gs.length
  · have hsu := bitsL_succ set j
    rw [bit_div] at hsu
    have hd := div_succ set j
    have htm := tmod_nat (set / 2 ^ j)
    have htd := tdiv_nat (set / 2 ^ j)
    have hsd : set / 2 ^ j ≤ set := Nat.div_le_self _ _
    have hw := honG_bd hhon (j : Int)
    obtain ⟨y, hy⟩ : ∃ y, gs[((j : Nat) : Int).toNat]? = some y := ⟨gs[j], by simp [hj2]⟩
    have hwy : y.honour = honG gs j := by rw [honG, hy]; rfl
    generalize set / 2 ^ j = q at hsu hd htm htd hsd ⊢
    have hn1 : decide (q % 2 = 1) = decide (((q : Int)).tmod 2 = 1) := decide_eq_decide.2 (by rw [htm]; omega)
    rw [hn1] at hsu
    by_cases hb : ((q : Int)).tmod 2 = 1
    · rw [decide_eq_true hb, if_pos rfl] at hsu
      have hS := hsu
      have hH : honS gs (bitsL set (j + 1)) = honS gs (bitsL set j) + honG gs j := by rw [hS, honS_snoc]
      repeat' (first
        | with_reducible (first | refine Rd.p ?_ | refine zE ?_ | refine zE0 ?_)
        | (first | with_reducible refine z1 ?_ hb | with_reducible refine zJ hy ?_)
        | with_reducible (first | refine zI fun y hy => ?_ | refine zL ?_ | refine zS ?_ | refine zA fun _ => ?_ | refine zV ?_ | refine zC ?_ | refine zG ?_ | refine zU ?_ | refine zG0 ?_ | refine zU0 ?_ | refine zF ?_)
        | with_reducible (first | refine zX ?_ | refine zD fun _ => ?_ | refine zD0 ?_ | refine zN ?_ | refine zF0 ?_ | refine zX0 ?_ | refine z1 ?_ | refine z2 ?_ | refine z3 ?_ | refine z4 ?_ | refine z5 ?_ | refine z6 ?_ | refine z7 ?_ | refine z8 ?_ | refine y1 ?_ | refine y2 ?_ | refine y3 ?_ | refine y4 ?_ | refine y5 ?_ | refine y6 ?_ | refine y7 ?_ | refine y8 ?_ | refine Rt.p (fun _ => ?_) fun _ => ?_)
        | ((with_reducible apply w_ixM); (focus exact rfl); (focus exact rfl); case' hk => intro y hy) | ((with_reducible (first | apply w_val | apply q_ends)); (focus exact rfl)))
      rename_i g2
      refine q_loop (j + 1, g2) ?_ ?_ (by exact ⟨rfl, int_eq (by dsimp only; rw [hd, htd]), by dsimp only; rw [hS]; first | rfl | (rw [map_snoc]; rfl), int_eq (by dsimp only; rw [hH, hwy]), trivial⟩) (by repeat' (first | exact slots_nil | apply slots_cons | rfl | (rw [map_snoc]; rfl) | (rw [len_snoc]; rfl) | (rw [hS]; rfl) | (rw [hS, map_snoc]; rfl) | (refine int_eq ?_; (try dsimp only); omega) | (refine congrArg AV.bool ?_; simp_all; done))) (by repeat' (first | exact kept_nil | apply kept_cons | rfl)) (by repeat' (first | exact kept_nil | apply kept_cons | rfl))
      · exact hj2
      · dsimp only; omega
    · rw [decide_eq_false hb, if_neg (by simp)] at hsu
      have hS := hsu
      rw [List.append_nil] at hS
      repeat' (first
        | with_reducible (first | refine Rd.p ?_ | refine zE ?_ | refine zE0 ?_)
        | (first | with_reducible refine z2 ?_ hb)
        | with_reducible (first | refine zI fun y hy => ?_ | refine zL ?_ | refine zS ?_ | refine zA fun _ => ?_ | refine zV ?_ | refine zC ?_ | refine zG ?_ | refine zU ?_ | refine zG0 ?_ | refine zU0 ?_ | refine zF ?_)
        | with_reducible (first | refine zX ?_ | refine zD fun _ => ?_ | refine zD0 ?_ | refine zN ?_ | refine zF0 ?_ | refine zX0 ?_ | refine z1 ?_ | refine z2 ?_ | refine z3 ?_ | refine z4 ?_ | refine z5 ?_ | refine z6 ?_ | refine z7 ?_ | refine z8 ?_ | refine y1 ?_ | refine y2 ?_ | refine y3 ?_ | refine y4 ?_ | refine y5 ?_ | refine y6 ?_ | refine y7 ?_ | refine y8 ?_ | refine Rt.p (fun _ => ?_) fun _ => ?_)
        | ((with_reducible apply w_ixM); (focus exact rfl); (focus exact rfl); case' hk => intro y hy) | ((with_reducible (first | apply w_val | apply q_ends)); (focus exact rfl)))
      refine q_loop (j + 1, g14) ?_ ?_ (by exact ⟨rfl, int_eq (by dsimp only; rw [hd, htd]), by dsimp only; rw [hS]; rfl, (by dsimp only; rw [hS]; rfl), trivial⟩) (by repeat' (first | exact slots_nil | apply slots_cons | rfl | (rw [map_snoc]; rfl) | (rw [len_snoc]; rfl) | (rw [hS]; rfl) | (rw [hS, map_snoc]; rfl) | (refine int_eq ?_; (try dsimp only); omega) | (refine congrArg AV.bool ?_; simp_all; done))) (by repeat' (first | exact kept_nil | apply kept_cons | rfl)) (by repeat' (first | exact kept_nil | apply kept_cons | rfl))
      · exact hj2
      · dsimp only; omega
  obtain rfl : j = gs.length := by omega
  rw [bits_all hlt (by omega)] at hbb hbl2 ⊢
  generalize hL : membersL set = l at hbb hbl2 ⊢
  have hle := hB.le l (by rw [← hL]; exact inc_members hlt)
  have hok : okI bs seats l = (decide ((l.length : Int) ≤ seats) && bs.all (bondL l)) := rfl
  repeat' (first
    | with_reducible (first | refine Rd.p ?_ | refine zE ?_ | refine zE0 ?_)
    | with_reducible (first | refine zI fun y hy => ?_ | refine zL ?_ | refine zS ?_ | refine zA fun _ => ?_ | refine zV ?_ | refine zC ?_ | refine zG ?_ | refine zU ?_ | refine zG0 ?_ | refine zU0 ?_ | refine zF ?_)
    | with_reducible (first | refine zX ?_ | refine zD fun _ => ?_ | refine zD0 ?_ | refine zN ?_ | refine zF0 ?_ | refine zX0 ?_ | refine z1 ?_ | refine z2 ?_ | refine z3 ?_ | refine z4 ?_ | refine z5 ?_ | refine z6 ?_ | refine z7 ?_ | refine z8 ?_ | refine y1 ?_ | refine y2 ?_ | refine y3 ?_ | refine y4 ?_ | refine y5 ?_ | refine y6 ?_ | refine y7 ?_ | refine y8 ?_ | refine Rt.p (fun _ => ?_) fun _ => ?_)
    | ((with_reducible apply w_ixM); (focus exact rfl); (focus exact rfl); case' hk => intro y hy) | ((with_reducible (first | apply w_val | apply q_ends)); (focus exact rfl)))
  refine w_loopK [4, 5, 6, 7, 8, 10, 11, 13, 14, 15] [] (fun x : List Bond × List Bond => bs = x.1 ++ x.2) (fun x => x.2.length) (fun x => [(19, .int .i64 x.1.length), (18, .bool (decide ((l.length : Int) ≤ seats) && x.1.all (bondL l)))]) (fun _ => []) ([], bs) rfl ⟨rfl, by rw [List.all_nil, Bool.and_true]; rfl, trivial⟩ trivial ?_
  rintro ⟨pre, post⟩ hpp e4 σ4
  dsimp only at hpp ⊢
  have hlen := congrArg List.length hpp
  cases post with
  | cons c post =>
    simp only [List.length_append, List.length_cons] at hlen
    have hal : (decide ((l.length : Int) ≤ seats) && (pre ++ [c]).all (bondL l)) = ((decide ((l.length : Int) ≤ seats) && pre.all (bondL l)) && bondL l c) := by rw [List.all_append, Bool.and_assoc]; simp
    generalize (decide ((l.length : Int) ≤ seats) && pre.all (bondL l)) = v at hal ⊢
    repeat' (first
      | with_reducible (first | refine Rd.p ?_ | refine zE ?_ | refine zE0 ?_)
      | (refine w_ixP hpp rfl rfl ?_)
      | with_reducible (first | refine zI fun y hy => ?_ | refine zL ?_ | refine zS ?_ | refine zA fun _ => ?_ | refine zV ?_ | refine zC ?_ | refine zG ?_ | refine zU ?_ | refine zG0 ?_ | refine zU0 ?_ | refine zF ?_)
      | ((with_reducible refine acall_id ?_); refine ACall.val (lkeeps_c l c (by omega)) rfl rfl ?_)
      | with_reducible (first | refine zX ?_ | refine zD fun _ => ?_ | refine zD0 ?_ | refine zN ?_ | refine zF0 ?_ | refine zX0 ?_ | refine z1 ?_ | refine z2 ?_ | refine z3 ?_ | refine z4 ?_ | refine z5 ?_ | refine z6 ?_ | refine z7 ?_ | refine z8 ?_ | refine y1 ?_ | refine y2 ?_ | refine y3 ?_ | refine y4 ?_ | refine y5 ?_ | refine y6 ?_ | refine y7 ?_ | refine y8 ?_ | refine Rt.p (fun _ => ?_) fun _ => ?_)
      | ((with_reducible apply w_ixM); (focus exact rfl); (focus exact rfl); case' hk => intro y hy) | ((with_reducible (first | apply w_val | apply q_ends)); (focus exact rfl)))
    all_goals (rename_i h; refine q_loop (pre ++ [c], post) ?_ ?_ (by exact ⟨by rw [len_snoc]; rfl, by dsimp only; rw [hal, h]; rfl, trivial⟩) (by repeat' (first | exact slots_nil | apply slots_cons | rfl | (rw [map_snoc]; rfl) | (rw [len_snoc]; rfl) | (rw [hS]; rfl) | (rw [hS, map_snoc]; rfl) | (refine int_eq ?_; (try dsimp only); omega) | (refine congrArg AV.bool ?_; simp_all; done))) (by repeat' (first | exact kept_nil | apply kept_cons | rfl)) (by repeat' (first | exact kept_nil | apply kept_cons | rfl)))
    all_goals first | (dsimp only; rw [hpp]; simp) | simp
  | nil =>
    simp only [List.append_nil, List.length_append, List.length_nil] at hlen hpp
    subst hpp
    rw [← hok]
    have hkb2 : set = kb → l = best ∧ okI bs seats l = true ∧ honS gs l = most := fun h => by
      have h1 : l = best := by rw [← hL, h]; exact hkbm
      exact ⟨h1, by rw [h1]; exact hbo, by rw [h1, hB.eq]⟩
    generalize okI bs seats l = ok at hle hkb2 ⊢
    have hL2 : l.length < 1000000 := by omega
    have hbad : ∀ {m}, honS gs l = m → ok = true → ¬ most < m ∧ (m = most → ¬ l.length < best.length ∧ (l.length = best.length → befB l best = false)) := by
      rintro m rfl ho
      rcases hle ho with h | ⟨h1, h | h⟩
      · exact ⟨by omega, fun h2 => by omega⟩
      · subst h; refine ⟨by omega, fun _ => lsI_bef ?_⟩; rw [lsI_eq.2 rfl]; omega
      · refine ⟨by omega, fun _ => lsI_bef ?_⟩; rw [lsI_anti]; omega
    repeat' (first
      | with_reducible (first | refine Rd.p ?_ | refine zE ?_ | refine zE0 ?_)
      | with_reducible (first | refine zI fun y hy => ?_ | refine zL ?_ | refine zS ?_ | refine zA fun _ => ?_ | refine zV ?_ | refine zC ?_ | refine zG ?_ | refine zU ?_ | refine zG0 ?_ | refine zU0 ?_ | refine zF ?_)
      | ((with_reducible refine acall_id ?_); refine ACall.val (eq_c l best (by omega)) rfl rfl ?_)
      | ((with_reducible refine acall_id ?_); refine ACall.val (lbefore_c l best (by omega) (by omega)) rfl rfl ?_)
      | with_reducible (first | refine zX ?_ | refine zD fun _ => ?_ | refine zD0 ?_ | refine zN ?_ | refine zF0 ?_ | refine zX0 ?_ | refine z1 ?_ | refine z2 ?_ | refine z3 ?_ | refine z4 ?_ | refine z5 ?_ | refine z6 ?_ | refine z7 ?_ | refine z8 ?_ | refine y1 ?_ | refine y2 ?_ | refine y3 ?_ | refine y4 ?_ | refine y5 ?_ | refine y6 ?_ | refine y7 ?_ | refine y8 ?_ | refine Rt.p (fun _ => ?_) fun _ => ?_)
      | ((with_reducible apply w_ixM); (focus exact rfl); (focus exact rfl); case' hk => intro y hy) | ((with_reducible (first | apply w_val | apply q_ends)); (focus exact rfl)))
    all_goals first
      | (exfalso; have hc := hbad rfl (by assumption); clear hle hkb2; simp_all; done)
      | (exfalso; have hc := hbad rfl (by assumption); clear hle hkb2; simp_all; omega)
      | skip
    all_goals (refine q_loop (set + 1, _) ⟨hlt, fun h => ?_⟩ (by dsimp only; omega) (by repeat' (first | exact slots_nil | apply slots_cons | rfl | (rw [map_snoc]; rfl) | (rw [len_snoc]; rfl) | (rw [hS]; rfl) | (rw [hS, map_snoc]; rfl) | (refine int_eq ?_; (try dsimp only); omega) | (refine congrArg AV.bool ?_; simp_all; done))) (by repeat' (first | exact slots_nil | apply slots_cons | rfl | (rw [map_snoc]; rfl) | (rw [len_snoc]; rfl) | (rw [hS]; rfl) | (rw [hS, map_snoc]; rfl) | (refine int_eq ?_; (try dsimp only); omega) | (refine congrArg AV.bool ?_; simp_all; done))) (by repeat' (first | exact kept_nil | apply kept_cons | rfl)) (by repeat' (first | exact kept_nil | apply kept_cons | rfl)))
    all_goals (clear hle hbad; rcases Nat.lt_or_eq_of_le (Nat.le_of_lt_succ h) with h | h)
    all_goals first | (simp_all; done) | (have h2 := hkb2 h.symm; simp_all; done) | exact decide_eq_true (hkb2 h.symm).2.2
end Go.Abs
