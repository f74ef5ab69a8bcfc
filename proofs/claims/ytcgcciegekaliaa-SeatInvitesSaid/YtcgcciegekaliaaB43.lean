/- A part of the proofs of the laws of this seat: contracts of the functions that they reach, each proved of the program's form in Lean. No condition beyond those that each contract names. -/
import Derived.Test.YtcgcciegekaliaaB0
import Derived.Test.YtcgcciegekaliaaB2
import Derived.Test.YtcgcciegekaliaaB3
import Derived.Test.YtcgcciegekaliaaB6
import Derived.Test.YtcgcciegekaliaaB7
import Derived.Test.YtcgcciegekaliaaB9
import Derived.Test.YtcgcciegekaliaaB12
import Derived.Test.YtcgcciegekaliaaB36
import Derived.Test.YtcgcciegekaliaaB37
import Derived.Test.YtcgcciegekaliaaB39
import Derived.Test.YtcgcciegekaliaaB40
import Derived.Test.YtcgcciegekaliaaB41
import Derived.Test.YtcgcciegekaliaaB42
set_option linter.unusedVariables false
set_option linter.unusedSimpArgs false
set_option maxRecDepth 20000
set_option maxHeartbeats 4000000
/-! ### The reference's search for whom to invite -/
namespace Go.Abs
open Go.Proofs
/-- aloeswood/aloeswoodref08.Invite -/
def ir59 : IFn :=
  ⟨129, [(6, none), (7, none), (8, none)], (.seq (.ops [⟨(some 6), none, (.mov (.k .nsl))⟩,
    ⟨(some 7), none, (.mov (.k (.int .i64 0)))⟩,
    ⟨(some 8), none, (.mov (.k (.int .i64 0)))⟩])
  (.seq (.seq (.ops [⟨(some 23), none, (.mov (.t 0))⟩,
    ⟨(some 24), none, (.callF 73 [(.t 23)])⟩,
    ⟨(some 9), none, (.mov (.t 24))⟩])
  (.seq (.ops [⟨(some 25), none, (.mov (.t 9))⟩,
    ⟨(some 26), none, (.bin .neq (.t 25) (.k (.int .i64 0)))⟩])
  (.cnd (.t 26)
    (.seq (.ops [⟨(some 27), none, (.mov (.t 9))⟩,
      ⟨(some 6), none, (.mov (.k .nsl))⟩,
      ⟨(some 7), none, (.mov (.k (.int .i64 0)))⟩,
      ⟨(some 8), none, (.mov (.t 27))⟩])
    .ret)
    .skip)))
  (.seq (.seq (.ops [⟨(some 28), none, (.mov (.t 1))⟩,
    ⟨(some 29), none, (.len false (.t 28))⟩,
    ⟨(some 30), none, (.bin .gtr (.t 29) (.k (.int .i64 20)))⟩])
  (.cnd (.t 30)
    (.seq (.ops [⟨(some 6), none, (.mov (.k .nsl))⟩,
      ⟨(some 7), none, (.mov (.k (.int .i64 0)))⟩,
      ⟨(some 8), none, (.mov (.k (.int .i64 8)))⟩])
    .ret)
    .skip))
  (.seq (.seq (.ops [⟨(some 10), none, (.mov (.k (.int .i64 0)))⟩])
  (.blk 0 (.loop (.seq (.seq (.ops [⟨(some 31), none, (.mov (.t 10))⟩,
        ⟨(some 32), none, (.mov (.t 1))⟩,
        ⟨(some 33), none, (.len false (.t 32))⟩,
        ⟨(some 34), none, (.bin .lss (.t 31) (.t 33))⟩])
      (.cnd (.t 34)
        .skip
        (.exit 0)))
      (.seq (.blk 1 (.seq (.ops [⟨(some 37), none, (.mov (.t 1))⟩,
          ⟨(some 38), none, (.mov (.t 10))⟩,
          ⟨(some 39), none, (.ixA 3 (.t 37) (.t 38))⟩,
          ⟨(some 40), none, (.ld 3 true (.t 39))⟩,
          ⟨(some 41), none, (.mov (.t 0))⟩,
          ⟨(some 42), none, (.len false (.t 41))⟩,
          ⟨(some 43), none, (.callF 105 [(.t 40), (.t 42)])⟩,
          ⟨(some 11), none, (.mov (.t 43))⟩])
        (.seq (.ops [⟨(some 44), none, (.mov (.t 11))⟩,
          ⟨(some 45), none, (.bin .neq (.t 44) (.k (.int .i64 0)))⟩])
        (.cnd (.t 45)
          (.seq (.ops [⟨(some 46), none, (.mov (.t 11))⟩,
            ⟨(some 6), none, (.mov (.k .nsl))⟩,
            ⟨(some 7), none, (.mov (.k (.int .i64 0)))⟩,
            ⟨(some 8), none, (.mov (.t 46))⟩])
          .ret)
          .skip))))
      (.ops [⟨(some 35), none, (.mov (.t 10))⟩,
        ⟨(some 36), none, (.bin .add (.t 35) (.k (.int .i64 1)))⟩,
        ⟨(some 10), none, (.mov (.t 36))⟩]))))))
  (.seq (.seq (.ops [⟨(some 47), none, (.mov (.t 2))⟩,
    ⟨(some 48), none, (.callF 75 [(.t 47), (.k (.int .i64 0)), (.k (.int .i64 7))])⟩,
    ⟨(some 49), none, (.not (.t 48))⟩])
  (.cnd (.t 49)
    (.seq (.ops [⟨(some 6), none, (.mov (.k .nsl))⟩,
      ⟨(some 7), none, (.mov (.k (.int .i64 0)))⟩,
      ⟨(some 8), none, (.mov (.k (.int .i64 2)))⟩])
    .ret)
    .skip))
  (.seq (.ops [⟨(some 12), none, (.nil 1 12)⟩,
    ⟨(some 13), none, (.mov (.k .nsl))⟩])
  (.seq (.seq (.ops [⟨(some 14), none, (.mov (.k (.int .i64 0)))⟩])
  (.blk 2 (.loop (.seq (.seq (.ops [⟨(some 50), none, (.mov (.t 14))⟩,
        ⟨(some 51), none, (.mov (.t 0))⟩,
        ⟨(some 52), none, (.len false (.t 51))⟩,
        ⟨(some 53), none, (.bin .lss (.t 50) (.t 52))⟩])
      (.cnd (.t 53)
        .skip
        (.exit 2)))
      (.seq (.blk 3 (.ops [⟨(some 56), none, (.mov (.t 12))⟩,
          ⟨(some 57), none, (.mov (.t 14))⟩,
          ⟨(some 58), none, (.bsl 1 [[(.int .i64 0)]] [(0, (.t 57))])⟩,
          ⟨(some 59), none, (.app 1 8 (.t 56) (.t 58) 12)⟩,
          ⟨(some 12), none, (.mov (.t 59))⟩]))
      (.ops [⟨(some 54), none, (.mov (.t 14))⟩,
        ⟨(some 55), none, (.bin .add (.t 54) (.k (.int .i64 1)))⟩,
        ⟨(some 14), none, (.mov (.t 55))⟩]))))))
  (.seq (.ops [⟨(some 15), none, (.mov (.k (.int .i64 0)))⟩])
  (.seq (.seq (.ops [⟨(some 16), none, (.mov (.k (.int .i64 1)))⟩])
  (.blk 4 (.loop (.seq (.seq (.ops [⟨(some 60), none, (.mov (.t 16))⟩,
        ⟨(some 61), none, (.mov (.t 0))⟩,
        ⟨(some 62), none, (.len false (.t 61))⟩,
        ⟨(some 63), none, (.bin .leq (.t 60) (.t 62))⟩,
        ⟨(some 64), none, (.mov (.t 63))⟩,
        ⟨(some 65), (some (64, true)), (.mov (.t 16))⟩,
        ⟨(some 66), (some (64, true)), (.mov (.t 2))⟩,
        ⟨(some 67), (some (64, true)), (.bin .leq (.t 65) (.t 66))⟩,
        ⟨(some 68), none, (.pick (.t 64) (.t 67) (.k (.bool false)))⟩])
      (.cnd (.t 68)
        .skip
        (.exit 4)))
      (.seq (.blk 5 (.seq (.ops [⟨(some 71), none, (.mov (.t 12))⟩,
          ⟨(some 72), none, (.mov (.t 16))⟩,
          ⟨(some 73), none, (.callF 98 [(.t 71), (.t 72)])⟩,
          ⟨(some 17), none, (.mov (.t 73))⟩])
        (.seq (.ops [⟨(some 18), none, (.mov (.k (.int .i64 0)))⟩])
        (.blk 6 (.loop (.seq (.seq (.ops [⟨(some 74), none, (.mov (.t 18))⟩,
              ⟨(some 75), none, (.mov (.t 17))⟩,
              ⟨(some 76), none, (.len false (.t 75))⟩,
              ⟨(some 77), none, (.bin .lss (.t 74) (.t 76))⟩])
            (.cnd (.t 77)
              .skip
              (.exit 6)))
            (.seq (.blk 7 (.seq (.ops [⟨(some 19), none, (.mov (.k (.bool true)))⟩,
                ⟨(some 20), none, (.mov (.k (.int .i64 0)))⟩])
              (.seq (.seq (.ops [⟨(some 21), none, (.mov (.k (.int .i64 0)))⟩])
              (.blk 8 (.loop (.seq (.seq (.ops [⟨(some 80), none, (.mov (.t 21))⟩,
                    ⟨(some 81), none, (.mov (.t 1))⟩,
                    ⟨(some 82), none, (.len false (.t 81))⟩,
                    ⟨(some 83), none, (.bin .lss (.t 80) (.t 82))⟩])
                  (.cnd (.t 83)
                    .skip
                    (.exit 8)))
                  (.seq (.blk 9 (.ops [⟨(some 86), none, (.mov (.t 19))⟩,
                      ⟨(some 87), none, (.mov (.t 86))⟩,
                      ⟨(some 88), (some (87, true)), (.mov (.t 17))⟩,
                      ⟨(some 89), (some (87, true)), (.mov (.t 18))⟩,
                      ⟨(some 90), (some (87, true)), (.ixA 1 (.t 88) (.t 89))⟩,
                      ⟨(some 91), (some (87, true)), (.ld 1 false (.t 90))⟩,
                      ⟨(some 92), (some (87, true)), (.mov (.t 1))⟩,
                      ⟨(some 93), (some (87, true)), (.mov (.t 21))⟩,
                      ⟨(some 94), (some (87, true)), (.ixA 3 (.t 92) (.t 93))⟩,
                      ⟨(some 95), (some (87, true)), (.ld 3 true (.t 94))⟩,
                      ⟨(some 96), (some (87, true)), (.callF 106 [(.t 91), (.t 95)])⟩,
                      ⟨(some 97), none, (.pick (.t 87) (.t 96) (.k (.bool false)))⟩,
                      ⟨(some 19), none, (.mov (.t 97))⟩]))
                  (.ops [⟨(some 84), none, (.mov (.t 21))⟩,
                    ⟨(some 85), none, (.bin .add (.t 84) (.k (.int .i64 1)))⟩,
                    ⟨(some 21), none, (.mov (.t 85))⟩]))))))
              (.seq (.seq (.ops [⟨(some 22), none, (.mov (.k (.int .i64 0)))⟩])
              (.blk 10 (.loop (.seq (.seq (.ops [⟨(some 98), none, (.mov (.t 22))⟩,
                    ⟨(some 99), none, (.mov (.t 16))⟩,
                    ⟨(some 100), none, (.bin .lss (.t 98) (.t 99))⟩])
                  (.cnd (.t 100)
                    .skip
                    (.exit 10)))
                  (.seq (.blk 11 (.ops [⟨(some 103), none, (.mov (.t 20))⟩,
                      ⟨(some 104), none, (.mov (.t 0))⟩,
                      ⟨(some 105), none, (.mov (.t 17))⟩,
                      ⟨(some 106), none, (.mov (.t 18))⟩,
                      ⟨(some 107), none, (.ixA 1 (.t 105) (.t 106))⟩,
                      ⟨(some 108), none, (.ld 1 false (.t 107))⟩,
                      ⟨(some 109), none, (.mov (.t 22))⟩,
                      ⟨(some 110), none, (.ixA 1 (.t 108) (.t 109))⟩,
                      ⟨(some 111), none, (.ld 1 false (.t 110))⟩,
                      ⟨(some 112), none, (.ixA 5 (.t 104) (.t 111))⟩,
                      ⟨(some 113), none, (.flA 2 (.t 112))⟩,
                      ⟨(some 114), none, (.ld 1 false (.t 113))⟩,
                      ⟨(some 115), none, (.bin .add (.t 103) (.t 114))⟩,
                      ⟨(some 20), none, (.mov (.t 115))⟩]))
                  (.ops [⟨(some 101), none, (.mov (.t 22))⟩,
                    ⟨(some 102), none, (.bin .add (.t 101) (.k (.int .i64 1)))⟩,
                    ⟨(some 22), none, (.mov (.t 102))⟩]))))))
              (.seq (.ops [⟨(some 116), none, (.mov (.t 19))⟩,
                ⟨(some 117), none, (.mov (.t 116))⟩,
                ⟨(some 118), (some (117, true)), (.mov (.t 20))⟩,
                ⟨(some 119), (some (117, true)), (.mov (.t 15))⟩,
                ⟨(some 120), (some (117, true)), (.bin .gtr (.t 118) (.t 119))⟩,
                ⟨(some 121), none, (.pick (.t 117) (.t 120) (.k (.bool false)))⟩])
              (.cnd (.t 121)
                (.ops [⟨(some 122), none, (.mov (.t 17))⟩,
                  ⟨(some 123), none, (.mov (.t 18))⟩,
                  ⟨(some 124), none, (.ixA 1 (.t 122) (.t 123))⟩,
                  ⟨(some 125), none, (.ld 1 false (.t 124))⟩,
                  ⟨(some 126), none, (.mov (.t 20))⟩,
                  ⟨(some 13), none, (.mov (.t 125))⟩,
                  ⟨(some 15), none, (.mov (.t 126))⟩])
                .skip))))))
            (.ops [⟨(some 78), none, (.mov (.t 18))⟩,
              ⟨(some 79), none, (.bin .add (.t 78) (.k (.int .i64 1)))⟩,
              ⟨(some 18), none, (.mov (.t 79))⟩]))))))))
      (.ops [⟨(some 69), none, (.mov (.t 16))⟩,
        ⟨(some 70), none, (.bin .add (.t 69) (.k (.int .i64 1)))⟩,
        ⟨(some 16), none, (.mov (.t 70))⟩]))))))
  (.seq (.ops [⟨(some 127), none, (.mov (.t 13))⟩,
    ⟨(some 128), none, (.mov (.t 15))⟩,
    ⟨(some 6), none, (.mov (.t 127))⟩,
    ⟨(some 7), none, (.mov (.t 128))⟩,
    ⟨(some 8), none, (.mov (.k (.int .i64 0)))⟩])
  .ret))))))))))⟩
def hint59 (P : Program) : Hint := { site := [(59, 12)], nils := [(12, 1)], frz := [], wr := [] }

theorem numsL_succ (n : Nat) : numsL (n + 1) = numsL n ++ [(n : Int)] := by
  rw [numsL, List.range_succ, List.map_append]; rfl
theorem numsL_len (n : Nat) : (numsL n).length = n := by simp
theorem rInvite0_c (gs : List Guest) (bs : List Bond) (seats : Int) (hl0 : gs.length < 1000) (hb0 : bs.length < 1000) (hs : ∀ g ∈ gs, g.name.size ≤ 1000) :
    Fn0 Try.prog 59 [.slc 5 (gR gs) .non, .slc 3 (bR bs) .non, .int .i64 seats] (fun v => v = .tup [lstV (invP gs bs seats).1, .int .i64 (invP gs bs seats).2.1, .int .i64 (invP gs bs seats).2.2]) := by
  have hK : Fn0 Try.prog 73 [.slc 5 (gR gs) .non] (fun v => v = .int .i64 (knownE gs)) := checkKnown_c gs hl0 hs
  by_cases hk : knownE gs = 0
  case neg =>
    rw [show invP gs bs seats = ([], 0, knownE gs) by rw [invP, if_pos hk]]
    refine RawC.walk (H := hint59 Try.prog) ir59 Try.func59 rfl rfl rfl ?_
    unfold ir59
    repeat' (first
      | with_reducible (first | refine Rd.p ?_ | refine zE ?_ | refine zE0 ?_)
      | with_reducible (first | refine zI fun y hy => ?_ | refine zL ?_ | refine zS ?_ | refine zA fun _ => ?_ | refine zV ?_ | refine zC ?_ | refine zG ?_ | refine zU ?_ | refine zG0 ?_ | refine zU0 ?_ | refine zF ?_)
      | ((with_reducible refine acall_id ?_); refine ACall.val hK rfl rfl ?_)
      | with_reducible (first | refine zX ?_ | refine zD fun _ => ?_ | refine zD0 ?_ | refine zN ?_ | refine zF0 ?_ | refine zX0 ?_ | refine z1 ?_ | refine z2 ?_ | refine z3 ?_ | refine z4 ?_ | refine z5 ?_ | refine z6 ?_ | refine z7 ?_ | refine z8 ?_ | refine y1 ?_ | refine y2 ?_ | refine y3 ?_ | refine y4 ?_ | refine y5 ?_ | refine y6 ?_ | refine y7 ?_ | refine y8 ?_ | refine Rt.p (fun _ => ?_) fun _ => ?_)
      | ((with_reducible apply w_ixM); (focus exact rfl); (focus exact rfl); case' hk => intro y hy) | ((with_reducible (first | apply w_val | apply q_ends)); (focus exact rfl)))
    rfl
  by_cases h20 : 20 < bs.length
  case pos =>
    rw [show invP gs bs seats = ([], 0, 8) by rw [invP, if_neg (by omega), if_pos h20]]
    refine RawC.walk (H := hint59 Try.prog) ir59 Try.func59 rfl rfl rfl ?_
    unfold ir59
    repeat' (first
      | with_reducible (first | refine Rd.p ?_ | refine zE ?_ | refine zE0 ?_)
      | with_reducible (first | refine zI fun y hy => ?_ | refine zL ?_ | refine zS ?_ | refine zA fun _ => ?_ | refine zV ?_ | refine zC ?_ | refine zG ?_ | refine zU ?_ | refine zG0 ?_ | refine zU0 ?_ | refine zF ?_)
      | ((with_reducible refine acall_id ?_); refine ACall.val hK rfl rfl ?_)
      | with_reducible (first | refine zX ?_ | refine zD fun _ => ?_ | refine zD0 ?_ | refine zN ?_ | refine zF0 ?_ | refine zX0 ?_ | refine z1 ?_ | refine z2 ?_ | refine z3 ?_ | refine z4 ?_ | refine z5 ?_ | refine z6 ?_ | refine z7 ?_ | refine z8 ?_ | refine y1 ?_ | refine y2 ?_ | refine y3 ?_ | refine y4 ?_ | refine y5 ?_ | refine y6 ?_ | refine y7 ?_ | refine y8 ?_ | refine Rt.p (fun _ => ?_) fun _ => ?_)
      | ((with_reducible apply w_ixM); (focus exact rfl); (focus exact rfl); case' hk => intro y hy) | ((with_reducible (first | apply w_val | apply q_ends)); (focus exact rfl)))
    rfl
  obtain ⟨h10, hhon⟩ := known_inv hk
  have hP : invP gs bs seats = if bsErr gs.length bs ≠ 0 then ([], 0, bsErr gs.length bs) else if inB seats 0 7 = true then ((bestI gs bs seats (2 ^ gs.length)).1, (bestI gs bs seats (2 ^ gs.length)).2, 0) else ([], 0, 2) := by
    rw [invP, if_neg (by omega), if_neg h20]
  refine RawC.walk (H := hint59 Try.prog) ir59 Try.func59 rfl rfl rfl ?_
  unfold ir59
  repeat' (first
    | with_reducible (first | refine Rd.p ?_ | refine zE ?_ | refine zE0 ?_)
    | with_reducible (first | refine zI fun y hy => ?_ | refine zL ?_ | refine zS ?_ | refine zA fun _ => ?_ | refine zV ?_ | refine zC ?_ | refine zG ?_ | refine zU ?_ | refine zG0 ?_ | refine zU0 ?_ | refine zF ?_)
    | ((with_reducible refine acall_id ?_); refine ACall.val hK rfl rfl ?_)
    | with_reducible (first | refine zX ?_ | refine zD fun _ => ?_ | refine zD0 ?_ | refine zN ?_ | refine zF0 ?_ | refine zX0 ?_ | refine z1 ?_ | refine z2 ?_ | refine z3 ?_ | refine z4 ?_ | refine z5 ?_ | refine z6 ?_ | refine z7 ?_ | refine z8 ?_ | refine y1 ?_ | refine y2 ?_ | refine y3 ?_ | refine y4 ?_ | refine y5 ?_ | refine y6 ?_ | refine y7 ?_ | refine y8 ?_ | refine Rt.p (fun _ => ?_) fun _ => ?_)
    | ((with_reducible apply w_ixM); (focus exact rfl); (focus exact rfl); case' hk => intro y hy) | ((with_reducible (first | apply w_val | apply q_ends)); (focus exact rfl)))
  refine w_loopK [0, 1, 2] [] (fun x : List Bond × List Bond => bs = x.1 ++ x.2 ∧ bsErr gs.length bs = bsErr gs.length x.2) (fun x => x.2.length) (fun x => [(10, .int .i64 x.1.length)]) (fun _ => []) ([], bs) ⟨rfl, rfl⟩ ⟨rfl, trivial⟩ trivial ?_
  rintro ⟨pre, post⟩ ⟨hp, hb⟩ e σ
  dsimp only at hp hb ⊢
  have hlen := congrArg List.length hp
  cases post with
  | cons c post =>
    simp only [List.length_append, List.length_cons] at hlen
    rw [bsErr] at hb
    repeat' (first
      | with_reducible (first | refine Rd.p ?_ | refine zE ?_ | refine zE0 ?_)
      | (refine w_ixP hp rfl rfl ?_)
      | with_reducible (first | refine zI fun y hy => ?_ | refine zL ?_ | refine zS ?_ | refine zA fun _ => ?_ | refine zV ?_ | refine zC ?_ | refine zG ?_ | refine zU ?_ | refine zG0 ?_ | refine zU0 ?_ | refine zF ?_)
      | ((with_reducible refine acall_id ?_); refine ACall.val (rcheckBond_c c gs.length (by omega)) rfl rfl ?_)
      | with_reducible (first | refine zX ?_ | refine zD fun _ => ?_ | refine zD0 ?_ | refine zN ?_ | refine zF0 ?_ | refine zX0 ?_ | refine z1 ?_ | refine z2 ?_ | refine z3 ?_ | refine z4 ?_ | refine z5 ?_ | refine z6 ?_ | refine z7 ?_ | refine z8 ?_ | refine y1 ?_ | refine y2 ?_ | refine y3 ?_ | refine y4 ?_ | refine y5 ?_ | refine y6 ?_ | refine y7 ?_ | refine y8 ?_ | refine Rt.p (fun _ => ?_) fun _ => ?_)
      | ((with_reducible apply w_ixM); (focus exact rfl); (focus exact rfl); case' hk => intro y hy) | ((with_reducible (first | apply w_val | apply q_ends)); (focus exact rfl)))
    · rename_i h
      rw [if_neg h] at hb
      rw [hP, hb, if_pos h]; rfl
    · rename_i h
      rw [if_pos (Decidable.not_not.1 h)] at hb
      refine zQ (pre ++ [c], post) ?_ ?_
      · dsimp only
        exact ⟨by rw [hp]; simp, hb⟩
      · simp
  | nil =>
    simp only [List.append_nil, List.length_append, List.length_nil] at hlen
    have hb' : bsErr gs.length bs = 0 := hb
    rw [if_neg (by omega)] at hP
    by_cases hin : inB seats 0 7 = true
    case neg =>
      rw [if_neg hin] at hP
      have hin' : inB seats 0 7 = false := by simpa using hin
      repeat' (first
        | with_reducible (first | refine Rd.p ?_ | refine zE ?_ | refine zE0 ?_)
        | with_reducible (first | refine zI fun y hy => ?_ | refine zL ?_ | refine zS ?_ | refine zA fun _ => ?_ | refine zV ?_ | refine zC ?_ | refine zG ?_ | refine zU ?_ | refine zG0 ?_ | refine zU0 ?_ | refine zF ?_)
        | ((with_reducible refine acall_id ?_); refine ACall.val (within_c seats 0 7) rfl rfl ?_)
        | with_reducible (first | refine zX ?_ | refine zD fun _ => ?_ | refine zD0 ?_ | refine zN ?_ | refine zF0 ?_ | refine zX0 ?_ | refine z1 ?_ | refine z2 ?_ | refine z3 ?_ | refine z4 ?_ | refine z5 ?_ | refine z6 ?_ | refine z7 ?_ | refine z8 ?_ | refine y1 ?_ | refine y2 ?_ | refine y3 ?_ | refine y4 ?_ | refine y5 ?_ | refine y6 ?_ | refine y7 ?_ | refine y8 ?_ | refine Rt.p (fun _ => ?_) fun _ => ?_)
        | ((with_reducible apply w_ixM); (focus exact rfl); (focus exact rfl); case' hk => intro y hy) | ((with_reducible (first | apply w_val | apply q_ends)); (focus exact rfl)))
      rw [hP]; rfl
    rw [if_pos hin] at hP
    have hsr := inB_t.1 hin
    have hex := bsErr_each hb'
    repeat' (first
      | with_reducible (first | refine Rd.p ?_ | refine zE ?_ | refine zE0 ?_)
      | with_reducible (first | refine zI fun y hy => ?_ | refine zL ?_ | refine zS ?_ | refine zA fun _ => ?_ | refine zV ?_ | refine zC ?_ | refine zG ?_ | refine zU ?_ | refine zG0 ?_ | refine zU0 ?_ | refine zF ?_)
      | ((with_reducible refine acall_id ?_); refine ACall.val (within_c seats 0 7) rfl rfl ?_)
      | with_reducible (first | refine zX ?_ | refine zD fun _ => ?_ | refine zD0 ?_ | refine zN ?_ | refine zF0 ?_ | refine zX0 ?_ | refine z1 ?_ | refine z2 ?_ | refine z3 ?_ | refine z4 ?_ | refine z5 ?_ | refine z6 ?_ | refine z7 ?_ | refine z8 ?_ | refine y1 ?_ | refine y2 ?_ | refine y3 ?_ | refine y4 ?_ | refine y5 ?_ | refine y6 ?_ | refine y7 ?_ | refine y8 ?_ | refine Rt.p (fun _ => ?_) fun _ => ?_)
      | ((with_reducible apply w_ixM); (focus exact rfl); (focus exact rfl); case' hk => intro y hy) | ((with_reducible (first | apply w_val | apply q_ends)); (focus exact rfl)))
    rename_i g0
    refine w_loopK [0, 1, 2, 13] [] (fun x : Nat × Nat => x.1 ≤ gs.length) (fun x => gs.length - x.1) (fun x => [(14, .int .i64 x.1), (12, .slc 1 (iR (numsL x.1)) (.own 12 x.2))]) (fun x => [(12, (x.2, .row []))]) (0, g0) (Nat.zero_le _) ⟨rfl, rfl, trivial⟩ ⟨rfl, trivial⟩ ?_
    rintro ⟨k, g⟩ hkn e2 σ2
    dsimp only at hkn ⊢
    have hnl := numsL_len k
    by_cases hke : k = gs.length
    case neg =>
      have hS := numsL_succ k
      repeat' (first
        | with_reducible (first | refine Rd.p ?_ | refine zE ?_ | refine zE0 ?_)
        | with_reducible (first | refine zI fun y hy => ?_ | refine zL ?_ | refine zS ?_ | refine zA fun _ => ?_ | refine zV ?_ | refine zC ?_ | refine zG ?_ | refine zU ?_ | refine zG0 ?_ | refine zU0 ?_ | refine zF ?_)
        | with_reducible (first | refine zX ?_ | refine zD fun _ => ?_ | refine zD0 ?_ | refine zN ?_ | refine zF0 ?_ | refine zX0 ?_ | refine z1 ?_ | refine z2 ?_ | refine z3 ?_ | refine z4 ?_ | refine z5 ?_ | refine z6 ?_ | refine z7 ?_ | refine z8 ?_ | refine y1 ?_ | refine y2 ?_ | refine y3 ?_ | refine y4 ?_ | refine y5 ?_ | refine y6 ?_ | refine y7 ?_ | refine y8 ?_ | refine Rt.p (fun _ => ?_) fun _ => ?_)
        | ((with_reducible apply w_ixM); (focus exact rfl); (focus exact rfl); case' hk => intro y hy) | ((with_reducible (first | apply w_val | apply q_ends)); (focus exact rfl)))
      refine zQ (k + 1, _) ?_ ?_
      · dsimp only; omega
      · dsimp only; omega
    subst hke
    repeat' (first
      | with_reducible (first | refine Rd.p ?_ | refine zE ?_ | refine zE0 ?_)
      | with_reducible (first | refine zI fun y hy => ?_ | refine zL ?_ | refine zS ?_ | refine zA fun _ => ?_ | refine zV ?_ | refine zC ?_ | refine zG ?_ | refine zU ?_ | refine zG0 ?_ | refine zU0 ?_ | refine zF ?_)
      | with_reducible (first | refine zX ?_ | refine zD fun _ => ?_ | refine zD0 ?_ | refine zN ?_ | refine zF0 ?_ | refine zX0 ?_ | refine z1 ?_ | refine z2 ?_ | refine z3 ?_ | refine z4 ?_ | refine z5 ?_ | refine z6 ?_ | refine z7 ?_ | refine z8 ?_ | refine y1 ?_ | refine y2 ?_ | refine y3 ?_ | refine y4 ?_ | refine y5 ?_ | refine y6 ?_ | refine y7 ?_ | refine y8 ?_ | refine Rt.p (fun _ => ?_) fun _ => ?_)
      | ((with_reducible apply w_ixM); (focus exact rfl); (focus exact rfl); case' hk => intro y hy) | ((with_reducible (first | apply w_val | apply q_ends)); (focus exact rfl)))
    refine w_loopK [0, 1, 2, 12] [12] (fun m : Nat => m ≤ gs.length ∧ (m : Int) ≤ seats) (fun m => gs.length - m) (fun m => [(16, .int .i64 ((m : Int) + 1)), (13, lstV ((chs (numsL gs.length) m).foldl (stepR gs bs) ([], 0)).1), (15, .int .i64 ((chs (numsL gs.length) m).foldl (stepR gs bs) ([], 0)).2)]) (fun _ => []) 0 ⟨Nat.zero_le _, hsr.1⟩ ⟨rfl, rfl, rfl, trivial⟩ trivial ?_
    rintro m ⟨hm1, hm2⟩ e3 σ3
    obtain ⟨o, c, hB⟩ : ∃ o c, (chs (numsL gs.length) m).foldl (stepR gs bs) ([], 0) = (o, c) := ⟨_, _, rfl⟩
    simp only [hB]
    have hfin : (m : Int) = min (gs.length : Int) seats → invP gs bs seats = (o, c, 0) := fun h => by
      have h1 := refI_spec gs bs seats m hsr.1 h
      rw [hB] at h1
      obtain ⟨e1, e2⟩ := h1.unique (bestI_spec gs bs seats hsr.1 (by omega))
      rw [hP, ← e1, ← e2]
    have hcont : (chs (numsL gs.length) (m + 1)).foldl (stepR gs bs) ([], 0) = (chK (numsL gs.length) (m + 1)).foldl (stepR gs bs) (o, c) := by
      rw [chs, List.foldl_append, hB]
    by_cases hgo : (m : Int) + 1 ≤ gs.length ∧ (m : Int) + 1 ≤ seats
    case neg =>
      have hF := hfin (by omega)
      cases o with
      | nil =>
        repeat' (first
          | with_reducible (first | refine Rd.p ?_ | refine zE ?_ | refine zE0 ?_)
          | with_reducible (first | refine zI fun y hy => ?_ | refine zL ?_ | refine zS ?_ | refine zA fun _ => ?_ | refine zV ?_ | refine zC ?_ | refine zG ?_ | refine zU ?_ | refine zG0 ?_ | refine zU0 ?_ | refine zF ?_)
          | with_reducible (first | refine zX ?_ | refine zD fun _ => ?_ | refine zD0 ?_ | refine zN ?_ | refine zF0 ?_ | refine zX0 ?_ | refine z1 ?_ | refine z2 ?_ | refine z3 ?_ | refine z4 ?_ | refine z5 ?_ | refine z6 ?_ | refine z7 ?_ | refine z8 ?_ | refine y1 ?_ | refine y2 ?_ | refine y3 ?_ | refine y4 ?_ | refine y5 ?_ | refine y6 ?_ | refine y7 ?_ | refine y8 ?_ | refine Rt.p (fun _ => ?_) fun _ => ?_)
          | ((with_reducible apply w_ixM); (focus exact rfl); (focus exact rfl); case' hk => intro y hy) | ((with_reducible (first | apply w_val | apply q_ends)); (focus exact rfl)))
        all_goals (rw [hF]; rfl)
      | cons o1 o2 =>
        repeat' (first
          | with_reducible (first | refine Rd.p ?_ | refine zE ?_ | refine zE0 ?_)
          | with_reducible (first | refine zI fun y hy => ?_ | refine zL ?_ | refine zS ?_ | refine zA fun _ => ?_ | refine zV ?_ | refine zC ?_ | refine zG ?_ | refine zU ?_ | refine zG0 ?_ | refine zU0 ?_ | refine zF ?_)
          | with_reducible (first | refine zX ?_ | refine zD fun _ => ?_ | refine zD0 ?_ | refine zN ?_ | refine zF0 ?_ | refine zX0 ?_ | refine z1 ?_ | refine z2 ?_ | refine z3 ?_ | refine z4 ?_ | refine z5 ?_ | refine z6 ?_ | refine z7 ?_ | refine z8 ?_ | refine y1 ?_ | refine y2 ?_ | refine y3 ?_ | refine y4 ?_ | refine y5 ?_ | refine y6 ?_ | refine y7 ?_ | refine y8 ?_ | refine Rt.p (fun _ => ?_) fun _ => ?_)
          | ((with_reducible apply w_ixM); (focus exact rfl); (focus exact rfl); case' hk => intro y hy) | ((with_reducible (first | apply w_val | apply q_ends)); (focus exact rfl)))
        all_goals (rw [hF]; rfl)
    have hrec : Fn0 Try.prog 98 [.slc 1 (iR (numsL gs.length)) .non, .int .i64 ((m : Int) + 1)] (fun v => v = .slc 1 (llR (chK (numsL gs.length) (m + 1))) .non) := by
      rw [← show ((m + 1 : Nat) : Int) = (m : Int) + 1 by omega]; exact chosen_c (m + 1) _ (by rw [numsL_len]; omega) (by omega)
    repeat' (first
      | with_reducible (first | refine Rd.p ?_ | refine zE ?_ | refine zE0 ?_)
      | with_reducible (first | refine zI fun y hy => ?_ | refine zL ?_ | refine zS ?_ | refine zA fun _ => ?_ | refine zV ?_ | refine zC ?_ | refine zG ?_ | refine zU ?_ | refine zG0 ?_ | refine zU0 ?_ | refine zF ?_)
      | ((with_reducible refine acall_id ?_); refine ACall.val hrec rfl rfl ?_)
      | with_reducible (first | refine zX ?_ | refine zD fun _ => ?_ | refine zD0 ?_ | refine zN ?_ | refine zF0 ?_ | refine zX0 ?_ | refine z1 ?_ | refine z2 ?_ | refine z3 ?_ | refine z4 ?_ | refine z5 ?_ | refine z6 ?_ | refine z7 ?_ | refine z8 ?_ | refine y1 ?_ | refine y2 ?_ | refine y3 ?_ | refine y4 ?_ | refine y5 ?_ | refine y6 ?_ | refine y7 ?_ | refine y8 ?_ | refine Rt.p (fun _ => ?_) fun _ => ?_)
      | ((with_reducible apply w_ixM); (focus exact rfl); (focus exact rfl); case' hk => intro y hy) | ((with_reducible (first | apply w_val | apply q_ends)); (focus exact rfl)))
    refine w_loopK [0, 1, 2, 12, 16, 17] [12] (fun x : List (List Int) × List (List Int) => chK (numsL gs.length) (m + 1) = x.1 ++ x.2) (fun x => x.2.length) (fun x => [(18, .int .i64 x.1.length), (13, lstV (x.1.foldl (stepR gs bs) (o, c)).1), (15, .int .i64 (x.1.foldl (stepR gs bs) (o, c)).2)]) (fun _ => []) ([], chK (numsL gs.length) (m + 1)) rfl ⟨rfl, rfl, rfl, trivial⟩ trivial ?_
    rintro ⟨p, q⟩ hq e4 σ4
    dsimp only at hq ⊢
    have hqlen := congrArg List.length hq
    have hcl : (chK (numsL gs.length) (m + 1)).length ≤ 65536 := Nat.le_trans (chK_len _ _) (by rw [hnl]; exact Nat.le_trans (Nat.pow_le_pow_right (by omega) (show gs.length ≤ 16 by omega)) (by decide))
    obtain ⟨o2, c2, hB2⟩ : ∃ o2 c2, p.foldl (stepR gs bs) (o, c) = (o2, c2) := ⟨_, _, rfl⟩
    simp only [hB2]
    cases q with
    | nil =>
      simp only [List.append_nil, List.length_append, List.length_nil] at hqlen hq
      have hS : (chs (numsL gs.length) (m + 1)).foldl (stepR gs bs) ([], 0) = (o2, c2) := by rw [hcont, hq, hB2]
      repeat' (first
        | with_reducible (first | refine Rd.p ?_ | refine zE ?_ | refine zE0 ?_)
        | with_reducible (first | refine zI fun y hy => ?_ | refine zL ?_ | refine zS ?_ | refine zA fun _ => ?_ | refine zV ?_ | refine zC ?_ | refine zG ?_ | refine zU ?_ | refine zG0 ?_ | refine zU0 ?_ | refine zF ?_)
        | with_reducible (first | refine zX ?_ | refine zD fun _ => ?_ | refine zD0 ?_ | refine zN ?_ | refine zF0 ?_ | refine zX0 ?_ | refine z1 ?_ | refine z2 ?_ | refine z3 ?_ | refine z4 ?_ | refine z5 ?_ | refine z6 ?_ | refine z7 ?_ | refine z8 ?_ | refine y1 ?_ | refine y2 ?_ | refine y3 ?_ | refine y4 ?_ | refine y5 ?_ | refine y6 ?_ | refine y7 ?_ | refine y8 ?_ | refine Rt.p (fun _ => ?_) fun _ => ?_)
        | ((with_reducible apply w_ixM); (focus exact rfl); (focus exact rfl); case' hk => intro y hy) | ((with_reducible (first | apply w_val | apply q_ends)); (focus exact rfl)))
      refine zQ (m + 1) ?_ ?_
      · omega
      · omega
    | cons y q =>
      simp only [List.length_append, List.length_cons] at hqlen
      have hym : y ∈ chK (numsL gs.length) (m + 1) := by rw [hq]; simp
      have hyl := chK_mem_len hym
      have hyi := chK_inc hym
      have hst : (p ++ [y]).foldl (stepR gs bs) (o, c) = stepR gs bs (o2, c2) y := by rw [List.foldl_append, hB2]; rfl
      repeat' (first
        | with_reducible (first | refine Rd.p ?_ | refine zE ?_ | refine zE0 ?_)
        | with_reducible (first | refine zI fun y hy => ?_ | refine zL ?_ | refine zS ?_ | refine zA fun _ => ?_ | refine zV ?_ | refine zC ?_ | refine zG ?_ | refine zU ?_ | refine zG0 ?_ | refine zU0 ?_ | refine zF ?_)
        | with_reducible (first | refine zX ?_ | refine zD fun _ => ?_ | refine zD0 ?_ | refine zN ?_ | refine zF0 ?_ | refine zX0 ?_ | refine z1 ?_ | refine z2 ?_ | refine z3 ?_ | refine z4 ?_ | refine z5 ?_ | refine z6 ?_ | refine z7 ?_ | refine z8 ?_ | refine y1 ?_ | refine y2 ?_ | refine y3 ?_ | refine y4 ?_ | refine y5 ?_ | refine y6 ?_ | refine y7 ?_ | refine y8 ?_ | refine Rt.p (fun _ => ?_) fun _ => ?_)
        | ((with_reducible apply w_ixM); (focus exact rfl); (focus exact rfl); case' hk => intro y hy) | ((with_reducible (first | apply w_val | apply q_ends)); (focus exact rfl)))
      refine w_loopK [0, 1, 2, 12, 13, 15, 16, 17, 18, 20] [12] (fun x : List Bond × List Bond => bs = x.1 ++ x.2) (fun x => x.2.length) (fun x => [(21, .int .i64 x.1.length), (19, .bool (x.1.all (bondL y)))]) (fun _ => []) ([], bs) rfl ⟨rfl, rfl, trivial⟩ trivial ?_
      rintro ⟨pb, qb⟩ hpb e5 σ5
      dsimp only at hpb ⊢
      have hpbl := congrArg List.length hpb
      cases qb with
      | cons b qb =>
        simp only [List.length_append, List.length_cons] at hpbl
        have hsn : (pb ++ [b]).all (bondL y) = (pb.all (bondL y) && bondL y b) := by simp
        repeat' (first
          | with_reducible (first | refine Rd.p ?_ | refine zE ?_ | refine zE0 ?_)
          | (first | refine w_ixP hq rfl rfl ?_ | refine w_ixP hpb rfl rfl ?_)
          | with_reducible (first | refine zI fun y hy => ?_ | refine zL ?_ | refine zS ?_ | refine zA fun _ => ?_ | refine zV ?_ | refine zC ?_ | refine zG ?_ | refine zU ?_ | refine zG0 ?_ | refine zU0 ?_ | refine zF ?_)
          | ((with_reducible refine acall_id ?_); refine ACall.val (Holds_c y b (by omega)) rfl rfl ?_)
          | with_reducible (first | refine zX ?_ | refine zD fun _ => ?_ | refine zD0 ?_ | refine zN ?_ | refine zF0 ?_ | refine zX0 ?_ | refine z1 ?_ | refine z2 ?_ | refine z3 ?_ | refine z4 ?_ | refine z5 ?_ | refine z6 ?_ | refine z7 ?_ | refine z8 ?_ | refine y1 ?_ | refine y2 ?_ | refine y3 ?_ | refine y4 ?_ | refine y5 ?_ | refine y6 ?_ | refine y7 ?_ | refine y8 ?_ | refine Rt.p (fun _ => ?_) fun _ => ?_)
          | ((with_reducible apply w_ixM); (focus exact rfl); (focus exact rfl); case' hk => intro y hy) | ((with_reducible (first | apply w_val | apply q_ends)); (focus exact rfl)))
        · rename_i h
          have hS : (pb ++ [b]).all (bondL y) = bondL y b := by rw [hsn, h]; rfl
          refine zQ (pb ++ [b], qb) (by dsimp only; rw [hpb]; simp) (by simp)
        · rename_i h
          have hS : (pb ++ [b]).all (bondL y) = false := by rw [hsn, h]; rfl
          refine zQ (pb ++ [b], qb) (by dsimp only; rw [hpb]; simp) (by simp)
      | nil =>
        simp only [List.append_nil, List.length_append, List.length_nil] at hpbl hpb
        subst hpb
        repeat' (first
          | with_reducible (first | refine Rd.p ?_ | refine zE ?_ | refine zE0 ?_)
          | with_reducible (first | refine zI fun y hy => ?_ | refine zL ?_ | refine zS ?_ | refine zA fun _ => ?_ | refine zV ?_ | refine zC ?_ | refine zG ?_ | refine zU ?_ | refine zG0 ?_ | refine zU0 ?_ | refine zF ?_)
          | with_reducible (first | refine zX ?_ | refine zD fun _ => ?_ | refine zD0 ?_ | refine zN ?_ | refine zF0 ?_ | refine zX0 ?_ | refine z1 ?_ | refine z2 ?_ | refine z3 ?_ | refine z4 ?_ | refine z5 ?_ | refine z6 ?_ | refine z7 ?_ | refine z8 ?_ | refine y1 ?_ | refine y2 ?_ | refine y3 ?_ | refine y4 ?_ | refine y5 ?_ | refine y6 ?_ | refine y7 ?_ | refine y8 ?_ | refine Rt.p (fun _ => ?_) fun _ => ?_)
          | ((with_reducible apply w_ixM); (focus exact rfl); (focus exact rfl); case' hk => intro y hy) | ((with_reducible (first | apply w_val | apply q_ends)); (focus exact rfl)))
        refine w_loopK [0, 1, 2, 12, 13, 15, 16, 17, 18, 19] [12] (fun x : List Int × List Int => y = x.1 ++ x.2) (fun x => x.2.length) (fun x => [(22, .int .i64 x.1.length), (20, .int .i64 (honS gs x.1))]) (fun _ => []) ([], y) rfl ⟨rfl, rfl, trivial⟩ trivial ?_
        rintro ⟨py, qy⟩ hpy e6 σ6
        dsimp only at hpy ⊢
        have hpyl := congrArg List.length hpy
        have hpb2 := honS_bd hhon py
        cases qy with
        | cons i qy =>
          simp only [List.length_append, List.length_cons] at hpyl
          have hi := hyi.bd i (by rw [hpy]; simp)
          have hw := honG_bd hhon i
          have hsn := honS_snoc gs i py
          have hwy : ∀ {y : Guest}, gs[i.toNat]? = some y → y.honour = honG gs i := fun h => by simp [honG, h]
          repeat' (first
            | with_reducible (first | refine Rd.p ?_ | refine zE ?_ | refine zE0 ?_)
            | (first | refine w_ixP hq rfl rfl ?_ | refine w_ixP hpy rfl rfl ?_)
            | with_reducible (first | refine zI fun y hy => ?_ | refine zL ?_ | refine zS ?_ | refine zA fun _ => ?_)
            | ((with_reducible apply w_ixM); (focus exact rfl); (focus exact rfl); (focus ((repeat' (with_reducible (first | exact trivial | apply And.intro))) <;> (first | (rw [hwy hy]; unfold inI; omega) | exact sd))); case' hk => intro y hy) | ((with_reducible apply w_slM); (focus exact rfl); (focus exact rfl); (focus exact rfl); (focus ((repeat' (with_reducible (first | exact trivial | apply And.intro))) <;> (first | (rw [hwy hy]; unfold inI; omega) | exact sd)))) | ((with_reducible apply w_val); (focus exact rfl); (focus ((repeat' (with_reducible (first | exact trivial | apply And.intro))) <;> (first | (rw [hwy hy]; unfold inI; omega) | exact sd)))) | ((with_reducible apply w_det); (focus exact fun _ => rfl); (focus ((repeat' (with_reducible (first | exact trivial | apply And.intro))) <;> (first | (rw [hwy hy]; unfold inI; omega) | exact sd))); case' hk => intro _) | ((with_reducible apply w_det0); (focus exact fun _ => rfl); (focus ((repeat' (with_reducible (first | exact trivial | apply And.intro))) <;> (first | (rw [hwy hy]; unfold inI; omega) | exact sd)))) | ((with_reducible apply q_ends); (focus exact rfl); (focus ((repeat' (with_reducible (first | exact trivial | apply And.intro))) <;> (first | (rw [hwy hy]; unfold inI; omega) | exact sd))))
            | with_reducible (first | refine zI fun y hy => ?_ | refine zL ?_ | refine zS ?_ | refine zA fun _ => ?_ | refine zV ?_ | refine zC ?_ | refine zG ?_ | refine zU ?_ | refine zG0 ?_ | refine zU0 ?_ | refine zF ?_)
            | with_reducible (first | refine zX ?_ | refine zD fun _ => ?_ | refine zD0 ?_ | refine zN ?_ | refine zF0 ?_ | refine zX0 ?_ | refine z1 ?_ | refine z2 ?_ | refine z3 ?_ | refine z4 ?_ | refine z5 ?_ | refine z6 ?_ | refine z7 ?_ | refine z8 ?_ | refine y1 ?_ | refine y2 ?_ | refine y3 ?_ | refine y4 ?_ | refine y5 ?_ | refine y6 ?_ | refine y7 ?_ | refine y8 ?_ | refine Rt.p (fun _ => ?_) fun _ => ?_)
            | ((with_reducible apply w_ixM); (focus exact rfl); (focus exact rfl); case' hk => intro y hy) | ((with_reducible (first | apply w_val | apply q_ends)); (focus exact rfl)))
          rw [hwy hy]
          refine zQ (py ++ [i], qy) ?_ ?_
          · dsimp only
            rw [hpy]; simp
          · simp
        | nil =>
          simp only [List.append_nil, List.length_append, List.length_nil] at hpyl hpy
          subst hpy
          repeat' (first
            | with_reducible (first | refine Rd.p ?_ | refine zE ?_ | refine zE0 ?_)
            | (refine w_ixP hq rfl rfl ?_)
            | with_reducible (first | refine zI fun y hy => ?_ | refine zL ?_ | refine zS ?_ | refine zA fun _ => ?_ | refine zV ?_ | refine zC ?_ | refine zG ?_ | refine zU ?_ | refine zG0 ?_ | refine zU0 ?_ | refine zF ?_)
            | with_reducible (first | refine zX ?_ | refine zD fun _ => ?_ | refine zD0 ?_ | refine zN ?_ | refine zF0 ?_ | refine zX0 ?_ | refine z1 ?_ | refine z2 ?_ | refine z3 ?_ | refine z4 ?_ | refine z5 ?_ | refine z6 ?_ | refine z7 ?_ | refine z8 ?_ | refine y1 ?_ | refine y2 ?_ | refine y3 ?_ | refine y4 ?_ | refine y5 ?_ | refine y6 ?_ | refine y7 ?_ | refine y8 ?_ | refine Rt.p (fun _ => ?_) fun _ => ?_)
            | ((with_reducible apply w_ixM); (focus exact rfl); (focus exact rfl); case' hk => intro y hy) | ((with_reducible (first | apply w_val | apply q_ends)); (focus exact rfl)))
          · rename_i h1 h2
            have hup : (p ++ [y]).foldl (stepR gs bs) (o, c) = (y, honS gs y) := by rw [hst, stepR, if_pos ⟨h1, h2⟩]
            have hne : y ≠ [] := by intro h; rw [h] at hyl; cases hyl
            refine q_loop (p ++ [y], q) ?_ ?_ (by exact ⟨(by rw [len_snoc]; rfl), (by rw [hup]; exact (lstV_ne hne).symm), (by rw [hup]; rfl), trivial⟩) (by repeat' (first | exact slots_nil | apply slots_cons | rfl | (rw [map_snoc]; rfl) | (rw [len_snoc]; rfl) | (rw [hS]; rfl) | (rw [hS, map_snoc]; rfl) | (refine int_eq ?_; (try dsimp only); omega) | (refine congrArg AV.bool ?_; simp_all; done))) (by repeat' (first | exact kept_nil | apply kept_cons | rfl)) (by repeat' (first | exact kept_nil | apply kept_cons | rfl))
            · dsimp only; rw [hq]; simp
            · simp
          · rename_i h1 h2
            have hS : (p ++ [y]).foldl (stepR gs bs) (o, c) = (o2, c2) := by rw [hst, stepR, if_neg (fun h => h2 h.2)]
            refine zQ (p ++ [y], q) ?_ ?_
            · dsimp only; rw [hq]; simp
            · simp
          · rename_i h1
            have hS : (p ++ [y]).foldl (stepR gs bs) (o, c) = (o2, c2) := by rw [hst, stepR, if_neg (fun h => by rw [h1] at h; cases h.1)]
            refine zQ (p ++ [y], q) ?_ ?_
            · dsimp only; rw [hq]; simp
            · simp
theorem Invite_c (gs : List Guest) (bs : List Bond) (seats : Int) (hl0 : gs.length < 1000) (hb0 : bs.length < 1000) (hs : ∀ g ∈ gs, g.name.size ≤ 1000) :
    Fn0 Try.prog 58 [.slc 5 (gR gs) .non, .slc 3 (bR bs) .non, .int .i64 seats] (fun v => v = .tup [.slc 1 (iR (invP gs bs seats).1) .non, .int .i64 (invP gs bs seats).2.1, .int .i64 (invP gs bs seats).2.2]) :=
  (Invite0_c gs bs seats hl0 hb0 hs).subV (Sub.tup (.cons (sub_lst _) (.cons (Sub.refl _) (.cons (Sub.refl _) .nil))))
theorem rInvite_c (gs : List Guest) (bs : List Bond) (seats : Int) (hl0 : gs.length < 1000) (hb0 : bs.length < 1000) (hs : ∀ g ∈ gs, g.name.size ≤ 1000) :
    Fn0 Try.prog 59 [.slc 5 (gR gs) .non, .slc 3 (bR bs) .non, .int .i64 seats] (fun v => v = .tup [.slc 1 (iR (invP gs bs seats).1) .non, .int .i64 (invP gs bs seats).2.1, .int .i64 (invP gs bs seats).2.2]) :=
  (rInvite0_c gs bs seats hl0 hb0 hs).subV (Sub.tup (.cons (sub_lst _) (.cons (Sub.refl _) (.cons (Sub.refl _) .nil))))
end Go.Abs
