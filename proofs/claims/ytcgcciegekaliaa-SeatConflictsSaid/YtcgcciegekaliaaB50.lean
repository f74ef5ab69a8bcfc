/- A part of the proofs of the laws of this seat: contracts of the functions that they reach, each proved of the program's form in Lean. No condition beyond those that each contract names. -/
import Derived.Test.YtcgcciegekaliaaB0
import Derived.Test.YtcgcciegekaliaaB2
import Derived.Test.YtcgcciegekaliaaB5
import Derived.Test.YtcgcciegekaliaaB8
import Derived.Test.YtcgcciegekaliaaB9
import Derived.Test.YtcgcciegekaliaaB10
import Derived.Test.YtcgcciegekaliaaB11
import Derived.Test.YtcgcciegekaliaaB12
import Derived.Test.YtcgcciegekaliaaB16
import Derived.Test.YtcgcciegekaliaaB20
import Derived.Test.YtcgcciegekaliaaB21
import Derived.Test.YtcgcciegekaliaaB22
import Derived.Test.YtcgcciegekaliaaB23
import Derived.Test.YtcgcciegekaliaaB34a
import Derived.Test.YtcgcciegekaliaaB37
import Derived.Test.YtcgcciegekaliaaB41
import Derived.Test.YtcgcciegekaliaaB41a
import Derived.Test.YtcgcciegekaliaaB48
set_option linter.unusedVariables false
set_option linter.unusedSimpArgs false
set_option maxRecDepth 20000
set_option maxHeartbeats 4000000
/-! ### Rules that exclude each other: the reference -/
namespace Go.Abs
open Go.Proofs
/-- aloeswood/aloeswoodref08.met -/
def ir99 : IFn :=
  ⟨19, [(4, none)], (.seq (.ops [⟨(some 4), none, (.mov (.k (.bool false)))⟩])
  (.seq (.seq (.ops [⟨(some 5), none, (.mov (.k (.int .i64 0)))⟩])
  (.blk 0 (.loop (.seq (.seq (.ops [⟨(some 6), none, (.mov (.t 5))⟩,
        ⟨(some 7), none, (.mov (.t 0))⟩,
        ⟨(some 8), none, (.len false (.t 7))⟩,
        ⟨(some 9), none, (.bin .lss (.t 6) (.t 8))⟩])
      (.cnd (.t 9)
        .skip
        (.exit 0)))
      (.seq (.blk 1 (.seq (.ops [⟨(some 12), none, (.mov (.t 1))⟩,
          ⟨(some 13), none, (.mov (.t 0))⟩,
          ⟨(some 14), none, (.mov (.t 5))⟩,
          ⟨(some 15), none, (.ixA 1 (.t 13) (.t 14))⟩,
          ⟨(some 16), none, (.ld 1 false (.t 15))⟩,
          ⟨(some 17), none, (.callF 88 [(.t 12), (.t 16)])⟩,
          ⟨(some 18), none, (.bin .geq (.t 17) (.k (.int .i64 0)))⟩])
        (.cnd (.t 18)
          (.seq (.ops [⟨(some 4), none, (.mov (.k (.bool true)))⟩])
          .ret)
          .skip)))
      (.ops [⟨(some 10), none, (.mov (.t 5))⟩,
        ⟨(some 11), none, (.bin .add (.t 10) (.k (.int .i64 1)))⟩,
        ⟨(some 5), none, (.mov (.t 11))⟩]))))))
  (.seq (.ops [⟨(some 4), none, (.mov (.k (.bool false)))⟩])
  .ret)))⟩
def hint99 (P : Program) : Hint := {}

/-- aloeswood/aloeswoodref08.listed -/
def ir97 : IFn :=
  ⟨44, [(4, none)], (.seq (.ops [⟨(some 4), none, (.mov (.k (.bool false)))⟩])
  (.seq (.seq (.ops [⟨(some 5), none, (.mov (.k (.int .i64 0)))⟩])
  (.blk 0 (.loop (.seq (.seq (.ops [⟨(some 8), none, (.mov (.t 5))⟩,
        ⟨(some 9), none, (.mov (.t 0))⟩,
        ⟨(some 10), none, (.len false (.t 9))⟩,
        ⟨(some 11), none, (.bin .lss (.t 8) (.t 10))⟩])
      (.cnd (.t 11)
        .skip
        (.exit 0)))
      (.seq (.blk 1 (.seq (.ops [⟨(some 14), none, (.mov (.t 0))⟩,
          ⟨(some 15), none, (.mov (.t 5))⟩,
          ⟨(some 16), none, (.ixA 1 (.t 14) (.t 15))⟩,
          ⟨(some 17), none, (.ld 1 false (.t 16))⟩,
          ⟨(some 18), none, (.len false (.t 17))⟩,
          ⟨(some 19), none, (.mov (.t 1))⟩,
          ⟨(some 20), none, (.len false (.t 19))⟩,
          ⟨(some 21), none, (.bin .eql (.t 18) (.t 20))⟩,
          ⟨(some 6), none, (.mov (.t 21))⟩])
        (.seq (.seq (.ops [⟨(some 7), none, (.mov (.k (.int .i64 0)))⟩])
        (.blk 2 (.loop (.seq (.seq (.ops [⟨(some 22), none, (.mov (.t 7))⟩,
              ⟨(some 23), none, (.mov (.t 1))⟩,
              ⟨(some 24), none, (.len false (.t 23))⟩,
              ⟨(some 25), none, (.bin .lss (.t 22) (.t 24))⟩,
              ⟨(some 26), none, (.mov (.t 25))⟩,
              ⟨(some 27), (some (26, true)), (.mov (.t 6))⟩,
              ⟨(some 28), none, (.pick (.t 26) (.t 27) (.k (.bool false)))⟩])
            (.cnd (.t 28)
              .skip
              (.exit 2)))
            (.seq (.blk 3 (.ops [⟨(some 31), none, (.mov (.t 0))⟩,
                ⟨(some 32), none, (.mov (.t 5))⟩,
                ⟨(some 33), none, (.ixA 1 (.t 31) (.t 32))⟩,
                ⟨(some 34), none, (.ld 1 false (.t 33))⟩,
                ⟨(some 35), none, (.mov (.t 7))⟩,
                ⟨(some 36), none, (.ixA 1 (.t 34) (.t 35))⟩,
                ⟨(some 37), none, (.ld 1 false (.t 36))⟩,
                ⟨(some 38), none, (.mov (.t 1))⟩,
                ⟨(some 39), none, (.mov (.t 7))⟩,
                ⟨(some 40), none, (.ixA 1 (.t 38) (.t 39))⟩,
                ⟨(some 41), none, (.ld 1 false (.t 40))⟩,
                ⟨(some 42), none, (.bin .eql (.t 37) (.t 41))⟩,
                ⟨(some 6), none, (.mov (.t 42))⟩]))
            (.ops [⟨(some 29), none, (.mov (.t 7))⟩,
              ⟨(some 30), none, (.bin .add (.t 29) (.k (.int .i64 1)))⟩,
              ⟨(some 7), none, (.mov (.t 30))⟩]))))))
        (.seq (.ops [⟨(some 43), none, (.mov (.t 6))⟩])
        (.cnd (.t 43)
          (.seq (.ops [⟨(some 4), none, (.mov (.k (.bool true)))⟩])
          .ret)
          .skip)))))
      (.ops [⟨(some 12), none, (.mov (.t 5))⟩,
        ⟨(some 13), none, (.bin .add (.t 12) (.k (.int .i64 1)))⟩,
        ⟨(some 5), none, (.mov (.t 13))⟩]))))))
  (.seq (.ops [⟨(some 4), none, (.mov (.k (.bool false)))⟩])
  .ret)))⟩
def hint97 (P : Program) : Hint := {}

/-- aloeswood/aloeswoodref08.Conflict -/
def ir54 : IFn :=
  ⟨109, [(2, none), (3, none)], (.seq (.ops [⟨(some 1), none, (.box 2 (.t 0))⟩,
    ⟨(some 2), none, (.mov (.k .nsl))⟩,
    ⟨(some 3), none, (.mov (.k (.int .i64 0)))⟩])
  (.seq (.seq (.ops [⟨(some 17), none, (.ld 2 true (.t 1))⟩,
    ⟨(some 18), none, (.callF 40 [(.t 17)])⟩,
    ⟨(some 4), none, (.mov (.t 18))⟩])
  (.seq (.ops [⟨(some 19), none, (.mov (.t 4))⟩,
    ⟨(some 20), none, (.bin .neq (.t 19) (.k (.int .i64 0)))⟩])
  (.cnd (.t 20)
    (.seq (.ops [⟨(some 21), none, (.mov (.t 4))⟩,
      ⟨(some 2), none, (.mov (.k .nsl))⟩,
      ⟨(some 3), none, (.mov (.t 21))⟩])
    .ret)
    .skip)))
  (.seq (.seq (.ops [⟨(some 22), none, (.ld 2 true (.t 1))⟩,
    ⟨(some 23), none, (.callF 93 [(.t 22)])⟩,
    ⟨(some 24), none, (.len false (.t 23))⟩,
    ⟨(some 25), none, (.bin .gtr (.t 24) (.k (.int .i64 0)))⟩])
  (.cnd (.t 25)
    (.seq (.ops [⟨(some 2), none, (.mov (.k .nsl))⟩,
      ⟨(some 3), none, (.mov (.k (.int .i64 7)))⟩])
    .ret)
    .skip))
  (.seq (.ops [⟨(some 5), none, (.nil 1 5)⟩])
  (.seq (.seq (.ops [⟨(some 6), none, (.mov (.k (.int .i64 0)))⟩])
  (.blk 0 (.loop (.seq (.seq (.ops [⟨(some 26), none, (.mov (.t 6))⟩,
        ⟨(some 27), none, (.flA 1 (.t 1))⟩,
        ⟨(some 28), none, (.ld 1 false (.t 27))⟩,
        ⟨(some 29), none, (.len false (.t 28))⟩,
        ⟨(some 30), none, (.bin .lss (.t 26) (.t 29))⟩])
      (.cnd (.t 30)
        .skip
        (.exit 0)))
      (.seq (.blk 1 (.seq (.ops [⟨(some 33), none, (.flA 1 (.t 1))⟩,
          ⟨(some 34), none, (.ld 1 false (.t 33))⟩,
          ⟨(some 35), none, (.mov (.t 6))⟩,
          ⟨(some 36), none, (.ixA 4 (.t 34) (.t 35))⟩,
          ⟨(some 37), none, (.flA 3 (.t 36))⟩,
          ⟨(some 38), none, (.ld 1 false (.t 37))⟩,
          ⟨(some 39), none, (.bin .eql (.t 38) (.k (.int .i64 0)))⟩])
        (.cnd (.t 39)
          (.ops [⟨(some 40), none, (.mov (.t 5))⟩,
            ⟨(some 41), none, (.mov (.t 6))⟩,
            ⟨(some 42), none, (.bsl 1 [[(.int .i64 0)]] [(0, (.t 41))])⟩,
            ⟨(some 43), none, (.app 1 8 (.t 40) (.t 42) 5)⟩,
            ⟨(some 5), none, (.mov (.t 43))⟩])
          .skip)))
      (.ops [⟨(some 31), none, (.mov (.t 6))⟩,
        ⟨(some 32), none, (.bin .add (.t 31) (.k (.int .i64 1)))⟩,
        ⟨(some 6), none, (.mov (.t 32))⟩]))))))
  (.seq (.ops [⟨(some 7), none, (.nil 1 7)⟩])
  (.seq (.ops [⟨(some 44), none, (.flA 0 (.t 1))⟩,
    ⟨(some 45), none, (.ld 1 false (.t 44))⟩,
    ⟨(some 46), none, (.len false (.t 45))⟩,
    ⟨(some 47), none, (.callF 49 [(.t 46), (.k .nsl)])⟩,
    ⟨(some 8), none, (.mov (.t 47))⟩])
  (.seq (.seq (.ops [⟨(some 9), none, (.mov (.k (.int .i64 0)))⟩])
  (.blk 2 (.loop (.seq (.seq (.ops [⟨(some 48), none, (.mov (.t 9))⟩,
        ⟨(some 49), none, (.mov (.t 8))⟩,
        ⟨(some 50), none, (.len false (.t 49))⟩,
        ⟨(some 51), none, (.bin .lss (.t 48) (.t 50))⟩])
      (.cnd (.t 51)
        .skip
        (.exit 2)))
      (.seq (.blk 3 (.seq (.ops [⟨(some 55), none, (.ld 2 true (.t 1))⟩,
          ⟨(some 56), none, (.mov (.t 8))⟩,
          ⟨(some 57), none, (.mov (.t 9))⟩,
          ⟨(some 58), none, (.ixA 1 (.t 56) (.t 57))⟩,
          ⟨(some 59), none, (.ld 1 false (.t 58))⟩,
          ⟨(some 60), none, (.callF 89 [(.t 55), (.t 59)])⟩,
          ⟨(some 54), none, (.mov (.t 60))⟩,
          ⟨(some 61), none, (.ext 0 (.t 54))⟩,
          ⟨(some 62), none, (.ext 1 (.t 54))⟩,
          ⟨(some 10), none, (.mov (.t 61))⟩,
          ⟨(some 11), none, (.mov (.t 62))⟩])
        (.seq (.ops [⟨(some 63), none, (.mov (.t 7))⟩,
          ⟨(some 64), none, (.mov (.t 10))⟩,
          ⟨(some 65), none, (.callF 97 [(.t 63), (.t 64)])⟩,
          ⟨(some 66), none, (.not (.t 65))⟩])
        (.cnd (.t 66)
          (.ops [⟨(some 67), none, (.mov (.t 7))⟩,
            ⟨(some 68), none, (.mov (.t 10))⟩,
            ⟨(some 69), none, (.bsl 1 [[.nsl]] [(0, (.t 68))])⟩,
            ⟨(some 70), none, (.app 1 24 (.t 67) (.t 69) 7)⟩,
            ⟨(some 7), none, (.mov (.t 70))⟩])
          .skip))))
      (.ops [⟨(some 52), none, (.mov (.t 9))⟩,
        ⟨(some 53), none, (.bin .add (.t 52) (.k (.int .i64 1)))⟩,
        ⟨(some 9), none, (.mov (.t 53))⟩]))))))
  (.seq (.seq (.ops [⟨(some 12), none, (.mov (.k (.int .i64 1)))⟩])
  (.blk 4 (.loop (.seq (.seq (.ops [⟨(some 71), none, (.mov (.t 12))⟩,
        ⟨(some 72), none, (.mov (.t 5))⟩,
        ⟨(some 73), none, (.len false (.t 72))⟩,
        ⟨(some 74), none, (.bin .leq (.t 71) (.t 73))⟩])
      (.cnd (.t 74)
        .skip
        (.exit 4)))
      (.seq (.blk 5 (.seq (.ops [⟨(some 77), none, (.mov (.t 5))⟩,
          ⟨(some 78), none, (.mov (.t 12))⟩,
          ⟨(some 79), none, (.callF 98 [(.t 77), (.t 78)])⟩,
          ⟨(some 13), none, (.mov (.t 79))⟩])
        (.seq (.ops [⟨(some 14), none, (.mov (.k (.int .i64 0)))⟩])
        (.blk 6 (.loop (.seq (.seq (.ops [⟨(some 80), none, (.mov (.t 14))⟩,
              ⟨(some 81), none, (.mov (.t 13))⟩,
              ⟨(some 82), none, (.len false (.t 81))⟩,
              ⟨(some 83), none, (.bin .lss (.t 80) (.t 82))⟩])
            (.cnd (.t 83)
              .skip
              (.exit 6)))
            (.seq (.blk 7 (.seq (.ops [⟨(some 15), none, (.mov (.k (.bool true)))⟩])
              (.seq (.seq (.ops [⟨(some 16), none, (.mov (.k (.int .i64 0)))⟩])
              (.blk 8 (.loop (.seq (.seq (.ops [⟨(some 86), none, (.mov (.t 16))⟩,
                    ⟨(some 87), none, (.mov (.t 7))⟩,
                    ⟨(some 88), none, (.len false (.t 87))⟩,
                    ⟨(some 89), none, (.bin .lss (.t 86) (.t 88))⟩])
                  (.cnd (.t 89)
                    .skip
                    (.exit 8)))
                  (.seq (.blk 9 (.ops [⟨(some 92), none, (.mov (.t 15))⟩,
                      ⟨(some 93), none, (.mov (.t 92))⟩,
                      ⟨(some 94), (some (93, true)), (.mov (.t 13))⟩,
                      ⟨(some 95), (some (93, true)), (.mov (.t 14))⟩,
                      ⟨(some 96), (some (93, true)), (.ixA 1 (.t 94) (.t 95))⟩,
                      ⟨(some 97), (some (93, true)), (.ld 1 false (.t 96))⟩,
                      ⟨(some 98), (some (93, true)), (.mov (.t 7))⟩,
                      ⟨(some 99), (some (93, true)), (.mov (.t 16))⟩,
                      ⟨(some 100), (some (93, true)), (.ixA 1 (.t 98) (.t 99))⟩,
                      ⟨(some 101), (some (93, true)), (.ld 1 false (.t 100))⟩,
                      ⟨(some 102), (some (93, true)), (.callF 99 [(.t 97), (.t 101)])⟩,
                      ⟨(some 103), none, (.pick (.t 93) (.t 102) (.k (.bool false)))⟩,
                      ⟨(some 15), none, (.mov (.t 103))⟩]))
                  (.ops [⟨(some 90), none, (.mov (.t 16))⟩,
                    ⟨(some 91), none, (.bin .add (.t 90) (.k (.int .i64 1)))⟩,
                    ⟨(some 16), none, (.mov (.t 91))⟩]))))))
              (.seq (.ops [⟨(some 104), none, (.mov (.t 15))⟩])
              (.cnd (.t 104)
                (.seq (.ops [⟨(some 105), none, (.mov (.t 13))⟩,
                  ⟨(some 106), none, (.mov (.t 14))⟩,
                  ⟨(some 107), none, (.ixA 1 (.t 105) (.t 106))⟩,
                  ⟨(some 108), none, (.ld 1 false (.t 107))⟩,
                  ⟨(some 2), none, (.mov (.t 108))⟩,
                  ⟨(some 3), none, (.mov (.k (.int .i64 0)))⟩])
                .ret)
                .skip)))))
            (.ops [⟨(some 84), none, (.mov (.t 14))⟩,
              ⟨(some 85), none, (.bin .add (.t 84) (.k (.int .i64 1)))⟩,
              ⟨(some 14), none, (.mov (.t 85))⟩]))))))))
      (.ops [⟨(some 75), none, (.mov (.t 12))⟩,
        ⟨(some 76), none, (.bin .add (.t 75) (.k (.int .i64 1)))⟩,
        ⟨(some 12), none, (.mov (.t 76))⟩]))))))
  (.seq (.ops [⟨(some 2), none, (.mov (.k .nsl))⟩,
    ⟨(some 3), none, (.mov (.k (.int .i64 7)))⟩])
  .ret))))))))))⟩
def hint54 (P : Program) : Hint := { site := [(43, 5), (70, 7)], nils := [(5, 1), (7, 1)], frz := [], wr := [] }

theorem met_c (a b : List Int) (ha : a.length < 1000000) (hb : b.length < 1000000) : Fn0 Try.prog 99 [.slc 1 (iR a) .non, .slc 1 (iR b) .non] (fun v => v = .bool (metB a b)) := by
  refine RawC.walk (H := hint99 Try.prog) ir99 Try.func99 rfl rfl rfl ?_
  unfold ir99
  repeat' (first
    | with_reducible (first | refine Rd.p ?_ | refine zE ?_ | refine zE0 ?_)
    | with_reducible (first | refine zI fun y hy => ?_ | refine zL ?_ | refine zS ?_ | refine zA fun _ => ?_ | refine zV ?_ | refine zC ?_ | refine zG ?_ | refine zU ?_ | refine zG0 ?_ | refine zU0 ?_ | refine zF ?_)
    | with_reducible (first | refine zX ?_ | refine zD fun _ => ?_ | refine zD0 ?_ | refine zN ?_ | refine zF0 ?_ | refine zX0 ?_ | refine z1 ?_ | refine z2 ?_ | refine z3 ?_ | refine z4 ?_ | refine z5 ?_ | refine z6 ?_ | refine z7 ?_ | refine z8 ?_ | refine y1 ?_ | refine y2 ?_ | refine y3 ?_ | refine y4 ?_ | refine y5 ?_ | refine y6 ?_ | refine y7 ?_ | refine y8 ?_ | refine Rt.p (fun _ => ?_) fun _ => ?_)
    | ((with_reducible apply w_ixM); (focus exact rfl); (focus exact rfl); case' hk => intro y hy) | ((with_reducible (first | apply w_val | apply q_ends)); (focus exact rfl)))
  refine w_loopK [0, 1] [] (fun x : List Int × List Int => a = x.1 ++ x.2 ∧ metB a b = metB x.2 b) (fun x => x.2.length) (fun x => [(5, .int .i64 x.1.length)]) (fun _ => []) ([], a) ⟨rfl, rfl⟩ ⟨rfl, trivial⟩ trivial ?_
  rintro ⟨pre, post⟩ ⟨hp, hm⟩ e σ
  dsimp only at hp hm ⊢
  have hlen := congrArg List.length hp
  cases post with
  | nil =>
    simp only [List.append_nil, List.length_append, List.length_nil] at hlen
    repeat' (first
      | with_reducible (first | refine Rd.p ?_ | refine zE ?_ | refine zE0 ?_)
      | with_reducible (first | refine zI fun y hy => ?_ | refine zL ?_ | refine zS ?_ | refine zA fun _ => ?_ | refine zV ?_ | refine zC ?_ | refine zG ?_ | refine zU ?_ | refine zG0 ?_ | refine zU0 ?_ | refine zF ?_)
      | with_reducible (first | refine zX ?_ | refine zD fun _ => ?_ | refine zD0 ?_ | refine zN ?_ | refine zF0 ?_ | refine zX0 ?_ | refine z1 ?_ | refine z2 ?_ | refine z3 ?_ | refine z4 ?_ | refine z5 ?_ | refine z6 ?_ | refine z7 ?_ | refine z8 ?_ | refine y1 ?_ | refine y2 ?_ | refine y3 ?_ | refine y4 ?_ | refine y5 ?_ | refine y6 ?_ | refine y7 ?_ | refine y8 ?_ | refine Rt.p (fun _ => ?_) fun _ => ?_)
      | ((with_reducible apply w_ixM); (focus exact rfl); (focus exact rfl); case' hk => intro y hy) | ((with_reducible (first | apply w_val | apply q_ends)); (focus exact rfl)))
    rw [hm]; rfl
  | cons x post =>
    simp only [List.length_append, List.length_cons] at hlen
    have hs := rseat_c b x hb
    have hm2 : metB (x :: post) b = (decide (x ∈ b) || metB post b) := rfl
    rw [hm2] at hm
    repeat' (first
      | with_reducible (first | refine Rd.p ?_ | refine zE ?_ | refine zE0 ?_)
      | (refine w_ixP hp rfl rfl ?_)
      | with_reducible (first | refine zI fun y hy => ?_ | refine zL ?_ | refine zS ?_ | refine zA fun _ => ?_ | refine zV ?_ | refine zC ?_ | refine zG ?_ | refine zU ?_ | refine zG0 ?_ | refine zU0 ?_ | refine zF ?_)
      | ((with_reducible refine acall_id ?_); refine ACall.val hs rfl rfl ?_)
      | with_reducible (first | refine zX ?_ | refine zD fun _ => ?_ | refine zD0 ?_ | refine zN ?_ | refine zF0 ?_ | refine zX0 ?_ | refine z1 ?_ | refine z2 ?_ | refine z3 ?_ | refine z4 ?_ | refine z5 ?_ | refine z6 ?_ | refine z7 ?_ | refine z8 ?_ | refine y1 ?_ | refine y2 ?_ | refine y3 ?_ | refine y4 ?_ | refine y5 ?_ | refine y6 ?_ | refine y7 ?_ | refine y8 ?_ | refine Rt.p (fun _ => ?_) fun _ => ?_)
      | ((with_reducible apply w_ixM); (focus exact rfl); (focus exact rfl); case' hk => intro y hy) | ((with_reducible (first | apply w_val | apply q_ends)); (focus exact rfl)))
    · rename_i h
      rw [hm, decide_eq_true (idx_mem.1 h)]; rfl
    · rename_i h
      rw [decide_eq_false (fun hc => h (idx_mem.2 hc)), Bool.false_or] at hm
      refine zQ (pre ++ [x], post) ?_ ?_
      · exact ⟨by rw [hp]; simp, hm⟩
      · simp
theorem eq_take {a b : List Int} : ∀ {k : Nat}, a.length = b.length → k = b.length → a.take k = b.take k → a = b := by
  intro k h1 h2 h3
  rw [List.take_of_length_le (by omega), List.take_of_length_le (by omega)] at h3; exact h3
theorem listed_c (ls : List (List Int)) (l : List Int) (h1 : ls.length < 1000000) (h2 : l.length < 1000000) (h3 : ∀ x ∈ ls, x.length < 1000000) : Fn0 Try.prog 97 [.slc 1 (llR ls) .non, .slc 1 (iR l) .non] (fun v => v = .bool (decide (l ∈ ls))) := by
  refine RawC.walk (H := hint97 Try.prog) ir97 Try.func97 rfl rfl rfl ?_
  unfold ir97
  repeat' (first
    | with_reducible (first | refine Rd.p ?_ | refine zE ?_ | refine zE0 ?_)
    | with_reducible (first | refine zI fun y hy => ?_ | refine zL ?_ | refine zS ?_ | refine zA fun _ => ?_ | refine zV ?_ | refine zC ?_ | refine zG ?_ | refine zU ?_ | refine zG0 ?_ | refine zU0 ?_ | refine zF ?_)
    | with_reducible (first | refine zX ?_ | refine zD fun _ => ?_ | refine zD0 ?_ | refine zN ?_ | refine zF0 ?_ | refine zX0 ?_ | refine z1 ?_ | refine z2 ?_ | refine z3 ?_ | refine z4 ?_ | refine z5 ?_ | refine z6 ?_ | refine z7 ?_ | refine z8 ?_ | refine y1 ?_ | refine y2 ?_ | refine y3 ?_ | refine y4 ?_ | refine y5 ?_ | refine y6 ?_ | refine y7 ?_ | refine y8 ?_ | refine Rt.p (fun _ => ?_) fun _ => ?_)
    | ((with_reducible apply w_ixM); (focus exact rfl); (focus exact rfl); case' hk => intro y hy) | ((with_reducible (first | apply w_val | apply q_ends)); (focus exact rfl)))
  refine w_loopK [0, 1] [] (fun x : List (List Int) × List (List Int) => ls = x.1 ++ x.2 ∧ l ∉ x.1) (fun x => x.2.length) (fun x => [(5, .int .i64 x.1.length)]) (fun _ => []) ([], ls) ⟨rfl, by simp⟩ ⟨rfl, trivial⟩ trivial ?_
  rintro ⟨pre, post⟩ ⟨hp, hm⟩ e σ
  dsimp only at hp hm ⊢
  have hlen := congrArg List.length hp
  cases post with
  | nil =>
    simp only [List.append_nil, List.length_append, List.length_nil] at hlen hp
    repeat' (first
      | with_reducible (first | refine Rd.p ?_ | refine zE ?_ | refine zE0 ?_)
      | with_reducible (first | refine zI fun y hy => ?_ | refine zL ?_ | refine zS ?_ | refine zA fun _ => ?_ | refine zV ?_ | refine zC ?_ | refine zG ?_ | refine zU ?_ | refine zG0 ?_ | refine zU0 ?_ | refine zF ?_)
      | with_reducible (first | refine zX ?_ | refine zD fun _ => ?_ | refine zD0 ?_ | refine zN ?_ | refine zF0 ?_ | refine zX0 ?_ | refine z1 ?_ | refine z2 ?_ | refine z3 ?_ | refine z4 ?_ | refine z5 ?_ | refine z6 ?_ | refine z7 ?_ | refine z8 ?_ | refine y1 ?_ | refine y2 ?_ | refine y3 ?_ | refine y4 ?_ | refine y5 ?_ | refine y6 ?_ | refine y7 ?_ | refine y8 ?_ | refine Rt.p (fun _ => ?_) fun _ => ?_)
      | ((with_reducible apply w_ixM); (focus exact rfl); (focus exact rfl); case' hk => intro y hy) | ((with_reducible (first | apply w_val | apply q_ends)); (focus exact rfl)))
    rw [decide_eq_false (by rw [hp]; exact hm)]; rfl
  | cons a post =>
    simp only [List.length_append, List.length_cons] at hlen
    have ha := h3 a (by rw [hp]; simp)
    repeat' (first
      | with_reducible (first | refine Rd.p ?_ | refine zE ?_ | refine zE0 ?_)
      | (refine w_ixP hp rfl rfl ?_)
      | with_reducible (first | refine zI fun y hy => ?_ | refine zL ?_ | refine zS ?_ | refine zA fun _ => ?_ | refine zV ?_ | refine zC ?_ | refine zG ?_ | refine zU ?_ | refine zG0 ?_ | refine zU0 ?_ | refine zF ?_)
      | with_reducible (first | refine zX ?_ | refine zD fun _ => ?_ | refine zD0 ?_ | refine zN ?_ | refine zF0 ?_ | refine zX0 ?_ | refine z1 ?_ | refine z2 ?_ | refine z3 ?_ | refine z4 ?_ | refine z5 ?_ | refine z6 ?_ | refine z7 ?_ | refine z8 ?_ | refine y1 ?_ | refine y2 ?_ | refine y3 ?_ | refine y4 ?_ | refine y5 ?_ | refine y6 ?_ | refine y7 ?_ | refine y8 ?_ | refine Rt.p (fun _ => ?_) fun _ => ?_)
      | ((with_reducible apply w_ixM); (focus exact rfl); (focus exact rfl); case' hk => intro y hy) | ((with_reducible (first | apply w_val | apply q_ends)); (focus exact rfl)))
    refine w_loopK [0, 1, 5] [] (fun y : List Int × List Int × List Int × Bool => (y.2.2.2 = true → a = y.1 ++ y.2.1 ∧ l = y.1 ++ y.2.2.1 ∧ y.2.1.length = y.2.2.1.length) ∧ (y.2.2.2 = false → a ≠ l ∧ y.1.length ≤ l.length)) (fun y => l.length - y.1.length) (fun y => [(7, .int .i64 y.1.length), (6, .bool y.2.2.2)]) (fun _ => []) ([], a, l, decide ((a.length : Int) = l.length)) ⟨fun h => ⟨rfl, rfl, by have := of_decide_eq_true h; dsimp only; omega⟩, fun h => ⟨fun e => by rw [e] at h; simp at h, by simp⟩⟩ ⟨rfl, rfl, trivial⟩ trivial ?_
    rintro ⟨p, aq, lq, b⟩ ⟨hb1, hb2⟩ e2 σ2
    dsimp only at hb1 hb2 ⊢
    cases b with
    | false =>
      have hne := (hb2 rfl).1
      repeat' (first
        | with_reducible (first | refine Rd.p ?_ | refine zE ?_ | refine zE0 ?_)
        | with_reducible (first | refine zI fun y hy => ?_ | refine zL ?_ | refine zS ?_ | refine zA fun _ => ?_ | refine zV ?_ | refine zC ?_ | refine zG ?_ | refine zU ?_ | refine zG0 ?_ | refine zU0 ?_ | refine zF ?_)
        | with_reducible (first | refine zX ?_ | refine zD fun _ => ?_ | refine zD0 ?_ | refine zN ?_ | refine zF0 ?_ | refine zX0 ?_ | refine z1 ?_ | refine z2 ?_ | refine z3 ?_ | refine z4 ?_ | refine z5 ?_ | refine z6 ?_ | refine z7 ?_ | refine z8 ?_ | refine y1 ?_ | refine y2 ?_ | refine y3 ?_ | refine y4 ?_ | refine y5 ?_ | refine y6 ?_ | refine y7 ?_ | refine y8 ?_ | refine Rt.p (fun _ => ?_) fun _ => ?_)
        | ((with_reducible apply w_ixM); (focus exact rfl); (focus exact rfl); case' hk => intro y hy) | ((with_reducible (first | apply w_val | apply q_ends)); (focus exact rfl)))
      all_goals
        refine zQ (pre ++ [a], post) ?_ ?_
        · exact ⟨by rw [hp]; simp, fun h => by rcases List.mem_append.1 h with h | h <;> first | exact hm h | (simp at h; exact hne h.symm)⟩
        · simp
    | true =>
      obtain ⟨e1, e3, e4⟩ := hb1 rfl
      have l1 := congrArg List.length e1
      have l3 := congrArg List.length e3
      rw [List.length_append] at l1 l3
      cases lq with
      | nil =>
        have : aq = [] := List.length_eq_zero_iff.1 (by simpa using e4)
        subst this
        rw [List.length_nil] at l3
        repeat' (first
          | with_reducible (first | refine Rd.p ?_ | refine zE ?_ | refine zE0 ?_)
          | with_reducible (first | refine zI fun y hy => ?_ | refine zL ?_ | refine zS ?_ | refine zA fun _ => ?_ | refine zV ?_ | refine zC ?_ | refine zG ?_ | refine zU ?_ | refine zG0 ?_ | refine zU0 ?_ | refine zF ?_)
          | with_reducible (first | refine zX ?_ | refine zD fun _ => ?_ | refine zD0 ?_ | refine zN ?_ | refine zF0 ?_ | refine zX0 ?_ | refine z1 ?_ | refine z2 ?_ | refine z3 ?_ | refine z4 ?_ | refine z5 ?_ | refine z6 ?_ | refine z7 ?_ | refine z8 ?_ | refine y1 ?_ | refine y2 ?_ | refine y3 ?_ | refine y4 ?_ | refine y5 ?_ | refine y6 ?_ | refine y7 ?_ | refine y8 ?_ | refine Rt.p (fun _ => ?_) fun _ => ?_)
          | ((with_reducible apply w_ixM); (focus exact rfl); (focus exact rfl); case' hk => intro y hy) | ((with_reducible (first | apply w_val | apply q_ends)); (focus exact rfl)))
        rw [decide_eq_true (by rw [hp]; simp [e1, e3])]; rfl
      | cons y lq =>
        cases aq with
        | nil => simp at e4
        | cons x aq =>
          rw [List.length_cons] at l1 l3
          repeat' (first
            | with_reducible (first | refine Rd.p ?_ | refine zE ?_ | refine zE0 ?_)
            | (first | refine w_ixP hp rfl rfl ?_ | refine w_ixP e1 rfl rfl ?_ | refine w_ixP e3 rfl rfl ?_)
            | with_reducible (first | refine zI fun y hy => ?_ | refine zL ?_ | refine zS ?_ | refine zA fun _ => ?_ | refine zV ?_ | refine zC ?_ | refine zG ?_ | refine zU ?_ | refine zG0 ?_ | refine zU0 ?_ | refine zF ?_)
            | with_reducible (first | refine zX ?_ | refine zD fun _ => ?_ | refine zD0 ?_ | refine zN ?_ | refine zF0 ?_ | refine zX0 ?_ | refine z1 ?_ | refine z2 ?_ | refine z3 ?_ | refine z4 ?_ | refine z5 ?_ | refine z6 ?_ | refine z7 ?_ | refine z8 ?_ | refine y1 ?_ | refine y2 ?_ | refine y3 ?_ | refine y4 ?_ | refine y5 ?_ | refine y6 ?_ | refine y7 ?_ | refine y8 ?_ | refine Rt.p (fun _ => ?_) fun _ => ?_)
            | ((with_reducible apply w_ixM); (focus exact rfl); (focus exact rfl); case' hk => intro y hy) | ((with_reducible (first | apply w_val | apply q_ends)); (focus exact rfl)))
          refine q_loop (p ++ [x], aq, lq, decide (x = y)) ⟨fun h => ?_, fun h => ?_⟩ (by simp; omega) ⟨(by rw [len_snoc]; rfl), rfl, trivial⟩ (by repeat' (first | exact slots_nil | apply slots_cons | rfl | (rw [map_snoc]; rfl) | (rw [len_snoc]; rfl) | (rw [hS]; rfl) | (rw [hS, map_snoc]; rfl) | (refine int_eq ?_; (try dsimp only); omega) | (refine congrArg AV.bool ?_; simp_all; done))) (by repeat' (first | exact kept_nil | apply kept_cons | rfl)) (by repeat' (first | exact kept_nil | apply kept_cons | rfl))
          · have hxy := of_decide_eq_true h
            subst hxy
            exact ⟨by rw [e1]; simp, by rw [e3]; simp, by simpa using e4⟩
          · have hxy := of_decide_eq_false h
            refine ⟨fun he => ?_, by simp; omega⟩
            rw [e1, e3] at he
            have := List.append_cancel_left he
            simp at this
            exact hxy this.1
theorem plcF_len (p : Rule → Bool) (rs : List Rule) : (plcF p 0 rs).length ≤ rs.length := by
  rw [plcF_filter, List.length_map]
  have := List.length_filter_le (fun k => ((rs[k - 0]?).map p).getD false) (List.range' 0 rs.length)
  rwa [List.length_range'] at this
theorem chs_le (l : List Int) {m n : Nat} (h : m ≤ n) : ∃ s, chs l n = chs l m ++ s := by
  induction n with
  | zero => exact ⟨[], by rw [show m = 0 by omega]; simp⟩
  | succ n ih =>
    by_cases e : m = n + 1
    · subst e; exact ⟨[], by simp⟩
    · obtain ⟨s, hs⟩ := ih (by omega)
      exact ⟨s ++ chK l (n + 1), by rw [chs, hs, List.append_assoc]⟩
theorem must_hit {gs : List Guest} {rs : List Rule} (h12 : rs.length ≤ 12) (hok : okL gs rs = []) : hitB gs rs (mustL rs) = true := by
  have hself : mustN rs &&& mustN rs = mustN rs := Nat.and_self _
  rw [← must_members rs h12, hitB, List.all_eq_true]
  intro o ho
  rw [← brk_met gs h12 o hself, Nat.and_assoc, hself]
  intro hz
  have : o ∈ okL gs rs := List.mem_filter.2 ⟨ho, (must_alw gs rs o).1 hz⟩
  rw [hok] at this; cases this
theorem rConflict0_c (gs : List Guest) (rs : List Rule) (hl0 : gs.length < 1000) (hr0 : rs.length < 1000) (hs : ∀ g ∈ gs, g.name.size ≤ 1000) :
    Fn0 Try.prog 54 [pA gs rs] (fun v => v = .tup [lsV (cfP gs rs).1, .int .i64 (cfP gs rs).2]) := by
  have hck := rCheck_c gs rs hl0 hr0 hs
  by_cases h0 : pErr gs rs = 0
  case neg =>
    have hc : cfP gs rs = ([], pErr gs rs) := by rw [cfP, if_neg h0]
    rw [hc]
    refine RawC.walk (H := hint54 Try.prog) ir54 Try.func54 rfl rfl rfl ?_
    unfold ir54
    repeat' (first
      | with_reducible (first | refine Rd.p ?_ | refine zE ?_ | refine zE0 ?_)
      | with_reducible (first | refine zI fun y hy => ?_ | refine zL ?_ | refine zS ?_ | refine zA fun _ => ?_ | refine zV ?_ | refine zC ?_ | refine zG ?_ | refine zU ?_ | refine zG0 ?_ | refine zU0 ?_ | refine zF ?_)
      | ((with_reducible refine acall_id ?_); refine ACall.val hck rfl rfl ?_)
      | with_reducible (first | refine zX ?_ | refine zD fun _ => ?_ | refine zD0 ?_ | refine zN ?_ | refine zF0 ?_ | refine zX0 ?_ | refine z1 ?_ | refine z2 ?_ | refine z3 ?_ | refine z4 ?_ | refine z5 ?_ | refine z6 ?_ | refine z7 ?_ | refine z8 ?_ | refine y1 ?_ | refine y2 ?_ | refine y3 ?_ | refine y4 ?_ | refine y5 ?_ | refine y6 ?_ | refine y7 ?_ | refine y8 ?_ | refine Rt.p (fun _ => ?_) fun _ => ?_)
      | ((with_reducible apply w_ixM); (focus exact rfl); (focus exact rfl); case' hk => intro y hy) | ((with_reducible (first | apply w_val | apply q_ends)); (focus exact rfl)))
    rfl
  rw [h0] at hck
  have hp := pOK_of h0
  have h7 := hp.g7
  have h12 := hp.r12
  have hpl := perms_len h7
  have hgd := rgood_c gs rs hp
  by_cases hok : okL gs rs = []
  case neg =>
    have hc : cfP gs rs = ([], 7) := by rw [cfP, if_pos h0, if_neg hok]
    have hpos : 0 < (okL gs rs).length := List.length_pos_iff.2 hok
    rw [hc]
    refine RawC.walk (H := hint54 Try.prog) ir54 Try.func54 rfl rfl rfl ?_
    unfold ir54
    repeat' (first
      | with_reducible (first | refine Rd.p ?_ | refine zE ?_ | refine zE0 ?_)
      | with_reducible (first | refine zI fun y hy => ?_ | refine zL ?_ | refine zS ?_ | refine zA fun _ => ?_ | refine zV ?_ | refine zC ?_ | refine zG ?_ | refine zU ?_ | refine zG0 ?_ | refine zU0 ?_ | refine zF ?_)
      | ((with_reducible refine acall_id ?_); refine ACall.val hck rfl rfl ?_)
      | ((with_reducible refine acall_id ?_); refine ACall.val hgd rfl rfl ?_)
      | with_reducible (first | refine zX ?_ | refine zD fun _ => ?_ | refine zD0 ?_ | refine zN ?_ | refine zF0 ?_ | refine zX0 ?_ | refine z1 ?_ | refine z2 ?_ | refine z3 ?_ | refine z4 ?_ | refine z5 ?_ | refine z6 ?_ | refine z7 ?_ | refine z8 ?_ | refine y1 ?_ | refine y2 ?_ | refine y3 ?_ | refine y4 ?_ | refine y5 ?_ | refine y6 ?_ | refine y7 ?_ | refine y8 ?_ | refine Rt.p (fun _ => ?_) fun _ => ?_)
      | ((with_reducible apply w_ixM); (focus exact rfl); (focus exact rfl); case' hk => intro y hy) | ((with_reducible (first | apply w_val | apply q_ends)); (focus exact rfl)))
    all_goals first | rfl | (rename_i h; exact absurd (by omega) h)
  rw [hok] at hgd
  have hO : Fn0 Try.prog 49 [.int .i64 gs.length, .slc 1 (iR []) .non] (fun v => v = .slc 1 (llR (perms gs.length)) .non) := rOrders_c gs.length h7 gs.length [] (by simp)
  refine RawC.walk (H := hint54 Try.prog) ir54 Try.func54 rfl rfl rfl ?_
  unfold ir54
  repeat' (first
    | with_reducible (first | refine Rd.p ?_ | refine zE ?_ | refine zE0 ?_)
    | with_reducible (first | refine zI fun y hy => ?_ | refine zL ?_ | refine zS ?_ | refine zA fun _ => ?_ | refine zV ?_ | refine zC ?_ | refine zG ?_ | refine zU ?_ | refine zG0 ?_ | refine zU0 ?_ | refine zF ?_)
    | ((with_reducible refine acall_id ?_); refine ACall.val hck rfl rfl ?_)
    | ((with_reducible refine acall_id ?_); refine ACall.val hgd rfl rfl ?_)
    | with_reducible (first | refine zX ?_ | refine zD fun _ => ?_ | refine zD0 ?_ | refine zN ?_ | refine zF0 ?_ | refine zX0 ?_ | refine z1 ?_ | refine z2 ?_ | refine z3 ?_ | refine z4 ?_ | refine z5 ?_ | refine z6 ?_ | refine z7 ?_ | refine z8 ?_ | refine y1 ?_ | refine y2 ?_ | refine y3 ?_ | refine y4 ?_ | refine y5 ?_ | refine y6 ?_ | refine y7 ?_ | refine y8 ?_ | refine Rt.p (fun _ => ?_) fun _ => ?_)
    | ((with_reducible apply w_ixM); (focus exact rfl); (focus exact rfl); case' hk => intro y hy) | ((with_reducible (first | apply w_val | apply q_ends)); (focus exact rfl)))
  · rename_i h; exact absurd h (by simp)
  rename_i g1 _ g5
  have hmh := must_hit h12 hok
  have hml : (mustL rs).length ≤ 12 := Nat.le_trans (plcF_len _ rs) h12
  refine w_loopK [1] [1] (fun x : List Rule × List Rule × List Int × Nat => rs = x.1 ++ x.2.1 ∧ mustL rs = x.2.2.1 ++ plcF (fun r => decide (r.weight = 0)) x.1.length x.2.1 ∧ x.2.2.1.length ≤ x.1.length) (fun x => x.2.1.length)
    (fun x => [(6, .int .i64 x.1.length), (5, .slc 1 (iR x.2.2.1) (.own 5 x.2.2.2))]) (fun x => [(5, (x.2.2.2, .row []))]) ([], rs, [], g5) ⟨rfl, rfl, Nat.le_refl _⟩ ⟨rfl, rfl, trivial⟩ ⟨rfl, trivial⟩ ?_
  rintro ⟨pre, post, out, g⟩ ⟨hl, hb, ho⟩ e σ
  dsimp only at hl hb ho ⊢
  have hlen := congrArg List.length hl
  cases post with
  | cons r post =>
    simp only [List.length_append, List.length_cons] at hlen
    simp only [plcF] at hb
    repeat' (first
      | with_reducible (first | refine Rd.p ?_ | refine zE ?_ | refine zE0 ?_)
      | (refine w_ixP hl rfl rfl ?_)
      | with_reducible (first | refine zI fun y hy => ?_ | refine zL ?_ | refine zS ?_ | refine zA fun _ => ?_ | refine zV ?_ | refine zC ?_ | refine zG ?_ | refine zU ?_ | refine zG0 ?_ | refine zU0 ?_ | refine zF ?_)
      | with_reducible (first | refine zX ?_ | refine zD fun _ => ?_ | refine zD0 ?_ | refine zN ?_ | refine zF0 ?_ | refine zX0 ?_ | refine z1 ?_ | refine z2 ?_ | refine z3 ?_ | refine z4 ?_ | refine z5 ?_ | refine z6 ?_ | refine z7 ?_ | refine z8 ?_ | refine y1 ?_ | refine y2 ?_ | refine y3 ?_ | refine y4 ?_ | refine y5 ?_ | refine y6 ?_ | refine y7 ?_ | refine y8 ?_ | refine Rt.p (fun _ => ?_) fun _ => ?_)
      | ((with_reducible apply w_ixM); (focus exact rfl); (focus exact rfl); case' hk => intro y hy) | ((with_reducible (first | apply w_val | apply q_ends)); (focus exact rfl)))
    · rename_i h _
      rw [if_pos (decide_eq_true h)] at hb
      refine zQ (pre ++ [r], post, out ++ [(pre.length : Int)], _) ?_ ?_
      · exact ⟨by rw [hl]; simp, by rw [hb, len_snoc]; simp, by simp; omega⟩
      · simp
    · rename_i h
      rw [if_neg (by simp [h])] at hb
      refine zQ (pre ++ [r], post, out, _) ?_ ?_
      · exact ⟨by rw [hl]; simp, by rw [hb, len_snoc], by simp; omega⟩
      · simp
  | nil =>
    simp only [List.append_nil, List.length_append, List.length_nil] at hlen
    rw [plcF, List.append_nil] at hb
    subst hb
    repeat' (first
      | with_reducible (first | refine Rd.p ?_ | refine zE ?_ | refine zE0 ?_)
      | with_reducible (first | refine zI fun y hy => ?_ | refine zL ?_ | refine zS ?_ | refine zA fun _ => ?_ | refine zV ?_ | refine zC ?_ | refine zG ?_ | refine zU ?_ | refine zG0 ?_ | refine zU0 ?_ | refine zF ?_)
      | (refine ACall.wval (args' := [.int .i64 gs.length, .slc 1 (iR []) .non]) (.cons (Sub.refl _) (.cons Sub.nil .nil)) hO rfl rfl ?_)
      | with_reducible (first | refine zX ?_ | refine zD fun _ => ?_ | refine zD0 ?_ | refine zN ?_ | refine zF0 ?_ | refine zX0 ?_ | refine z1 ?_ | refine z2 ?_ | refine z3 ?_ | refine z4 ?_ | refine z5 ?_ | refine z6 ?_ | refine z7 ?_ | refine z8 ?_ | refine y1 ?_ | refine y2 ?_ | refine y3 ?_ | refine y4 ?_ | refine y5 ?_ | refine y6 ?_ | refine y7 ?_ | refine y8 ?_ | refine Rt.p (fun _ => ?_) fun _ => ?_)
      | ((with_reducible apply w_ixM); (focus exact rfl); (focus exact rfl); case' hk => intro y hy) | ((with_reducible (first | apply w_val | apply q_ends)); (focus exact rfl)))
    rename_i g7
    refine w_loopK [1, 5, 8] [1] (fun x : List (List Int) × List (List Int) × List (List Int) × Nat => perms gs.length = x.1 ++ x.2.1 ∧ (∀ l, l ∈ x.2.2.1 ↔ ∃ o ∈ x.1, l = brkL gs rs o) ∧ x.2.2.1.length ≤ x.1.length) (fun x => x.2.1.length)
      (fun x => [(9, .int .i64 x.1.length), (7, .slc 1 (llR x.2.2.1) (.own 7 x.2.2.2))]) (fun x => [(7, (x.2.2.2, .row []))]) ([], perms gs.length, [], g7) ⟨rfl, (fun l => by simp), Nat.le_refl _⟩ ⟨rfl, rfl, trivial⟩ ⟨rfl, trivial⟩ ?_
    rintro ⟨p, q, ls, gl⟩ ⟨hpq, hmem, hll⟩ e2 σ2
    dsimp only at hpq hmem hll ⊢
    have hplen := congrArg List.length hpq
    have hbl : ∀ o, (brkL gs rs o).length ≤ 12 := fun o => Nat.le_trans (plcF_len _ rs) h12
    have hlb : ∀ x ∈ ls, x.length < 1000000 := by
      intro x hx
      obtain ⟨o, _, rfl⟩ := (hmem x).1 hx
      have := hbl o; omega
    cases q with
    | cons o q =>
      simp only [List.length_append, List.length_cons] at hplen
      have hpm := perm_of (show o ∈ perms gs.length by rw [hpq]; simp)
      have hB : Fn0 Try.prog 89 [pA gs rs, .slc 1 (iR o) .non] (fun v => v = .tup [.slc 1 (iR (brkL gs rs o)) .non, .int .i64 (prS gs rs o)]) := rBroken_c gs rs o hp.r hpm (by omega) (by omega)
      have hL := listed_c ls (brkL gs rs o) (by omega) (by have := hbl o; omega) hlb
      have hstep : ∀ ls' : List (List Int), (∀ l : List Int, l ∈ ls' ↔ l ∈ ls ∨ l = brkL gs rs o) → ∀ l : List Int, l ∈ ls' ↔ ∃ o' ∈ p ++ [o], l = brkL gs rs o' := by
        intro ls' h l
        rw [h, hmem]
        constructor
        · rintro (⟨o', h1, h2⟩ | h1)
          · exact ⟨o', by simp [h1], h2⟩
          · exact ⟨o, by simp, h1⟩
        · rintro ⟨o', h1, h2⟩
          rcases List.mem_append.1 h1 with h1 | h1
          · exact .inl ⟨o', h1, h2⟩
          · simp at h1; subst h1; exact .inr h2
      by_cases hin : brkL gs rs o ∈ ls
      · rw [decide_eq_true hin] at hL
        repeat' (first
          | with_reducible (first | refine Rd.p ?_ | refine zE ?_ | refine zE0 ?_)
          | (refine w_ixP hpq rfl rfl ?_)
          | with_reducible (first | refine zI fun y hy => ?_ | refine zL ?_ | refine zS ?_ | refine zA fun _ => ?_ | refine zV ?_ | refine zC ?_ | refine zG ?_ | refine zU ?_ | refine zG0 ?_ | refine zU0 ?_ | refine zF ?_)
          | ((with_reducible refine acall_id ?_); refine ACall.val hB rfl rfl ?_)
          | ((with_reducible refine acall_id ?_); refine ACall.val hL rfl rfl ?_)
          | with_reducible (first | refine zX ?_ | refine zD fun _ => ?_ | refine zD0 ?_ | refine zN ?_ | refine zF0 ?_ | refine zX0 ?_ | refine z1 ?_ | refine z2 ?_ | refine z3 ?_ | refine z4 ?_ | refine z5 ?_ | refine z6 ?_ | refine z7 ?_ | refine z8 ?_ | refine y1 ?_ | refine y2 ?_ | refine y3 ?_ | refine y4 ?_ | refine y5 ?_ | refine y6 ?_ | refine y7 ?_ | refine y8 ?_ | refine Rt.p (fun _ => ?_) fun _ => ?_)
          | ((with_reducible apply w_ixM); (focus exact rfl); (focus exact rfl); case' hk => intro y hy) | ((with_reducible (first | apply w_val | apply q_ends)); (focus exact rfl)))
        refine zQ (p ++ [o], q, ls, _) ?_ ?_
        · exact ⟨by rw [hpq]; simp, hstep ls fun l => ⟨.inl, fun h => h.elim id fun e => by rw [e]; exact hin⟩, by simp; omega⟩
        · simp
      · rw [decide_eq_false hin] at hL
        repeat' (first
          | with_reducible (first | refine Rd.p ?_ | refine zE ?_ | refine zE0 ?_)
          | (refine w_ixP hpq rfl rfl ?_)
          | with_reducible (first | refine zI fun y hy => ?_ | refine zL ?_ | refine zS ?_ | refine zA fun _ => ?_ | refine zV ?_ | refine zC ?_ | refine zG ?_ | refine zU ?_ | refine zG0 ?_ | refine zU0 ?_ | refine zF ?_)
          | ((with_reducible refine acall_id ?_); refine ACall.val hB rfl rfl ?_)
          | ((with_reducible refine acall_id ?_); refine ACall.val hL rfl rfl ?_)
          | with_reducible (first | refine zX ?_ | refine zD fun _ => ?_ | refine zD0 ?_ | refine zN ?_ | refine zF0 ?_ | refine zX0 ?_ | refine z1 ?_ | refine z2 ?_ | refine z3 ?_ | refine z4 ?_ | refine z5 ?_ | refine z6 ?_ | refine z7 ?_ | refine z8 ?_ | refine y1 ?_ | refine y2 ?_ | refine y3 ?_ | refine y4 ?_ | refine y5 ?_ | refine y6 ?_ | refine y7 ?_ | refine y8 ?_ | refine Rt.p (fun _ => ?_) fun _ => ?_)
          | ((with_reducible apply w_ixM); (focus exact rfl); (focus exact rfl); case' hk => intro y hy) | ((with_reducible (first | apply w_val | apply q_ends)); (focus exact rfl)))
        refine zQ (p ++ [o], q, ls ++ [brkL gs rs o], _) ?_ ?_
        · exact ⟨by rw [hpq]; simp, hstep _ fun l => by simp, by simp; omega⟩
        · simp
    | nil =>
      simp only [List.append_nil, List.length_append, List.length_nil] at hplen hpq
      subst hpq
      have hhit : ∀ y, ls.all (metB y) = hitB gs rs y := by
        intro y
        rw [Bool.eq_iff_iff, hitB, List.all_eq_true, List.all_eq_true]
        exact ⟨fun h o ho => h _ ((hmem _).2 ⟨o, ho, rfl⟩), fun h l hl => by obtain ⟨o, ho, rfl⟩ := (hmem l).1 hl; exact h o ho⟩
      repeat' (first
        | with_reducible (first | refine Rd.p ?_ | refine zE ?_ | refine zE0 ?_)
        | with_reducible (first | refine zI fun y hy => ?_ | refine zL ?_ | refine zS ?_ | refine zA fun _ => ?_ | refine zV ?_ | refine zC ?_ | refine zG ?_ | refine zU ?_ | refine zG0 ?_ | refine zU0 ?_ | refine zF ?_)
        | with_reducible (first | refine zX ?_ | refine zD fun _ => ?_ | refine zD0 ?_ | refine zN ?_ | refine zF0 ?_ | refine zX0 ?_ | refine z1 ?_ | refine z2 ?_ | refine z3 ?_ | refine z4 ?_ | refine z5 ?_ | refine z6 ?_ | refine z7 ?_ | refine z8 ?_ | refine y1 ?_ | refine y2 ?_ | refine y3 ?_ | refine y4 ?_ | refine y5 ?_ | refine y6 ?_ | refine y7 ?_ | refine y8 ?_ | refine Rt.p (fun _ => ?_) fun _ => ?_)
        | ((with_reducible apply w_ixM); (focus exact rfl); (focus exact rfl); case' hk => intro y hy) | ((with_reducible (first | apply w_val | apply q_ends)); (focus exact rfl)))
      refine w_loopK [5, 7] [] (fun m : Nat => m ≤ (mustL rs).length ∧ ∀ y ∈ chs (mustL rs) m, hitB gs rs y = false) (fun m => (mustL rs).length - m) (fun m => [(12, .int .i64 ((m + 1 : Nat) : Int))]) (fun _ => []) 0 ⟨Nat.zero_le _, (fun y hy => by rw [chs] at hy; cases hy)⟩ ⟨rfl, trivial⟩ trivial ?_
      rintro m ⟨hm, hno⟩ e3 σ3
      (try dsimp only at hm hno ⊢)
      by_cases hlast : m = (mustL rs).length
      · exfalso
        subst hlast
        have hmem2 : mustL rs ∈ chs (mustL rs) (mustL rs).length := by
          rw [chs_mem]
          have := hit_ne hmh
          exact ⟨by cases h : mustL rs <;> simp [h] at this ⊢, Nat.le_refl _, chK_all (List.Sublist.refl _)⟩
        rw [hno _ hmem2] at hmh; cases hmh
      have hch := chosen_c (m + 1) (mustL rs) (by omega) (by omega)
      have hcl : (chK (mustL rs) (m + 1)).length ≤ 65536 := Nat.le_trans (chK_len _ _) (Nat.pow_le_pow_right (by omega) (show (mustL rs).length ≤ 16 by omega))
      repeat' (first
        | with_reducible (first | refine Rd.p ?_ | refine zE ?_ | refine zE0 ?_)
        | with_reducible (first | refine zI fun y hy => ?_ | refine zL ?_ | refine zS ?_ | refine zA fun _ => ?_ | refine zV ?_ | refine zC ?_ | refine zG ?_ | refine zU ?_ | refine zG0 ?_ | refine zU0 ?_ | refine zF ?_)
        | ((with_reducible refine acall_id ?_); refine ACall.val hch rfl rfl ?_)
        | with_reducible (first | refine zX ?_ | refine zD fun _ => ?_ | refine zD0 ?_ | refine zN ?_ | refine zF0 ?_ | refine zX0 ?_ | refine z1 ?_ | refine z2 ?_ | refine z3 ?_ | refine z4 ?_ | refine z5 ?_ | refine z6 ?_ | refine z7 ?_ | refine z8 ?_ | refine y1 ?_ | refine y2 ?_ | refine y3 ?_ | refine y4 ?_ | refine y5 ?_ | refine y6 ?_ | refine y7 ?_ | refine y8 ?_ | refine Rt.p (fun _ => ?_) fun _ => ?_)
        | ((with_reducible apply w_ixM); (focus exact rfl); (focus exact rfl); case' hk => intro y hy) | ((with_reducible (first | apply w_val | apply q_ends)); (focus exact rfl)))
      refine w_loopK [5, 7, 12, 13] [] (fun x : List (List Int) × List (List Int) => chK (mustL rs) (m + 1) = x.1 ++ x.2 ∧ ∀ y ∈ x.1, hitB gs rs y = false) (fun x => x.2.length) (fun x => [(14, .int .i64 x.1.length)]) (fun _ => []) ([], chK (mustL rs) (m + 1)) ⟨rfl, (fun y hy => by cases hy)⟩ ⟨rfl, trivial⟩ trivial ?_
      rintro ⟨a, b⟩ ⟨hab, hna⟩ e4 σ4
      dsimp only at hab hna ⊢
      have habl := congrArg List.length hab
      cases b with
      | nil =>
        simp only [List.append_nil, List.length_append, List.length_nil] at habl hab
        repeat' (first
          | with_reducible (first | refine Rd.p ?_ | refine zE ?_ | refine zE0 ?_)
          | with_reducible (first | refine zI fun y hy => ?_ | refine zL ?_ | refine zS ?_ | refine zA fun _ => ?_ | refine zV ?_ | refine zC ?_ | refine zG ?_ | refine zU ?_ | refine zG0 ?_ | refine zU0 ?_ | refine zF ?_)
          | with_reducible (first | refine zX ?_ | refine zD fun _ => ?_ | refine zD0 ?_ | refine zN ?_ | refine zF0 ?_ | refine zX0 ?_ | refine z1 ?_ | refine z2 ?_ | refine z3 ?_ | refine z4 ?_ | refine z5 ?_ | refine z6 ?_ | refine z7 ?_ | refine z8 ?_ | refine y1 ?_ | refine y2 ?_ | refine y3 ?_ | refine y4 ?_ | refine y5 ?_ | refine y6 ?_ | refine y7 ?_ | refine y8 ?_ | refine Rt.p (fun _ => ?_) fun _ => ?_)
          | ((with_reducible apply w_ixM); (focus exact rfl); (focus exact rfl); case' hk => intro y hy) | ((with_reducible (first | apply w_val | apply q_ends)); (focus exact rfl)))
        refine q_loop (m + 1) ⟨by omega, fun y hy => ?_⟩ (by omega) ⟨int_eq (by omega), trivial⟩ trivial (by repeat' (first | exact kept_nil | apply kept_cons | rfl)) trivial
        rw [chs] at hy
        rcases List.mem_append.1 hy with hy | hy
        · exact hno y hy
        · rw [hab] at hy; exact hna y hy
      | cons y b =>
        simp only [List.length_append, List.length_cons] at habl
        have hyl := chK_mem_len (show y ∈ chK (mustL rs) (m + 1) by rw [hab]; simp)
        repeat' (first
          | with_reducible (first | refine Rd.p ?_ | refine zE ?_ | refine zE0 ?_)
          | with_reducible (first | refine zI fun y hy => ?_ | refine zL ?_ | refine zS ?_ | refine zA fun _ => ?_ | refine zV ?_ | refine zC ?_ | refine zG ?_ | refine zU ?_ | refine zG0 ?_ | refine zU0 ?_ | refine zF ?_)
          | with_reducible (first | refine zX ?_ | refine zD fun _ => ?_ | refine zD0 ?_ | refine zN ?_ | refine zF0 ?_ | refine zX0 ?_ | refine z1 ?_ | refine z2 ?_ | refine z3 ?_ | refine z4 ?_ | refine z5 ?_ | refine z6 ?_ | refine z7 ?_ | refine z8 ?_ | refine y1 ?_ | refine y2 ?_ | refine y3 ?_ | refine y4 ?_ | refine y5 ?_ | refine y6 ?_ | refine y7 ?_ | refine y8 ?_ | refine Rt.p (fun _ => ?_) fun _ => ?_)
          | ((with_reducible apply w_ixM); (focus exact rfl); (focus exact rfl); case' hk => intro y hy) | ((with_reducible (first | apply w_val | apply q_ends)); (focus exact rfl)))
        refine w_loopK [5, 7, 12, 13, 14] [] (fun x : List (List Int) × List (List Int) => ls = x.1 ++ x.2) (fun x => x.2.length) (fun x => [(16, .int .i64 x.1.length), (15, .bool (x.1.all (metB y)))]) (fun _ => []) ([], ls) rfl ⟨rfl, rfl, trivial⟩ trivial ?_
        rintro ⟨c, d⟩ hcd e5 σ5
        dsimp only at hcd ⊢
        have hcdl := congrArg List.length hcd
        cases d with
        | nil =>
          simp only [List.append_nil, List.length_append, List.length_nil] at hcdl hcd
          have hc : c.all (metB y) = hitB gs rs y := by rw [← hcd]; exact hhit y
          rw [hc]
          cases hy : hitB gs rs y with
          | true =>
            have hfd : (chs (mustL rs) (mustL rs).length).find? (hitB gs rs) = some y := by
              rw [List.find?_eq_some_iff_append]
              obtain ⟨s, hs⟩ := chs_le (mustL rs) (m := m + 1) (n := (mustL rs).length) (by omega)
              refine ⟨hy, chs (mustL rs) m ++ a, b ++ s, by rw [hs, chs, hab]; simp, fun z hz => ?_⟩
              rcases List.mem_append.1 hz with hz | hz
              · rw [hno z hz]; rfl
              · rw [hna z hz]; rfl
            have hcf : cfP gs rs = (y, 0) := by rw [cfP, if_pos h0, if_pos hok, hfd]; rfl
            rw [hcf, lsV_ne (hit_ne hy)]
            repeat' (first
              | with_reducible (first | refine Rd.p ?_ | refine zE ?_ | refine zE0 ?_)
              | (first | refine w_ixP hab rfl rfl ?_)
              | with_reducible (first | refine zI fun y hy => ?_ | refine zL ?_ | refine zS ?_ | refine zA fun _ => ?_ | refine zV ?_ | refine zC ?_ | refine zG ?_ | refine zU ?_ | refine zG0 ?_ | refine zU0 ?_ | refine zF ?_)
              | with_reducible (first | refine zX ?_ | refine zD fun _ => ?_ | refine zD0 ?_ | refine zN ?_ | refine zF0 ?_ | refine zX0 ?_ | refine z1 ?_ | refine z2 ?_ | refine z3 ?_ | refine z4 ?_ | refine z5 ?_ | refine z6 ?_ | refine z7 ?_ | refine z8 ?_ | refine y1 ?_ | refine y2 ?_ | refine y3 ?_ | refine y4 ?_ | refine y5 ?_ | refine y6 ?_ | refine y7 ?_ | refine y8 ?_ | refine Rt.p (fun _ => ?_) fun _ => ?_)
              | ((with_reducible apply w_ixM); (focus exact rfl); (focus exact rfl); case' hk => intro y hy) | ((with_reducible (first | apply w_val | apply q_ends)); (focus exact rfl)))
            rfl
          | false =>
            repeat' (first
              | with_reducible (first | refine Rd.p ?_ | refine zE ?_ | refine zE0 ?_)
              | with_reducible (first | refine zI fun y hy => ?_ | refine zL ?_ | refine zS ?_ | refine zA fun _ => ?_ | refine zV ?_ | refine zC ?_ | refine zG ?_ | refine zU ?_ | refine zG0 ?_ | refine zU0 ?_ | refine zF ?_)
              | with_reducible (first | refine zX ?_ | refine zD fun _ => ?_ | refine zD0 ?_ | refine zN ?_ | refine zF0 ?_ | refine zX0 ?_ | refine z1 ?_ | refine z2 ?_ | refine z3 ?_ | refine z4 ?_ | refine z5 ?_ | refine z6 ?_ | refine z7 ?_ | refine z8 ?_ | refine y1 ?_ | refine y2 ?_ | refine y3 ?_ | refine y4 ?_ | refine y5 ?_ | refine y6 ?_ | refine y7 ?_ | refine y8 ?_ | refine Rt.p (fun _ => ?_) fun _ => ?_)
              | ((with_reducible apply w_ixM); (focus exact rfl); (focus exact rfl); case' hk => intro y hy) | ((with_reducible (first | apply w_val | apply q_ends)); (focus exact rfl)))
            refine zQ (a ++ [y], b) ?_ ?_
            · exact ⟨by rw [hab]; simp, fun z hz => by rcases List.mem_append.1 hz with hz | hz <;> first | exact hna z hz | (simp at hz; subst hz; exact hy)⟩
            · simp
        | cons l d =>
          simp only [List.length_append, List.length_cons] at hcdl
          have hmt := met_c y l (by omega) (hlb l (by rw [hcd]; simp))
          cases hc : c.all (metB y) with
          | true =>
            have hS : (c ++ [l]).all (metB y) = metB y l := by rw [List.all_append, hc]; simp
            repeat' (first
              | with_reducible (first | refine Rd.p ?_ | refine zE ?_ | refine zE0 ?_)
              | (first | refine w_ixP hab rfl rfl ?_ | refine w_ixP hcd rfl rfl ?_)
              | with_reducible (first | refine zI fun y hy => ?_ | refine zL ?_ | refine zS ?_ | refine zA fun _ => ?_ | refine zV ?_ | refine zC ?_ | refine zG ?_ | refine zU ?_ | refine zG0 ?_ | refine zU0 ?_ | refine zF ?_)
              | ((with_reducible refine acall_id ?_); refine ACall.val hmt rfl rfl ?_)
              | with_reducible (first | refine zX ?_ | refine zD fun _ => ?_ | refine zD0 ?_ | refine zN ?_ | refine zF0 ?_ | refine zX0 ?_ | refine z1 ?_ | refine z2 ?_ | refine z3 ?_ | refine z4 ?_ | refine z5 ?_ | refine z6 ?_ | refine z7 ?_ | refine z8 ?_ | refine y1 ?_ | refine y2 ?_ | refine y3 ?_ | refine y4 ?_ | refine y5 ?_ | refine y6 ?_ | refine y7 ?_ | refine y8 ?_ | refine Rt.p (fun _ => ?_) fun _ => ?_)
              | ((with_reducible apply w_ixM); (focus exact rfl); (focus exact rfl); case' hk => intro y hy) | ((with_reducible (first | apply w_val | apply q_ends)); (focus exact rfl)))
            refine q_loop (c ++ [l], d) (by dsimp only; rw [hcd]; simp) (by simp) ⟨(by rw [len_snoc]; rfl), congrArg AV.bool hS.symm, trivial⟩ trivial (by repeat' (first | exact kept_nil | apply kept_cons | rfl)) trivial
          | false =>
            have hS : (c ++ [l]).all (metB y) = false := by rw [List.all_append, hc]; rfl
            repeat' (first
              | with_reducible (first | refine Rd.p ?_ | refine zE ?_ | refine zE0 ?_)
              | with_reducible (first | refine zI fun y hy => ?_ | refine zL ?_ | refine zS ?_ | refine zA fun _ => ?_ | refine zV ?_ | refine zC ?_ | refine zG ?_ | refine zU ?_ | refine zG0 ?_ | refine zU0 ?_ | refine zF ?_)
              | with_reducible (first | refine zX ?_ | refine zD fun _ => ?_ | refine zD0 ?_ | refine zN ?_ | refine zF0 ?_ | refine zX0 ?_ | refine z1 ?_ | refine z2 ?_ | refine z3 ?_ | refine z4 ?_ | refine z5 ?_ | refine z6 ?_ | refine z7 ?_ | refine z8 ?_ | refine y1 ?_ | refine y2 ?_ | refine y3 ?_ | refine y4 ?_ | refine y5 ?_ | refine y6 ?_ | refine y7 ?_ | refine y8 ?_ | refine Rt.p (fun _ => ?_) fun _ => ?_)
              | ((with_reducible apply w_ixM); (focus exact rfl); (focus exact rfl); case' hk => intro y hy) | ((with_reducible (first | apply w_val | apply q_ends)); (focus exact rfl)))
            refine q_loop (c ++ [l], d) (by dsimp only; rw [hcd]; simp) (by simp) ⟨(by rw [len_snoc]; rfl), congrArg AV.bool hS.symm, trivial⟩ trivial (by repeat' (first | exact kept_nil | apply kept_cons | rfl)) trivial
theorem rConflict_c (gs : List Guest) (rs : List Rule) (hl0 : gs.length < 1000) (hr0 : rs.length < 1000) (hs : ∀ g ∈ gs, g.name.size ≤ 1000) :
    Fn0 Try.prog 54 [pA gs rs] (fun v => v = .tup [.slc 1 (iR (cfP gs rs).1) .non, .int .i64 (cfP gs rs).2]) :=
  RawC.sub (rConflict0_c gs rs hl0 hr0 hs) fun a s h => ⟨_, by subst h; exact fun G v ⟨vs, h1, h2⟩ => ⟨vs, h1, SubL.rel (.cons (lsV_sub _) (.cons (Sub.refl _) .nil)) h2⟩, rfl⟩
end Go.Abs
