/- A part of the proofs of the laws of this seat: contracts of the functions that they reach, each proved of the program's form in Lean. No condition beyond those that each contract names. -/
import Derived.Test.YtcgcciegekaliaaB0
import Derived.Test.YtcgcciegekaliaaB1
import Derived.Test.YtcgcciegekaliaaB2
import Derived.Test.YtcgcciegekaliaaB3
import Derived.Test.YtcgcciegekaliaaB4
import Derived.Test.YtcgcciegekaliaaB5
import Derived.Test.YtcgcciegekaliaaB6
import Derived.Test.YtcgcciegekaliaaB7
import Derived.Test.YtcgcciegekaliaaB9
import Derived.Test.YtcgcciegekaliaaB12
import Derived.Test.YtcgcciegekaliaaB13
import Derived.Test.YtcgcciegekaliaaB14
import Derived.Test.YtcgcciegekaliaaB15
import Derived.Test.YtcgcciegekaliaaB17
import Derived.Test.YtcgcciegekaliaaB36
import Derived.Test.YtcgcciegekaliaaB37
import Derived.Test.YtcgcciegekaliaaB39
import Derived.Test.YtcgcciegekaliaaB40
import Derived.Test.YtcgcciegekaliaaB43
set_option linter.unusedVariables false
set_option linter.unusedSimpArgs false
set_option maxRecDepth 20000
set_option maxHeartbeats 4000000
/-! ### SeatInvites -/
namespace Go.Abs
open Go.Proofs
/-- aloeswood/aloeswoodkit.BondsOf -/
def ir57 : IFn :=
  ⟨43, [(6, none)], (.seq (.ops [⟨(some 6), none, (.mov (.k .nsl))⟩])
  (.seq (.ops [⟨(some 7), none, (.nil 3 7)⟩])
  (.seq (.seq (.ops [⟨(some 10), none, (.mov (.t 0))⟩,
    ⟨(some 11), none, (.mov (.t 2))⟩,
    ⟨(some 12), none, (.bin .add (.t 11) (.k (.int .i64 1)))⟩,
    ⟨(some 13), none, (.callF 19 [(.t 10), (.t 12)])⟩,
    ⟨(some 8), none, (.mov (.t 13))⟩])
  (.blk 0 (.loop (.seq (.seq (.ops [⟨(some 14), none, (.mov (.t 8))⟩,
        ⟨(some 15), none, (.bin .gtr (.t 14) (.k (.int .i64 0)))⟩,
        ⟨(some 16), none, (.mov (.t 15))⟩,
        ⟨(some 17), (some (16, true)), (.mov (.t 1))⟩,
        ⟨(some 18), (some (16, true)), (.bin .gtr (.t 17) (.k (.int .i64 1)))⟩,
        ⟨(some 19), none, (.pick (.t 16) (.t 18) (.k (.bool false)))⟩])
      (.cnd (.t 19)
        .skip
        (.exit 0)))
      (.seq (.blk 1 (.seq (.ops [⟨(some 22), none, (.mov (.t 0))⟩,
          ⟨(some 23), none, (.callF 20 [(.t 22), (.k (.int .i64 1)), (.k (.int .i64 2))])⟩,
          ⟨(some 24), none, (.mov (.t 0))⟩,
          ⟨(some 25), none, (.mov (.t 1))⟩,
          ⟨(some 26), none, (.callF 19 [(.t 24), (.t 25)])⟩,
          ⟨(some 27), none, (.bld [(.int .i64 0), (.int .i64 0), (.int .i64 0)] [(0, 1, (.t 23)), (1, 1, (.t 26))])⟩,
          ⟨(some 9), none, (.new [(.int .i64 0), (.int .i64 0), (.int .i64 0)])⟩,
          ⟨none, none, (.st 3 (.t 9) (.t 27))⟩])
        (.seq (.ops [⟨(some 28), none, (.flA 1 (.t 9))⟩,
          ⟨(some 29), none, (.ld 1 false (.t 28))⟩,
          ⟨(some 30), none, (.mov (.t 0))⟩,
          ⟨(some 31), none, (.mov (.t 1))⟩,
          ⟨(some 32), none, (.bin .sub (.t 31) (.k (.int .i64 1)))⟩,
          ⟨(some 35), none, (.mov (.t 1))⟩,
          ⟨(some 33), none, (.callF 20 [(.t 30), (.k (.int .i64 1)), (.t 32)])⟩,
          ⟨none, none, (.chk 1 false (.t 28) 29)⟩,
          ⟨(some 34), none, (.bin .add (.t 29) (.t 33))⟩,
          ⟨(some 36), none, (.bin .rem (.t 34) (.t 35))⟩,
          ⟨(some 37), none, (.flA 2 (.t 9))⟩,
          ⟨none, none, (.st 1 (.t 37) (.t 36))⟩])
        (.ops [⟨(some 38), none, (.mov (.t 7))⟩,
          ⟨(some 39), none, (.ld 3 true (.t 9))⟩,
          ⟨(some 40), none, (.bsl 3 [[(.int .i64 0), (.int .i64 0), (.int .i64 0)]] [(0, (.t 39))])⟩,
          ⟨(some 41), none, (.app 3 24 (.t 38) (.t 40) 7)⟩,
          ⟨(some 7), none, (.mov (.t 41))⟩]))))
      (.ops [⟨(some 20), none, (.mov (.t 8))⟩,
        ⟨(some 21), none, (.bin .sub (.t 20) (.k (.int .i64 1)))⟩,
        ⟨(some 8), none, (.mov (.t 21))⟩]))))))
  (.seq (.ops [⟨(some 42), none, (.mov (.t 7))⟩,
    ⟨(some 6), none, (.mov (.t 42))⟩])
  .ret))))⟩
def hint57 (P : Program) : Hint := { site := [(41, 7)], nils := [(7, 3)], frz := [], wr := [] }

/-- aloeswood/aloeswoodlaw08.SeatInvites -/
def ir13 : IFn :=
  ⟨139, [(8, none)], (.seq (.ops [⟨(some 8), none, (.mov (.k (.bool false)))⟩])
  (.seq (.seq (.ops [⟨(some 24), none, (.mov (.t 0))⟩,
    ⟨(some 25), none, (.callF 15 [(.t 24)])⟩,
    ⟨(some 26), none, (.mov (.t 25))⟩,
    ⟨(some 27), (some (26, false)), (.mov (.t 1))⟩,
    ⟨(some 28), (some (26, false)), (.len false (.t 27))⟩,
    ⟨(some 29), (some (26, false)), (.bin .gtr (.t 28) (.k (.int .i64 25)))⟩,
    ⟨(some 30), none, (.pick (.t 26) (.k (.bool true)) (.t 29))⟩])
  (.cnd (.t 30)
    (.seq (.ops [⟨(some 31), none, (.callF 16 [])⟩,
      ⟨(some 8), none, (.mov (.t 31))⟩])
    .ret)
    .skip))
  (.seq (.ops [⟨(some 32), none, (.mov (.t 3))⟩,
    ⟨(some 33), none, (.callF 17 [(.t 32)])⟩,
    ⟨(some 9), none, (.mov (.t 33))⟩])
  (.seq (.ops [⟨(some 34), none, (.mov (.t 9))⟩,
    ⟨(some 35), none, (.mov (.t 9))⟩,
    ⟨(some 36), none, (.callF 19 [(.t 35), (.k (.int .i64 9))])⟩,
    ⟨(some 37), none, (.callF 18 [(.t 34), (.t 36)])⟩,
    ⟨(some 10), none, (.mov (.t 37))⟩])
  (.seq (.ops [⟨(some 38), none, (.mov (.t 0))⟩,
    ⟨(some 39), none, (.mov (.t 10))⟩,
    ⟨(some 40), none, (.bsl 1 [[.nsl], [.nsl]] [(0, (.t 38)), (1, (.t 39))])⟩,
    ⟨(some 41), none, (.mov (.t 1))⟩,
    ⟨(some 42), none, (.mov (.t 9))⟩,
    ⟨(some 43), none, (.mov (.t 10))⟩,
    ⟨(some 44), none, (.len false (.t 43))⟩,
    ⟨(some 45), none, (.callF 57 [(.t 42), (.t 44), (.k (.int .i64 8))])⟩,
    ⟨(some 46), none, (.bsl 1 [[.nsl], [.nsl]] [(0, (.t 41)), (1, (.t 45))])⟩,
    ⟨(some 47), none, (.mov (.t 2))⟩,
    ⟨(some 48), none, (.mov (.t 9))⟩,
    ⟨(some 49), none, (.callF 19 [(.t 48), (.k (.int .i64 8))])⟩,
    ⟨(some 50), none, (.bsl 1 [[(.int .i64 0)], [(.int .i64 0)]] [(0, (.t 47)), (1, (.t 49))])⟩,
    ⟨(some 11), none, (.mov (.t 40))⟩,
    ⟨(some 12), none, (.mov (.t 46))⟩,
    ⟨(some 13), none, (.mov (.t 50))⟩])
  (.seq (.seq (.ops [⟨(some 14), none, (.mov (.k (.int .i64 0)))⟩])
  (.blk 0 (.loop (.seq (.seq (.ops [⟨(some 51), none, (.mov (.t 14))⟩,
        ⟨(some 52), none, (.mov (.t 11))⟩,
        ⟨(some 53), none, (.len false (.t 52))⟩,
        ⟨(some 54), none, (.bin .lss (.t 51) (.t 53))⟩])
      (.cnd (.t 54)
        .skip
        (.exit 0)))
      (.seq (.blk 1 (.seq (.ops [⟨(some 57), none, (.bsl 5 [] [])⟩,
          ⟨(some 58), none, (.mov (.t 11))⟩,
          ⟨(some 59), none, (.mov (.t 14))⟩,
          ⟨(some 60), none, (.ixA 1 (.t 58) (.t 59))⟩,
          ⟨(some 61), none, (.ld 1 false (.t 60))⟩,
          ⟨(some 63), none, (.bsl 3 [] [])⟩,
          ⟨(some 64), none, (.mov (.t 12))⟩,
          ⟨(some 65), none, (.mov (.t 14))⟩,
          ⟨(some 66), none, (.ixA 1 (.t 64) (.t 65))⟩,
          ⟨(some 67), none, (.ld 1 false (.t 66))⟩,
          ⟨(some 62), none, (.app 5 48 (.t 57) (.t 61) 15)⟩,
          ⟨none, none, (.chk 1 false (.t 66) 67)⟩,
          ⟨(some 68), none, (.app 3 24 (.t 63) (.t 67) 16)⟩,
          ⟨(some 15), none, (.mov (.t 62))⟩,
          ⟨(some 16), none, (.mov (.t 68))⟩])
        (.seq (.ops [⟨(some 70), none, (.mov (.t 15))⟩,
          ⟨(some 71), none, (.mov (.t 16))⟩,
          ⟨(some 72), none, (.mov (.t 13))⟩,
          ⟨(some 73), none, (.mov (.t 14))⟩,
          ⟨(some 74), none, (.ixA 1 (.t 72) (.t 73))⟩,
          ⟨(some 75), none, (.ld 1 false (.t 74))⟩,
          ⟨(some 76), none, (.callF 58 [(.t 70), (.t 71), (.t 75)])⟩,
          ⟨(some 69), none, (.mov (.t 76))⟩,
          ⟨(some 77), none, (.ext 0 (.t 69))⟩,
          ⟨(some 78), none, (.ext 1 (.t 69))⟩,
          ⟨(some 79), none, (.ext 2 (.t 69))⟩,
          ⟨(some 17), none, (.mov (.t 77))⟩,
          ⟨(some 18), none, (.mov (.t 78))⟩,
          ⟨(some 19), none, (.mov (.t 79))⟩])
        (.seq (.ops [⟨(some 81), none, (.mov (.t 11))⟩,
          ⟨(some 82), none, (.mov (.t 14))⟩,
          ⟨(some 83), none, (.ixA 1 (.t 81) (.t 82))⟩,
          ⟨(some 84), none, (.ld 1 false (.t 83))⟩,
          ⟨(some 85), none, (.mov (.t 12))⟩,
          ⟨(some 86), none, (.mov (.t 14))⟩,
          ⟨(some 87), none, (.ixA 1 (.t 85) (.t 86))⟩,
          ⟨(some 88), none, (.ld 1 false (.t 87))⟩,
          ⟨(some 89), none, (.mov (.t 13))⟩,
          ⟨(some 90), none, (.mov (.t 14))⟩,
          ⟨(some 91), none, (.ixA 1 (.t 89) (.t 90))⟩,
          ⟨(some 92), none, (.ld 1 false (.t 91))⟩,
          ⟨(some 93), none, (.callF 59 [(.t 84), (.t 88), (.t 92)])⟩,
          ⟨(some 80), none, (.mov (.t 93))⟩,
          ⟨(some 94), none, (.ext 0 (.t 80))⟩,
          ⟨(some 95), none, (.ext 1 (.t 80))⟩,
          ⟨(some 96), none, (.ext 2 (.t 80))⟩,
          ⟨(some 20), none, (.mov (.t 94))⟩,
          ⟨(some 21), none, (.mov (.t 95))⟩,
          ⟨(some 22), none, (.mov (.t 96))⟩])
        (.seq (.seq (.ops [⟨(some 97), none, (.mov (.t 18))⟩,
          ⟨(some 98), none, (.mov (.t 21))⟩,
          ⟨(some 99), none, (.bin .neq (.t 97) (.t 98))⟩,
          ⟨(some 100), none, (.mov (.t 99))⟩,
          ⟨(some 101), (some (100, false)), (.mov (.t 19))⟩,
          ⟨(some 102), (some (100, false)), (.mov (.t 22))⟩,
          ⟨(some 103), (some (100, false)), (.bin .neq (.t 101) (.t 102))⟩,
          ⟨(some 104), none, (.pick (.t 100) (.k (.bool true)) (.t 103))⟩,
          ⟨(some 105), none, (.mov (.t 104))⟩,
          ⟨(some 106), (some (105, false)), (.mov (.t 17))⟩,
          ⟨(some 107), (some (105, false)), (.mov (.t 20))⟩,
          ⟨(some 108), (some (105, false)), (.callF 24 [(.t 106), (.t 107)])⟩,
          ⟨(some 109), (some (105, false)), (.not (.t 108))⟩,
          ⟨(some 110), none, (.pick (.t 105) (.k (.bool true)) (.t 109))⟩,
          ⟨(some 111), none, (.mov (.t 110))⟩,
          ⟨(some 112), (some (111, false)), (.mov (.t 15))⟩,
          ⟨(some 113), (some (111, false)), (.mov (.t 11))⟩,
          ⟨(some 114), (some (111, false)), (.mov (.t 14))⟩,
          ⟨(some 115), (some (111, false)), (.ixA 1 (.t 113) (.t 114))⟩,
          ⟨(some 116), (some (111, false)), (.ld 1 false (.t 115))⟩,
          ⟨(some 117), (some (111, false)), (.callF 25 [(.t 112), (.t 116)])⟩,
          ⟨(some 118), (some (111, false)), (.not (.t 117))⟩,
          ⟨(some 119), none, (.pick (.t 111) (.k (.bool true)) (.t 118))⟩])
        (.cnd (.t 119)
          (.seq (.ops [⟨(some 8), none, (.mov (.k (.bool false)))⟩])
          .ret)
          .skip))
        (.seq (.ops [⟨(some 23), none, (.mov (.k (.int .i64 0)))⟩])
        (.blk 2 (.loop (.seq (.seq (.ops [⟨(some 120), none, (.mov (.t 23))⟩,
              ⟨(some 121), none, (.mov (.t 16))⟩,
              ⟨(some 122), none, (.len false (.t 121))⟩,
              ⟨(some 123), none, (.bin .lss (.t 120) (.t 122))⟩])
            (.cnd (.t 123)
              .skip
              (.exit 2)))
            (.seq (.blk 3 (.seq (.ops [⟨(some 126), none, (.mov (.t 16))⟩,
                ⟨(some 127), none, (.mov (.t 23))⟩,
                ⟨(some 128), none, (.ixA 3 (.t 126) (.t 127))⟩,
                ⟨(some 129), none, (.ld 3 true (.t 128))⟩,
                ⟨(some 130), none, (.mov (.t 12))⟩,
                ⟨(some 131), none, (.mov (.t 14))⟩,
                ⟨(some 132), none, (.ixA 1 (.t 130) (.t 131))⟩,
                ⟨(some 133), none, (.ld 1 false (.t 132))⟩,
                ⟨(some 134), none, (.mov (.t 23))⟩,
                ⟨(some 135), none, (.ixA 3 (.t 133) (.t 134))⟩,
                ⟨(some 136), none, (.ld 3 true (.t 135))⟩,
                ⟨(some 137), none, (.eqn (.flat [.i, .i, .i]) true (.t 129) (.t 136))⟩])
              (.cnd (.t 137)
                (.seq (.ops [⟨(some 8), none, (.mov (.k (.bool false)))⟩])
                .ret)
                .skip)))
            (.ops [⟨(some 124), none, (.mov (.t 23))⟩,
              ⟨(some 125), none, (.bin .add (.t 124) (.k (.int .i64 1)))⟩,
              ⟨(some 23), none, (.mov (.t 125))⟩])))))))))))
      (.ops [⟨(some 55), none, (.mov (.t 14))⟩,
        ⟨(some 56), none, (.bin .add (.t 55) (.k (.int .i64 1)))⟩,
        ⟨(some 14), none, (.mov (.t 56))⟩]))))))
  (.seq (.ops [⟨(some 138), none, (.callF 16 [])⟩,
    ⟨(some 8), none, (.mov (.t 138))⟩])
  .ret)))))))⟩
def hint13 (P : Program) : Hint := { site := [(62, 15), (68, 16)], nils := [], frz := [], wr := [] }

theorem bErr_mk {k a b n : Int} (hk : 1 ≤ k ∧ k ≤ 2) (ha : 0 ≤ a ∧ a < n) (hb : 0 ≤ b ∧ b < n ∧ a ≠ b) : bErr ⟨k, a, b⟩ n = 0 := by
  unfold bErr
  rw [if_pos (inB_t.2 hk), if_pos (by rw [Bool.and_eq_true, inB_t, inB_t]; dsimp only; omega), if_neg hb.2.2]
theorem bondsOf_c (g : Nat) (w guests most : Int) (hg : 0 ≤ guests ∧ guests ≤ 1000) (hm : 0 ≤ most ∧ most ≤ 1000) : RawC Try.prog 57 [.ref 1000 g 0, .int .i64 guests, .int .i64 most] (BoxS g w)
    (BoxR g fun av => ∃ bs, av = .slc 3 (bR bs) .non ∧ bsErr guests bs = 0 ∧ (bs.length : Int) ≤ most) := by
  refine RawC.walk (H := hint57 Try.prog) ir57 Try.func57 rfl rfl rfl ?_
  unfold ir57
  repeat' (first
    | with_reducible (first | refine Rd.p ?_ | refine zE ?_ | refine zE0 ?_)
    | with_reducible (first | refine zI fun y hy => ?_ | refine zL ?_ | refine zS ?_ | refine zA fun _ => ?_ | refine zV ?_ | refine zC ?_ | refine zG ?_ | refine zU ?_ | refine zG0 ?_ | refine zU0 ?_ | refine zF ?_)
    | ((with_reducible refine acall_id ?_); refine ACall.box (upp_c _ _ _ (by omega) (by omega)) rfl rfl rfl ?_; rintro _ _ ⟨n0, rfl, hn0, hn1⟩)
    | with_reducible (first | refine zX ?_ | refine zD fun _ => ?_ | refine zD0 ?_ | refine zN ?_ | refine zF0 ?_ | refine zX0 ?_ | refine z1 ?_ | refine z2 ?_ | refine z3 ?_ | refine z4 ?_ | refine z5 ?_ | refine z6 ?_ | refine z7 ?_ | refine z8 ?_ | refine y1 ?_ | refine y2 ?_ | refine y3 ?_ | refine y4 ?_ | refine y5 ?_ | refine y6 ?_ | refine y7 ?_ | refine y8 ?_ | refine Rt.p (fun _ => ?_) fun _ => ?_)
    | ((with_reducible apply w_ixM); (focus exact rfl); (focus exact rfl); case' hk => intro y hy) | ((with_reducible (first | apply w_val | apply q_ends)); (focus exact rfl)))
  rename_i g0 _
  refine w_loopK [0, 1] [] (fun x : List Bond × Nat × Int × Int => (∀ d ∈ x.1, bErr d guests = 0) ∧ 0 ≤ x.2.2.2 ∧ (x.1.length : Int) + x.2.2.2 = n0) (fun x => x.2.2.2.toNat) (fun x => [(8, .int .i64 x.2.2.2), (7, .slc 3 (bR x.1) (.own 7 x.2.1))])
    (fun x => [(7, (x.2.1, .row [])), (1000, (g, .row [.int .u64 x.2.2.1]))]) ([], g0, _, n0) ⟨(fun d hd => by cases hd), by dsimp only; omega, by dsimp only; simp⟩ ⟨rfl, rfl, trivial⟩ ⟨rfl, rfl, trivial⟩ ?_
  rintro ⟨bs, g7, w, n⟩ ⟨hd, hn, hl⟩ e σ
  dsimp only at hd hn hl ⊢
  by_cases hlt : 0 < n ∧ 1 < guests
  case neg =>
    repeat' (first
      | with_reducible (first | refine Rd.p ?_ | refine zE ?_ | refine zE0 ?_)
      | with_reducible (first | refine zI fun y hy => ?_ | refine zL ?_ | refine zS ?_ | refine zA fun _ => ?_ | refine zV ?_ | refine zC ?_ | refine zG ?_ | refine zU ?_ | refine zG0 ?_ | refine zU0 ?_ | refine zF ?_)
      | with_reducible (first | refine zX ?_ | refine zD fun _ => ?_ | refine zD0 ?_ | refine zN ?_ | refine zF0 ?_ | refine zX0 ?_ | refine z1 ?_ | refine z2 ?_ | refine z3 ?_ | refine z4 ?_ | refine z5 ?_ | refine z6 ?_ | refine z7 ?_ | refine z8 ?_ | refine y1 ?_ | refine y2 ?_ | refine y3 ?_ | refine y4 ?_ | refine y5 ?_ | refine y6 ?_ | refine y7 ?_ | refine y8 ?_ | refine Rt.p (fun _ => ?_) fun _ => ?_)
      | ((with_reducible apply w_ixM); (focus exact rfl); (focus exact rfl); case' hk => intro y hy) | ((with_reducible (first | apply w_val | apply q_ends)); (focus exact rfl)))
    all_goals exact ⟨_, ⟨bs, rfl, bsErr_all hd, by omega⟩, rfl⟩
  repeat' (first
    | with_reducible (first | refine Rd.p ?_ | refine zE ?_ | refine zE0 ?_)
    | with_reducible (first | refine zI fun y hy => ?_ | refine zL ?_ | refine zS ?_ | refine zA fun _ => ?_ | refine zV ?_ | refine zC ?_ | refine zG ?_ | refine zU ?_ | refine zG0 ?_ | refine zU0 ?_ | refine zF ?_)
    | ((with_reducible refine acall_id ?_); refine ACall.box (any_c _ _ 1 2 (by omega) (by omega) (by omega) (by omega)) rfl rfl rfl ?_; rintro _ _ ⟨k1, rfl, hk1, hk2⟩)
    | ((with_reducible refine acall_id ?_); refine ACall.box (any_c _ _ 1 (guests - 1) (by omega) (by omega) (by omega) (by omega)) rfl rfl rfl ?_; rintro _ _ ⟨k3, rfl, hk3, hk4⟩)
    | ((with_reducible refine acall_id ?_); refine ACall.box (upp_c _ _ guests (by omega) (by omega)) rfl rfl rfl ?_; rintro _ _ ⟨k5, rfl, hk5, hk6⟩)
    | with_reducible (first | refine zX ?_ | refine zD fun _ => ?_ | refine zD0 ?_ | refine zN ?_ | refine zF0 ?_ | refine zX0 ?_ | refine z1 ?_ | refine z2 ?_ | refine z3 ?_ | refine z4 ?_ | refine z5 ?_ | refine z6 ?_ | refine z7 ?_ | refine z8 ?_ | refine y1 ?_ | refine y2 ?_ | refine y3 ?_ | refine y4 ?_ | refine y5 ?_ | refine y6 ?_ | refine y7 ?_ | refine y8 ?_ | refine Rt.p (fun _ => ?_) fun _ => ?_)
    | ((with_reducible apply w_ixM); (focus exact rfl); (focus exact rfl); case' hk => intro y hy) | ((with_reducible (first | apply w_val | apply q_ends)); (focus exact rfl)))
  refine q_loop (_, _, _, _) ?_ ?_ (by repeat' (first | exact slots_nil | apply slots_cons | rfl | (rw [map_snoc]; rfl) | (rw [len_snoc]; rfl) | (rw [hS]; rfl) | (rw [hS, map_snoc]; rfl) | (refine int_eq ?_; (try dsimp only); omega) | (refine congrArg AV.bool ?_; simp_all; done))) (by repeat' (first | exact slots_nil | apply slots_cons | rfl | (rw [map_snoc]; rfl) | (rw [len_snoc]; rfl) | (rw [hS]; rfl) | (rw [hS, map_snoc]; rfl) | (refine int_eq ?_; (try dsimp only); omega) | (refine congrArg AV.bool ?_; simp_all; done))) (by repeat' (first | exact kept_nil | apply kept_cons | rfl)) (by repeat' (first | exact kept_nil | apply kept_cons | rfl))
  · refine ⟨fun d hd' => ?_, by dsimp only; omega, by simp; omega⟩
    rcases List.mem_append.1 hd' with hd' | hd'
    · exact hd d hd'
    · simp at hd'; subst hd'; exact bErr_mk ⟨by omega, by omega⟩ ⟨by omega, by omega⟩ (next_mod ⟨by omega, by omega⟩ ⟨by omega, by omega⟩)
  · dsimp only; omega
theorem invP_len (gs : List Guest) (bs : List Bond) (seats : Int) : (invP gs bs seats).1.length ≤ gs.length := by
  unfold invP
  split
  · simp
  · split
    · simp
    · split
      · simp
      · split
        · rename_i h; exact (bestI_K gs bs seats (inB_t.1 h).1 _ (Nat.le_refl _)).inc.len
        · simp
abbrev IQ := List Guest × List Bond × Int
theorem seatInvites_c (l : List Guest) (bs : List Bond) (seats0 : Int) (nums : List Int) (hl : l.length < 2 ^ 63) (hn : nums.length < 2 ^ 62) :
    Fn0 Try.prog 13 [.slc 5 (gR l) .non, .slc 3 (bR bs) .non, .int .i64 seats0, .slc 1 (iR nums) .non] (fun v => v = .bool true) := by
  by_cases hlong : longB l = true
  · refine RawC.walk (H := hint13 Try.prog) ir13 Try.func13 rfl (by kernel_rfl) rfl ?_
    unfold ir13
    repeat' (first
      | with_reducible (first | refine Rd.p ?_ | refine zE ?_ | refine zE0 ?_)
      | with_reducible (first | refine zI fun y hy => ?_ | refine zL ?_ | refine zS ?_ | refine zA fun _ => ?_ | refine zV ?_ | refine zC ?_ | refine zG ?_ | refine zU ?_ | refine zG0 ?_ | refine zU0 ?_ | refine zF ?_)
      | ((with_reducible refine acall_id ?_); refine ACall.val (long_c _ hl) rfl rfl ?_)
      | ((with_reducible refine acall_id ?_); refine ACall.val awake_c rfl rfl ?_)
      | with_reducible (first | refine zX ?_ | refine zD fun _ => ?_ | refine zD0 ?_ | refine zN ?_ | refine zF0 ?_ | refine zX0 ?_ | refine z1 ?_ | refine z2 ?_ | refine z3 ?_ | refine z4 ?_ | refine z5 ?_ | refine z6 ?_ | refine z7 ?_ | refine z8 ?_ | refine y1 ?_ | refine y2 ?_ | refine y3 ?_ | refine y4 ?_ | refine y5 ?_ | refine y6 ?_ | refine y7 ?_ | refine y8 ?_ | refine Rt.p (fun _ => ?_) fun _ => ?_)
      | ((with_reducible apply w_ixM); (focus exact rfl); (focus exact rfl); case' hk => intro y hy) | ((with_reducible (first | apply w_val | apply q_ends)); (focus exact rfl)))
    all_goals rfl
  have hlong' : longB l = false := by simpa using hlong
  obtain ⟨hl14, hl40⟩ := longB_f hlong'
  by_cases hd20 : 25 < bs.length
  · refine RawC.walk (H := hint13 Try.prog) ir13 Try.func13 rfl (by kernel_rfl) rfl ?_
    unfold ir13
    repeat' (first
      | with_reducible (first | refine Rd.p ?_ | refine zE ?_ | refine zE0 ?_)
      | with_reducible (first | refine zI fun y hy => ?_ | refine zL ?_ | refine zS ?_ | refine zA fun _ => ?_ | refine zV ?_ | refine zC ?_ | refine zG ?_ | refine zU ?_ | refine zG0 ?_ | refine zU0 ?_ | refine zF ?_)
      | ((with_reducible refine acall_id ?_); refine ACall.val (long_c _ hl) rfl rfl ?_)
      | ((with_reducible refine acall_id ?_); refine ACall.val awake_c rfl rfl ?_)
      | with_reducible (first | refine zX ?_ | refine zD fun _ => ?_ | refine zD0 ?_ | refine zN ?_ | refine zF0 ?_ | refine zX0 ?_ | refine z1 ?_ | refine z2 ?_ | refine z3 ?_ | refine z4 ?_ | refine z5 ?_ | refine z6 ?_ | refine z7 ?_ | refine z8 ?_ | refine y1 ?_ | refine y2 ?_ | refine y3 ?_ | refine y4 ?_ | refine y5 ?_ | refine y6 ?_ | refine y7 ?_ | refine y8 ?_ | refine Rt.p (fun _ => ?_) fun _ => ?_)
      | ((with_reducible apply w_ixM); (focus exact rfl); (focus exact rfl); case' hk => intro y hy) | ((with_reducible (first | apply w_val | apply q_ends)); (focus exact rfl)))
    all_goals rfl
  refine RawC.walk (H := hint13 Try.prog) ir13 Try.func13 rfl (by kernel_rfl) rfl ?_
  unfold ir13
  repeat' (first
    | with_reducible (first | refine Rd.p ?_ | refine zE ?_ | refine zE0 ?_)
    | with_reducible (first | refine zI fun y hy => ?_ | refine zL ?_ | refine zS ?_ | refine zA fun _ => ?_ | refine zV ?_ | refine zC ?_ | refine zG ?_ | refine zU ?_ | refine zG0 ?_ | refine zU0 ?_ | refine zF ?_)
    | ((with_reducible refine acall_id ?_); refine ACall.val (long_c _ hl) rfl rfl ?_)
    | ((with_reducible refine acall_id ?_); refine ACall.liftS (boxOf_s nums hn) [] (some 6) rfl rfl rfl trivial (fun _ => rfl) ?_; rintro ⟨gb, w⟩ _ rfl)
    | ((with_reducible refine acall_id ?_); refine ACall.box (upp_c _ _ 9 (by omega) (by omega)) rfl rfl rfl ?_; rintro _ _ ⟨n, rfl, hn1, hn2⟩)
    | ((with_reducible refine acall_id ?_); refine ACall.box (guestsOf_c _ _ _ (by omega)) rfl rfl rfl ?_; rintro _ _ ⟨gs, rfl, hgs, hgl⟩)
    | ((with_reducible refine acall_id ?_); refine ACall.box (bondsOf_c _ _ gs.length 8 (by omega) (by omega)) rfl rfl rfl ?_; rintro _ _ ⟨made, rfl, hds, hd1⟩)
    | ((with_reducible refine acall_id ?_); refine ACall.box (upp_c _ _ 8 (by omega) (by omega)) rfl rfl rfl ?_; rintro _ _ ⟨seats, rfl, hq1, hq2⟩)
    | with_reducible (first | refine zX ?_ | refine zD fun _ => ?_ | refine zD0 ?_ | refine zN ?_ | refine zF0 ?_ | refine zX0 ?_ | refine z1 ?_ | refine z2 ?_ | refine z3 ?_ | refine z4 ?_ | refine z5 ?_ | refine z6 ?_ | refine z7 ?_ | refine z8 ?_ | refine y1 ?_ | refine y2 ?_ | refine y3 ?_ | refine y4 ?_ | refine y5 ?_ | refine y6 ?_ | refine y7 ?_ | refine y8 ?_ | refine Rt.p (fun _ => ?_) fun _ => ?_)
    | ((with_reducible apply w_ixM); (focus exact rfl); (focus exact rfl); case' hk => intro y hy) | ((with_reducible (first | apply w_val | apply q_ends)); (focus exact rfl)))
  have hsz : ∀ g ∈ gs, g.name.size ≤ 40 := fun g hg => by have := (madeG_ok hgs).2 g hg; omega
  have hqs : ∀ q ∈ [((l, bs, seats0) : IQ), (gs, made, seats)], q.1.length ≤ 14 ∧ (∀ g ∈ q.1, g.name.size ≤ 40) ∧ q.2.1.length ≤ 25 := by
    intro q hq
    simp only [List.mem_cons, List.not_mem_nil, or_false] at hq
    rcases hq with rfl | rfl
    · exact ⟨hl14, hl40, by dsimp only; omega⟩
    · exact ⟨by dsimp only; omega, hsz, by dsimp only; omega⟩
  generalize hqe : [((l, bs, seats0) : IQ), (gs, made, seats)] = qs at hqs
  have hql : qs.length = 2 := by rw [← hqe]; rfl
  refine w_loopK [] [] (fun k : Nat => k ≤ 2) (fun k => 2 - k)
    (fun k => [(14, .int .i64 k), (11, .slc 1 (qs.map fun q => [.slc 5 (gR q.1) .non]) .full), (12, .slc 1 (qs.map fun q => [.slc 3 (bR q.2.1) .non]) .full), (13, .slc 1 (qs.map fun q => [.int .i64 q.2.2]) .full)]) (fun _ => []) 0 (by omega) ⟨rfl, by subst hqe; rfl, by subst hqe; rfl, by subst hqe; rfl, trivial⟩ trivial ?_
  rintro k hk e σ
  by_cases hk3 : k < 2
  case neg =>
    repeat' (first
      | with_reducible (first | refine Rd.p ?_ | refine zE ?_ | refine zE0 ?_)
      | with_reducible (first | refine zI fun y hy => ?_ | refine zL ?_ | refine zS ?_ | refine zA fun _ => ?_ | refine zV ?_ | refine zC ?_ | refine zG ?_ | refine zU ?_ | refine zG0 ?_ | refine zU0 ?_ | refine zF ?_)
      | ((with_reducible refine acall_id ?_); refine ACall.val awake_c rfl rfl ?_)
      | with_reducible (first | refine zX ?_ | refine zD fun _ => ?_ | refine zD0 ?_ | refine zN ?_ | refine zF0 ?_ | refine zX0 ?_ | refine z1 ?_ | refine z2 ?_ | refine z3 ?_ | refine z4 ?_ | refine z5 ?_ | refine z6 ?_ | refine z7 ?_ | refine z8 ?_ | refine y1 ?_ | refine y2 ?_ | refine y3 ?_ | refine y4 ?_ | refine y5 ?_ | refine y6 ?_ | refine y7 ?_ | refine y8 ?_ | refine Rt.p (fun _ => ?_) fun _ => ?_)
      | ((with_reducible apply w_ixM); (focus exact rfl); (focus exact rfl); case' hk => intro y hy) | ((with_reducible (first | apply w_val | apply q_ends)); (focus exact rfl)))
    rfl
  obtain ⟨q, hq⟩ : ∃ q, qs[((k : Nat) : Int).toNat]? = some q := ⟨qs[k], by simp [hql, hk3]⟩
  obtain ⟨q1, q2, q3⟩ := hqs q (List.mem_of_getElem? hq)
  have hM := Invite_c q.1 q.2.1 q.2.2 (by omega) (by omega) (fun g hg => by have := q2 g hg; omega)
  have hR := rInvite_c q.1 q.2.1 q.2.2 (by omega) (by omega) (fun g hg => by have := q2 g hg; omega)
  have hml : (invP q.1 q.2.1 q.2.2).1.length < 2 ^ 62 := by have := invP_len q.1 q.2.1 q.2.2; omega
  generalize invP q.1 q.2.1 q.2.2 = mo at hM hR hml
  obtain ⟨o, c, ee⟩ := mo
  dsimp only at hM hR hml
  repeat' (first
    | with_reducible (first | refine Rd.p ?_ | refine zE ?_ | refine zE0 ?_)
    | (with_reducible refine zK hq ?_)
    | with_reducible (first | refine zI fun y hy => ?_ | refine zL ?_ | refine zS ?_ | refine zA fun _ => ?_ | refine zV ?_ | refine zC ?_ | refine zG ?_ | refine zU ?_ | refine zG0 ?_ | refine zU0 ?_ | refine zF ?_)
    | ((with_reducible refine acall_id ?_); refine ACall.val hM rfl rfl ?_)
    | ((with_reducible refine acall_id ?_); refine ACall.val hR rfl rfl ?_)
    | ((with_reducible refine acall_id ?_); refine ACall.val (eqGuests_c _ _ (by omega)) rfl rfl ?_)
    | ((with_reducible refine acall_id ?_); refine ACall.val (eq_c o o hml) rfl rfl ?_)
    | with_reducible (first | refine zX ?_ | refine zD fun _ => ?_ | refine zD0 ?_ | refine zN ?_ | refine zF0 ?_ | refine zX0 ?_ | refine z1 ?_ | refine z2 ?_ | refine z3 ?_ | refine z4 ?_ | refine z5 ?_ | refine z6 ?_ | refine z7 ?_ | refine z8 ?_ | refine y1 ?_ | refine y2 ?_ | refine y3 ?_ | refine y4 ?_ | refine y5 ?_ | refine y6 ?_ | refine y7 ?_ | refine y8 ?_ | refine Rt.p (fun _ => ?_) fun _ => ?_)
    | ((with_reducible apply w_ixM); (focus exact rfl); (focus exact rfl); case' hk => intro y hy) | ((with_reducible (first | apply w_val | apply q_ends)); (focus exact rfl)))
  refine w_loopK [11, 12, 13, 14, 16] [] (fun x : List Bond × List Bond => q.2.1 = x.1 ++ x.2) (fun x => x.2.length) (fun x => [(23, .int .i64 x.1.length)]) (fun _ => []) ([], q.2.1) rfl ⟨rfl, trivial⟩ trivial ?_
  rintro ⟨pre, post⟩ hpp e2 σ2
  dsimp only at hpp ⊢
  have hlen := congrArg List.length hpp
  cases post with
  | nil =>
    simp only [List.append_nil, List.length_append, List.length_nil] at hlen
    repeat' (first
      | with_reducible (first | refine Rd.p ?_ | refine zE ?_ | refine zE0 ?_)
      | with_reducible (first | refine zI fun y hy => ?_ | refine zL ?_ | refine zS ?_ | refine zA fun _ => ?_ | refine zV ?_ | refine zC ?_ | refine zG ?_ | refine zU ?_ | refine zG0 ?_ | refine zU0 ?_ | refine zF ?_)
      | with_reducible (first | refine zX ?_ | refine zD fun _ => ?_ | refine zD0 ?_ | refine zN ?_ | refine zF0 ?_ | refine zX0 ?_ | refine z1 ?_ | refine z2 ?_ | refine z3 ?_ | refine z4 ?_ | refine z5 ?_ | refine z6 ?_ | refine z7 ?_ | refine z8 ?_ | refine y1 ?_ | refine y2 ?_ | refine y3 ?_ | refine y4 ?_ | refine y5 ?_ | refine y6 ?_ | refine y7 ?_ | refine y8 ?_ | refine Rt.p (fun _ => ?_) fun _ => ?_)
      | ((with_reducible apply w_ixM); (focus exact rfl); (focus exact rfl); case' hk => intro y hy) | ((with_reducible (first | apply w_val | apply q_ends)); (focus exact rfl)))
    refine zQ (k + 1) ?_ ?_
    · omega
    · omega
  | cons c post =>
    simp only [List.length_append, List.length_cons] at hlen
    repeat' (first
      | with_reducible (first | refine Rd.p ?_ | refine zE ?_ | refine zE0 ?_)
      | (first | with_reducible refine zK hq ?_ | refine w_ixP hpp rfl rfl ?_)
      | with_reducible (first | refine zI fun y hy => ?_ | refine zL ?_ | refine zS ?_ | refine zA fun _ => ?_ | refine zV ?_ | refine zC ?_ | refine zG ?_ | refine zU ?_ | refine zG0 ?_ | refine zU0 ?_ | refine zF ?_)
      | with_reducible (first | refine zX ?_ | refine zD fun _ => ?_ | refine zD0 ?_ | refine zN ?_ | refine zF0 ?_ | refine zX0 ?_ | refine z1 ?_ | refine z2 ?_ | refine z3 ?_ | refine z4 ?_ | refine z5 ?_ | refine z6 ?_ | refine z7 ?_ | refine z8 ?_ | refine y1 ?_ | refine y2 ?_ | refine y3 ?_ | refine y4 ?_ | refine y5 ?_ | refine y6 ?_ | refine y7 ?_ | refine y8 ?_ | refine Rt.p (fun _ => ?_) fun _ => ?_)
      | ((with_reducible apply w_ixM); (focus exact rfl); (focus exact rfl); case' hk => intro y hy) | ((with_reducible (first | apply w_val | apply q_ends)); (focus exact rfl)))
    · rename_i h
      simp at h
    · refine zQ (pre ++ [c], post) ?_ ?_
      · dsimp only; rw [hpp]; simp
      · simp
end Go.Abs
