/- A part of the proofs of the laws of this seat: contracts of the functions that they reach, each proved of the program's form in Lean. No condition beyond those that each contract names. -/
import Derived.Test.YtmekfgjlcaonjaaC20
import Derived.Test.YtmekfgjlcaonjaaC19
import Derived.Test.YtmekfgjlcaonjaaC18
import Derived.Test.YtmekfgjlcaonjaaC17
import Derived.Test.YtmekfgjlcaonjaaC16
import Derived.Test.YtmekfgjlcaonjaaC15
import Derived.Test.YtmekfgjlcaonjaaC14
import Derived.Test.YtmekfgjlcaonjaaC13
import Derived.Test.YtmekfgjlcaonjaaC12
import Derived.Test.YtmekfgjlcaonjaaC11
import Derived.Test.YtmekfgjlcaonjaaC10
import Derived.Test.YtmekfgjlcaonjaaC9
import Derived.Test.YtmekfgjlcaonjaaC8
import Derived.Test.YtmekfgjlcaonjaaC7
import Derived.Test.YtmekfgjlcaonjaaC5
import Derived.Test.YtmekfgjlcaonjaaC4
import Derived.Test.YtmekfgjlcaonjaaC2
import Derived.Test.YtmekfgjlcaonjaaC1
import Derived.Test.YtmekfgjlcaonjaaB0
import Derived.Test.YtmekfgjlcaonjaaB1
import Derived.Test.YtmekfgjlcaonjaaB14a
import Derived.Test.YtmekfgjlcaonjaaB9
import Derived.Test.YtmekfgjlcaonjaaB4
import Derived.Test.YtmekfgjlcaonjaaB11
import Derived.Test.YtmekfgjlcaonjaaB20
import Derived.Test.YtmekfgjlcaonjaaB25
import Derived.Test.YtmekfgjlcaonjaaB29
import Derived.Test.YtmekfgjlcaonjaaB36
set_option linter.unusedVariables false
set_option linter.unusedSimpArgs false
set_option maxRecDepth 20000
set_option maxHeartbeats 4000000
/-! ### The law of guests -/
namespace Go.Abs
open Go.Proofs
/-- aloeswood/aloeswoodlaw09.StoreGuests -/
def ir11 : IFn :=
  ⟨158, [(2, none)], (.seq (.ops [⟨(some 2), none, (.mov (.k (.bool false)))⟩])
  (.seq (.ops [⟨(some 22), none, (.mov (.t 0))⟩,
    ⟨(some 23), none, (.callF 17 [(.t 22)])⟩,
    ⟨(some 3), none, (.mov (.t 23))⟩])
  (.seq (.ops [⟨(some 24), none, (.mov (.t 3))⟩,
    ⟨(some 25), none, (.callF 42 [(.t 24), (.k (.int .i64 9))])⟩,
    ⟨(some 4), none, (.new [.nsl, .nsl])⟩,
    ⟨none, none, (.st 2 (.t 4) (.t 25))⟩])
  (.seq (.ops [⟨(some 26), none, (.ld 2 true (.t 4))⟩,
    ⟨(some 27), none, (.callF 57 [(.t 26)])⟩,
    ⟨(some 5), none, (.mov (.t 27))⟩])
  (.seq (.ops [⟨(some 6), none, (.mov (.k .nsl))⟩])
  (.seq (.seq (.ops [⟨(some 7), none, (.mov (.k (.int .i64 0)))⟩])
  (.blk 0 (.loop (.seq (.seq (.ops [⟨(some 28), none, (.mov (.t 7))⟩,
        ⟨(some 29), none, (.mov (.t 5))⟩,
        ⟨(some 30), none, (.bin .lss (.t 28) (.t 29))⟩])
      (.cnd (.t 30)
        .skip
        (.exit 0)))
      (.seq (.blk 1 (.seq (.ops [⟨(some 34), none, (.ld 2 true (.t 4))⟩,
          ⟨(some 35), none, (.mov (.t 7))⟩,
          ⟨(some 36), none, (.callF 59 [(.t 34), (.t 35)])⟩,
          ⟨(some 33), none, (.mov (.t 36))⟩,
          ⟨(some 37), none, (.ext 0 (.t 33))⟩,
          ⟨(some 38), none, (.ext 1 (.t 33))⟩,
          ⟨(some 8), none, (.mov (.t 37))⟩,
          ⟨(some 9), none, (.mov (.t 38))⟩])
        (.seq (.seq (.ops [⟨(some 39), none, (.mov (.t 9))⟩,
          ⟨(some 40), none, (.bin .neq (.t 39) (.k (.int .i64 0)))⟩,
          ⟨(some 41), none, (.mov (.t 40))⟩,
          ⟨(some 42), (some (41, false)), (.mov (.t 8))⟩,
          ⟨(some 43), (some (41, false)), (.len false (.t 42))⟩,
          ⟨(some 44), (some (41, false)), (.flA 0 (.t 4))⟩,
          ⟨(some 45), (some (41, false)), (.ld 1 false (.t 44))⟩,
          ⟨(some 46), (some (41, false)), (.len false (.t 45))⟩,
          ⟨(some 47), (some (41, false)), (.bin .neq (.t 43) (.t 46))⟩,
          ⟨(some 48), none, (.pick (.t 41) (.k (.bool true)) (.t 47))⟩,
          ⟨(some 49), none, (.mov (.t 48))⟩,
          ⟨(some 50), (some (49, false)), (.mov (.t 7))⟩,
          ⟨(some 51), (some (49, false)), (.bin .gtr (.t 50) (.k (.int .i64 0)))⟩,
          ⟨(some 52), (some (49, false)), (.mov (.t 51))⟩,
          ⟨(some 53), (some (52, true)), (.mov (.t 6))⟩,
          ⟨(some 54), (some (52, true)), (.mov (.t 8))⟩,
          ⟨(some 55), (some (52, true)), (.callF 64 [(.t 53), (.t 54)])⟩,
          ⟨(some 56), (some (52, true)), (.not (.t 55))⟩,
          ⟨(some 57), (some (49, false)), (.pick (.t 52) (.t 56) (.k (.bool false)))⟩,
          ⟨(some 58), none, (.pick (.t 49) (.k (.bool true)) (.t 57))⟩])
        (.cnd (.t 58)
          (.seq (.ops [⟨(some 2), none, (.mov (.k (.bool false)))⟩])
          .ret)
          .skip))
        (.seq (.seq (.ops [⟨(some 10), none, (.mov (.k (.int .i64 0)))⟩])
        (.blk 2 (.loop (.seq (.seq (.ops [⟨(some 59), none, (.mov (.t 10))⟩,
              ⟨(some 60), none, (.mov (.t 8))⟩,
              ⟨(some 61), none, (.len false (.t 60))⟩,
              ⟨(some 62), none, (.bin .lss (.t 59) (.t 61))⟩])
            (.cnd (.t 62)
              .skip
              (.exit 2)))
            (.seq (.blk 3 (.seq (.ops [⟨(some 65), none, (.mov (.t 8))⟩,
                ⟨(some 66), none, (.mov (.t 10))⟩,
                ⟨(some 67), none, (.ixA 1 (.t 65) (.t 66))⟩,
                ⟨(some 68), none, (.ld 1 false (.t 67))⟩,
                ⟨(some 69), none, (.bin .lss (.t 68) (.k (.int .i64 0)))⟩,
                ⟨(some 70), none, (.mov (.t 69))⟩,
                ⟨(some 71), (some (70, false)), (.mov (.t 8))⟩,
                ⟨(some 72), (some (70, false)), (.mov (.t 10))⟩,
                ⟨(some 73), (some (70, false)), (.ixA 1 (.t 71) (.t 72))⟩,
                ⟨(some 74), (some (70, false)), (.ld 1 false (.t 73))⟩,
                ⟨(some 75), (some (70, false)), (.flA 0 (.t 4))⟩,
                ⟨(some 76), (some (70, false)), (.ld 1 false (.t 75))⟩,
                ⟨(some 77), (some (70, false)), (.mov (.t 10))⟩,
                ⟨(some 78), (some (70, false)), (.ixA 1 (.t 76) (.t 77))⟩,
                ⟨(some 79), (some (70, false)), (.ld 1 false (.t 78))⟩,
                ⟨(some 80), (some (70, false)), (.bin .geq (.t 74) (.t 79))⟩,
                ⟨(some 81), none, (.pick (.t 70) (.k (.bool true)) (.t 80))⟩])
              (.cnd (.t 81)
                (.seq (.ops [⟨(some 2), none, (.mov (.k (.bool false)))⟩])
                .ret)
                .skip)))
            (.ops [⟨(some 63), none, (.mov (.t 10))⟩,
              ⟨(some 64), none, (.bin .add (.t 63) (.k (.int .i64 1)))⟩,
              ⟨(some 10), none, (.mov (.t 64))⟩]))))))
        (.ops [⟨(some 82), none, (.mov (.t 8))⟩,
          ⟨(some 6), none, (.mov (.t 82))⟩])))))
      (.ops [⟨(some 31), none, (.mov (.t 7))⟩,
        ⟨(some 32), none, (.bin .add (.t 31) (.k (.int .i64 1)))⟩,
        ⟨(some 7), none, (.mov (.t 32))⟩]))))))
  (.seq (.ops [⟨(some 84), none, (.ld 2 true (.t 4))⟩,
    ⟨(some 85), none, (.mov (.t 5))⟩,
    ⟨(some 86), none, (.callF 59 [(.t 84), (.t 85)])⟩,
    ⟨(some 83), none, (.mov (.t 86))⟩,
    ⟨(some 87), none, (.ext 0 (.t 83))⟩,
    ⟨(some 88), none, (.ext 1 (.t 83))⟩,
    ⟨(some 11), none, (.mov (.t 87))⟩,
    ⟨(some 12), none, (.mov (.t 88))⟩])
  (.seq (.ops [⟨(some 13), none, (.nil 1 13)⟩])
  (.seq (.seq (.ops [⟨(some 14), none, (.mov (.k (.int .i64 0)))⟩])
  (.blk 4 (.loop (.seq (.seq (.ops [⟨(some 89), none, (.mov (.t 14))⟩,
        ⟨(some 90), none, (.flA 1 (.t 4))⟩,
        ⟨(some 91), none, (.ld 1 false (.t 90))⟩,
        ⟨(some 92), none, (.len false (.t 91))⟩,
        ⟨(some 93), none, (.bin .lss (.t 89) (.t 92))⟩])
      (.cnd (.t 93)
        .skip
        (.exit 4)))
      (.seq (.blk 5 (.ops [⟨(some 96), none, (.mov (.t 13))⟩,
          ⟨(some 97), none, (.mov (.t 3))⟩,
          ⟨(some 98), none, (.mov (.t 5))⟩,
          ⟨(some 99), none, (.callF 20 [(.t 97), (.t 98)])⟩,
          ⟨(some 100), none, (.bsl 1 [[(.int .i64 0)]] [(0, (.t 99))])⟩,
          ⟨(some 101), none, (.app 1 8 (.t 96) (.t 100) 13)⟩,
          ⟨(some 13), none, (.mov (.t 101))⟩]))
      (.ops [⟨(some 94), none, (.mov (.t 14))⟩,
        ⟨(some 95), none, (.bin .add (.t 94) (.k (.int .i64 1)))⟩,
        ⟨(some 14), none, (.mov (.t 95))⟩]))))))
  (.seq (.ops [⟨(some 103), none, (.ld 2 true (.t 4))⟩,
    ⟨(some 104), none, (.mov (.t 13))⟩,
    ⟨(some 105), none, (.callF 49 [(.t 103), (.t 104)])⟩,
    ⟨(some 102), none, (.mov (.t 105))⟩,
    ⟨(some 106), none, (.ext 0 (.t 102))⟩,
    ⟨(some 107), none, (.ext 1 (.t 102))⟩,
    ⟨(some 108), none, (.ext 2 (.t 102))⟩,
    ⟨(some 109), none, (.ext 3 (.t 102))⟩,
    ⟨(some 15), none, (.mov (.t 106))⟩,
    ⟨(some 16), none, (.mov (.t 107))⟩,
    ⟨(some 17), none, (.mov (.t 108))⟩,
    ⟨(some 18), none, (.mov (.t 109))⟩])
  (.seq (.seq (.ops [⟨(some 110), none, (.mov (.t 12))⟩,
    ⟨(some 111), none, (.bin .neq (.t 110) (.k (.int .i64 7)))⟩,
    ⟨(some 112), none, (.mov (.t 111))⟩,
    ⟨(some 113), (some (112, false)), (.mov (.t 18))⟩,
    ⟨(some 114), (some (112, false)), (.bin .neq (.t 113) (.k (.int .i64 0)))⟩,
    ⟨(some 115), none, (.pick (.t 112) (.k (.bool true)) (.t 114))⟩,
    ⟨(some 116), none, (.mov (.t 115))⟩,
    ⟨(some 117), (some (116, false)), (.mov (.t 17))⟩,
    ⟨(some 118), (some (116, false)), (.ld 2 true (.t 4))⟩,
    ⟨(some 119), (some (116, false)), (.mov (.t 13))⟩,
    ⟨(some 120), (some (116, false)), (.callF 50 [(.t 118), (.t 119)])⟩,
    ⟨(some 121), (some (116, false)), (.bin .neq (.t 117) (.t 120))⟩,
    ⟨(some 122), none, (.pick (.t 116) (.k (.bool true)) (.t 121))⟩,
    ⟨(some 123), none, (.mov (.t 122))⟩,
    ⟨(some 124), (some (123, false)), (.mov (.t 17))⟩,
    ⟨(some 125), (some (123, false)), (.bin .eql (.t 124) (.k (.int .i64 0)))⟩,
    ⟨(some 126), (some (123, false)), (.mov (.t 16))⟩,
    ⟨(some 127), (some (123, false)), (.bin .eql (.t 126) (.k (.int .i64 (-1))))⟩,
    ⟨(some 128), (some (123, false)), (.eqn .bool true (.t 125) (.t 127))⟩,
    ⟨(some 129), none, (.pick (.t 123) (.k (.bool true)) (.t 128))⟩])
  (.cnd (.t 129)
    (.seq (.ops [⟨(some 2), none, (.mov (.k (.bool false)))⟩])
    .ret)
    .skip))
  (.seq (.seq (.ops [⟨(some 19), none, (.mov (.k (.int .i64 0)))⟩])
  (.blk 6 (.loop (.seq (.seq (.ops [⟨(some 130), none, (.mov (.t 19))⟩,
        ⟨(some 131), none, (.bin .lss (.t 130) (.k (.int .i64 12)))⟩])
      (.cnd (.t 131)
        .skip
        (.exit 6)))
      (.seq (.blk 7 (.seq (.ops [⟨(some 20), none, (.mov (.k (.int .i64 0)))⟩])
        (.seq (.seq (.ops [⟨(some 21), none, (.mov (.k (.int .i64 0)))⟩])
        (.blk 8 (.loop (.seq (.seq (.ops [⟨(some 134), none, (.mov (.t 21))⟩,
              ⟨(some 135), none, (.flA 1 (.t 4))⟩,
              ⟨(some 136), none, (.ld 1 false (.t 135))⟩,
              ⟨(some 137), none, (.len false (.t 136))⟩,
              ⟨(some 138), none, (.bin .lss (.t 134) (.t 137))⟩])
            (.cnd (.t 138)
              .skip
              (.exit 8)))
            (.seq (.blk 9 (.seq (.ops [⟨(some 141), none, (.flA 1 (.t 4))⟩,
                ⟨(some 142), none, (.ld 1 false (.t 141))⟩,
                ⟨(some 143), none, (.mov (.t 21))⟩,
                ⟨(some 144), none, (.ixA 1 (.t 142) (.t 143))⟩,
                ⟨(some 145), none, (.ld 1 false (.t 144))⟩,
                ⟨(some 146), none, (.mov (.t 19))⟩,
                ⟨(some 147), none, (.callF 37 [(.t 145), (.t 146)])⟩])
              (.cnd (.t 147)
                (.ops [⟨(some 148), none, (.mov (.t 20))⟩,
                  ⟨(some 149), none, (.bin .add (.t 148) (.k (.int .i64 1)))⟩,
                  ⟨(some 20), none, (.mov (.t 149))⟩])
                .skip)))
            (.ops [⟨(some 139), none, (.mov (.t 21))⟩,
              ⟨(some 140), none, (.bin .add (.t 139) (.k (.int .i64 1)))⟩,
              ⟨(some 21), none, (.mov (.t 140))⟩]))))))
        (.seq (.ops [⟨(some 150), none, (.mov (.t 20))⟩,
          ⟨(some 151), none, (.mov (.t 5))⟩,
          ⟨(some 152), none, (.bin .gtr (.t 150) (.t 151))⟩,
          ⟨(some 153), none, (.mov (.t 152))⟩,
          ⟨(some 154), (some (153, true)), (.mov (.t 17))⟩,
          ⟨(some 155), (some (153, true)), (.bin .eql (.t 154) (.k (.int .i64 0)))⟩,
          ⟨(some 156), none, (.pick (.t 153) (.t 155) (.k (.bool false)))⟩])
        (.cnd (.t 156)
          (.seq (.ops [⟨(some 2), none, (.mov (.k (.bool false)))⟩])
          .ret)
          .skip)))))
      (.ops [⟨(some 132), none, (.mov (.t 19))⟩,
        ⟨(some 133), none, (.bin .add (.t 132) (.k (.int .i64 1)))⟩,
        ⟨(some 19), none, (.mov (.t 133))⟩]))))))
  (.seq (.ops [⟨(some 157), none, (.callF 16 [])⟩,
    ⟨(some 2), none, (.mov (.t 157))⟩])
  .ret)))))))))))))⟩
def hint11 (P : Program) : Hint := { site := [(101, 13)], nils := [(13, 1)], frz := [], mve := [], wr := [] }

def lastV (s : Sea) : Nat → AV
  | 0 => .nsl
  | j + 1 => .slc 1 (iR (comR s.ss j).1) .non
theorem gathsE_of {s : Sea} (h : seaE s = 0) : gathsE s.gs = 0 := by
  unfold seaE at h
  by_cases h0 : s.ss = []
  · rw [if_pos h0] at h; exact absurd h (by decide)
  rw [if_neg h0] at h
  by_cases h1 : 4 < s.ss.length
  · rw [if_pos h1] at h; exact absurd h (by decide)
  rw [if_neg h1] at h
  by_cases h2 : sortsB s.ss = true
  · rw [if_pos h2] at h
    by_cases h3 : 9 < s.gs.length
    · rw [if_pos h3] at h; exact absurd h (by decide)
    rw [if_neg h3] at h; exact h
  · rw [if_neg h2] at h; exact absurd h (by decide)
theorem guests_c (nums : List Int) (hn : nums.length < 2 ^ 62) : Fn0 Try.prog 11 [.slc 1 (iR nums) .non] (fun v => v = .bool true) := by
  refine RawC.walk (H := hint11 Try.prog) ir11 Try.func11 rfl rfl rfl ?_
  unfold ir11
  repeat' (first
    | with_reducible (first | refine Rd.p ?_ | refine w_alt ?_ ?_ | refine zE ?_ | refine zE0 ?_)
    | with_reducible (first | refine zI fun y hy => ?_ | refine zL ?_ | refine zS ?_ | refine zA fun _ => ?_ | refine zV ?_ | refine zC ?_ | refine zG ?_ | refine zU ?_ | refine zG0 ?_ | refine zU0 ?_ | refine zF ?_)
    | ((with_reducible refine acall_id ?_); refine ACall.liftS (boxOf_s nums hn) [] (some 6) rfl rfl rfl trivial (fun _ => rfl) ?_; rintro ⟨gb, w⟩ _ rfl)
    | ((with_reducible refine acall_id ?_); refine ACall.box (seasonOf_c _ _ 9 (by omega)) rfl rfl rfl ?_; rintro _ _ ⟨s, rfl, hE, hgk⟩)
    | ((with_reducible refine acall_id ?_); refine ACall.val (combR_c s (okS_of hE).s4 (okS_of hE).s6) rfl rfl ?_)
    | with_reducible (first | refine zX ?_ | refine zD fun _ => ?_ | refine zD0 ?_ | refine zN ?_ | refine zF0 ?_ | refine zX0 ?_ | refine z1 ?_ | refine z2 ?_ | refine z3 ?_ | refine z4 ?_ | refine z5 ?_ | refine z6 ?_ | refine z7 ?_ | refine z8 ?_ | refine y1 ?_ | refine y2 ?_ | refine y3 ?_ | refine y4 ?_ | refine y5 ?_ | refine y6 ?_ | refine y7 ?_ | refine y8 ?_ | refine Rt.p (fun _ => ?_) fun _ => ?_)
    | ((with_reducible apply w_ixM); (focus exact rfl); (focus exact rfl); case' hk => intro y hy) | ((with_reducible (first | apply w_val | apply q_ends)); (focus exact rfl)))
  have ok := okS_of hE
  have h4 := ok.s4
  have hcb := combF_bd s.ss.length s.ss rfl ok.s6
  have hcb2 : combF s.ss ≤ 1296 := by
    have : (6 : Int) ^ s.ss.length ≤ 1296 := by
      rcases (by omega : s.ss.length = 0 ∨ s.ss.length = 1 ∨ s.ss.length = 2 ∨ s.ss.length = 3 ∨ s.ss.length = 4) with h | h | h | h | h
      all_goals (rw [h]; decide)
    omega
  have h9 := ok.g9
  have hg3 : ∀ l ∈ s.gs, l.length < 1000 := fun l hl => by have := ok.g12 l hl; omega
  have hC : ∀ n : Int, 0 ≤ n → n < combF s.ss → Fn0 Try.prog 59 [seA s, .int .i64 n] (fun v => v = .tup [.slc 1 (iR (comR s.ss n).1) .non, .int .i64 0]) := by
    intro n h0 h1
    have := Combination_s s n (by omega) (by omega) hg3
    have he : comE s n = 0 := by rw [comE, if_pos hE, if_pos (inB_t.2 (by omega))]
    simp only [if_pos he] at this
    exact this
  have hC7 : Fn0 Try.prog 59 [seA s, .int .i64 (combF s.ss)] (fun v => v = .tup [.nsl, .int .i64 7]) := by
    have := Combination_s s (combF s.ss) (by omega) (by omega) hg3
    have he : comE s (combF s.ss) = 7 := by rw [comE, if_pos hE, if_neg (fun h => by have := inB_t.1 h; omega)]
    rw [he, if_neg (by decide)] at this
    exact this
  refine w_loopK [3, 4, 5] [4, 23] (fun i : Nat => (i : Int) ≤ combF s.ss) (fun i => (combF s.ss - i).toNat) (fun i => [(7, .int .i64 i), (6, lastV s i)]) (fun _ => []) 0 (by show ((0 : Nat) : Int) ≤ _; omega) ⟨rfl, rfl, trivial⟩ trivial ?_
  rintro i hi e σ
  dsimp only at hi ⊢
  by_cases hlt : (i : Int) < combF s.ss
  · have hCi := hC i (by omega) hlt
    have hll := comR_len s.ss i
    have hdg := comR_dig (n := (i : Int)) ok.s6 (by omega)
    obtain ⟨L, hL⟩ : ∃ L, L = (comR s.ss (i : Int)).1 := ⟨_, rfl⟩
    rw [← hL] at hCi hll
    have hdig : ∀ (k : Nat) (y x : Int), L[k]? = some y → s.ss[k]? = some x → 0 ≤ y ∧ y < x := by
      intro k y x hy hx
      obtain ⟨h1, rfl⟩ := List.getElem?_eq_some_iff.1 hy
      obtain ⟨h2, rfl⟩ := List.getElem?_eq_some_iff.1 hx
      subst hL
      exact hdg k h1 h2
    have hdig0 : ∀ (k : Nat) (y : Int), L[k]? = some y → 0 ≤ y := by
      intro k y hy
      obtain ⟨h1, rfl⟩ := List.getElem?_eq_some_iff.1 hy
      subst hL
      exact (hdg k h1 (by rw [← hll]; exact h1)).1
    clear hdg
    have hlv : lastV s (i + 1) = .slc 1 (iR L) .non := by rw [hL]; rfl
    cases i with
    | zero =>
      have h00 : ((0 : Nat) : Int) = 0 := rfl
      repeat' (first
        | with_reducible (first | refine Rd.p ?_ | refine w_alt ?_ ?_ | refine zE ?_ | refine zE0 ?_)
        | with_reducible (first | refine zI fun y hy => ?_ | refine zL ?_ | refine zS ?_ | refine zA fun _ => ?_ | refine zV ?_ | refine zC ?_ | refine zG ?_ | refine zU ?_ | refine zG0 ?_ | refine zU0 ?_ | refine zF ?_)
        | ((with_reducible refine acall_id ?_); refine ACall.val hCi rfl rfl ?_)
        | with_reducible (first | refine zX ?_ | refine zD fun _ => ?_ | refine zD0 ?_ | refine zN ?_ | refine zF0 ?_ | refine zX0 ?_ | refine z1 ?_ | refine z2 ?_ | refine z3 ?_ | refine z4 ?_ | refine z5 ?_ | refine z6 ?_ | refine z7 ?_ | refine z8 ?_ | refine y1 ?_ | refine y2 ?_ | refine y3 ?_ | refine y4 ?_ | refine y5 ?_ | refine y6 ?_ | refine y7 ?_ | refine y8 ?_ | refine Rt.p (fun _ => ?_) fun _ => ?_)
        | ((with_reducible apply w_ixM); (focus exact rfl); (focus exact rfl); case' hk => intro y hy) | ((with_reducible (first | apply w_val | apply q_ends)); (focus exact rfl)))
      refine w_loopK [3, 4, 5, 7, 8] [4, 23] (fun k : Nat => k ≤ L.length) (fun k => L.length - k) (fun k => [(10, .int .i64 k)]) (fun _ => []) 0 (Nat.zero_le _) ⟨rfl, trivial⟩ trivial ?_
      rintro k hk e σ
      dsimp only at hk ⊢
      by_cases hkl : k < L.length
      · repeat' (first
          | with_reducible (first | refine Rd.p ?_ | refine w_alt ?_ ?_ | refine zE ?_ | refine zE0 ?_)
          | with_reducible (first | refine zI fun y hy => ?_ | refine zL ?_ | refine zS ?_ | refine zA fun _ => ?_ | refine zV ?_ | refine zC ?_ | refine zG ?_ | refine zU ?_ | refine zG0 ?_ | refine zU0 ?_ | refine zF ?_)
          | with_reducible (first | refine zX ?_ | refine zD fun _ => ?_ | refine zD0 ?_ | refine zN ?_ | refine zF0 ?_ | refine zX0 ?_ | refine z1 ?_ | refine z2 ?_ | refine z3 ?_ | refine z4 ?_ | refine z5 ?_ | refine z6 ?_ | refine z7 ?_ | refine z8 ?_ | refine y1 ?_ | refine y2 ?_ | refine y3 ?_ | refine y4 ?_ | refine y5 ?_ | refine y6 ?_ | refine y7 ?_ | refine y8 ?_ | refine Rt.p (fun _ => ?_) fun _ => ?_)
          | ((with_reducible apply w_ixM); (focus exact rfl); (focus exact rfl); case' hk => intro y hy) | ((with_reducible (first | apply w_val | apply q_ends)); (focus exact rfl)))
        · rename_i y hy h
          rw [Int.toNat_natCast] at hy
          have := hdig0 k y hy
          omega
        · rename_i y1 hy1 _ y2 hy2 h
          rw [Int.toNat_natCast] at hy2 hy
          have := hdig k _ _ hy2 hy
          omega
        · refine q_loop (k + 1) (by show k + 1 ≤ _; omega) (by show L.length - (k + 1) < L.length - k; omega) (slots_cons (by show AV.int .i64 _ = AV.int .i64 _; refine int_eq ?_; simp) slots_nil) trivial (by repeat' (first | exact kept_nil | apply kept_cons | rfl)) (by repeat' (first | exact kept_nil | apply kept_cons | rfl))
      · repeat' (first
          | with_reducible (first | refine Rd.p ?_ | refine w_alt ?_ ?_ | refine zE ?_ | refine zE0 ?_)
          | with_reducible (first | refine zI fun y hy => ?_ | refine zL ?_ | refine zS ?_ | refine zA fun _ => ?_ | refine zV ?_ | refine zC ?_ | refine zG ?_ | refine zU ?_ | refine zG0 ?_ | refine zU0 ?_ | refine zF ?_)
          | with_reducible (first | refine zX ?_ | refine zD fun _ => ?_ | refine zD0 ?_ | refine zN ?_ | refine zF0 ?_ | refine zX0 ?_ | refine z1 ?_ | refine z2 ?_ | refine z3 ?_ | refine z4 ?_ | refine z5 ?_ | refine z6 ?_ | refine z7 ?_ | refine z8 ?_ | refine y1 ?_ | refine y2 ?_ | refine y3 ?_ | refine y4 ?_ | refine y5 ?_ | refine y6 ?_ | refine y7 ?_ | refine y8 ?_ | refine Rt.p (fun _ => ?_) fun _ => ?_)
          | ((with_reducible apply w_ixM); (focus exact rfl); (focus exact rfl); case' hk => intro y hy) | ((with_reducible (first | apply w_val | apply q_ends)); (focus exact rfl)))
        refine q_loop (0 + 1) (by show ((0 + 1 : Nat) : Int) ≤ _; omega) (by show (combF s.ss - ((0 + 1 : Nat) : Int)).toNat < (combF s.ss - ((0 : Nat) : Int)).toNat; omega) (slots_cons (by show AV.int .i64 _ = AV.int .i64 _; refine int_eq ?_; simp) (slots_cons (by rw [hlv]; rfl) slots_nil)) trivial (by repeat' (first | exact kept_nil | apply kept_cons | rfl)) (by repeat' (first | exact kept_nil | apply kept_cons | rfl))
    | succ j =>
      have hB := bef9_c (comR s.ss j).1 (comR s.ss ((j : Int) + 1)).1 (by rw [comR_len, comR_len]; omega) (by rw [comR_len]; omega)
      rw [comR_next ok.s6 ⟨by omega, by omega⟩, show (comR s.ss ((j : Int) + 1)).1 = L by rw [hL]; rfl] at hB
      repeat' (first
        | with_reducible (first | refine Rd.p ?_ | refine w_alt ?_ ?_ | refine zE ?_ | refine zE0 ?_)
        | with_reducible (first | refine zI fun y hy => ?_ | refine zL ?_ | refine zS ?_ | refine zA fun _ => ?_ | refine zV ?_ | refine zC ?_ | refine zG ?_ | refine zU ?_ | refine zG0 ?_ | refine zU0 ?_ | refine zF ?_)
        | ((with_reducible refine acall_id ?_); refine ACall.val hCi rfl rfl ?_)
        | ((with_reducible refine acall_id ?_); refine ACall.val hB rfl rfl ?_)
        | with_reducible (first | refine zX ?_ | refine zD fun _ => ?_ | refine zD0 ?_ | refine zN ?_ | refine zF0 ?_ | refine zX0 ?_ | refine z1 ?_ | refine z2 ?_ | refine z3 ?_ | refine z4 ?_ | refine z5 ?_ | refine z6 ?_ | refine z7 ?_ | refine z8 ?_ | refine y1 ?_ | refine y2 ?_ | refine y3 ?_ | refine y4 ?_ | refine y5 ?_ | refine y6 ?_ | refine y7 ?_ | refine y8 ?_ | refine Rt.p (fun _ => ?_) fun _ => ?_)
        | ((with_reducible apply w_ixM); (focus exact rfl); (focus exact rfl); case' hk => intro y hy) | ((with_reducible (first | apply w_val | apply q_ends)); (focus exact rfl)))
      refine w_loopK [3, 4, 5, 7, 8] [4, 23] (fun k : Nat => k ≤ L.length) (fun k => L.length - k) (fun k => [(10, .int .i64 k)]) (fun _ => []) 0 (Nat.zero_le _) ⟨rfl, trivial⟩ trivial ?_
      rintro k hk e σ
      dsimp only at hk ⊢
      by_cases hkl : k < L.length
      · repeat' (first
          | with_reducible (first | refine Rd.p ?_ | refine w_alt ?_ ?_ | refine zE ?_ | refine zE0 ?_)
          | with_reducible (first | refine zI fun y hy => ?_ | refine zL ?_ | refine zS ?_ | refine zA fun _ => ?_ | refine zV ?_ | refine zC ?_ | refine zG ?_ | refine zU ?_ | refine zG0 ?_ | refine zU0 ?_ | refine zF ?_)
          | with_reducible (first | refine zX ?_ | refine zD fun _ => ?_ | refine zD0 ?_ | refine zN ?_ | refine zF0 ?_ | refine zX0 ?_ | refine z1 ?_ | refine z2 ?_ | refine z3 ?_ | refine z4 ?_ | refine z5 ?_ | refine z6 ?_ | refine z7 ?_ | refine z8 ?_ | refine y1 ?_ | refine y2 ?_ | refine y3 ?_ | refine y4 ?_ | refine y5 ?_ | refine y6 ?_ | refine y7 ?_ | refine y8 ?_ | refine Rt.p (fun _ => ?_) fun _ => ?_)
          | ((with_reducible apply w_ixM); (focus exact rfl); (focus exact rfl); case' hk => intro y hy) | ((with_reducible (first | apply w_val | apply q_ends)); (focus exact rfl)))
        · rename_i y hy h
          rw [Int.toNat_natCast] at hy
          have := hdig0 k y hy
          omega
        · rename_i y1 hy1 _ y2 hy2 h
          rw [Int.toNat_natCast] at hy2 hy
          have := hdig k _ _ hy2 hy
          omega
        · refine q_loop (k + 1) (by show k + 1 ≤ _; omega) (by show L.length - (k + 1) < L.length - k; omega) (slots_cons (by show AV.int .i64 _ = AV.int .i64 _; refine int_eq ?_; simp) slots_nil) trivial (by repeat' (first | exact kept_nil | apply kept_cons | rfl)) (by repeat' (first | exact kept_nil | apply kept_cons | rfl))
      · repeat' (first
          | with_reducible (first | refine Rd.p ?_ | refine w_alt ?_ ?_ | refine zE ?_ | refine zE0 ?_)
          | with_reducible (first | refine zI fun y hy => ?_ | refine zL ?_ | refine zS ?_ | refine zA fun _ => ?_ | refine zV ?_ | refine zC ?_ | refine zG ?_ | refine zU ?_ | refine zG0 ?_ | refine zU0 ?_ | refine zF ?_)
          | with_reducible (first | refine zX ?_ | refine zD fun _ => ?_ | refine zD0 ?_ | refine zN ?_ | refine zF0 ?_ | refine zX0 ?_ | refine z1 ?_ | refine z2 ?_ | refine z3 ?_ | refine z4 ?_ | refine z5 ?_ | refine z6 ?_ | refine z7 ?_ | refine z8 ?_ | refine y1 ?_ | refine y2 ?_ | refine y3 ?_ | refine y4 ?_ | refine y5 ?_ | refine y6 ?_ | refine y7 ?_ | refine y8 ?_ | refine Rt.p (fun _ => ?_) fun _ => ?_)
          | ((with_reducible apply w_ixM); (focus exact rfl); (focus exact rfl); case' hk => intro y hy) | ((with_reducible (first | apply w_val | apply q_ends)); (focus exact rfl)))
        refine q_loop ((j + 1) + 1) (by show (((j + 1) + 1 : Nat) : Int) ≤ _; omega) (by show (combF s.ss - (((j + 1) + 1 : Nat) : Int)).toNat < (combF s.ss - (((j + 1) : Nat) : Int)).toNat; omega) (slots_cons (by show AV.int .i64 _ = AV.int .i64 _; refine int_eq ?_; simp) (slots_cons (by rw [hlv]; rfl) slots_nil)) trivial (by repeat' (first | exact kept_nil | apply kept_cons | rfl)) (by repeat' (first | exact kept_nil | apply kept_cons | rfl))
  · have hieq : (i : Int) = combF s.ss := by omega
    rw [hieq]
    repeat' (first
      | with_reducible (first | refine Rd.p ?_ | refine w_alt ?_ ?_ | refine zE ?_ | refine zE0 ?_)
      | with_reducible (first | refine zI fun y hy => ?_ | refine zL ?_ | refine zS ?_ | refine zA fun _ => ?_ | refine zV ?_ | refine zC ?_ | refine zG ?_ | refine zU ?_ | refine zG0 ?_ | refine zU0 ?_ | refine zF ?_)
      | ((with_reducible refine acall_id ?_); refine ACall.val hC7 rfl rfl ?_)
      | with_reducible (first | refine zX ?_ | refine zD fun _ => ?_ | refine zD0 ?_ | refine zN ?_ | refine zF0 ?_ | refine zX0 ?_ | refine z1 ?_ | refine z2 ?_ | refine z3 ?_ | refine z4 ?_ | refine z5 ?_ | refine z6 ?_ | refine z7 ?_ | refine z8 ?_ | refine y1 ?_ | refine y2 ?_ | refine y3 ?_ | refine y4 ?_ | refine y5 ?_ | refine y6 ?_ | refine y7 ?_ | refine y8 ?_ | refine Rt.p (fun _ => ?_) fun _ => ?_)
      | ((with_reducible apply w_ixM); (focus exact rfl); (focus exact rfl); case' hk => intro y hy) | ((with_reducible (first | apply w_val | apply q_ends)); (focus exact rfl)))
    rename_i g13
    refine w_loopK [3, 4, 5, 12] [4] (fun x : List Int × Nat × Int => x.1.length ≤ s.gs.length ∧ ∀ y ∈ x.1, 0 ≤ y ∧ y < combF s.ss) (fun x => s.gs.length - x.1.length) (fun x => [(14, .int .i64 x.1.length), (13, .slc 1 (iR x.1) (.own 13 x.2.1))]) (fun x => [(23, (gb, .row [.int .u64 x.2.2])), (13, (x.2.1, .row []))]) ([], g13, _) ⟨Nat.zero_le _, fun y hy => by cases hy⟩ ⟨rfl, rfl, trivial⟩ (by exact ⟨rfl, rfl, trivial⟩) ?_
    rintro ⟨pl, g13, w⟩ ⟨hpl, hpb⟩ e σ
    dsimp only at hpl hpb ⊢
    have hps : ∀ x, (pl ++ [x]).length = pl.length + 1 := fun x => by simp
    by_cases hpt : pl.length < s.gs.length
    · repeat' (first
        | with_reducible (first | refine Rd.p ?_ | refine w_alt ?_ ?_ | refine zE ?_ | refine zE0 ?_)
        | with_reducible (first | refine zI fun y hy => ?_ | refine zL ?_ | refine zS ?_ | refine zA fun _ => ?_ | refine zV ?_ | refine zC ?_ | refine zG ?_ | refine zU ?_ | refine zG0 ?_ | refine zU0 ?_ | refine zF ?_)
        | ((with_reducible refine acall_id ?_); refine ACall.box (upp_c _ _ (combF s.ss) (by omega) (by omega)) rfl rfl rfl ?_; rintro _ _ ⟨x, rfl, hx1, hx2⟩)
        | with_reducible (first | refine zX ?_ | refine zD fun _ => ?_ | refine zD0 ?_ | refine zN ?_ | refine zF0 ?_ | refine zX0 ?_ | refine z1 ?_ | refine z2 ?_ | refine z3 ?_ | refine z4 ?_ | refine z5 ?_ | refine z6 ?_ | refine z7 ?_ | refine z8 ?_ | refine y1 ?_ | refine y2 ?_ | refine y3 ?_ | refine y4 ?_ | refine y5 ?_ | refine y6 ?_ | refine y7 ?_ | refine y8 ?_ | refine Rt.p (fun _ => ?_) fun _ => ?_)
        | ((with_reducible apply w_ixM); (focus exact rfl); (focus exact rfl); case' hk => intro y hy) | ((with_reducible (first | apply w_val | apply q_ends)); (focus exact rfl)))
      refine q_loop (pl ++ [x], _, _) ⟨by rw [hps]; omega, fun y hy => ?_⟩ (by dsimp only; rw [hps]; omega) (slots_cons (by show AV.int .i64 _ = AV.int .i64 _; refine int_eq ?_; simp) (slots_cons rfl slots_nil)) (by exact ⟨rfl, rfl, trivial⟩) (by repeat' (first | exact kept_nil | apply kept_cons | rfl)) (by repeat' (first | exact kept_nil | apply kept_cons | rfl))
      rcases List.mem_append.1 hy with h | h
      · exact hpb y h
      · obtain rfl : y = x := by simpa using h
        exact ⟨hx1, hx2⟩
    · have hple : pl.length = s.gs.length := by omega
      have hre : repE s pl = 0 := by
        rw [repE, if_pos hE, if_neg (by omega), if_pos (List.all_eq_true.2 fun y hy => inB_t.2 (by have := hpb y hy; omega))]
      have hR := Repeats_s s pl _ (.inr rfl) (by omega) (by omega) hg3 (by omega)
      have hrl := repeatsL_c s pl _ (.inr rfl) (by omega) (by omega) hg3
      rw [hre] at hR
      have hrv : repV s pl = repF s [] pl (-1, -1, 0) := by rw [repV, if_pos hre]
      rw [hrv] at hR
      have hgE := gathsE_of hE
      have hm := many_eq hgE (show pl.length ≤ s.gs.length by omega)
      have hgu := rep_gu hgE pl [] (-1, -1, 0) (by simp; omega) (by decide) (by decide)
      rw [hm] at hgu
      have hrn : 0 ≤ repT s pl 12 := by rw [repT_sum]; exact sumT_nn (fun i => repg_nn s.gs pl i []) 12
      rw [hm] at hR
      have hfr := fun h => fresh_le (s := s) hple hpb (by omega) h
      generalize repT s pl 12 = M at *
      generalize (repF s [] pl (-1, -1, 0)).2.1 = gu at *
      generalize (repF s [] pl (-1, -1, 0)).1 = ga at *
      by_cases hM : M = 0
      · have hguv := hgu.1 hM
        repeat' (first
          | with_reducible (first | refine Rd.p ?_ | refine w_alt ?_ ?_ | refine zE ?_ | refine zE0 ?_)
          | with_reducible (first | refine zI fun y hy => ?_ | refine zL ?_ | refine zS ?_ | refine zA fun _ => ?_ | refine zV ?_ | refine zC ?_ | refine zG ?_ | refine zU ?_ | refine zG0 ?_ | refine zU0 ?_ | refine zF ?_)
          | ((with_reducible refine acall_id ?_); refine ACall.val hR rfl rfl ?_)
          | ((with_reducible refine acall_id ?_); refine ACall.val hrl rfl rfl ?_)
          | with_reducible (first | refine zX ?_ | refine zD fun _ => ?_ | refine zD0 ?_ | refine zN ?_ | refine zF0 ?_ | refine zX0 ?_ | refine z1 ?_ | refine z2 ?_ | refine z3 ?_ | refine z4 ?_ | refine z5 ?_ | refine z6 ?_ | refine z7 ?_ | refine z8 ?_ | refine y1 ?_ | refine y2 ?_ | refine y3 ?_ | refine y4 ?_ | refine y5 ?_ | refine y6 ?_ | refine y7 ?_ | refine y8 ?_ | refine Rt.p (fun _ => ?_) fun _ => ?_)
          | ((with_reducible apply w_ixM); (focus exact rfl); (focus exact rfl); case' hk => intro y hy) | ((with_reducible (first | apply w_val | apply q_ends)); (focus exact rfl)))
        · rename_i h
          exfalso
          simp [hM, hguv, negB] at h
        · refine w_loopK [4, 5, 17] [4] (fun g : Nat => g ≤ 12) (fun g => 12 - g) (fun g => [(19, .int .i64 g)]) (fun _ => []) 0 (by show (0 : Nat) ≤ 12; omega) ⟨rfl, trivial⟩ trivial ?_
          rintro gg hg e σ
          dsimp only at hg ⊢
          by_cases hgt : gg < 12
          · repeat' (first
              | with_reducible (first | refine Rd.p ?_ | refine w_alt ?_ ?_ | refine zE ?_ | refine zE0 ?_)
              | with_reducible (first | refine zI fun y hy => ?_ | refine zL ?_ | refine zS ?_ | refine zA fun _ => ?_ | refine zV ?_ | refine zC ?_ | refine zG ?_ | refine zU ?_ | refine zG0 ?_ | refine zU0 ?_ | refine zF ?_)
              | with_reducible (first | refine zX ?_ | refine zD fun _ => ?_ | refine zD0 ?_ | refine zN ?_ | refine zF0 ?_ | refine zX0 ?_ | refine z1 ?_ | refine z2 ?_ | refine z3 ?_ | refine z4 ?_ | refine z5 ?_ | refine z6 ?_ | refine z7 ?_ | refine z8 ?_ | refine y1 ?_ | refine y2 ?_ | refine y3 ?_ | refine y4 ?_ | refine y5 ?_ | refine y6 ?_ | refine y7 ?_ | refine y8 ?_ | refine Rt.p (fun _ => ?_) fun _ => ?_)
              | ((with_reducible apply w_ixM); (focus exact rfl); (focus exact rfl); case' hk => intro y hy) | ((with_reducible (first | apply w_val | apply q_ends)); (focus exact rfl)))
            refine w_loopK [4, 5, 17, 19] [4] (fun x : List (List Int) × List (List Int) => s.gs = x.1 ++ x.2) (fun x => x.2.length) (fun x => [(21, .int .i64 x.1.length), (20, .int .i64 (comesF x.1 gg))]) (fun _ => []) ([], s.gs) rfl ⟨rfl, rfl, trivial⟩ trivial ?_
            rintro ⟨pre, post⟩ hpp e σ
            dsimp only at hpp ⊢
            have hlen := congrArg List.length hpp
            rw [List.length_append] at hlen
            have hcl : comesF pre gg ≤ pre.length := List.length_filter_le _ _
            cases post with
            | nil =>
              rw [List.append_nil] at hpp
              simp only [List.length_nil] at hlen
              have hfg := fun h => hfr h gg hgt
              rw [hpp] at hfg
              repeat' (first
                | with_reducible (first | refine Rd.p ?_ | refine w_alt ?_ ?_ | refine zE ?_ | refine zE0 ?_)
                | with_reducible (first | refine zI fun y hy => ?_ | refine zL ?_ | refine zS ?_ | refine zA fun _ => ?_ | refine zV ?_ | refine zC ?_ | refine zG ?_ | refine zU ?_ | refine zG0 ?_ | refine zU0 ?_ | refine zF ?_)
                | with_reducible (first | refine zX ?_ | refine zD fun _ => ?_ | refine zD0 ?_ | refine zN ?_ | refine zF0 ?_ | refine zX0 ?_ | refine z1 ?_ | refine z2 ?_ | refine z3 ?_ | refine z4 ?_ | refine z5 ?_ | refine z6 ?_ | refine z7 ?_ | refine z8 ?_ | refine y1 ?_ | refine y2 ?_ | refine y3 ?_ | refine y4 ?_ | refine y5 ?_ | refine y6 ?_ | refine y7 ?_ | refine y8 ?_ | refine Rt.p (fun _ => ?_) fun _ => ?_)
                | ((with_reducible apply w_ixM); (focus exact rfl); (focus exact rfl); case' hk => intro y hy) | ((with_reducible (first | apply w_val | apply q_ends)); (focus exact rfl)))
              all_goals first
                | (rename_i h; exfalso; have := hfg; simp_all; omega)
                | exact q_loop (gg + 1) (by show gg + 1 ≤ 12; omega) (by show 12 - (gg + 1) < 12 - gg; omega) (slots_cons (by show AV.int .i64 _ = AV.int .i64 _; refine int_eq ?_; simp) slots_nil) trivial (by repeat' (first | exact kept_nil | apply kept_cons | rfl)) (by repeat' (first | exact kept_nil | apply kept_cons | rfl))
            | cons y post =>
              simp only [List.length_cons] at hlen
              have hY := has_c y gg (by have := hg3 y (by rw [hpp]; simp); omega)
              have hcs : comesF (pre ++ [y]) gg = comesF pre gg + (if (gg : Int) ∈ y then 1 else 0) := by
                unfold comesF; rw [List.filter_append, List.length_append]; congr 1
                by_cases h : (gg : Int) ∈ y <;> simp [h]
              by_cases hgy : (gg : Int) ∈ y
              · rw [decide_eq_true hgy] at hY
                rw [if_pos hgy] at hcs
                repeat' (first
                  | with_reducible (first | refine Rd.p ?_ | refine w_alt ?_ ?_ | refine zE ?_ | refine zE0 ?_)
                  | (refine w_ixP hpp rfl rfl ?_)
                  | with_reducible (first | refine zI fun y hy => ?_ | refine zL ?_ | refine zS ?_ | refine zA fun _ => ?_ | refine zV ?_ | refine zC ?_ | refine zG ?_ | refine zU ?_ | refine zG0 ?_ | refine zU0 ?_ | refine zF ?_)
                  | ((with_reducible refine acall_id ?_); refine ACall.val hY rfl rfl ?_)
                  | with_reducible (first | refine zX ?_ | refine zD fun _ => ?_ | refine zD0 ?_ | refine zN ?_ | refine zF0 ?_ | refine zX0 ?_ | refine z1 ?_ | refine z2 ?_ | refine z3 ?_ | refine z4 ?_ | refine z5 ?_ | refine z6 ?_ | refine z7 ?_ | refine z8 ?_ | refine y1 ?_ | refine y2 ?_ | refine y3 ?_ | refine y4 ?_ | refine y5 ?_ | refine y6 ?_ | refine y7 ?_ | refine y8 ?_ | refine Rt.p (fun _ => ?_) fun _ => ?_)
                  | ((with_reducible apply w_ixM); (focus exact rfl); (focus exact rfl); case' hk => intro y hy) | ((with_reducible (first | apply w_val | apply q_ends)); (focus exact rfl)))
                refine q_loop (pre ++ [y], post) (by show s.gs = _; rw [hpp]; simp) (by simp) (slots_cons (by show AV.int .i64 _ = AV.int .i64 _; refine int_eq ?_; simp) (slots_cons (by show AV.int .i64 _ = AV.int .i64 _; refine int_eq ?_; dsimp only; rw [hcs]; simp) slots_nil)) trivial (by repeat' (first | exact kept_nil | apply kept_cons | rfl)) (by repeat' (first | exact kept_nil | apply kept_cons | rfl))
              · rw [decide_eq_false hgy] at hY
                rw [if_neg hgy] at hcs
                repeat' (first
                  | with_reducible (first | refine Rd.p ?_ | refine w_alt ?_ ?_ | refine zE ?_ | refine zE0 ?_)
                  | (refine w_ixP hpp rfl rfl ?_)
                  | with_reducible (first | refine zI fun y hy => ?_ | refine zL ?_ | refine zS ?_ | refine zA fun _ => ?_ | refine zV ?_ | refine zC ?_ | refine zG ?_ | refine zU ?_ | refine zG0 ?_ | refine zU0 ?_ | refine zF ?_)
                  | ((with_reducible refine acall_id ?_); refine ACall.val hY rfl rfl ?_)
                  | with_reducible (first | refine zX ?_ | refine zD fun _ => ?_ | refine zD0 ?_ | refine zN ?_ | refine zF0 ?_ | refine zX0 ?_ | refine z1 ?_ | refine z2 ?_ | refine z3 ?_ | refine z4 ?_ | refine z5 ?_ | refine z6 ?_ | refine z7 ?_ | refine z8 ?_ | refine y1 ?_ | refine y2 ?_ | refine y3 ?_ | refine y4 ?_ | refine y5 ?_ | refine y6 ?_ | refine y7 ?_ | refine y8 ?_ | refine Rt.p (fun _ => ?_) fun _ => ?_)
                  | ((with_reducible apply w_ixM); (focus exact rfl); (focus exact rfl); case' hk => intro y hy) | ((with_reducible (first | apply w_val | apply q_ends)); (focus exact rfl)))
                refine q_loop (pre ++ [y], post) (by show s.gs = _; rw [hpp]; simp) (by simp) (slots_cons (by show AV.int .i64 _ = AV.int .i64 _; refine int_eq ?_; simp) (slots_cons (by show AV.int .i64 _ = AV.int .i64 _; refine int_eq ?_; dsimp only; rw [hcs]; simp) slots_nil)) trivial (by repeat' (first | exact kept_nil | apply kept_cons | rfl)) (by repeat' (first | exact kept_nil | apply kept_cons | rfl))
          · obtain rfl : gg = 12 := by omega
            repeat' (first
              | with_reducible (first | refine Rd.p ?_ | refine w_alt ?_ ?_ | refine zE ?_ | refine zE0 ?_)
              | with_reducible (first | refine zI fun y hy => ?_ | refine zL ?_ | refine zS ?_ | refine zA fun _ => ?_ | refine zV ?_ | refine zC ?_ | refine zG ?_ | refine zU ?_ | refine zG0 ?_ | refine zU0 ?_ | refine zF ?_)
              | ((with_reducible refine acall_id ?_); refine ACall.val wake_s rfl rfl ?_)
              | with_reducible (first | refine zX ?_ | refine zD fun _ => ?_ | refine zD0 ?_ | refine zN ?_ | refine zF0 ?_ | refine zX0 ?_ | refine z1 ?_ | refine z2 ?_ | refine z3 ?_ | refine z4 ?_ | refine z5 ?_ | refine z6 ?_ | refine z7 ?_ | refine z8 ?_ | refine y1 ?_ | refine y2 ?_ | refine y3 ?_ | refine y4 ?_ | refine y5 ?_ | refine y6 ?_ | refine y7 ?_ | refine y8 ?_ | refine Rt.p (fun _ => ?_) fun _ => ?_)
              | ((with_reducible apply w_ixM); (focus exact rfl); (focus exact rfl); case' hk => intro y hy) | ((with_reducible (first | apply w_val | apply q_ends)); (focus exact rfl)))
            rfl
      · have hguv : ¬ gu = -1 := fun h => hM (hgu.2 h)
        repeat' (first
          | with_reducible (first | refine Rd.p ?_ | refine w_alt ?_ ?_ | refine zE ?_ | refine zE0 ?_)
          | with_reducible (first | refine zI fun y hy => ?_ | refine zL ?_ | refine zS ?_ | refine zA fun _ => ?_ | refine zV ?_ | refine zC ?_ | refine zG ?_ | refine zU ?_ | refine zG0 ?_ | refine zU0 ?_ | refine zF ?_)
          | ((with_reducible refine acall_id ?_); refine ACall.val hR rfl rfl ?_)
          | ((with_reducible refine acall_id ?_); refine ACall.val hrl rfl rfl ?_)
          | with_reducible (first | refine zX ?_ | refine zD fun _ => ?_ | refine zD0 ?_ | refine zN ?_ | refine zF0 ?_ | refine zX0 ?_ | refine z1 ?_ | refine z2 ?_ | refine z3 ?_ | refine z4 ?_ | refine z5 ?_ | refine z6 ?_ | refine z7 ?_ | refine z8 ?_ | refine y1 ?_ | refine y2 ?_ | refine y3 ?_ | refine y4 ?_ | refine y5 ?_ | refine y6 ?_ | refine y7 ?_ | refine y8 ?_ | refine Rt.p (fun _ => ?_) fun _ => ?_)
          | ((with_reducible apply w_ixM); (focus exact rfl); (focus exact rfl); case' hk => intro y hy) | ((with_reducible (first | apply w_val | apply q_ends)); (focus exact rfl)))
        · rename_i h
          exfalso
          simp only [decide_eq_false hM, decide_eq_false hguv] at h
          exact absurd h (by simp [negB])
        · refine w_loopK [4, 5, 17] [4] (fun g : Nat => g ≤ 12) (fun g => 12 - g) (fun g => [(19, .int .i64 g)]) (fun _ => []) 0 (by show (0 : Nat) ≤ 12; omega) ⟨rfl, trivial⟩ trivial ?_
          rintro gg hg e σ
          dsimp only at hg ⊢
          by_cases hgt : gg < 12
          · repeat' (first
              | with_reducible (first | refine Rd.p ?_ | refine w_alt ?_ ?_ | refine zE ?_ | refine zE0 ?_)
              | with_reducible (first | refine zI fun y hy => ?_ | refine zL ?_ | refine zS ?_ | refine zA fun _ => ?_ | refine zV ?_ | refine zC ?_ | refine zG ?_ | refine zU ?_ | refine zG0 ?_ | refine zU0 ?_ | refine zF ?_)
              | with_reducible (first | refine zX ?_ | refine zD fun _ => ?_ | refine zD0 ?_ | refine zN ?_ | refine zF0 ?_ | refine zX0 ?_ | refine z1 ?_ | refine z2 ?_ | refine z3 ?_ | refine z4 ?_ | refine z5 ?_ | refine z6 ?_ | refine z7 ?_ | refine z8 ?_ | refine y1 ?_ | refine y2 ?_ | refine y3 ?_ | refine y4 ?_ | refine y5 ?_ | refine y6 ?_ | refine y7 ?_ | refine y8 ?_ | refine Rt.p (fun _ => ?_) fun _ => ?_)
              | ((with_reducible apply w_ixM); (focus exact rfl); (focus exact rfl); case' hk => intro y hy) | ((with_reducible (first | apply w_val | apply q_ends)); (focus exact rfl)))
            refine w_loopK [4, 5, 17, 19] [4] (fun x : List (List Int) × List (List Int) => s.gs = x.1 ++ x.2) (fun x => x.2.length) (fun x => [(21, .int .i64 x.1.length), (20, .int .i64 (comesF x.1 gg))]) (fun _ => []) ([], s.gs) rfl ⟨rfl, rfl, trivial⟩ trivial ?_
            rintro ⟨pre, post⟩ hpp e σ
            dsimp only at hpp ⊢
            have hlen := congrArg List.length hpp
            rw [List.length_append] at hlen
            have hcl : comesF pre gg ≤ pre.length := List.length_filter_le _ _
            cases post with
            | nil =>
              rw [List.append_nil] at hpp
              simp only [List.length_nil] at hlen
              have hfg := fun h => hfr h gg hgt
              rw [hpp] at hfg
              repeat' (first
                | with_reducible (first | refine Rd.p ?_ | refine w_alt ?_ ?_ | refine zE ?_ | refine zE0 ?_)
                | with_reducible (first | refine zI fun y hy => ?_ | refine zL ?_ | refine zS ?_ | refine zA fun _ => ?_ | refine zV ?_ | refine zC ?_ | refine zG ?_ | refine zU ?_ | refine zG0 ?_ | refine zU0 ?_ | refine zF ?_)
                | with_reducible (first | refine zX ?_ | refine zD fun _ => ?_ | refine zD0 ?_ | refine zN ?_ | refine zF0 ?_ | refine zX0 ?_ | refine z1 ?_ | refine z2 ?_ | refine z3 ?_ | refine z4 ?_ | refine z5 ?_ | refine z6 ?_ | refine z7 ?_ | refine z8 ?_ | refine y1 ?_ | refine y2 ?_ | refine y3 ?_ | refine y4 ?_ | refine y5 ?_ | refine y6 ?_ | refine y7 ?_ | refine y8 ?_ | refine Rt.p (fun _ => ?_) fun _ => ?_)
                | ((with_reducible apply w_ixM); (focus exact rfl); (focus exact rfl); case' hk => intro y hy) | ((with_reducible (first | apply w_val | apply q_ends)); (focus exact rfl)))
              all_goals first
                | (rename_i h; exfalso; have := hfg; simp_all; omega)
                | exact q_loop (gg + 1) (by show gg + 1 ≤ 12; omega) (by show 12 - (gg + 1) < 12 - gg; omega) (slots_cons (by show AV.int .i64 _ = AV.int .i64 _; refine int_eq ?_; simp) slots_nil) trivial (by repeat' (first | exact kept_nil | apply kept_cons | rfl)) (by repeat' (first | exact kept_nil | apply kept_cons | rfl))
            | cons y post =>
              simp only [List.length_cons] at hlen
              have hY := has_c y gg (by have := hg3 y (by rw [hpp]; simp); omega)
              have hcs : comesF (pre ++ [y]) gg = comesF pre gg + (if (gg : Int) ∈ y then 1 else 0) := by
                unfold comesF; rw [List.filter_append, List.length_append]; congr 1
                by_cases h : (gg : Int) ∈ y <;> simp [h]
              by_cases hgy : (gg : Int) ∈ y
              · rw [decide_eq_true hgy] at hY
                rw [if_pos hgy] at hcs
                repeat' (first
                  | with_reducible (first | refine Rd.p ?_ | refine w_alt ?_ ?_ | refine zE ?_ | refine zE0 ?_)
                  | (refine w_ixP hpp rfl rfl ?_)
                  | with_reducible (first | refine zI fun y hy => ?_ | refine zL ?_ | refine zS ?_ | refine zA fun _ => ?_ | refine zV ?_ | refine zC ?_ | refine zG ?_ | refine zU ?_ | refine zG0 ?_ | refine zU0 ?_ | refine zF ?_)
                  | ((with_reducible refine acall_id ?_); refine ACall.val hY rfl rfl ?_)
                  | with_reducible (first | refine zX ?_ | refine zD fun _ => ?_ | refine zD0 ?_ | refine zN ?_ | refine zF0 ?_ | refine zX0 ?_ | refine z1 ?_ | refine z2 ?_ | refine z3 ?_ | refine z4 ?_ | refine z5 ?_ | refine z6 ?_ | refine z7 ?_ | refine z8 ?_ | refine y1 ?_ | refine y2 ?_ | refine y3 ?_ | refine y4 ?_ | refine y5 ?_ | refine y6 ?_ | refine y7 ?_ | refine y8 ?_ | refine Rt.p (fun _ => ?_) fun _ => ?_)
                  | ((with_reducible apply w_ixM); (focus exact rfl); (focus exact rfl); case' hk => intro y hy) | ((with_reducible (first | apply w_val | apply q_ends)); (focus exact rfl)))
                refine q_loop (pre ++ [y], post) (by show s.gs = _; rw [hpp]; simp) (by simp) (slots_cons (by show AV.int .i64 _ = AV.int .i64 _; refine int_eq ?_; simp) (slots_cons (by show AV.int .i64 _ = AV.int .i64 _; refine int_eq ?_; dsimp only; rw [hcs]; simp) slots_nil)) trivial (by repeat' (first | exact kept_nil | apply kept_cons | rfl)) (by repeat' (first | exact kept_nil | apply kept_cons | rfl))
              · rw [decide_eq_false hgy] at hY
                rw [if_neg hgy] at hcs
                repeat' (first
                  | with_reducible (first | refine Rd.p ?_ | refine w_alt ?_ ?_ | refine zE ?_ | refine zE0 ?_)
                  | (refine w_ixP hpp rfl rfl ?_)
                  | with_reducible (first | refine zI fun y hy => ?_ | refine zL ?_ | refine zS ?_ | refine zA fun _ => ?_ | refine zV ?_ | refine zC ?_ | refine zG ?_ | refine zU ?_ | refine zG0 ?_ | refine zU0 ?_ | refine zF ?_)
                  | ((with_reducible refine acall_id ?_); refine ACall.val hY rfl rfl ?_)
                  | with_reducible (first | refine zX ?_ | refine zD fun _ => ?_ | refine zD0 ?_ | refine zN ?_ | refine zF0 ?_ | refine zX0 ?_ | refine z1 ?_ | refine z2 ?_ | refine z3 ?_ | refine z4 ?_ | refine z5 ?_ | refine z6 ?_ | refine z7 ?_ | refine z8 ?_ | refine y1 ?_ | refine y2 ?_ | refine y3 ?_ | refine y4 ?_ | refine y5 ?_ | refine y6 ?_ | refine y7 ?_ | refine y8 ?_ | refine Rt.p (fun _ => ?_) fun _ => ?_)
                  | ((with_reducible apply w_ixM); (focus exact rfl); (focus exact rfl); case' hk => intro y hy) | ((with_reducible (first | apply w_val | apply q_ends)); (focus exact rfl)))
                refine q_loop (pre ++ [y], post) (by show s.gs = _; rw [hpp]; simp) (by simp) (slots_cons (by show AV.int .i64 _ = AV.int .i64 _; refine int_eq ?_; simp) (slots_cons (by show AV.int .i64 _ = AV.int .i64 _; refine int_eq ?_; dsimp only; rw [hcs]; simp) slots_nil)) trivial (by repeat' (first | exact kept_nil | apply kept_cons | rfl)) (by repeat' (first | exact kept_nil | apply kept_cons | rfl))
          · obtain rfl : gg = 12 := by omega
            repeat' (first
              | with_reducible (first | refine Rd.p ?_ | refine w_alt ?_ ?_ | refine zE ?_ | refine zE0 ?_)
              | with_reducible (first | refine zI fun y hy => ?_ | refine zL ?_ | refine zS ?_ | refine zA fun _ => ?_ | refine zV ?_ | refine zC ?_ | refine zG ?_ | refine zU ?_ | refine zG0 ?_ | refine zU0 ?_ | refine zF ?_)
              | ((with_reducible refine acall_id ?_); refine ACall.val wake_s rfl rfl ?_)
              | with_reducible (first | refine zX ?_ | refine zD fun _ => ?_ | refine zD0 ?_ | refine zN ?_ | refine zF0 ?_ | refine zX0 ?_ | refine z1 ?_ | refine z2 ?_ | refine z3 ?_ | refine z4 ?_ | refine z5 ?_ | refine z6 ?_ | refine z7 ?_ | refine z8 ?_ | refine y1 ?_ | refine y2 ?_ | refine y3 ?_ | refine y4 ?_ | refine y5 ?_ | refine y6 ?_ | refine y7 ?_ | refine y8 ?_ | refine Rt.p (fun _ => ?_) fun _ => ?_)
              | ((with_reducible apply w_ixM); (focus exact rfl); (focus exact rfl); case' hk => intro y hy) | ((with_reducible (first | apply w_val | apply q_ends)); (focus exact rfl)))
            rfl
end Go.Abs
