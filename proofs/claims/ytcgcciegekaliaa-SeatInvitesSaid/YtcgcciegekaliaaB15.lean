/- A part of the proofs of the laws of this seat: contracts of the functions that they reach, each proved of the program's form in Lean. No condition beyond those that each contract names. -/
import Derived.Test.YtcgcciegekaliaaB0
import Derived.Test.YtcgcciegekaliaaB3
import Derived.Test.YtcgcciegekaliaaB4
import Derived.Test.YtcgcciegekaliaaB5
import Derived.Test.YtcgcciegekaliaaB6
import Derived.Test.YtcgcciegekaliaaB13
import Derived.Test.YtcgcciegekaliaaB2
import Derived.Test.YtcgcciegekaliaaB1
import Derived.Test.YtcgcciegekaliaaB7
import Derived.Test.YtcgcciegekaliaaB14
set_option linter.unusedVariables false
set_option linter.unusedSimpArgs false
set_option maxRecDepth 20000
set_option maxHeartbeats 4000000
/-! ### SeatMenus -/
namespace Go.Abs
open Go.Proofs
variable {P : Program}
/-- The element at a place that is known. -/
theorem w_ixK {K : (Nat → AV) → Sig → Prop} {e : Nat → AV} {σ : Sig} {α : Type} {f : α → List AV} {l : List α} {y : α} {d sz : Nat} {t : Tag} {x i : IOpd} {r : List IStep} {k : IntKind} {n : Int} (hy : l[n.toNat]? = some y) (hn : 0 ≤ n) (hx : x.ev e = .slc sz (l.map f) t) (hi : i.ev e = .int k n)
    (hk : stepsW P r K (upd e d (.pin (f y))) σ) : stepsW P (⟨some d, none, .ixA sz x i⟩ :: r) K e σ :=
  w_ixM hx hi ⟨hn, by have := (List.getElem?_eq_some_iff.1 hy).1; omega⟩ fun y' hy' => by rw [hy] at hy'; cases hy'; exact hk
theorem zK {K : (Nat → AV) → Sig → Prop} {e : Nat → AV} {σ : Sig} {α : Type} {f : α → List AV} {l : List α} {y : α} {d sz : Nat} {t : Tag} {x i : IOpd} {r : List IStep} {k : IntKind} {n : Int} (hy : l[n.toNat]? = some y) (hk : stepsW P r K (upd e d (.pin (f y))) σ) (hx : x.ev e = .slc sz (l.map f) t := by with_unfolding_all exact rfl) (hi : i.ev e = .int k n := by with_unfolding_all exact rfl) (hn : 0 ≤ n := by with_unfolding_all exact sd) : stepsW P (⟨some d, none, .ixA sz x i⟩ :: r) K e σ := w_ixK hy hn hx hi hk
/-- aloeswood/aloeswoodkit.EqGuests -/
def ir25 : IFn :=
  ⟨26, [(4, none)], (.seq (.ops [⟨(some 4), none, (.mov (.k (.bool false)))⟩])
  (.seq (.seq (.ops [⟨(some 6), none, (.mov (.t 0))⟩,
    ⟨(some 7), none, (.len false (.t 6))⟩,
    ⟨(some 8), none, (.mov (.t 1))⟩,
    ⟨(some 9), none, (.len false (.t 8))⟩,
    ⟨(some 10), none, (.bin .neq (.t 7) (.t 9))⟩])
  (.cnd (.t 10)
    (.seq (.ops [⟨(some 4), none, (.mov (.k (.bool false)))⟩])
    .ret)
    .skip))
  (.seq (.seq (.ops [⟨(some 5), none, (.mov (.k (.int .i64 0)))⟩])
  (.blk 0 (.loop (.seq (.seq (.ops [⟨(some 11), none, (.mov (.t 5))⟩,
        ⟨(some 12), none, (.mov (.t 0))⟩,
        ⟨(some 13), none, (.len false (.t 12))⟩,
        ⟨(some 14), none, (.bin .lss (.t 11) (.t 13))⟩])
      (.cnd (.t 14)
        .skip
        (.exit 0)))
      (.seq (.blk 1 (.seq (.ops [⟨(some 17), none, (.mov (.t 0))⟩,
          ⟨(some 18), none, (.mov (.t 5))⟩,
          ⟨(some 19), none, (.ixA 5 (.t 17) (.t 18))⟩,
          ⟨(some 20), none, (.ld 5 true (.t 19))⟩,
          ⟨(some 21), none, (.mov (.t 1))⟩,
          ⟨(some 22), none, (.mov (.t 5))⟩,
          ⟨(some 23), none, (.ixA 5 (.t 21) (.t 22))⟩,
          ⟨(some 24), none, (.ld 5 true (.t 23))⟩,
          ⟨(some 25), none, (.eqn (.flat [.s, .i, .i, .i, .i]) true (.t 20) (.t 24))⟩])
        (.cnd (.t 25)
          (.seq (.ops [⟨(some 4), none, (.mov (.k (.bool false)))⟩])
          .ret)
          .skip)))
      (.ops [⟨(some 15), none, (.mov (.t 5))⟩,
        ⟨(some 16), none, (.bin .add (.t 15) (.k (.int .i64 1)))⟩,
        ⟨(some 5), none, (.mov (.t 16))⟩]))))))
  (.seq (.ops [⟨(some 4), none, (.mov (.k (.bool true)))⟩])
  .ret))))⟩
def hint25 (P : Program) : Hint := {}

/-- aloeswood/aloeswoodlaw08.long -/
def ir15 : IFn :=
  ⟨20, [(2, none)], (.seq (.ops [⟨(some 2), none, (.mov (.k (.bool false)))⟩])
  (.seq (.seq (.ops [⟨(some 3), none, (.mov (.k (.int .i64 0)))⟩])
  (.blk 0 (.loop (.seq (.seq (.ops [⟨(some 4), none, (.mov (.t 3))⟩,
        ⟨(some 5), none, (.mov (.t 0))⟩,
        ⟨(some 6), none, (.len false (.t 5))⟩,
        ⟨(some 7), none, (.bin .lss (.t 4) (.t 6))⟩])
      (.cnd (.t 7)
        .skip
        (.exit 0)))
      (.seq (.blk 1 (.seq (.ops [⟨(some 10), none, (.mov (.t 0))⟩,
          ⟨(some 11), none, (.mov (.t 3))⟩,
          ⟨(some 12), none, (.ixA 5 (.t 10) (.t 11))⟩,
          ⟨(some 13), none, (.flA 0 (.t 12))⟩,
          ⟨(some 14), none, (.ld 1 false (.t 13))⟩,
          ⟨(some 15), none, (.len true (.t 14))⟩,
          ⟨(some 16), none, (.bin .gtr (.t 15) (.k (.int .i64 40)))⟩])
        (.cnd (.t 16)
          (.seq (.ops [⟨(some 2), none, (.mov (.k (.bool true)))⟩])
          .ret)
          .skip)))
      (.ops [⟨(some 8), none, (.mov (.t 3))⟩,
        ⟨(some 9), none, (.bin .add (.t 8) (.k (.int .i64 1)))⟩,
        ⟨(some 3), none, (.mov (.t 9))⟩]))))))
  (.seq (.ops [⟨(some 17), none, (.mov (.t 0))⟩,
    ⟨(some 18), none, (.len false (.t 17))⟩,
    ⟨(some 19), none, (.bin .gtr (.t 18) (.k (.int .i64 14)))⟩,
    ⟨(some 2), none, (.mov (.t 19))⟩])
  .ret)))⟩
def hint15 (P : Program) : Hint := {}

/-- aloeswood/aloeswoodlaw08.SeatMenus -/
def ir3 : IFn :=
  ⟨197, [(14, none)], (.seq (.ops [⟨(some 11), none, (.box 5 (.t 4))⟩,
    ⟨(some 12), none, (.box 3 (.t 5))⟩,
    ⟨(some 14), none, (.mov (.k (.bool false)))⟩])
  (.seq (.seq (.ops [⟨(some 36), none, (.mov (.t 0))⟩,
    ⟨(some 37), none, (.callF 15 [(.t 36)])⟩,
    ⟨(some 38), none, (.mov (.t 37))⟩,
    ⟨(some 39), (some (38, false)), (.mov (.t 1))⟩,
    ⟨(some 40), (some (38, false)), (.len false (.t 39))⟩,
    ⟨(some 41), (some (38, false)), (.bin .gtr (.t 40) (.k (.int .i64 20)))⟩,
    ⟨(some 42), none, (.pick (.t 38) (.k (.bool true)) (.t 41))⟩,
    ⟨(some 43), none, (.mov (.t 42))⟩,
    ⟨(some 44), (some (43, false)), (.flA 0 (.t 11))⟩,
    ⟨(some 45), (some (43, false)), (.ld 1 false (.t 44))⟩,
    ⟨(some 46), (some (43, false)), (.len true (.t 45))⟩,
    ⟨(some 47), (some (43, false)), (.bin .gtr (.t 46) (.k (.int .i64 40)))⟩,
    ⟨(some 48), none, (.pick (.t 43) (.k (.bool true)) (.t 47))⟩])
  (.cnd (.t 48)
    (.seq (.ops [⟨(some 49), none, (.callF 16 [])⟩,
      ⟨(some 14), none, (.mov (.t 49))⟩])
    .ret)
    .skip))
  (.seq (.ops [⟨(some 50), none, (.mov (.t 6))⟩,
    ⟨(some 51), none, (.callF 17 [(.t 50)])⟩,
    ⟨(some 15), none, (.mov (.t 51))⟩])
  (.seq (.ops [⟨(some 52), none, (.mov (.t 15))⟩,
    ⟨(some 53), none, (.mov (.t 15))⟩,
    ⟨(some 54), none, (.callF 19 [(.t 53), (.k (.int .i64 6))])⟩,
    ⟨(some 55), none, (.callF 18 [(.t 52), (.t 54)])⟩,
    ⟨(some 56), none, (.mov (.t 15))⟩,
    ⟨(some 57), none, (.callF 20 [(.t 56), (.k (.int .i64 1)), (.k (.int .i64 4))])⟩,
    ⟨(some 16), none, (.mov (.t 55))⟩,
    ⟨(some 17), none, (.mov (.t 57))⟩])
  (.seq (.ops [⟨(some 58), none, (.mov (.t 0))⟩,
    ⟨(some 59), none, (.mov (.t 16))⟩,
    ⟨(some 60), none, (.mov (.t 16))⟩,
    ⟨(some 61), none, (.bsl 1 [[.nsl], [.nsl], [.nsl]] [(0, (.t 58)), (1, (.t 59)), (2, (.t 60))])⟩,
    ⟨(some 62), none, (.mov (.t 1))⟩,
    ⟨(some 63), none, (.mov (.t 15))⟩,
    ⟨(some 64), none, (.mov (.t 17))⟩,
    ⟨(some 65), none, (.callF 21 [(.t 63), (.k (.int .i64 10)), (.t 64)])⟩,
    ⟨(some 66), none, (.mov (.t 1))⟩,
    ⟨(some 67), none, (.bsl 1 [[.nsl], [.nsl], [.nsl]] [(0, (.t 62)), (1, (.t 65)), (2, (.t 66))])⟩,
    ⟨(some 68), none, (.mov (.t 2))⟩,
    ⟨(some 69), none, (.mov (.t 17))⟩,
    ⟨(some 70), none, (.mov (.t 2))⟩,
    ⟨(some 71), none, (.bsl 1 [[(.int .i64 0)], [(.int .i64 0)], [(.int .i64 0)]] [(0, (.t 68)), (1, (.t 69)), (2, (.t 70))])⟩,
    ⟨(some 72), none, (.mov (.t 3))⟩,
    ⟨(some 73), none, (.mov (.t 15))⟩,
    ⟨(some 74), none, (.mov (.t 17))⟩,
    ⟨(some 75), none, (.bin .add (.t 74) (.k (.int .i64 1)))⟩,
    ⟨(some 76), none, (.callF 19 [(.t 73), (.t 75)])⟩,
    ⟨(some 77), none, (.mov (.t 3))⟩,
    ⟨(some 78), none, (.bsl 1 [[(.int .i64 0)], [(.int .i64 0)], [(.int .i64 0)]] [(0, (.t 72)), (1, (.t 76)), (2, (.t 77))])⟩,
    ⟨(some 18), none, (.mov (.t 61))⟩,
    ⟨(some 19), none, (.mov (.t 67))⟩,
    ⟨(some 20), none, (.mov (.t 71))⟩,
    ⟨(some 21), none, (.mov (.t 78))⟩])
  (.seq (.seq (.ops [⟨(some 22), none, (.mov (.k (.int .i64 0)))⟩])
  (.blk 0 (.loop (.seq (.seq (.ops [⟨(some 79), none, (.mov (.t 22))⟩,
        ⟨(some 80), none, (.mov (.t 18))⟩,
        ⟨(some 81), none, (.len false (.t 80))⟩,
        ⟨(some 82), none, (.bin .lss (.t 79) (.t 81))⟩])
      (.cnd (.t 82)
        .skip
        (.exit 0)))
      (.seq (.blk 1 (.seq (.ops [⟨(some 85), none, (.bsl 5 [] [])⟩,
          ⟨(some 86), none, (.mov (.t 18))⟩,
          ⟨(some 87), none, (.mov (.t 22))⟩,
          ⟨(some 88), none, (.ixA 1 (.t 86) (.t 87))⟩,
          ⟨(some 89), none, (.ld 1 false (.t 88))⟩,
          ⟨(some 91), none, (.bsl 3 [] [])⟩,
          ⟨(some 92), none, (.mov (.t 19))⟩,
          ⟨(some 93), none, (.mov (.t 22))⟩,
          ⟨(some 94), none, (.ixA 1 (.t 92) (.t 93))⟩,
          ⟨(some 95), none, (.ld 1 false (.t 94))⟩,
          ⟨(some 90), none, (.app 5 48 (.t 85) (.t 89) 23)⟩,
          ⟨none, none, (.chk 1 false (.t 94) 95)⟩,
          ⟨(some 96), none, (.app 3 24 (.t 91) (.t 95) 24)⟩,
          ⟨(some 23), none, (.mov (.t 90))⟩,
          ⟨(some 24), none, (.mov (.t 96))⟩])
        (.seq (.ops [⟨(some 98), none, (.mov (.t 23))⟩,
          ⟨(some 99), none, (.mov (.t 24))⟩,
          ⟨(some 100), none, (.mov (.t 20))⟩,
          ⟨(some 101), none, (.mov (.t 22))⟩,
          ⟨(some 102), none, (.ixA 1 (.t 100) (.t 101))⟩,
          ⟨(some 103), none, (.ld 1 false (.t 102))⟩,
          ⟨(some 104), none, (.mov (.t 21))⟩,
          ⟨(some 105), none, (.mov (.t 22))⟩,
          ⟨(some 106), none, (.ixA 1 (.t 104) (.t 105))⟩,
          ⟨(some 107), none, (.ld 1 false (.t 106))⟩,
          ⟨(some 108), none, (.callF 22 [(.t 98), (.t 99), (.t 103), (.t 107)])⟩,
          ⟨(some 97), none, (.mov (.t 108))⟩,
          ⟨(some 109), none, (.ext 0 (.t 97))⟩,
          ⟨(some 110), none, (.ext 1 (.t 97))⟩,
          ⟨(some 111), none, (.ext 2 (.t 97))⟩,
          ⟨(some 25), none, (.mov (.t 109))⟩,
          ⟨(some 26), none, (.mov (.t 110))⟩,
          ⟨(some 27), none, (.mov (.t 111))⟩])
        (.seq (.ops [⟨(some 113), none, (.mov (.t 18))⟩,
          ⟨(some 114), none, (.mov (.t 22))⟩,
          ⟨(some 115), none, (.ixA 1 (.t 113) (.t 114))⟩,
          ⟨(some 116), none, (.ld 1 false (.t 115))⟩,
          ⟨(some 117), none, (.mov (.t 19))⟩,
          ⟨(some 118), none, (.mov (.t 22))⟩,
          ⟨(some 119), none, (.ixA 1 (.t 117) (.t 118))⟩,
          ⟨(some 120), none, (.ld 1 false (.t 119))⟩,
          ⟨(some 121), none, (.mov (.t 20))⟩,
          ⟨(some 122), none, (.mov (.t 22))⟩,
          ⟨(some 123), none, (.ixA 1 (.t 121) (.t 122))⟩,
          ⟨(some 124), none, (.ld 1 false (.t 123))⟩,
          ⟨(some 125), none, (.mov (.t 21))⟩,
          ⟨(some 126), none, (.mov (.t 22))⟩,
          ⟨(some 127), none, (.ixA 1 (.t 125) (.t 126))⟩,
          ⟨(some 128), none, (.ld 1 false (.t 127))⟩,
          ⟨(some 129), none, (.callF 23 [(.t 116), (.t 120), (.t 124), (.t 128)])⟩,
          ⟨(some 112), none, (.mov (.t 129))⟩,
          ⟨(some 130), none, (.ext 0 (.t 112))⟩,
          ⟨(some 131), none, (.ext 1 (.t 112))⟩,
          ⟨(some 132), none, (.ext 2 (.t 112))⟩,
          ⟨(some 28), none, (.mov (.t 130))⟩,
          ⟨(some 29), none, (.mov (.t 131))⟩,
          ⟨(some 30), none, (.mov (.t 132))⟩])
        (.seq (.seq (.ops [⟨(some 133), none, (.mov (.t 26))⟩,
          ⟨(some 134), none, (.mov (.t 29))⟩,
          ⟨(some 135), none, (.bin .neq (.t 133) (.t 134))⟩,
          ⟨(some 136), none, (.mov (.t 135))⟩,
          ⟨(some 137), (some (136, false)), (.mov (.t 27))⟩,
          ⟨(some 138), (some (136, false)), (.mov (.t 30))⟩,
          ⟨(some 139), (some (136, false)), (.bin .neq (.t 137) (.t 138))⟩,
          ⟨(some 140), none, (.pick (.t 136) (.k (.bool true)) (.t 139))⟩,
          ⟨(some 141), none, (.mov (.t 140))⟩,
          ⟨(some 142), (some (141, false)), (.mov (.t 25))⟩,
          ⟨(some 143), (some (141, false)), (.mov (.t 28))⟩,
          ⟨(some 144), (some (141, false)), (.callF 24 [(.t 142), (.t 143)])⟩,
          ⟨(some 145), (some (141, false)), (.not (.t 144))⟩,
          ⟨(some 146), none, (.pick (.t 141) (.k (.bool true)) (.t 145))⟩,
          ⟨(some 147), none, (.mov (.t 146))⟩,
          ⟨(some 148), (some (147, false)), (.mov (.t 23))⟩,
          ⟨(some 149), (some (147, false)), (.mov (.t 18))⟩,
          ⟨(some 150), (some (147, false)), (.mov (.t 22))⟩,
          ⟨(some 151), (some (147, false)), (.ixA 1 (.t 149) (.t 150))⟩,
          ⟨(some 152), (some (147, false)), (.ld 1 false (.t 151))⟩,
          ⟨(some 153), (some (147, false)), (.callF 25 [(.t 148), (.t 152)])⟩,
          ⟨(some 154), (some (147, false)), (.not (.t 153))⟩,
          ⟨(some 155), none, (.pick (.t 147) (.k (.bool true)) (.t 154))⟩])
        (.cnd (.t 155)
          (.seq (.ops [⟨(some 14), none, (.mov (.k (.bool false)))⟩])
          .ret)
          .skip))
        (.seq (.ops [⟨(some 31), none, (.mov (.k (.int .i64 0)))⟩])
        (.blk 2 (.loop (.seq (.seq (.ops [⟨(some 156), none, (.mov (.t 31))⟩,
              ⟨(some 157), none, (.mov (.t 24))⟩,
              ⟨(some 158), none, (.len false (.t 157))⟩,
              ⟨(some 159), none, (.bin .lss (.t 156) (.t 158))⟩])
            (.cnd (.t 159)
              .skip
              (.exit 2)))
            (.seq (.blk 3 (.seq (.ops [⟨(some 162), none, (.mov (.t 24))⟩,
                ⟨(some 163), none, (.mov (.t 31))⟩,
                ⟨(some 164), none, (.ixA 3 (.t 162) (.t 163))⟩,
                ⟨(some 165), none, (.ld 3 true (.t 164))⟩,
                ⟨(some 166), none, (.mov (.t 19))⟩,
                ⟨(some 167), none, (.mov (.t 22))⟩,
                ⟨(some 168), none, (.ixA 1 (.t 166) (.t 167))⟩,
                ⟨(some 169), none, (.ld 1 false (.t 168))⟩,
                ⟨(some 170), none, (.mov (.t 31))⟩,
                ⟨(some 171), none, (.ixA 3 (.t 169) (.t 170))⟩,
                ⟨(some 172), none, (.ld 3 true (.t 171))⟩,
                ⟨(some 173), none, (.eqn (.flat [.i, .i, .i]) true (.t 165) (.t 172))⟩])
              (.cnd (.t 173)
                (.seq (.ops [⟨(some 14), none, (.mov (.k (.bool false)))⟩])
                .ret)
                .skip)))
            (.ops [⟨(some 160), none, (.mov (.t 31))⟩,
              ⟨(some 161), none, (.bin .add (.t 160) (.k (.int .i64 1)))⟩,
              ⟨(some 31), none, (.mov (.t 161))⟩])))))))))))
      (.ops [⟨(some 83), none, (.mov (.t 22))⟩,
        ⟨(some 84), none, (.bin .add (.t 83) (.k (.int .i64 1)))⟩,
        ⟨(some 22), none, (.mov (.t 84))⟩]))))))
  (.seq (.ops [⟨(some 175), none, (.ld 5 true (.t 11))⟩,
    ⟨(some 176), none, (.ld 3 true (.t 12))⟩,
    ⟨(some 177), none, (.callF 26 [(.t 175), (.t 176)])⟩,
    ⟨(some 174), none, (.mov (.t 177))⟩,
    ⟨(some 178), none, (.ext 0 (.t 174))⟩,
    ⟨(some 179), none, (.ext 1 (.t 174))⟩,
    ⟨(some 32), none, (.mov (.t 178))⟩,
    ⟨(some 33), none, (.mov (.t 179))⟩])
  (.seq (.ops [⟨(some 181), none, (.ld 5 true (.t 11))⟩,
    ⟨(some 182), none, (.ld 3 true (.t 12))⟩,
    ⟨(some 183), none, (.callF 27 [(.t 181), (.t 182)])⟩,
    ⟨(some 180), none, (.mov (.t 183))⟩,
    ⟨(some 184), none, (.ext 0 (.t 180))⟩,
    ⟨(some 185), none, (.ext 1 (.t 180))⟩,
    ⟨(some 34), none, (.mov (.t 184))⟩,
    ⟨(some 35), none, (.mov (.t 185))⟩])
  (.seq (.ops [⟨(some 186), none, (.mov (.t 32))⟩,
    ⟨(some 187), none, (.mov (.t 34))⟩,
    ⟨(some 188), none, (.bin .eql (.t 186) (.t 187))⟩,
    ⟨(some 189), none, (.mov (.t 188))⟩,
    ⟨(some 190), (some (189, true)), (.mov (.t 33))⟩,
    ⟨(some 191), (some (189, true)), (.mov (.t 35))⟩,
    ⟨(some 192), (some (189, true)), (.bin .eql (.t 190) (.t 191))⟩,
    ⟨(some 193), none, (.pick (.t 189) (.t 192) (.k (.bool false)))⟩,
    ⟨(some 194), none, (.mov (.t 193))⟩,
    ⟨(some 195), (some (194, true)), (.callF 16 [])⟩,
    ⟨(some 196), none, (.pick (.t 194) (.t 195) (.k (.bool false)))⟩,
    ⟨(some 14), none, (.mov (.t 196))⟩])
  .ret)))))))))⟩
def hint3 (P : Program) : Hint := { site := [(90, 23), (96, 24)], nils := [], frz := [], wr := [] }

def longB (l : List Guest) : Bool := l.any (fun g => decide (40 < g.name.size)) || decide (14 < l.length)
theorem longB_f {l : List Guest} (h : longB l = false) : l.length ≤ 14 ∧ ∀ g ∈ l, g.name.size ≤ 40 := by
  simp [longB] at h; exact ⟨h.2, h.1⟩
theorem long_c (l : List Guest) (hl : l.length < 2 ^ 63) : Fn0 Try.prog 15 [.slc 5 (gR l) .non] (fun v => v = .bool (longB l)) := by
  refine RawC.walk (H := hint15 Try.prog) ir15 Try.func15 rfl rfl rfl ?_
  unfold ir15
  repeat' (first
    | with_reducible (first | refine Rd.p ?_ | refine zE ?_ | refine zE0 ?_)
    | with_reducible (first | refine zI fun y hy => ?_ | refine zL ?_ | refine zS ?_ | refine zA fun _ => ?_ | refine zV ?_ | refine zC ?_ | refine zG ?_ | refine zU ?_ | refine zG0 ?_ | refine zU0 ?_ | refine zF ?_)
    | with_reducible (first | refine zX ?_ | refine zD fun _ => ?_ | refine zD0 ?_ | refine zN ?_ | refine zF0 ?_ | refine zX0 ?_ | refine z1 ?_ | refine z2 ?_ | refine z3 ?_ | refine z4 ?_ | refine z5 ?_ | refine z6 ?_ | refine z7 ?_ | refine z8 ?_ | refine y1 ?_ | refine y2 ?_ | refine y3 ?_ | refine y4 ?_ | refine y5 ?_ | refine y6 ?_ | refine y7 ?_ | refine y8 ?_ | refine Rt.p (fun _ => ?_) fun _ => ?_)
    | ((with_reducible apply w_ixM); (focus exact rfl); (focus exact rfl); case' hk => intro y hy) | ((with_reducible (first | apply w_val | apply q_ends)); (focus exact rfl)))
  refine w_loopK [0] [] (fun x : List Guest × List Guest => l = x.1 ++ x.2 ∧ x.1.any (fun g => decide (40 < g.name.size)) = false) (fun x => x.2.length) (fun x => [(3, .int .i64 x.1.length)]) (fun _ => []) ([], l) ⟨rfl, rfl⟩ ⟨rfl, trivial⟩ trivial ?_
  rintro ⟨pre, post⟩ ⟨hl2, hb⟩ e σ
  dsimp only at hl2 hb ⊢
  have hlen := congrArg List.length hl2
  cases post with
  | nil =>
    simp only [List.append_nil, List.length_append, List.length_nil] at hlen
    repeat' (first
      | with_reducible (first | refine Rd.p ?_ | refine zE ?_ | refine zE0 ?_)
      | with_reducible (first | refine zI fun y hy => ?_ | refine zL ?_ | refine zS ?_ | refine zA fun _ => ?_ | refine zV ?_ | refine zC ?_ | refine zG ?_ | refine zU ?_ | refine zG0 ?_ | refine zU0 ?_ | refine zF ?_)
      | with_reducible (first | refine zX ?_ | refine zD fun _ => ?_ | refine zD0 ?_ | refine zN ?_ | refine zF0 ?_ | refine zX0 ?_ | refine z1 ?_ | refine z2 ?_ | refine z3 ?_ | refine z4 ?_ | refine z5 ?_ | refine z6 ?_ | refine z7 ?_ | refine z8 ?_ | refine y1 ?_ | refine y2 ?_ | refine y3 ?_ | refine y4 ?_ | refine y5 ?_ | refine y6 ?_ | refine y7 ?_ | refine y8 ?_ | refine Rt.p (fun _ => ?_) fun _ => ?_)
      | ((with_reducible apply w_ixM); (focus exact rfl); (focus exact rfl); case' hk => intro y hy) | ((with_reducible (first | apply w_val | apply q_ends)); (focus exact rfl)))
    refine congrArg AV.bool ?_
    rw [longB, show l.any (fun g => decide (40 < g.name.size)) = false by rw [hl2, List.append_nil]; exact hb]
    simp; omega
  | cons c post =>
    simp only [List.length_append, List.length_cons] at hlen
    repeat' (first
      | with_reducible (first | refine Rd.p ?_ | refine zE ?_ | refine zE0 ?_)
      | (refine w_ixP hl2 rfl rfl ?_)
      | with_reducible (first | refine zI fun y hy => ?_ | refine zL ?_ | refine zS ?_ | refine zA fun _ => ?_ | refine zV ?_ | refine zC ?_ | refine zG ?_ | refine zU ?_ | refine zG0 ?_ | refine zU0 ?_ | refine zF ?_)
      | with_reducible (first | refine zX ?_ | refine zD fun _ => ?_ | refine zD0 ?_ | refine zN ?_ | refine zF0 ?_ | refine zX0 ?_ | refine z1 ?_ | refine z2 ?_ | refine z3 ?_ | refine z4 ?_ | refine z5 ?_ | refine z6 ?_ | refine z7 ?_ | refine z8 ?_ | refine y1 ?_ | refine y2 ?_ | refine y3 ?_ | refine y4 ?_ | refine y5 ?_ | refine y6 ?_ | refine y7 ?_ | refine y8 ?_ | refine Rt.p (fun _ => ?_) fun _ => ?_)
      | ((with_reducible apply w_ixM); (focus exact rfl); (focus exact rfl); case' hk => intro y hy) | ((with_reducible (first | apply w_val | apply q_ends)); (focus exact rfl)))
    · refine congrArg AV.bool ?_
      rename_i h
      have : 40 < c.name.size := by omega
      rw [longB, hl2]; simp [this]
    · refine zQ (pre ++ [c], post) ?_ ?_
      · dsimp only
        refine ⟨by rw [hl2]; simp, ?_⟩
        rw [List.any_append, hb]; simp; omega
      · simp
theorem eqGuests_c (a b : List Guest) (h : a.length < 2 ^ 62) : Fn0 Try.prog 25 [.slc 5 (gR a) .non, .slc 5 (gR b) .non] (fun v => v = .bool (decide (a = b))) := by
  refine RawC.walk (H := hint25 Try.prog) ir25 Try.func25 rfl (by kernel_rfl) rfl ?_
  unfold ir25
  repeat' (first
    | with_reducible (first | refine Rd.p ?_ | refine zE ?_ | refine zE0 ?_)
    | with_reducible (first | refine zI fun y hy => ?_ | refine zL ?_ | refine zS ?_ | refine zA fun _ => ?_ | refine zV ?_ | refine zC ?_ | refine zG ?_ | refine zU ?_ | refine zG0 ?_ | refine zU0 ?_ | refine zF ?_)
    | with_reducible (first | refine zX ?_ | refine zD fun _ => ?_ | refine zD0 ?_ | refine zN ?_ | refine zF0 ?_ | refine zX0 ?_ | refine z1 ?_ | refine z2 ?_ | refine z3 ?_ | refine z4 ?_ | refine z5 ?_ | refine z6 ?_ | refine z7 ?_ | refine z8 ?_ | refine y1 ?_ | refine y2 ?_ | refine y3 ?_ | refine y4 ?_ | refine y5 ?_ | refine y6 ?_ | refine y7 ?_ | refine y8 ?_ | refine Rt.p (fun _ => ?_) fun _ => ?_)
    | ((with_reducible apply w_ixM); (focus exact rfl); (focus exact rfl); case' hk => intro y hy) | ((with_reducible (first | apply w_val | apply q_ends)); (focus exact rfl)))
  · rename_i h; refine congrArg AV.bool ?_; symm; rw [decide_eq_false_iff_not]; intro e; subst e; exact h rfl
  rename_i hlen
  have hab : a.length = b.length := by omega
  refine w_loopK [0, 1] [] (fun x : List Guest × List Guest × List Guest => a = x.1 ++ x.2.1 ∧ b = x.1 ++ x.2.2) (fun x => x.2.1.length) (fun x => [(5, .int .i64 x.1.length)]) (fun _ => []) ([], a, b) ⟨rfl, rfl⟩ ⟨rfl, trivial⟩ trivial ?_
  rintro ⟨pre, pa, pb⟩ ⟨ha, hb⟩ e σ
  dsimp only at ha hb ⊢
  have hla := congrArg List.length ha
  have hlb := congrArg List.length hb
  simp only [List.length_append] at hla hlb
  cases pa with
  | nil =>
    simp only [List.length_nil] at hla
    repeat' (first
      | with_reducible (first | refine Rd.p ?_ | refine zE ?_ | refine zE0 ?_)
      | with_reducible (first | refine zI fun y hy => ?_ | refine zL ?_ | refine zS ?_ | refine zA fun _ => ?_ | refine zV ?_ | refine zC ?_ | refine zG ?_ | refine zU ?_ | refine zG0 ?_ | refine zU0 ?_ | refine zF ?_)
      | with_reducible (first | refine zX ?_ | refine zD fun _ => ?_ | refine zD0 ?_ | refine zN ?_ | refine zF0 ?_ | refine zX0 ?_ | refine z1 ?_ | refine z2 ?_ | refine z3 ?_ | refine z4 ?_ | refine z5 ?_ | refine z6 ?_ | refine z7 ?_ | refine z8 ?_ | refine y1 ?_ | refine y2 ?_ | refine y3 ?_ | refine y4 ?_ | refine y5 ?_ | refine y6 ?_ | refine y7 ?_ | refine y8 ?_ | refine Rt.p (fun _ => ?_) fun _ => ?_)
      | ((with_reducible apply w_ixM); (focus exact rfl); (focus exact rfl); case' hk => intro y hy) | ((with_reducible (first | apply w_val | apply q_ends)); (focus exact rfl)))
    have : pb = [] := List.length_eq_zero_iff.1 (by omega)
    subst this
    refine congrArg AV.bool ?_; symm; rw [decide_eq_true_eq, ha, hb]
  | cons x pa =>
    cases pb with
    | nil => exfalso; simp only [List.length_nil, List.length_cons] at hla hlb; omega
    | cons y pb =>
      simp only [List.length_cons] at hla hlb
      have hxy : (decide (x.name = y.name) && (decide (x.rank = y.rank) && (decide (x.honour = y.honour) && (decide (x.never = y.never) && (decide (x.maybe = y.maybe) && true))))) = decide (x = y) := by
        obtain ⟨n1, r1, h1, e1, m1⟩ := x
        obtain ⟨n2, r2, h2, e2, m2⟩ := y
        rw [Bool.eq_iff_iff]; simp
      repeat' (first
        | with_reducible (first | refine Rd.p ?_ | refine zE ?_ | refine zE0 ?_)
        | (first | refine w_ixP ha rfl rfl ?_ | refine w_ixP hb rfl rfl ?_)
        | with_reducible (first | refine zI fun y hy => ?_ | refine zL ?_ | refine zS ?_ | refine zA fun _ => ?_ | refine zV ?_ | refine zC ?_ | refine zG ?_ | refine zU ?_ | refine zG0 ?_ | refine zU0 ?_ | refine zF ?_)
        | with_reducible (first | refine zX ?_ | refine zD fun _ => ?_ | refine zD0 ?_ | refine zN ?_ | refine zF0 ?_ | refine zX0 ?_ | refine z1 ?_ | refine z2 ?_ | refine z3 ?_ | refine z4 ?_ | refine z5 ?_ | refine z6 ?_ | refine z7 ?_ | refine z8 ?_ | refine y1 ?_ | refine y2 ?_ | refine y3 ?_ | refine y4 ?_ | refine y5 ?_ | refine y6 ?_ | refine y7 ?_ | refine y8 ?_ | refine Rt.p (fun _ => ?_) fun _ => ?_)
        | ((with_reducible apply w_ixM); (focus exact rfl); (focus exact rfl); case' hk => intro y hy) | ((with_reducible (first | apply w_val | apply q_ends)); (focus exact rfl)))
      all_goals (rename_i h; rw [hxy] at h)
      · refine congrArg AV.bool ?_; symm
        rw [decide_eq_false_iff_not]; intro e
        rw [ha, hb] at e
        have := List.append_cancel_left e
        simp at this h
        exact h this.1
      · simp at h
        subst h
        refine zQ (pre ++ [x], pa, pb) ?_ ?_
        · exact ⟨by rw [ha]; simp, by rw [hb]; simp⟩
        · simp
abbrev optS (o : Option (List Int)) : AV := .slc 1 (iR (o.getD [])) .non
theorem sub_opt : ∀ o, Sub (optV o) (optS o)
  | none => Sub.nil
  | some _ => Sub.refl _
theorem ACall.eqO {a b : Option (List Int)} {σ : Sig} {d : Nat} {Q : AV → Sig → Prop} (h : (a.getD []).length < 2 ^ 62) (hQ : Q (.bool (decide (a.getD [] = b.getD []))) σ) : ACall Try.prog 24 [optV a, optV b] σ d Q :=
  ACall.wval (args' := [optS a, optS b]) (.cons (sub_opt a) (.cons (sub_opt b) .nil)) (eq_c (a.getD []) (b.getD []) h) rfl rfl hQ
theorem menuP_len (l : List Guest) (ds : List Dish) (turns need : Int) : ((menuP l ds turns need).1.getD []).length ≤ 4 := by
  unfold menuP
  split
  · split
    · simp
    · split
      · split
        · rename_i ht
          split
          · simp
          · simp only [Bool.and_eq_true] at ht
            have ht1 := inB_t.1 ht.1
            cases hb : (bestM l ds turns need).1 with
            | none => simp
            | some m =>
              rcases ((foldM_spec (menusK ds turns.toNat []) (none, 0) (fun m hm => by cases hm)).2 m hb).1.2.2 with h | h
              · have := (menusK_mem h).1
                simp at this
                show (Option.getD (some m) []).length ≤ 4
                simp; omega
              · cases h
        · simp
      · simp
  · simp
abbrev MQ := List Guest × List Dish × Int × Int
theorem seatMenus_c (l : List Guest) (ds : List Dish) (turns0 need0 : Int) (g : Guest) (d : Dish) (nums : List Int) (hl : l.length < 2 ^ 63) (hn : nums.length < 2 ^ 62) :
    Fn0 Try.prog 3 [.slc 5 (gR l) .non, .slc 3 (dR ds) .non, .int .i64 turns0, .int .i64 need0, gA g, dA d, .slc 1 (iR nums) .non] (fun v => v = .bool true) := by
  by_cases hlong : longB l = true
  · refine RawC.walk (H := hint3 Try.prog) ir3 Try.func3 rfl (by kernel_rfl) rfl ?_
    unfold ir3
    repeat' (first
      | with_reducible (first | refine Rd.p ?_ | refine zE ?_ | refine zE0 ?_)
      | with_reducible (first | refine zI fun y hy => ?_ | refine zL ?_ | refine zS ?_ | refine zA fun _ => ?_ | refine zV ?_ | refine zC ?_ | refine zG ?_ | refine zU ?_ | refine zG0 ?_ | refine zU0 ?_ | refine zF ?_)
      | ((with_reducible refine acall_id ?_); refine ACall.val (long_c _ hl) rfl rfl ?_)
      | ((with_reducible refine acall_id ?_); refine ACall.val awake_c rfl rfl ?_)
      | with_reducible (first | refine zX ?_ | refine zD fun _ => ?_ | refine zD0 ?_ | refine zN ?_ | refine zF0 ?_ | refine zX0 ?_ | refine z1 ?_ | refine z2 ?_ | refine z3 ?_ | refine z4 ?_ | refine z5 ?_ | refine z6 ?_ | refine z7 ?_ | refine z8 ?_ | refine y1 ?_ | refine y2 ?_ | refine y3 ?_ | refine y4 ?_ | refine y5 ?_ | refine y6 ?_ | refine y7 ?_ | refine y8 ?_ | refine Rt.p (fun _ => ?_) fun _ => ?_)
      | ((with_reducible apply w_ixM); (focus exact rfl); (focus exact rfl); case' hk => intro y hy) | ((with_reducible (first | apply w_val | apply q_ends)); (focus exact rfl)))
    all_goals first | rfl | trace_state
  have hlong' : longB l = false := by simpa using hlong
  obtain ⟨hl14, hl40⟩ := longB_f hlong'
  by_cases hd20 : 20 < ds.length
  · refine RawC.walk (H := hint3 Try.prog) ir3 Try.func3 rfl (by kernel_rfl) rfl ?_
    unfold ir3
    repeat' (first
      | with_reducible (first | refine Rd.p ?_ | refine zE ?_ | refine zE0 ?_)
      | with_reducible (first | refine zI fun y hy => ?_ | refine zL ?_ | refine zS ?_ | refine zA fun _ => ?_ | refine zV ?_ | refine zC ?_ | refine zG ?_ | refine zU ?_ | refine zG0 ?_ | refine zU0 ?_ | refine zF ?_)
      | ((with_reducible refine acall_id ?_); refine ACall.val (long_c _ hl) rfl rfl ?_)
      | ((with_reducible refine acall_id ?_); refine ACall.val awake_c rfl rfl ?_)
      | with_reducible (first | refine zX ?_ | refine zD fun _ => ?_ | refine zD0 ?_ | refine zN ?_ | refine zF0 ?_ | refine zX0 ?_ | refine z1 ?_ | refine z2 ?_ | refine z3 ?_ | refine z4 ?_ | refine z5 ?_ | refine z6 ?_ | refine z7 ?_ | refine z8 ?_ | refine y1 ?_ | refine y2 ?_ | refine y3 ?_ | refine y4 ?_ | refine y5 ?_ | refine y6 ?_ | refine y7 ?_ | refine y8 ?_ | refine Rt.p (fun _ => ?_) fun _ => ?_)
      | ((with_reducible apply w_ixM); (focus exact rfl); (focus exact rfl); case' hk => intro y hy) | ((with_reducible (first | apply w_val | apply q_ends)); (focus exact rfl)))
    all_goals first | rfl | (exfalso; omega) | trace_state
  by_cases hg40 : 40 < g.name.size
  · refine RawC.walk (H := hint3 Try.prog) ir3 Try.func3 rfl (by kernel_rfl) rfl ?_
    unfold ir3
    repeat' (first
      | with_reducible (first | refine Rd.p ?_ | refine zE ?_ | refine zE0 ?_)
      | with_reducible (first | refine zI fun y hy => ?_ | refine zL ?_ | refine zS ?_ | refine zA fun _ => ?_ | refine zV ?_ | refine zC ?_ | refine zG ?_ | refine zU ?_ | refine zG0 ?_ | refine zU0 ?_ | refine zF ?_)
      | ((with_reducible refine acall_id ?_); refine ACall.val (long_c _ hl) rfl rfl ?_)
      | ((with_reducible refine acall_id ?_); refine ACall.val awake_c rfl rfl ?_)
      | with_reducible (first | refine zX ?_ | refine zD fun _ => ?_ | refine zD0 ?_ | refine zN ?_ | refine zF0 ?_ | refine zX0 ?_ | refine z1 ?_ | refine z2 ?_ | refine z3 ?_ | refine z4 ?_ | refine z5 ?_ | refine z6 ?_ | refine z7 ?_ | refine z8 ?_ | refine y1 ?_ | refine y2 ?_ | refine y3 ?_ | refine y4 ?_ | refine y5 ?_ | refine y6 ?_ | refine y7 ?_ | refine y8 ?_ | refine Rt.p (fun _ => ?_) fun _ => ?_)
      | ((with_reducible apply w_ixM); (focus exact rfl); (focus exact rfl); case' hk => intro y hy) | ((with_reducible (first | apply w_val | apply q_ends)); (focus exact rfl)))
    all_goals first | rfl | (exfalso; omega) | trace_state
  refine RawC.walk (H := hint3 Try.prog) ir3 Try.func3 rfl (by kernel_rfl) rfl ?_
  unfold ir3
  repeat' (first
    | with_reducible (first | refine Rd.p ?_ | refine zE ?_ | refine zE0 ?_)
    | with_reducible (first | refine zI fun y hy => ?_ | refine zL ?_ | refine zS ?_ | refine zA fun _ => ?_ | refine zV ?_ | refine zC ?_ | refine zG ?_ | refine zU ?_ | refine zG0 ?_ | refine zU0 ?_ | refine zF ?_)
    | ((with_reducible refine acall_id ?_); refine ACall.val (long_c _ hl) rfl rfl ?_)
    | ((with_reducible refine acall_id ?_); refine ACall.liftS (boxOf_s nums hn) [] (some 6) rfl rfl rfl trivial (fun _ => rfl) ?_; rintro ⟨gb, w⟩ _ rfl)
    | ((with_reducible refine acall_id ?_); refine ACall.box (upp_c _ _ 6 (by omega) (by omega)) rfl rfl rfl ?_; rintro _ _ ⟨n, rfl, hn1, hn2⟩)
    | ((with_reducible refine acall_id ?_); refine ACall.box (guestsOf_c _ _ _ (by omega)) rfl rfl rfl ?_; rintro _ _ ⟨gs, rfl, hgs, hgl⟩)
    | ((with_reducible refine acall_id ?_); refine ACall.box (any_c _ _ 1 4 (by omega) (by omega) (by omega) (by omega)) rfl rfl rfl ?_; rintro _ _ ⟨turns, rfl, ht1, ht2⟩)
    | ((with_reducible refine acall_id ?_); refine ACall.box (dishesOf_c _ _ _ _ (by omega) (by omega)) rfl rfl rfl ?_; rintro _ _ ⟨made, rfl, hds, hd1, hd2⟩)
    | ((with_reducible refine acall_id ?_); refine ACall.box (upp_c _ _ (turns + 1) (by omega) (by omega)) rfl rfl rfl ?_; rintro _ _ ⟨need, rfl, hq1, hq2⟩)
    | with_reducible (first | refine zX ?_ | refine zD fun _ => ?_ | refine zD0 ?_ | refine zN ?_ | refine zF0 ?_ | refine zX0 ?_ | refine z1 ?_ | refine z2 ?_ | refine z3 ?_ | refine z4 ?_ | refine z5 ?_ | refine z6 ?_ | refine z7 ?_ | refine z8 ?_ | refine y1 ?_ | refine y2 ?_ | refine y3 ?_ | refine y4 ?_ | refine y5 ?_ | refine y6 ?_ | refine y7 ?_ | refine y8 ?_ | refine Rt.p (fun _ => ?_) fun _ => ?_)
    | ((with_reducible apply w_ixM); (focus exact rfl); (focus exact rfl); case' hk => intro y hy) | ((with_reducible (first | apply w_val | apply q_ends)); (focus exact rfl)))
  have hsz : ∀ g ∈ gs, g.name.size ≤ 40 := fun g hg => by have := (madeG_ok hgs).2 g hg; omega
  have hqs : ∀ q ∈ [((l, ds, turns0, need0) : MQ), (gs, made, turns, need), (gs, ds, turns0, need0)], q.1.length ≤ 14 ∧ (∀ g ∈ q.1, g.name.size ≤ 40) ∧ q.2.1.length ≤ 20 := by
    intro q hq
    simp only [List.mem_cons, List.not_mem_nil, or_false] at hq
    rcases hq with rfl | rfl | rfl
    · exact ⟨hl14, hl40, by dsimp only; omega⟩
    · exact ⟨by dsimp only; omega, hsz, by dsimp only; omega⟩
    · exact ⟨by dsimp only; omega, hsz, by dsimp only; omega⟩
  generalize hqe : [((l, ds, turns0, need0) : MQ), (gs, made, turns, need), (gs, ds, turns0, need0)] = qs at hqs
  have hql : qs.length = 3 := by rw [← hqe]; rfl
  refine w_loopK [11, 12] [11, 12] (fun k : Nat => k ≤ 3) (fun k => 3 - k)
    (fun k => [(22, .int .i64 k), (18, .slc 1 (qs.map fun q => [.slc 5 (gR q.1) .non]) .full), (19, .slc 1 (qs.map fun q => [.slc 3 (dR q.2.1) .non]) .full), (20, .slc 1 (qs.map fun q => [.int .i64 q.2.2.1]) .full), (21, .slc 1 (qs.map fun q => [.int .i64 q.2.2.2]) .full)]) (fun _ => []) 0 (by omega) ⟨rfl, by subst hqe; rfl, by subst hqe; rfl, by subst hqe; rfl, by subst hqe; rfl, trivial⟩ trivial ?_
  rintro k hk e σ
  by_cases hk3 : k < 3
  case neg =>
    repeat' (first
      | with_reducible (first | refine Rd.p ?_ | refine zE ?_ | refine zE0 ?_)
      | with_reducible (first | refine zI fun y hy => ?_ | refine zL ?_ | refine zS ?_ | refine zA fun _ => ?_ | refine zV ?_ | refine zC ?_ | refine zG ?_ | refine zU ?_ | refine zG0 ?_ | refine zU0 ?_ | refine zF ?_)
      | ((with_reducible refine acall_id ?_); refine ACall.val (Eats_c g d (by omega)) rfl rfl ?_)
      | ((with_reducible refine acall_id ?_); refine ACall.val (rEats_c g d (by omega)) rfl rfl ?_)
      | ((with_reducible refine acall_id ?_); refine ACall.val awake_c rfl rfl ?_)
      | with_reducible (first | refine zX ?_ | refine zD fun _ => ?_ | refine zD0 ?_ | refine zN ?_ | refine zF0 ?_ | refine zX0 ?_ | refine z1 ?_ | refine z2 ?_ | refine z3 ?_ | refine z4 ?_ | refine z5 ?_ | refine z6 ?_ | refine z7 ?_ | refine z8 ?_ | refine y1 ?_ | refine y2 ?_ | refine y3 ?_ | refine y4 ?_ | refine y5 ?_ | refine y6 ?_ | refine y7 ?_ | refine y8 ?_ | refine Rt.p (fun _ => ?_) fun _ => ?_)
      | ((with_reducible apply w_ixM); (focus exact rfl); (focus exact rfl); case' hk => intro y hy) | ((with_reducible (first | apply w_val | apply q_ends)); (focus exact rfl)))
    all_goals rfl
  obtain ⟨q, hq⟩ : ∃ q, qs[((k : Nat) : Int).toNat]? = some q := ⟨qs[k], by simp [hql, hk3]⟩
  obtain ⟨q1, q2, q3⟩ := hqs q (List.mem_of_getElem? hq)
  have hM := Menu_c q.1 q.2.1 q.2.2.1 q.2.2.2 (by omega) (fun g hg => by have := q2 g hg; omega) (by omega)
  have hR := rMenu_c q.1 q.2.1 q.2.2.1 q.2.2.2 (by omega) (fun g hg => by have := q2 g hg; omega) (by omega)
  have hml : ((menuP q.1 q.2.1 q.2.2.1 q.2.2.2).1.getD []).length < 2 ^ 62 := by have := menuP_len q.1 q.2.1 q.2.2.1 q.2.2.2; omega
  generalize menuP q.1 q.2.1 q.2.2.1 q.2.2.2 = mo at hM hR hml
  obtain ⟨o, c, ee⟩ := mo
  cases o
  all_goals
    dsimp only [optV] at hM hR
    repeat' (first
      | with_reducible (first | refine Rd.p ?_ | refine zE ?_ | refine zE0 ?_)
      | (with_reducible refine zK hq ?_)
      | with_reducible (first | refine zI fun y hy => ?_ | refine zL ?_ | refine zS ?_ | refine zA fun _ => ?_ | refine zV ?_ | refine zC ?_ | refine zG ?_ | refine zU ?_ | refine zG0 ?_ | refine zU0 ?_ | refine zF ?_)
      | ((with_reducible refine acall_id ?_); refine ACall.val hM rfl rfl ?_)
      | ((with_reducible refine acall_id ?_); refine ACall.val hR rfl rfl ?_)
      | ((with_reducible refine acall_id ?_); refine ACall.val (eqGuests_c _ _ (by omega)) rfl rfl ?_)
      | ((with_reducible refine acall_id ?_); (first | refine ACall.eqO (a := none) (b := none) hml ?_ | refine ACall.eqO (a := some _) (b := some _) hml ?_))
      | with_reducible (first | refine zX ?_ | refine zD fun _ => ?_ | refine zD0 ?_ | refine zN ?_ | refine zF0 ?_ | refine zX0 ?_ | refine z1 ?_ | refine z2 ?_ | refine z3 ?_ | refine z4 ?_ | refine z5 ?_ | refine z6 ?_ | refine z7 ?_ | refine z8 ?_ | refine y1 ?_ | refine y2 ?_ | refine y3 ?_ | refine y4 ?_ | refine y5 ?_ | refine y6 ?_ | refine y7 ?_ | refine y8 ?_ | refine Rt.p (fun _ => ?_) fun _ => ?_)
      | ((with_reducible apply w_ixM); (focus exact rfl); (focus exact rfl); case' hk => intro y hy) | ((with_reducible (first | apply w_val | apply q_ends)); (focus exact rfl)))
    refine w_loopK [11, 12, 18, 19, 20, 21, 22, 24] [11, 12] (fun x : List Dish × List Dish => q.2.1 = x.1 ++ x.2) (fun x => x.2.length) (fun x => [(31, .int .i64 x.1.length)]) (fun _ => []) ([], q.2.1) rfl ⟨rfl, trivial⟩ trivial ?_
    rintro ⟨pre, post⟩ hpp e2 σ2
    dsimp only at hpp ⊢
    have hlen := congrArg List.length hpp
    cases post with
    | nil =>
      simp only [List.append_nil, List.length_append, List.length_nil] at hlen
      repeat' (first
        | with_reducible (first | refine Rd.p ?_ | refine zE ?_ | refine zE0 ?_)
        | with_reducible (first | refine zI fun y hy => ?_ | refine zL ?_ | refine zS ?_ | refine zA fun _ => ?_ | refine zV ?_ | refine zC ?_ | refine zG ?_ | refine zU ?_ | refine zG0 ?_ | refine zU0 ?_ | refine zF ?_)
        | with_reducible (first | refine zX ?_ | refine zD fun _ => ?_ | refine zD0 ?_ | refine zN ?_ | refine zF0 ?_ | refine zX0 ?_ | refine z1 ?_ | refine z2 ?_ | refine z3 ?_ | refine z4 ?_ | refine z5 ?_ | refine z6 ?_ | refine z7 ?_ | refine z8 ?_ | refine y1 ?_ | refine y2 ?_ | refine y3 ?_ | refine y4 ?_ | refine y5 ?_ | refine y6 ?_ | refine y7 ?_ | refine y8 ?_ | refine Rt.p (fun _ => ?_) fun _ => ?_)
        | ((with_reducible apply w_ixM); (focus exact rfl); (focus exact rfl); case' hk => intro y hy) | ((with_reducible (first | apply w_val | apply q_ends)); (focus exact rfl)))
      refine zQ (k + 1) ?_ ?_
      · omega
      · omega
    | cons c post =>
      simp only [List.length_append, List.length_cons] at hlen
      repeat' (first
        | with_reducible (first | refine Rd.p ?_ | refine zE ?_ | refine zE0 ?_)
        | (first | with_reducible refine zK hq ?_ | refine w_ixP hpp rfl rfl ?_)
        | with_reducible (first | refine zI fun y hy => ?_ | refine zL ?_ | refine zS ?_ | refine zA fun _ => ?_ | refine zV ?_ | refine zC ?_ | refine zG ?_ | refine zU ?_ | refine zG0 ?_ | refine zU0 ?_ | refine zF ?_)
        | with_reducible (first | refine zX ?_ | refine zD fun _ => ?_ | refine zD0 ?_ | refine zN ?_ | refine zF0 ?_ | refine zX0 ?_ | refine z1 ?_ | refine z2 ?_ | refine z3 ?_ | refine z4 ?_ | refine z5 ?_ | refine z6 ?_ | refine z7 ?_ | refine z8 ?_ | refine y1 ?_ | refine y2 ?_ | refine y3 ?_ | refine y4 ?_ | refine y5 ?_ | refine y6 ?_ | refine y7 ?_ | refine y8 ?_ | refine Rt.p (fun _ => ?_) fun _ => ?_)
        | ((with_reducible apply w_ixM); (focus exact rfl); (focus exact rfl); case' hk => intro y hy) | ((with_reducible (first | apply w_val | apply q_ends)); (focus exact rfl)))
      · rename_i h
        simp at h
      · refine zQ (pre ++ [c], post) ?_ ?_
        · dsimp only; rw [hpp]; simp
        · simp
end Go.Abs
