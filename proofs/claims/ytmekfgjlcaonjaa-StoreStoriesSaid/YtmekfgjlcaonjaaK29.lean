/- A part of the proofs of the laws of this seat: contracts of the functions that they reach, each proved of the program's form in Lean. No condition beyond those that each contract names. -/
import Derived.Test.YtmekfgjlcaonjaaK28
import Derived.Test.YtmekfgjlcaonjaaK27
import Derived.Test.YtmekfgjlcaonjaaK26
import Derived.Test.YtmekfgjlcaonjaaK25
import Derived.Test.YtmekfgjlcaonjaaK24
import Derived.Test.YtmekfgjlcaonjaaK23
import Derived.Test.YtmekfgjlcaonjaaK22
import Derived.Test.YtmekfgjlcaonjaaK21
import Derived.Test.YtmekfgjlcaonjaaK20
import Derived.Test.YtmekfgjlcaonjaaK19
import Derived.Test.YtmekfgjlcaonjaaK18
import Derived.Test.YtmekfgjlcaonjaaK17
import Derived.Test.YtmekfgjlcaonjaaK16
import Derived.Test.YtmekfgjlcaonjaaK15
import Derived.Test.YtmekfgjlcaonjaaK14
import Derived.Test.YtmekfgjlcaonjaaK13
import Derived.Test.YtmekfgjlcaonjaaK12
import Derived.Test.YtmekfgjlcaonjaaD1
import Derived.Test.YtmekfgjlcaonjaaC3
import Derived.Test.YtmekfgjlcaonjaaC2
import Derived.Test.YtmekfgjlcaonjaaC1
import Derived.Test.YtmekfgjlcaonjaaB
import Derived.Test.YtmekfgjlcaonjaaD8
import Derived.Test.YtmekfgjlcaonjaaC13
import Derived.Test.YtmekfgjlcaonjaaC12
import Derived.Test.YtmekfgjlcaonjaaC11
import Derived.Test.YtmekfgjlcaonjaaC10
import Derived.Test.YtmekfgjlcaonjaaC9
import Derived.Test.YtmekfgjlcaonjaaC8
import Derived.Test.YtmekfgjlcaonjaaC7
import Derived.Test.YtmekfgjlcaonjaaC5
import Derived.Test.YtmekfgjlcaonjaaC4
import Derived.Test.YtmekfgjlcaonjaaD7
import Derived.Test.YtmekfgjlcaonjaaD5
import Derived.Test.YtmekfgjlcaonjaaD4
import Derived.Test.YtmekfgjlcaonjaaD3
import Derived.Test.YtmekfgjlcaonjaaD2
import Derived.Test.YtmekfgjlcaonjaaC16
import Derived.Test.YtmekfgjlcaonjaaC6
import Derived.Test.YtmekfgjlcaonjaaK58
set_option linter.unusedVariables false
set_option linter.unusedSimpArgs false
set_option maxRecDepth 20000
set_option maxHeartbeats 4000000
namespace Go.Abs
open Go.Proofs
/-- aloeswood/aloeswoodlaw09.StoreStories -/
def ir4 : IFn :=
  ⟨196, [(2, none)], (.seq (.ops [⟨(some 2), none, (.mov (.k (.bool false)))⟩])
  (.seq (.ops [⟨(some 22), none, (.mov (.t 0))⟩,
    ⟨(some 23), none, (.callF 17 [(.t 22)])⟩,
    ⟨(some 3), none, (.mov (.t 23))⟩])
  (.seq (.ops [⟨(some 24), none, (.mov (.t 3))⟩,
    ⟨(some 25), none, (.callF 18 [(.t 24), (.k (.int .i64 4)), (.k (.int .i64 4)), (.k (.int .i64 2))])⟩,
    ⟨(some 4), none, (.new [(.int .i64 0), (.int .i64 0), (.int .i64 0), .nsl])⟩,
    ⟨none, none, (.st 4 (.t 4) (.t 25))⟩])
  (.seq (.ops [⟨(some 26), none, (.callF 31 [(.k (.int .i64 100000)), (.k (.int .i64 0))])⟩,
    ⟨(some 27), none, (.bld [(.int .i64 0), (.int .i64 0), .nsl, .nsl] [(0, 2, (.t 26))])⟩,
    ⟨(some 5), none, (.new [(.int .i64 0), (.int .i64 0), .nsl, .nsl])⟩,
    ⟨none, none, (.st 4 (.t 5) (.t 27))⟩])
  (.seq (.seq (.ops [⟨(some 6), none, (.mov (.k (.int .i64 0)))⟩])
  (.blk 0 (.loop (.seq (.seq (.ops [⟨(some 28), none, (.mov (.t 6))⟩,
        ⟨(some 29), none, (.flA 3 (.t 4))⟩,
        ⟨(some 30), none, (.ld 1 false (.t 29))⟩,
        ⟨(some 31), none, (.len false (.t 30))⟩,
        ⟨(some 32), none, (.bin .lss (.t 28) (.t 31))⟩])
      (.cnd (.t 32)
        .skip
        (.exit 0)))
      (.seq (.blk 1 (.ops [⟨(some 35), none, (.flA 2 (.t 5))⟩,
          ⟨(some 36), none, (.ld 1 false (.t 35))⟩,
          ⟨(some 37), none, (.callF 31 [(.k (.int .i64 100000)), (.k (.int .i64 0))])⟩,
          ⟨none, none, (.chk 1 false (.t 35) 36)⟩,
          ⟨(some 38), none, (.bsl 2 [[(.int .i64 0), (.int .i64 0)]] [(0, (.t 37))])⟩,
          ⟨(some 39), none, (.app 2 16 (.t 36) (.t 38) 39)⟩,
          ⟨(some 40), none, (.flA 2 (.t 5))⟩,
          ⟨none, none, (.st 1 (.t 40) (.t 39))⟩]))
      (.ops [⟨(some 33), none, (.mov (.t 6))⟩,
        ⟨(some 34), none, (.bin .add (.t 33) (.k (.int .i64 1)))⟩,
        ⟨(some 6), none, (.mov (.t 34))⟩]))))))
  (.seq (.seq (.ops [⟨(some 7), none, (.mov (.k (.int .i64 0)))⟩])
  (.blk 2 (.loop (.seq (.seq (.ops [⟨(some 41), none, (.mov (.t 7))⟩,
        ⟨(some 42), none, (.bin .lss (.t 41) (.k (.int .i64 30)))⟩])
      (.cnd (.t 42)
        .skip
        (.exit 2)))
      (.seq (.blk 3 (.ops [⟨none, none, (.kil 47)⟩,
          ⟨none, none, (.kil 48)⟩,
          ⟨(some 45), none, (.flA 3 (.t 5))⟩,
          ⟨(some 46), none, (.ld 1 false (.t 45))⟩,
          ⟨(some 47), none, (.mks 1 1 [(.bool false)] (.k (.int .i64 21)) (.k (.int .i64 21)))⟩,
          ⟨(some 48), none, (.bsm 1 [[.nsl]] [(0, (.t 47))])⟩,
          ⟨(some 49), none, (.apm 1 24 (.t 46) (.t 48) 49)⟩,
          ⟨(some 50), none, (.flA 3 (.t 5))⟩,
          ⟨none, none, (.st 1 (.t 50) (.t 49))⟩]))
      (.seq (.mve (.t 47))
      (.ops [⟨(some 43), none, (.mov (.t 7))⟩,
        ⟨(some 44), none, (.bin .add (.t 43) (.k (.int .i64 1)))⟩,
        ⟨(some 7), none, (.mov (.t 44))⟩])))))))
  (.seq (.ops [⟨(some 8), none, (.nil 1 8)⟩])
  (.seq (.ops [⟨(some 51), none, (.flA 3 (.t 4))⟩,
    ⟨(some 52), none, (.ld 1 false (.t 51))⟩,
    ⟨(some 53), none, (.len false (.t 52))⟩,
    ⟨(some 54), none, (.callF 32 [(.t 53)])⟩,
    ⟨(some 9), none, (.mov (.t 54))⟩])
  (.seq (.seq (.ops [⟨(some 10), none, (.mov (.k (.int .i64 0)))⟩])
  (.blk 4 (.loop (.seq (.seq (.ops [⟨(some 55), none, (.mov (.t 10))⟩,
        ⟨(some 56), none, (.mov (.t 9))⟩,
        ⟨(some 57), none, (.len false (.t 56))⟩,
        ⟨(some 58), none, (.bin .lss (.t 55) (.t 57))⟩])
      (.cnd (.t 58)
        .skip
        (.exit 4)))
      (.seq (.blk 5 (.seq (.seq (.ops [⟨(some 61), none, (.ld 4 true (.t 4))⟩,
          ⟨(some 62), none, (.mov (.t 9))⟩,
          ⟨(some 63), none, (.mov (.t 10))⟩,
          ⟨(some 64), none, (.ixA 1 (.t 62) (.t 63))⟩,
          ⟨(some 65), none, (.ld 1 false (.t 64))⟩,
          ⟨(some 66), none, (.callF 33 [(.t 61), (.t 65)])⟩,
          ⟨(some 67), none, (.not (.t 66))⟩])
        (.cnd (.t 67)
          (.exit 5)
          .skip))
        (.seq (.ops [⟨none, none, (.kil 11)⟩,
          ⟨(some 69), none, (.flA 2 (.t 5))⟩,
          ⟨(some 70), none, (.ld 1 false (.t 69))⟩,
          ⟨(some 72), none, (.flA 3 (.t 5))⟩,
          ⟨(some 73), none, (.ld 1 false (.t 72))⟩,
          ⟨(some 68), none, (.callF 31 [(.k (.int .i64 100000)), (.k (.int .i64 (-1)))])⟩,
          ⟨none, none, (.chk 1 false (.t 69) 70)⟩,
          ⟨none, none, (.chk 1 false (.t 72) 73)⟩,
          ⟨(some 71), none, (.callF 34 [(.t 70)])⟩,
          ⟨none, none, (.chk 1 false (.t 72) 73)⟩,
          ⟨(some 74), none, (.bld [(.int .i64 0), (.int .i64 0), .nsl, .nsl] [(0, 2, (.t 68)), (2, 1, (.t 71)), (3, 1, (.t 73))])⟩,
          ⟨(some 11), none, (.new [(.int .i64 0), (.int .i64 0), .nsl, .nsl])⟩,
          ⟨none, none, (.st 4 (.t 11) (.t 74))⟩])
        (.seq (.ops [⟨(some 75), none, (.ld 4 true (.t 4))⟩,
          ⟨(some 76), none, (.mov (.t 9))⟩,
          ⟨(some 77), none, (.mov (.t 10))⟩,
          ⟨(some 78), none, (.ixA 1 (.t 76) (.t 77))⟩,
          ⟨(some 79), none, (.ld 1 false (.t 78))⟩,
          ⟨(some 80), none, (.callF 35 [(.t 75), (.t 79), (.k .nsl), (.t 11)])⟩])
        (.seq (.ops [⟨(some 81), none, (.flA 0 (.t 11))⟩,
          ⟨(some 82), none, (.flA 1 (.t 81))⟩,
          ⟨(some 83), none, (.ld 1 false (.t 82))⟩,
          ⟨(some 84), none, (.bin .geq (.t 83) (.k (.int .i64 0)))⟩])
        (.cnd (.t 84)
          (.seq (.ops [⟨(some 85), none, (.mov (.t 8))⟩,
            ⟨(some 86), none, (.mov (.t 9))⟩,
            ⟨(some 87), none, (.mov (.t 10))⟩,
            ⟨(some 88), none, (.ixA 1 (.t 86) (.t 87))⟩,
            ⟨(some 89), none, (.ld 1 false (.t 88))⟩,
            ⟨(some 90), none, (.bsl 1 [[.nsl]] [(0, (.t 89))])⟩,
            ⟨(some 91), none, (.app 1 24 (.t 85) (.t 90) 8)⟩,
            ⟨(some 8), none, (.mov (.t 91))⟩])
          (.seq (.ops [⟨(some 92), none, (.flA 0 (.t 5))⟩,
            ⟨(some 93), none, (.flA 0 (.t 92))⟩,
            ⟨(some 94), none, (.ld 1 false (.t 93))⟩,
            ⟨(some 95), none, (.flA 0 (.t 11))⟩,
            ⟨(some 96), none, (.flA 0 (.t 95))⟩,
            ⟨(some 97), none, (.ld 1 false (.t 96))⟩,
            ⟨(some 98), none, (.mxi false (.t 94) (.t 97))⟩,
            ⟨(some 99), none, (.flA 0 (.t 5))⟩,
            ⟨(some 100), none, (.flA 1 (.t 99))⟩,
            ⟨(some 101), none, (.ld 1 false (.t 100))⟩,
            ⟨(some 102), none, (.flA 0 (.t 11))⟩,
            ⟨(some 103), none, (.flA 1 (.t 102))⟩,
            ⟨(some 104), none, (.ld 1 false (.t 103))⟩,
            ⟨(some 105), none, (.mxi true (.t 101) (.t 104))⟩,
            ⟨(some 106), none, (.bld [(.int .i64 0), (.int .i64 0)] [(0, 1, (.t 98)), (1, 1, (.t 105))])⟩,
            ⟨(some 107), none, (.flA 0 (.t 5))⟩,
            ⟨none, none, (.st 2 (.t 107) (.t 106))⟩])
          (.seq (.frz (.t 71))
          (.ops [⟨(some 108), none, (.flA 2 (.t 11))⟩,
            ⟨(some 109), none, (.ld 1 false (.t 108))⟩,
            ⟨(some 110), none, (.flA 2 (.t 5))⟩,
            ⟨none, none, (.st 1 (.t 110) (.t 109))⟩]))))
          .skip))))))
      (.ops [⟨(some 59), none, (.mov (.t 10))⟩,
        ⟨(some 60), none, (.bin .add (.t 59) (.k (.int .i64 1)))⟩,
        ⟨(some 10), none, (.mov (.t 60))⟩]))))))
  (.seq (.ops [⟨(some 112), none, (.ld 4 true (.t 4))⟩,
    ⟨(some 113), none, (.callF 24 [(.t 112)])⟩,
    ⟨(some 111), none, (.mov (.t 113))⟩,
    ⟨(some 114), none, (.ext 0 (.t 111))⟩,
    ⟨(some 115), none, (.ext 1 (.t 111))⟩,
    ⟨(some 116), none, (.ext 2 (.t 111))⟩,
    ⟨(some 12), none, (.new [(.int .i64 0), (.int .i64 0)])⟩,
    ⟨none, none, (.st 2 (.t 12) (.t 114))⟩,
    ⟨(some 13), none, (.mov (.t 115))⟩,
    ⟨(some 14), none, (.mov (.t 116))⟩])
  (.seq (.ops [⟨(some 118), none, (.ld 4 true (.t 4))⟩,
    ⟨(some 119), none, (.callF 22 [(.t 118)])⟩,
    ⟨(some 117), none, (.mov (.t 119))⟩,
    ⟨(some 120), none, (.ext 0 (.t 117))⟩,
    ⟨(some 121), none, (.ext 1 (.t 117))⟩,
    ⟨(some 15), none, (.mov (.t 120))⟩,
    ⟨(some 16), none, (.mov (.t 121))⟩])
  (.seq (.seq (.ops [⟨(some 122), none, (.mov (.t 14))⟩,
    ⟨(some 123), none, (.bin .neq (.t 122) (.k (.int .i64 0)))⟩,
    ⟨(some 124), none, (.mov (.t 123))⟩,
    ⟨(some 125), (some (124, false)), (.mov (.t 16))⟩,
    ⟨(some 126), (some (124, false)), (.bin .neq (.t 125) (.k (.int .i64 0)))⟩,
    ⟨(some 127), none, (.pick (.t 124) (.k (.bool true)) (.t 126))⟩,
    ⟨(some 128), none, (.mov (.t 127))⟩,
    ⟨(some 129), (some (128, false)), (.ld 2 true (.t 12))⟩,
    ⟨(some 130), (some (128, false)), (.flA 0 (.t 5))⟩,
    ⟨(some 131), (some (128, false)), (.ld 2 true (.t 130))⟩,
    ⟨(some 132), (some (128, false)), (.eqn (.flat [.i, .i]) true (.t 129) (.t 131))⟩,
    ⟨(some 133), none, (.pick (.t 128) (.k (.bool true)) (.t 132))⟩,
    ⟨(some 134), none, (.mov (.t 133))⟩,
    ⟨(some 135), (some (134, false)), (.mov (.t 13))⟩,
    ⟨(some 136), (some (134, false)), (.flA 2 (.t 5))⟩,
    ⟨(some 137), (some (134, false)), (.ld 1 false (.t 136))⟩,
    ⟨(some 138), (some (134, false)), (.callF 29 [(.t 135), (.t 137)])⟩,
    ⟨(some 139), (some (134, false)), (.not (.t 138))⟩,
    ⟨(some 140), none, (.pick (.t 134) (.k (.bool true)) (.t 139))⟩,
    ⟨(some 141), none, (.mov (.t 140))⟩,
    ⟨(some 142), (some (141, false)), (.mov (.t 15))⟩,
    ⟨(some 143), (some (141, false)), (.mov (.t 8))⟩,
    ⟨(some 144), (some (141, false)), (.callF 28 [(.t 142), (.t 143)])⟩,
    ⟨(some 145), (some (141, false)), (.not (.t 144))⟩,
    ⟨(some 146), none, (.pick (.t 141) (.k (.bool true)) (.t 145))⟩])
  (.cnd (.t 146)
    (.seq (.ops [⟨(some 2), none, (.mov (.k (.bool false)))⟩])
    .ret)
    .skip))
  (.seq (.seq (.ops [⟨(some 17), none, (.mov (.k (.int .i64 0)))⟩])
  (.blk 6 (.loop (.seq (.seq (.ops [⟨(some 147), none, (.mov (.t 17))⟩,
        ⟨(some 148), none, (.flA 3 (.t 5))⟩,
        ⟨(some 149), none, (.ld 1 false (.t 148))⟩,
        ⟨(some 150), none, (.len false (.t 149))⟩,
        ⟨(some 151), none, (.bin .lss (.t 147) (.t 150))⟩])
      (.cnd (.t 151)
        .skip
        (.exit 6)))
      (.seq (.blk 7 (.seq (.ops [⟨(some 155), none, (.ld 4 true (.t 4))⟩,
          ⟨(some 156), none, (.mov (.t 17))⟩,
          ⟨(some 157), none, (.callF 36 [(.t 155), (.t 156)])⟩,
          ⟨(some 154), none, (.mov (.t 157))⟩,
          ⟨(some 158), none, (.ext 0 (.t 154))⟩,
          ⟨(some 159), none, (.ext 1 (.t 154))⟩,
          ⟨(some 18), none, (.mov (.t 158))⟩,
          ⟨(some 19), none, (.mov (.t 159))⟩])
        (.seq (.ops [⟨(some 20), none, (.mov (.k (.int .i64 0)))⟩])
        (.seq (.seq (.ops [⟨(some 21), none, (.mov (.k (.int .i64 0)))⟩])
        (.blk 8 (.loop (.seq (.seq (.ops [⟨(some 160), none, (.mov (.t 21))⟩,
              ⟨(some 161), none, (.bin .leq (.t 160) (.k (.int .i64 20)))⟩])
            (.cnd (.t 161)
              .skip
              (.exit 8)))
            (.seq (.blk 9 (.seq (.seq (.ops [⟨(some 164), none, (.flA 3 (.t 5))⟩,
                ⟨(some 165), none, (.ld 1 false (.t 164))⟩,
                ⟨(some 166), none, (.mov (.t 17))⟩,
                ⟨(some 167), none, (.ixA 1 (.t 165) (.t 166))⟩,
                ⟨(some 168), none, (.ld 1 false (.t 167))⟩,
                ⟨(some 169), none, (.mov (.t 21))⟩,
                ⟨(some 170), none, (.ixA 1 (.t 168) (.t 169))⟩,
                ⟨(some 171), none, (.ld 1 false (.t 170))⟩])
              (.cnd (.t 171)
                (.ops [⟨(some 172), none, (.mov (.t 20))⟩,
                  ⟨(some 173), none, (.bin .add (.t 172) (.k (.int .i64 1)))⟩,
                  ⟨(some 20), none, (.mov (.t 173))⟩])
                .skip))
              (.seq (.ops [⟨(some 174), none, (.mov (.t 19))⟩,
                ⟨(some 175), none, (.bin .neq (.t 174) (.k (.int .i64 0)))⟩,
                ⟨(some 176), none, (.mov (.t 175))⟩,
                ⟨(some 177), (some (176, false)), (.mov (.t 18))⟩,
                ⟨(some 178), (some (176, false)), (.mov (.t 21))⟩,
                ⟨(some 179), (some (176, false)), (.bin .sub (.t 178) (.k (.int .i64 1)))⟩,
                ⟨(some 181), (some (176, false)), (.flA 3 (.t 5))⟩,
                ⟨(some 182), (some (176, false)), (.ld 1 false (.t 181))⟩,
                ⟨(some 183), (some (176, false)), (.mov (.t 17))⟩,
                ⟨(some 184), (some (176, false)), (.ixA 1 (.t 182) (.t 183))⟩,
                ⟨(some 185), (some (176, false)), (.ld 1 false (.t 184))⟩,
                ⟨(some 186), (some (176, false)), (.mov (.t 21))⟩,
                ⟨(some 187), (some (176, false)), (.ixA 1 (.t 185) (.t 186))⟩,
                ⟨(some 188), (some (176, false)), (.ld 1 false (.t 187))⟩,
                ⟨(some 180), (some (176, false)), (.callF 37 [(.t 177), (.t 179)])⟩,
                ⟨none, (some (176, false)), (.chk 1 false (.t 181) 182)⟩,
                ⟨none, (some (176, false)), (.chk 1 false (.t 184) 185)⟩,
                ⟨none, (some (176, false)), (.chk 1 false (.t 187) 188)⟩,
                ⟨(some 189), (some (176, false)), (.eqn .bool true (.t 180) (.t 188))⟩,
                ⟨(some 190), none, (.pick (.t 176) (.k (.bool true)) (.t 189))⟩])
              (.cnd (.t 190)
                (.seq (.ops [⟨(some 2), none, (.mov (.k (.bool false)))⟩])
                .ret)
                .skip))))
            (.ops [⟨(some 162), none, (.mov (.t 21))⟩,
              ⟨(some 163), none, (.bin .add (.t 162) (.k (.int .i64 1)))⟩,
              ⟨(some 21), none, (.mov (.t 163))⟩]))))))
        (.seq (.ops [⟨(some 191), none, (.mov (.t 18))⟩,
          ⟨(some 192), none, (.len false (.t 191))⟩,
          ⟨(some 193), none, (.mov (.t 20))⟩,
          ⟨(some 194), none, (.bin .neq (.t 192) (.t 193))⟩])
        (.cnd (.t 194)
          (.seq (.ops [⟨(some 2), none, (.mov (.k (.bool false)))⟩])
          .ret)
          .skip))))))
      (.ops [⟨(some 152), none, (.mov (.t 17))⟩,
        ⟨(some 153), none, (.bin .add (.t 152) (.k (.int .i64 1)))⟩,
        ⟨(some 17), none, (.mov (.t 153))⟩]))))))
  (.seq (.ops [⟨(some 195), none, (.callF 16 [])⟩,
    ⟨(some 2), none, (.mov (.t 195))⟩])
  .ret))))))))))))))⟩
def hint4 (P : Program) : Hint := { site := [(91, 8)], nils := [(8, 1)], frz := [(108, 71)], mve := [(43, 47)], wr := [49, 48] }
theorem law_stories (nums : List Int) (hn : nums.length < 2 ^ 62) : Fn0 Try.prog 4 [.slc 1 (iR nums) .non] (fun v => v = .bool true) := by
  refine RawC.walk (H := hint4 Try.prog) ir4 Try.func4 rfl (by kernel_rfl) rfl ?_
  unfold ir4
  repeat' (first
    | with_reducible (first | refine Rd.p ?_ | refine w_alt ?_ ?_ | refine zE ?_ | refine zE0 ?_)
    | with_reducible (first | refine zI fun y hy => ?_ | refine zL ?_ | refine zS ?_ | refine zA fun _ => ?_ | refine zV ?_ | refine zC ?_ | refine zG ?_ | refine zU ?_ | refine zG0 ?_ | refine zU0 ?_ | refine zF ?_)
    | ((with_reducible refine acall_id ?_); refine ACall.liftS (boxOf_s nums hn) [] (some 6) rfl rfl rfl trivial (fun _ => rfl) ?_; rintro ⟨gb, w⟩ _ rfl)
    | ((with_reducible refine acall_id ?_); refine ACall.box (chainOf_c _ _ 4 4 2 (by omega) (by omega) (by omega)) rfl rfl rfl ?_; rintro _ _ ⟨c, rfl, hE, hk⟩)
    | ((with_reducible refine acall_id ?_); refine ACall.val (span_c 100000 0) rfl rfl ?_)
    | with_reducible (first | refine zX ?_ | refine zD fun _ => ?_ | refine zD0 ?_ | refine zN ?_ | refine zF0 ?_ | refine zX0 ?_ | refine z1 ?_ | refine z2 ?_ | refine z3 ?_ | refine z4 ?_ | refine z5 ?_ | refine z6 ?_ | refine z7 ?_ | refine z8 ?_ | refine y1 ?_ | refine y2 ?_ | refine y3 ?_ | refine y4 ?_ | refine y5 ?_ | refine y6 ?_ | refine y7 ?_ | refine y8 ?_ | refine Rt.p (fun _ => ?_) fun _ => ?_)
    | ((with_reducible apply w_ixM); (focus exact rfl); (focus exact rfl); case' hk => intro y hy) | ((with_reducible (first | apply w_val | apply q_ends)); (focus exact rfl)))
  rename_i g4 g5
  refine w_loopK [4, 5] [] (fun x : Nat × Option Nat => x.1 ≤ c.ls.length ∧ (x.2 = none → x.1 = 0) ∧ (x.1 = 0 → x.2 = none)) (fun x => c.ls.length - x.1) (fun x => [(6, .int .i64 x.1)]) (fun x => (5, (g5, .row [.int .i64 100000, .int .i64 0, lnkV x.1 x.2, .nsl])) :: (4, (g4, .row (cC c))) :: lnkX x.2) (0, none) ⟨Nat.zero_le _, fun _ => rfl, fun _ => rfl⟩ ⟨rfl, trivial⟩ ⟨rfl, rfl, trivial⟩ ?_
  rintro ⟨k, t⟩ ⟨hk1, hk2, hk3⟩ e σ
  dsimp only at hk1 hk2 hk3 ⊢
  by_cases hkn : k = c.ls.length
  case neg =>
    rcases t with _ | g39
    · obtain rfl : k = 0 := hk2 rfl
      dsimp only [lnkV, lnkX]
      repeat' (first
        | with_reducible (first | refine Rd.p ?_ | refine w_alt ?_ ?_ | refine zE ?_ | refine zE0 ?_)
        | with_reducible (first | refine zI fun y hy => ?_ | refine zL ?_ | refine zS ?_ | refine zA fun _ => ?_ | refine zV ?_ | refine zC ?_ | refine zG ?_ | refine zU ?_ | refine zG0 ?_ | refine zU0 ?_ | refine zF ?_)
        | ((with_reducible refine acall_id ?_); refine ACall.val (span_c 100000 0) rfl rfl ?_)
        | with_reducible (first | refine zX ?_ | refine zD fun _ => ?_ | refine zD0 ?_ | refine zN ?_ | refine zF0 ?_ | refine zX0 ?_ | refine z1 ?_ | refine z2 ?_ | refine z3 ?_ | refine z4 ?_ | refine z5 ?_ | refine z6 ?_ | refine z7 ?_ | refine z8 ?_ | refine y1 ?_ | refine y2 ?_ | refine y3 ?_ | refine y4 ?_ | refine y5 ?_ | refine y6 ?_ | refine y7 ?_ | refine y8 ?_ | refine Rt.p (fun _ => ?_) fun _ => ?_)
        | ((with_reducible apply w_ixM); (focus exact rfl); (focus exact rfl); case' hk => intro y hy) | ((with_reducible (first | apply w_val | apply q_ends)); (focus exact rfl)))
      all_goals first
        | (exfalso; omega)
        | exact q_loop (1, some _) ⟨by show 1 ≤ c.ls.length; omega, (fun h => by cases h), (fun h => absurd (show (1 : Nat) = 0 from h) (by decide))⟩ (by show c.ls.length - 1 < c.ls.length - 0; omega) (slots_cons rfl slots_nil) ⟨rfl, rfl, rfl, trivial⟩ (by repeat' (first | exact kept_nil | apply kept_cons | rfl)) (by repeat' (first | exact kept_nil | apply kept_cons | rfl))
    · have hk0 : k ≠ 0 := fun h => by cases hk3 h
      have hz : sR (zeroP k) ++ [[AV.int .i64 100000, .int .i64 0]] = sR (zeroP (k + 1)) := by
        show _ = (List.replicate (k + 1) _).map _
        rw [List.replicate_succ', List.map_append]; rfl
      have hzl : (sR (zeroP k)).length = k := by simp
      dsimp only [lnkV, lnkX]
      repeat' (first
        | with_reducible (first | refine Rd.p ?_ | refine w_alt ?_ ?_ | refine zE ?_ | refine zE0 ?_)
        | (refine w_appS rfl rfl hz (by simp) (by simp; omega) ?_; intro g39')
        | with_reducible (first | refine zI fun y hy => ?_ | refine zL ?_ | refine zS ?_ | refine zA fun _ => ?_ | refine zV ?_ | refine zC ?_ | refine zG ?_ | refine zU ?_ | refine zG0 ?_ | refine zU0 ?_ | refine zF ?_)
        | ((with_reducible refine acall_id ?_); refine ACall.val (span_c 100000 0) rfl rfl ?_)
        | with_reducible (first | refine zX ?_ | refine zD fun _ => ?_ | refine zD0 ?_ | refine zN ?_ | refine zF0 ?_ | refine zX0 ?_ | refine z1 ?_ | refine z2 ?_ | refine z3 ?_ | refine z4 ?_ | refine z5 ?_ | refine z6 ?_ | refine z7 ?_ | refine z8 ?_ | refine y1 ?_ | refine y2 ?_ | refine y3 ?_ | refine y4 ?_ | refine y5 ?_ | refine y6 ?_ | refine y7 ?_ | refine y8 ?_ | refine Rt.p (fun _ => ?_) fun _ => ?_)
        | ((with_reducible apply w_ixM); (focus exact rfl); (focus exact rfl); case' hk => intro y hy) | ((with_reducible (first | apply w_val | apply q_ends)); (focus exact rfl)))
      all_goals first
        | (exfalso; omega)
        | exact q_loop (k + 1, some g39') ⟨by show k + 1 ≤ c.ls.length; omega, (fun h => by cases h), (fun h => by simp at h)⟩ (by show c.ls.length - (k + 1) < c.ls.length - k; omega) (slots_cons (by show AV.int .i64 _ = AV.int .i64 _; refine int_eq ?_; simp) slots_nil) ⟨rfl, rfl, rfl, trivial⟩ (by repeat' (first | exact kept_nil | apply kept_cons | rfl)) (by repeat' (first | exact kept_nil | apply kept_cons | rfl))
  subst hkn
  have hLm : ∀ i g j h, mvA i g j h (lnkV c.ls.length t) = lnkV c.ls.length t := fun i g j h => by cases t <;> rfl
  have hLV : LinkV c.ls.length zeroF (lnkV c.ls.length t) := by
    rcases t with _ | g39
    · exact .inl ⟨hk2 rfl, rfl⟩
    · refine .inr ⟨.own 39 g39, ?_⟩
      show AV.slc 2 (sR (zeroP _)) _ = _
      rw [zeroP_eq]
  have hLV0 : c.ls.length = 0 → ∀ tt, lnkV c.ls.length t ≠ .slc 2 (sR (rowsP c.ls.length zeroF)) tt := fun h tt => by
    rw [hk3 h]; intro h; cases h
  generalize lnkV c.ls.length t = LV at *
  repeat' (first
    | with_reducible (first | refine Rd.p ?_ | refine w_alt ?_ ?_ | refine zE ?_ | refine zE0 ?_)
    | with_reducible (first | refine zI fun y hy => ?_ | refine zL ?_ | refine zS ?_ | refine zA fun _ => ?_ | refine zV ?_ | refine zC ?_ | refine zG ?_ | refine zU ?_ | refine zG0 ?_ | refine zU0 ?_ | refine zF ?_)
    | with_reducible (first | refine zX ?_ | refine zD fun _ => ?_ | refine zD0 ?_ | refine zN ?_ | refine zF0 ?_ | refine zX0 ?_ | refine z1 ?_ | refine z2 ?_ | refine z3 ?_ | refine z4 ?_ | refine z5 ?_ | refine z6 ?_ | refine z7 ?_ | refine z8 ?_ | refine y1 ?_ | refine y2 ?_ | refine y3 ?_ | refine y4 ?_ | refine y5 ?_ | refine y6 ?_ | refine y7 ?_ | refine y8 ?_ | refine Rt.p (fun _ => ?_) fun _ => ?_)
    | ((with_reducible apply w_ixM); (focus exact rfl); (focus exact rfl); case' hk => intro y hy) | ((with_reducible (first | apply w_val | apply q_ends)); (focus exact rfl)))
  refine w_loopK [4, 5] [] (fun x : Nat × Option (Nat × (Nat → Nat)) => x.1 ≤ 30 ∧ (x.2 = none → x.1 = 0) ∧ (x.1 = 0 → x.2 = none)) (fun x => 30 - x.1) (fun x => [(7, .int .i64 x.1)]) (fun x => (5, (g5, .row [.int .i64 100000, .int .i64 0, LV, rowV x.1 x.2])) :: (4, (g4, .row (cC c))) :: rowX x.1 x.2) (0, none) ⟨Nat.zero_le _, fun _ => rfl, fun _ => rfl⟩ ⟨rfl, trivial⟩ ⟨rfl, rfl, trivial⟩ ?_
  rintro ⟨m, x⟩ ⟨hm1, hm2, hm3⟩ e2 σ2
  dsimp only at hm1 hm2 hm3 ⊢
  by_cases hm : m = 30
  case neg =>
    rcases x with _ | ⟨gh, hs⟩
    · obtain rfl : m = 0 := hm2 rfl
      dsimp only [rowV, rowX]
      repeat' (first
        | with_reducible (first | refine Rd.p ?_ | refine w_alt ?_ ?_ | refine zE ?_ | refine zE0 ?_)
        | (refine w_apmC0 rfl rfl rfl rfl ?_; intro g49)
        | with_reducible (first | refine zI fun y hy => ?_ | refine zL ?_ | refine zS ?_ | refine zA fun _ => ?_ | refine zV ?_ | refine zC ?_ | refine zG ?_ | refine zU ?_ | refine zG0 ?_ | refine zU0 ?_ | refine zF ?_)
        | with_reducible (first | refine zX ?_ | refine zD fun _ => ?_ | refine zD0 ?_ | refine zN ?_ | refine zF0 ?_ | refine zX0 ?_ | refine z1 ?_ | refine z2 ?_ | refine z3 ?_ | refine z4 ?_ | refine z5 ?_ | refine z6 ?_ | refine z7 ?_ | refine z8 ?_ | refine y1 ?_ | refine y2 ?_ | refine y3 ?_ | refine y4 ?_ | refine y5 ?_ | refine y6 ?_ | refine y7 ?_ | refine y8 ?_ | refine Rt.p (fun _ => ?_) fun _ => ?_)
        | ((with_reducible apply w_ixM); (focus exact rfl); (focus exact rfl); case' hk => intro y hy) | ((with_reducible (first | apply w_val | apply q_ends)); (focus exact rfl)))
      refine w_mveQ 5000 (fun _ => [(7, .int .i64 (0 : Nat)), (4, .ref 4 g4 0), (5, .ref 5 g5 0)]) (fun h => (5, (g5, .row [.int .i64 100000, .int .i64 0, LV, .msl 49 g49 1 1])) :: (4, (g4, .row (cC c))) :: rowX 1 (some (g49, upd (fun _ => 0) 0 h))) rfl rfl ⟨by decide, by decide⟩ (fun h => ⟨mvE_keep rfl rfl, mvE_keep rfl rfl, mvE_keep rfl rfl, trivial⟩) (fun h => mve_slots (m := 0) hLm rfl rfl rfl rfl (fun k hk => by omega)) ?_
      intro h e3 σ3
      repeat' (first
        | with_reducible (first | refine Rd.p ?_ | refine w_alt ?_ ?_ | refine zE ?_ | refine zE0 ?_)
        | with_reducible (first | refine zI fun y hy => ?_ | refine zL ?_ | refine zS ?_ | refine zA fun _ => ?_ | refine zV ?_ | refine zC ?_ | refine zG ?_ | refine zU ?_ | refine zG0 ?_ | refine zU0 ?_ | refine zF ?_)
        | with_reducible (first | refine zX ?_ | refine zD fun _ => ?_ | refine zD0 ?_ | refine zN ?_ | refine zF0 ?_ | refine zX0 ?_ | refine z1 ?_ | refine z2 ?_ | refine z3 ?_ | refine z4 ?_ | refine z5 ?_ | refine z6 ?_ | refine z7 ?_ | refine z8 ?_ | refine y1 ?_ | refine y2 ?_ | refine y3 ?_ | refine y4 ?_ | refine y5 ?_ | refine y6 ?_ | refine y7 ?_ | refine y8 ?_ | refine Rt.p (fun _ => ?_) fun _ => ?_)
        | ((with_reducible apply w_ixM); (focus exact rfl); (focus exact rfl); case' hk => intro y hy) | ((with_reducible (first | apply w_val | apply q_ends)); (focus exact rfl)))
      exact q_loop (1, some (g49, upd (fun _ => 0) 0 h)) ⟨by show 1 ≤ 30; omega, (fun h => by cases h), (fun h => absurd (show (1 : Nat) = 0 from h) (by decide))⟩ (by show 30 - 1 < 30 - 0; omega) (slots_cons rfl slots_nil) ⟨rfl, rfl, rowX_slots.2 ⟨rfl, fun k hk => by obtain rfl : k = 0 := (by omega); rfl⟩⟩ (by repeat' (first | exact kept_nil | apply kept_cons | rfl)) (by repeat' (first | exact kept_nil | apply kept_cons | rfl))
    · dsimp only [rowV]
      repeat' (first
        | with_reducible (first | refine Rd.p ?_ | refine w_alt ?_ ?_ | refine zE ?_ | refine zE0 ?_)
        | (refine w_apmC1 rfl rfl (cellsR_len ..) (by omega) rfl rfl rfl ?_; intro g49)
        | with_reducible (first | refine zI fun y hy => ?_ | refine zL ?_ | refine zS ?_ | refine zA fun _ => ?_ | refine zV ?_ | refine zC ?_ | refine zG ?_ | refine zU ?_ | refine zG0 ?_ | refine zU0 ?_ | refine zF ?_)
        | with_reducible (first | refine zX ?_ | refine zD fun _ => ?_ | refine zD0 ?_ | refine zN ?_ | refine zF0 ?_ | refine zX0 ?_ | refine z1 ?_ | refine z2 ?_ | refine z3 ?_ | refine z4 ?_ | refine z5 ?_ | refine z6 ?_ | refine z7 ?_ | refine z8 ?_ | refine y1 ?_ | refine y2 ?_ | refine y3 ?_ | refine y4 ?_ | refine y5 ?_ | refine y6 ?_ | refine y7 ?_ | refine y8 ?_ | refine Rt.p (fun _ => ?_) fun _ => ?_)
        | ((with_reducible apply w_ixM); (focus exact rfl); (focus exact rfl); case' hk => intro y hy) | ((with_reducible (first | apply w_val | apply q_ends)); (focus exact rfl)))
      refine w_mveQ (5000 + m) (fun _ => [(7, .int .i64 m), (4, .ref 4 g4 0), (5, .ref 5 g5 0)]) (fun h => (5, (g5, .row [.int .i64 100000, .int .i64 0, LV, .msl 49 g49 (m + 1) 1])) :: (4, (g4, .row (cC c))) :: rowX (m + 1) (some (g49, upd hs m h))) rfl rfl ⟨by show 5000 + m ≠ YS; unfold YS; omega, by omega⟩ (fun h => ⟨mvE_keep rfl rfl, mvE_keep rfl rfl, mvE_keep rfl rfl, trivial⟩) (fun h => mve_slots (m := m) hLm rfl rfl rfl rfl (fun k hk => by
        repeat (first | rw [upd_hi (by decide)] | rw [newS_hi (by decide)] | rw [updL_hi (by decide)])
        exact rowX_get hk)) ?_
      intro h e3 σ3
      repeat' (first
        | with_reducible (first | refine Rd.p ?_ | refine w_alt ?_ ?_ | refine zE ?_ | refine zE0 ?_)
        | with_reducible (first | refine zI fun y hy => ?_ | refine zL ?_ | refine zS ?_ | refine zA fun _ => ?_ | refine zV ?_ | refine zC ?_ | refine zG ?_ | refine zU ?_ | refine zG0 ?_ | refine zU0 ?_ | refine zF ?_)
        | with_reducible (first | refine zX ?_ | refine zD fun _ => ?_ | refine zD0 ?_ | refine zN ?_ | refine zF0 ?_ | refine zX0 ?_ | refine z1 ?_ | refine z2 ?_ | refine z3 ?_ | refine z4 ?_ | refine z5 ?_ | refine z6 ?_ | refine z7 ?_ | refine z8 ?_ | refine y1 ?_ | refine y2 ?_ | refine y3 ?_ | refine y4 ?_ | refine y5 ?_ | refine y6 ?_ | refine y7 ?_ | refine y8 ?_ | refine Rt.p (fun _ => ?_) fun _ => ?_)
        | ((with_reducible apply w_ixM); (focus exact rfl); (focus exact rfl); case' hk => intro y hy) | ((with_reducible (first | apply w_val | apply q_ends)); (focus exact rfl)))
      exact q_loop (m + 1, some (g49, upd hs m h)) ⟨by show m + 1 ≤ 30; omega, (fun h => by cases h), (fun h => by simp at h)⟩ (by show 30 - (m + 1) < 30 - m; omega) (slots_cons (by show AV.int .i64 _ = AV.int .i64 _; refine int_eq ?_; simp) slots_nil) ⟨rfl, rfl, rowX_slots.2 ⟨rfl, fun k hk => by
        repeat (first | rw [upd_hi (by decide)] | rw [newS_hi (by decide)] | rw [updL_hi (by decide)])
        exact rowX_get hk⟩⟩ (by repeat' (first | exact kept_nil | apply kept_cons | rfl)) (by repeat' (first | exact kept_nil | apply kept_cons | rfl))
  subst hm
  rcases x with _ | ⟨gr, hs⟩
  · exact absurd (hm2 rfl) (by decide)
  clear hm1 hm2 hm3 hk1 hk2 hk3 hLm
  dsimp only [rowV]
  have hn4 : (c.ls.length : Int) ≤ 4 := hk
  have hord := orders_o c.ls.length (by omega)
  repeat' (first
    | with_reducible (first | refine Rd.p ?_ | refine w_alt ?_ ?_ | refine zE ?_ | refine zE0 ?_)
    | with_reducible (first | refine zI fun y hy => ?_ | refine zL ?_ | refine zS ?_ | refine zA fun _ => ?_ | refine zV ?_ | refine zC ?_ | refine zG ?_ | refine zU ?_ | refine zG0 ?_ | refine zU0 ?_ | refine zF ?_)
    | ((with_reducible refine acall_id ?_); refine ACall.val hord rfl rfl ?_)
    | with_reducible (first | refine zX ?_ | refine zD fun _ => ?_ | refine zD0 ?_ | refine zN ?_ | refine zF0 ?_ | refine zX0 ?_ | refine z1 ?_ | refine z2 ?_ | refine z3 ?_ | refine z4 ?_ | refine z5 ?_ | refine z6 ?_ | refine z7 ?_ | refine z8 ?_ | refine y1 ?_ | refine y2 ?_ | refine y3 ?_ | refine y4 ?_ | refine y5 ?_ | refine y6 ?_ | refine y7 ?_ | refine y8 ?_ | refine Rt.p (fun _ => ?_) fun _ => ?_)
    | ((with_reducible apply w_ixM); (focus exact rfl); (focus exact rfl); case' hk => intro y hy) | ((with_reducible (first | apply w_val | apply q_ends)); (focus exact rfl)))
  rename_i g8
  have okc : Okc c := formE_0 (chainE_0 hE).1
  obtain ⟨R, hR⟩ : ∃ R, R = (permsK c.ls.length c.ls.length []).foldl (stepA c) ⟨100000, 0, zeroF, fun _ _ => false, []⟩ := ⟨_, rfl⟩
  have hfold := story_fold okc (chainE_0 hE).2 zeroF (fun k _ => ⟨by unfold zeroF; rw [if_pos (by omega)], by unfold zeroF; rw [if_neg (by omega)]⟩) R hR
  have hPm : ∀ o ∈ permsK c.ls.length c.ls.length [], o.length = c.ls.length ∧ ∀ i ∈ o, 0 ≤ i ∧ i < (c.ls.length : Int) := fun o ho => by
    have h := permsK_mem ho
    exact ⟨by simpa using h.1, h.2 fun i hi => by cases hi⟩
  have hP0 : c.ls.length = 0 → permsK c.ls.length c.ls.length [] = [[]] := fun h => by rw [h]; rfl
  have hPl := permsK_len c.ls.length c.ls.length []
  have hPl4 : c.ls.length ^ c.ls.length ≤ 256 := Nat.le_trans (Nat.pow_le_pow_left (show c.ls.length ≤ 4 by omega) _) (Nat.pow_le_pow_right (by omega) (show c.ls.length ≤ 4 by omega))
  generalize permsK c.ls.length c.ls.length [] = PK at *
  refine w_loopK [4, 5, 9] [] (fun x : List (List Int) × List (List Int) × Alls × Nat × AV => PK = x.1 ++ x.2.1 ∧ R = x.2.1.foldl (stepA c) x.2.2.1 ∧ LinkV c.ls.length x.2.2.1.F x.2.2.2.2 ∧ (c.ls.length = 0 → x.1 = [] → x.2.2.2.2 = .nsl) ∧ x.2.2.1.D.length ≤ x.1.length) (fun x => x.2.1.length)
    (fun x => [(8, .slc 1 (llR x.2.2.1.D) (.own 8 x.2.2.2.1)), (10, .int .i64 x.1.length)]) (fun x => l3 g4 g5 x.2.2.2.1 gr hs c x.2.2.2.2 x.2.2.1) ([], PK, ⟨100000, 0, zeroF, fun _ _ => false, []⟩, g8, LV)
    ⟨rfl, hR, hLV, fun h _ => (by
      rcases hLV with ⟨_, h2⟩ | ⟨t, h2⟩
      · exact h2
      · exact absurd h2 (hLV0 h t)), Nat.le_refl _⟩ ⟨rfl, rfl, trivial⟩ (l3_slots rfl rfl rfl rfl fun k hk => by
      repeat (first | rw [upd_hi (by decide)] | rw [newS_hi (by decide)] | rw [updL_hi (by decide)])
      exact rowX_get hk) ?_
  clear hLV hLV0 hR
  rintro ⟨pre, post, A, g8, LV⟩ ⟨hpp, hR, hLV, hLV0, hDl⟩ e σ
  dsimp only at hpp hR hLV hLV0 hDl ⊢
  have hlen := congrArg List.length hpp
  rw [List.length_append] at hlen
  cases post with
  | nil =>
    simp only [List.length_nil] at hlen
    obtain rfl : R = A := hR
    obtain ⟨f1, f2, f3, f4, f5⟩ := hfold
    have hD := daysZ_s c (by omega) hE
    have hO := ordersZ_s c (by omega) hE
    have hRows : ((List.range c.ls.length).map fun k => (linkLo c k, linkHi c k)) = rowsP c.ls.length R.F := by
      unfold rowsP
      refine List.map_congr_left fun k hk => ?_
      have := f3 k (List.mem_range.1 hk)
      rw [this.1, this.2]
    rw [← f1, ← f2, hRows] at hD
    rw [ordsF, if_pos hE, ← f4] at hO
    have hQ := eqLists_c R.D R.D (by omega) (fun l hl2 => by
      rw [f4] at hl2
      obtain ⟨y, hy, rfl⟩ := List.mem_map.1 hl2
      have := (talesF_mem hy).1
      omega)
    rw [decide_eq_true rfl] at hQ
    have hfL := hLV.force
    repeat' (first
      | with_reducible (first | refine Rd.p ?_ | refine w_alt ?_ ?_ | refine zE ?_ | refine zE0 ?_)
      | (first | refine w_ldAt rfl rfl rfl hfL ?_ | refine w_call (evO2 rfl rfl hfL) ?_)
      | with_reducible (first | refine zI fun y hy => ?_ | refine zL ?_ | refine zS ?_ | refine zA fun _ => ?_ | refine zV ?_ | refine zC ?_ | refine zG ?_ | refine zU ?_ | refine zG0 ?_ | refine zU0 ?_ | refine zF ?_)
      | ((with_reducible refine acall_id ?_); refine ACall.val hD rfl rfl ?_)
      | ((with_reducible refine acall_id ?_); refine ACall.val hO rfl rfl ?_)
      | ((with_reducible refine acall_id ?_); refine ACall.eqSpansL (by omega) hLV ?_)
      | ((with_reducible refine acall_id ?_); refine ACall.val hQ rfl rfl ?_)
      | with_reducible (first | refine zX ?_ | refine zD fun _ => ?_ | refine zD0 ?_ | refine zN ?_ | refine zF0 ?_ | refine zX0 ?_ | refine z1 ?_ | refine z2 ?_ | refine z3 ?_ | refine z4 ?_ | refine z5 ?_ | refine z6 ?_ | refine z7 ?_ | refine z8 ?_ | refine y1 ?_ | refine y2 ?_ | refine y3 ?_ | refine y4 ?_ | refine y5 ?_ | refine y6 ?_ | refine y7 ?_ | refine y8 ?_ | refine Rt.p (fun _ => ?_) fun _ => ?_)
      | ((with_reducible apply w_ixM); (focus exact rfl); (focus exact rfl); case' hk => intro y hy) | ((with_reducible (first | apply w_val | apply q_ends)); (focus exact rfl)))
    · exfalso; rename_i h; simp at h
    refine w_loopK [4, 5] [] (fun day : Nat => day ≤ 30) (fun day => 30 - day) (fun day => [(17, .int .i64 day)]) (fun _ => l3 g4 g5 g8 gr hs c LV R) 0 (Nat.zero_le _) ⟨rfl, trivial⟩ (by refine l3_slots rfl rfl rfl rfl fun k hk => ?_; (repeat (first | rw [upd_hi (by decide)] | rw [newS_hi (by decide)])); exact l3_d hk) ?_
    rintro day hday e4 σ4
    try dsimp only at hday ⊢
    by_cases hd30 : day = 30
    · subst hd30
      repeat' (first
        | with_reducible (first | refine Rd.p ?_ | refine w_alt ?_ ?_ | refine zE ?_ | refine zE0 ?_)
        | with_reducible (first | refine zI fun y hy => ?_ | refine zL ?_ | refine zS ?_ | refine zA fun _ => ?_ | refine zV ?_ | refine zC ?_ | refine zG ?_ | refine zU ?_ | refine zG0 ?_ | refine zU0 ?_ | refine zF ?_)
        | ((with_reducible refine acall_id ?_); refine ACall.val wake_s rfl rfl ?_)
        | with_reducible (first | refine zX ?_ | refine zD fun _ => ?_ | refine zD0 ?_ | refine zN ?_ | refine zF0 ?_ | refine zX0 ?_ | refine z1 ?_ | refine z2 ?_ | refine z3 ?_ | refine z4 ?_ | refine z5 ?_ | refine z6 ?_ | refine z7 ?_ | refine z8 ?_ | refine y1 ?_ | refine y2 ?_ | refine y3 ?_ | refine y4 ?_ | refine y5 ?_ | refine y6 ?_ | refine y7 ?_ | refine y8 ?_ | refine Rt.p (fun _ => ?_) fun _ => ?_)
        | ((with_reducible apply w_ixM); (focus exact rfl); (focus exact rfl); case' hk => intro y hy) | ((with_reducible (first | apply w_val | apply q_ends)); (focus exact rfl)))
      rfl
    have hask : askE c day = 0 := by
      rw [askE, if_pos hE, if_pos]
      rw [inB_t]; omega
    have hH := HoldersV_s c day (by omega) hask
    have hcnt := cntB_hol (f := R.f day) (fun k hk => f5 day k (by omega) hk)
    have hmem : ∀ k : Nat, k < 21 → decide ((k : Int) - 1 ∈ holL c day) = R.f day k := fun k hk => by
      have h1 := f5 day k (by omega) hk
      have h2 := holL_mem (day := day) (w := (k : Int) - 1) okc
      cases hb : R.f day k with
      | true => rw [hb] at h1; exact decide_eq_true (h2.2 (h1.1 rfl))
      | false => rw [hb] at h1; exact decide_eq_false fun h => by have := h1.2 (h2.1 h); cases this
    have hlen21 : (holL c day).length ≤ 21 := by rw [hcnt]; exact cntB_le _ _
    generalize holL c day = HL at *
    repeat' (first
      | with_reducible (first | refine Rd.p ?_ | refine w_alt ?_ ?_ | refine zE ?_ | refine zE0 ?_)
      | with_reducible (first | refine zI fun y hy => ?_ | refine zL ?_ | refine zS ?_ | refine zA fun _ => ?_ | refine zV ?_ | refine zC ?_ | refine zG ?_ | refine zU ?_ | refine zG0 ?_ | refine zU0 ?_ | refine zF ?_)
      | ((with_reducible refine acall_id ?_); refine ACall.val hH rfl rfl ?_)
      | with_reducible (first | refine zX ?_ | refine zD fun _ => ?_ | refine zD0 ?_ | refine zN ?_ | refine zF0 ?_ | refine zX0 ?_ | refine z1 ?_ | refine z2 ?_ | refine z3 ?_ | refine z4 ?_ | refine z5 ?_ | refine z6 ?_ | refine z7 ?_ | refine z8 ?_ | refine y1 ?_ | refine y2 ?_ | refine y3 ?_ | refine y4 ?_ | refine y5 ?_ | refine y6 ?_ | refine y7 ?_ | refine y8 ?_ | refine Rt.p (fun _ => ?_) fun _ => ?_)
      | ((with_reducible apply w_ixM); (focus exact rfl); (focus exact rfl); case' hk => intro y hy) | ((with_reducible (first | apply w_val | apply q_ends)); (focus exact rfl)))
    refine w_loopK [4, 5, 17, 18, 19] [] (fun k : Nat => k ≤ 21) (fun k => 21 - k) (fun k => [(21, .int .i64 k), (20, .int .i64 (cntB (R.f day) k))]) (fun _ => l3 g4 g5 g8 gr hs c LV R) 0 (Nat.zero_le _) ⟨rfl, rfl, trivial⟩ (by refine l3_slots rfl rfl rfl rfl fun k hk => ?_; (repeat (first | rw [upd_hi (by decide)] | rw [newS_hi (by decide)])); exact l3_d hk) ?_
    rintro k hk21 e5 σ5
    try dsimp only at hk21 ⊢
    have hcl := cntB_le (R.f day) k
    by_cases hk : k = 21
    · subst hk
      rw [← hcnt]
      repeat' (first
        | with_reducible (first | refine Rd.p ?_ | refine w_alt ?_ ?_ | refine zE ?_ | refine zE0 ?_)
        | with_reducible (first | refine zI fun y hy => ?_ | refine zL ?_ | refine zS ?_ | refine zA fun _ => ?_ | refine zV ?_ | refine zC ?_ | refine zG ?_ | refine zU ?_ | refine zG0 ?_ | refine zU0 ?_ | refine zF ?_)
        | with_reducible (first | refine zX ?_ | refine zD fun _ => ?_ | refine zD0 ?_ | refine zN ?_ | refine zF0 ?_ | refine zX0 ?_ | refine z1 ?_ | refine z2 ?_ | refine z3 ?_ | refine z4 ?_ | refine z5 ?_ | refine z6 ?_ | refine z7 ?_ | refine z8 ?_ | refine y1 ?_ | refine y2 ?_ | refine y3 ?_ | refine y4 ?_ | refine y5 ?_ | refine y6 ?_ | refine y7 ?_ | refine y8 ?_ | refine Rt.p (fun _ => ?_) fun _ => ?_)
        | ((with_reducible apply w_ixM); (focus exact rfl); (focus exact rfl); case' hk => intro y hy) | ((with_reducible (first | apply w_val | apply q_ends)); (focus exact rfl)))
      all_goals first
        | (exfalso; omega)
        | exact q_loop (day + 1) (by show day + 1 ≤ 30; omega) (by show 30 - (day + 1) < 30 - day; omega) (slots_cons (by show AV.int .i64 _ = AV.int .i64 _; refine int_eq ?_; simp) slots_nil) l3_own (by repeat' (first | exact kept_nil | apply kept_cons | rfl)) (by repeat' (first | exact kept_nil | apply kept_cons | rfl))
        | skip
    have hHas := has_c HL ((k : Int) - 1) (by omega)
    rw [hmem k (by omega)] at hHas
    have hsc := cntB_succ (R.f day) k
    have he1 : ((day : Int)).toNat * 1 = day := by omega
    have he2 : ((k : Int)).toNat * 1 = k := by omega
    obtain ⟨v, hv⟩ : ∃ v, R.f day k = v := ⟨_, rfl⟩
    rw [hv] at hHas hsc
    clear hmem
    cases v with
    | true =>
      simp only [if_true] at hsc
      repeat' (first
        | with_reducible (first | refine Rd.p ?_ | refine w_alt ?_ ?_ | refine zE ?_ | refine zE0 ?_)
        | (first | refine w_ldC5 rfl he1 (by omega) ?_ | refine w_chkC5 rfl he1 (by omega) rfl ?_ | refine w_ldD5 rfl he2 hv (by omega) (by omega) ?_ | refine w_chkD5 rfl he2 hv (by omega) (by omega) rfl ?_)
        | with_reducible (first | refine zI fun y hy => ?_ | refine zL ?_ | refine zS ?_ | refine zA fun _ => ?_ | refine zV ?_ | refine zC ?_ | refine zG ?_ | refine zU ?_ | refine zG0 ?_ | refine zU0 ?_ | refine zF ?_)
        | ((with_reducible refine acall_id ?_); refine ACall.val hHas rfl rfl ?_)
        | with_reducible (first | refine zX ?_ | refine zD fun _ => ?_ | refine zD0 ?_ | refine zN ?_ | refine zF0 ?_ | refine zX0 ?_ | refine z1 ?_ | refine z2 ?_ | refine z3 ?_ | refine z4 ?_ | refine z5 ?_ | refine z6 ?_ | refine z7 ?_ | refine z8 ?_ | refine y1 ?_ | refine y2 ?_ | refine y3 ?_ | refine y4 ?_ | refine y5 ?_ | refine y6 ?_ | refine y7 ?_ | refine y8 ?_ | refine Rt.p (fun _ => ?_) fun _ => ?_)
        | ((with_reducible apply w_ixM); (focus exact rfl); (focus exact rfl); case' hk => intro y hy) | ((with_reducible (first | apply w_val | apply q_ends)); (focus exact rfl)))
      all_goals first
        | (exfalso; rename_i h; exact absurd h (by decide))
        | exact q_loop (k + 1) (by show k + 1 ≤ 21; omega) (by show 21 - (k + 1) < 21 - k; omega) (slots_cons (by show AV.int .i64 _ = AV.int .i64 _; refine int_eq ?_; simp) (slots_cons (by show AV.int .i64 _ = AV.int .i64 _; refine int_eq ?_; rw [hsc]; simp) slots_nil)) l3_own (by repeat' (first | exact kept_nil | apply kept_cons | rfl)) (by repeat' (first | exact kept_nil | apply kept_cons | rfl))
    | false =>
      have hsc : cntB (R.f day) (k + 1) = cntB (R.f day) k := by rw [hsc]; simp
      repeat' (first
        | with_reducible (first | refine Rd.p ?_ | refine w_alt ?_ ?_ | refine zE ?_ | refine zE0 ?_)
        | (first | refine w_ldC5 rfl he1 (by omega) ?_ | refine w_chkC5 rfl he1 (by omega) rfl ?_ | refine w_ldD5 rfl he2 hv (by omega) (by omega) ?_ | refine w_chkD5 rfl he2 hv (by omega) (by omega) rfl ?_)
        | with_reducible (first | refine zI fun y hy => ?_ | refine zL ?_ | refine zS ?_ | refine zA fun _ => ?_ | refine zV ?_ | refine zC ?_ | refine zG ?_ | refine zU ?_ | refine zG0 ?_ | refine zU0 ?_ | refine zF ?_)
        | ((with_reducible refine acall_id ?_); refine ACall.val hHas rfl rfl ?_)
        | with_reducible (first | refine zX ?_ | refine zD fun _ => ?_ | refine zD0 ?_ | refine zN ?_ | refine zF0 ?_ | refine zX0 ?_ | refine z1 ?_ | refine z2 ?_ | refine z3 ?_ | refine z4 ?_ | refine z5 ?_ | refine z6 ?_ | refine z7 ?_ | refine z8 ?_ | refine y1 ?_ | refine y2 ?_ | refine y3 ?_ | refine y4 ?_ | refine y5 ?_ | refine y6 ?_ | refine y7 ?_ | refine y8 ?_ | refine Rt.p (fun _ => ?_) fun _ => ?_)
        | ((with_reducible apply w_ixM); (focus exact rfl); (focus exact rfl); case' hk => intro y hy) | ((with_reducible (first | apply w_val | apply q_ends)); (focus exact rfl)))
      all_goals first
        | (exfalso; rename_i h; exact absurd h (by decide))
        | exact q_loop (k + 1) (by show k + 1 ≤ 21; omega) (by show 21 - (k + 1) < 21 - k; omega) (slots_cons (by show AV.int .i64 _ = AV.int .i64 _; refine int_eq ?_; simp) (slots_cons (by show AV.int .i64 _ = AV.int .i64 _; refine int_eq ?_; rw [hsc]) slots_nil)) l3_own (by repeat' (first | exact kept_nil | apply kept_cons | rfl)) (by repeat' (first | exact kept_nil | apply kept_cons | rfl))
  | cons o post =>
    simp only [List.length_cons] at hlen
    have hgo : PK[pre.length]? = some o := by rw [hpp]; simp
    obtain ⟨ho1, ho2⟩ := hPm o (List.mem_of_getElem? hgo)
    have hLk := linked_c c o ho2 (by omega) (by omega)
    rw [List.foldl_cons] at hR
    by_cases hl : linkB c.ls c.maker o = true
    case neg =>
      have hl : linkB c.ls c.maker o = false := by simpa using hl
      have hs1 : stepA c A o = A := by rw [stepA, hl]; rfl
      rw [hl] at hLk
      rw [hs1] at hR
      repeat' (first
        | with_reducible (first | refine Rd.p ?_ | refine w_alt ?_ ?_ | refine zE ?_ | refine zE0 ?_)
        | (refine w_ixE (f := fun l => [AV.slc 1 (iR l) .non]) hgo rfl rfl ?_)
        | with_reducible (first | refine zI fun y hy => ?_ | refine zL ?_ | refine zS ?_ | refine zA fun _ => ?_ | refine zV ?_ | refine zC ?_ | refine zG ?_ | refine zU ?_ | refine zG0 ?_ | refine zU0 ?_ | refine zF ?_)
        | ((with_reducible refine acall_id ?_); refine ACall.val hLk rfl rfl ?_)
        | with_reducible (first | refine zX ?_ | refine zD fun _ => ?_ | refine zD0 ?_ | refine zN ?_ | refine zF0 ?_ | refine zX0 ?_ | refine z1 ?_ | refine z2 ?_ | refine z3 ?_ | refine z4 ?_ | refine z5 ?_ | refine z6 ?_ | refine z7 ?_ | refine z8 ?_ | refine y1 ?_ | refine y2 ?_ | refine y3 ?_ | refine y4 ?_ | refine y5 ?_ | refine y6 ?_ | refine y7 ?_ | refine y8 ?_ | refine Rt.p (fun _ => ?_) fun _ => ?_)
        | ((with_reducible apply w_ixM); (focus exact rfl); (focus exact rfl); case' hk => intro y hy) | ((with_reducible (first | apply w_val | apply q_ends)); (focus exact rfl)))
      all_goals first
        | (exfalso; omega)
        | exact q_loop (pre ++ [o], post, A, g8, LV) ⟨by show PK = _; rw [hpp]; simp, hR, hLV, (fun _ h => by simp at h), by show A.D.length ≤ (pre ++ [o]).length; simp; omega⟩ (by simp) (slots_cons rfl (slots_cons (by show AV.int .i64 _ = AV.int .i64 _; refine int_eq ?_; simp) slots_nil)) l3_own (by repeat' (first | exact kept_nil | apply kept_cons | rfl)) (by repeat' (first | exact kept_nil | apply kept_cons | rfl))
    rw [hl] at hLk
    rcases hLV with ⟨h0, rfl⟩ | ⟨t, rfl⟩
    · have hT : stepA c A o = stepT A o (tellX c o (allS c o) (oneT A)) := by rw [stepA, hl]; rfl
      have hTell := fun g11 : Nat => tell_c c okc o ⟨g11, g8, gr, 0, hs, .non⟩ (oneT A) rfl h0.symm ho2 (by omega)
      rw [hT] at hR
      generalize tellX c o (allS c o) (oneT A) = T at *
      by_cases hX : 0 ≤ T.hi
      · have hs2 : stepT A o T = ⟨min A.lo T.lo, max A.hi T.hi, T.F, T.f, A.D ++ [o]⟩ := by rw [stepT, if_pos hX]
        rw [hs2] at hR
        repeat' (first
          | with_reducible (first | refine Rd.p ?_ | refine w_alt ?_ ?_ | refine zE ?_ | refine zE0 ?_)
          | (refine w_ixE (f := fun l => [AV.slc 1 (iR l) .non]) hgo rfl rfl ?_)
          | with_reducible (first | refine zI fun y hy => ?_ | refine zL ?_ | refine zS ?_ | refine zA fun _ => ?_ | refine zV ?_ | refine zC ?_ | refine zG ?_ | refine zU ?_ | refine zG0 ?_ | refine zU0 ?_ | refine zF ?_)
          | ((with_reducible refine acall_id ?_); refine ACall.val hLk rfl rfl ?_)
          | ((with_reducible refine acall_id ?_); refine ACall.val spans0_c rfl rfl ?_)
          | ((with_reducible refine acall_id ?_); refine ACall.val (span_c 100000 (-1)) rfl rfl ?_)
          | ((with_reducible refine acall_id ?_); refine ACall.told (hTell _) (p := 11) (q := 8) (r := 49) ren118 (by decide) (by decide) (by decide) (by decide) (by decide) (by decide) rfl (t := .non) (.inr rfl) (t_of rfl rfl rfl fun k hk => by (repeat (first | rw [upd_hi (by decide)] | rw [newS_hi (by decide)])); exact l3_d hk) rfl ?_)
          | with_reducible (first | refine zX ?_ | refine zD fun _ => ?_ | refine zD0 ?_ | refine zN ?_ | refine zF0 ?_ | refine zX0 ?_ | refine z1 ?_ | refine z2 ?_ | refine z3 ?_ | refine z4 ?_ | refine z5 ?_ | refine z6 ?_ | refine z7 ?_ | refine z8 ?_ | refine y1 ?_ | refine y2 ?_ | refine y3 ?_ | refine y4 ?_ | refine y5 ?_ | refine y6 ?_ | refine y7 ?_ | refine y8 ?_ | refine Rt.p (fun _ => ?_) fun _ => ?_)
          | ((with_reducible apply w_ixM); (focus exact rfl); (focus exact rfl); case' hk => intro y hy) | ((with_reducible (first | apply w_val | apply q_ends)); (focus exact rfl)))
        rename_i g11 g8n
        refine w_frzSl rfl ?_
        repeat' (first
          | with_reducible (first | refine Rd.p ?_ | refine w_alt ?_ ?_ | refine zE ?_ | refine zE0 ?_)
          | with_reducible (first | refine zI fun y hy => ?_ | refine zL ?_ | refine zS ?_ | refine zA fun _ => ?_ | refine zV ?_ | refine zC ?_ | refine zG ?_ | refine zU ?_ | refine zG0 ?_ | refine zU0 ?_ | refine zF ?_)
          | with_reducible (first | refine zX ?_ | refine zD fun _ => ?_ | refine zD0 ?_ | refine zN ?_ | refine zF0 ?_ | refine zX0 ?_ | refine z1 ?_ | refine z2 ?_ | refine z3 ?_ | refine z4 ?_ | refine z5 ?_ | refine z6 ?_ | refine z7 ?_ | refine z8 ?_ | refine y1 ?_ | refine y2 ?_ | refine y3 ?_ | refine y4 ?_ | refine y5 ?_ | refine y6 ?_ | refine y7 ?_ | refine y8 ?_ | refine Rt.p (fun _ => ?_) fun _ => ?_)
          | ((with_reducible apply w_ixM); (focus exact rfl); (focus exact rfl); case' hk => intro y hy) | ((with_reducible (first | apply w_val | apply q_ends)); (focus exact rfl)))
        exact q_loop (pre ++ [o], post, ⟨min A.lo T.lo, max A.hi T.hi, T.F, T.f, A.D ++ [o]⟩, g8n, .slc 2 [] .non) ⟨by show PK = _; rw [hpp]; simp, hR, .inr ⟨.non, by show AV.slc 2 [] .non = AV.slc 2 (sR (rowsP c.ls.length T.F)) .non; rw [h0]; rfl⟩, (fun _ h => by simp at h), by show (A.D ++ [o]).length ≤ (pre ++ [o]).length; simp; omega⟩ (by simp) (slots_cons rfl (slots_cons (by show AV.int .i64 _ = AV.int .i64 _; refine int_eq ?_; simp) slots_nil)) (l3_slots rfl rfl rfl rfl fun k hk => by (repeat (first | rw [upd_hi (by decide)] | rw [newS_hi (by decide)])); exact t_d8 hk) (by repeat' (first | exact kept_nil | apply kept_cons | rfl)) (by repeat' (first | exact kept_nil | apply kept_cons | rfl))
      · have hs2 : stepT A o T = ⟨A.lo, A.hi, A.F, T.f, A.D⟩ := by rw [stepT, if_neg hX]
        rw [hs2] at hR
        repeat' (first
          | with_reducible (first | refine Rd.p ?_ | refine w_alt ?_ ?_ | refine zE ?_ | refine zE0 ?_)
          | (refine w_ixE (f := fun l => [AV.slc 1 (iR l) .non]) hgo rfl rfl ?_)
          | with_reducible (first | refine zI fun y hy => ?_ | refine zL ?_ | refine zS ?_ | refine zA fun _ => ?_ | refine zV ?_ | refine zC ?_ | refine zG ?_ | refine zU ?_ | refine zG0 ?_ | refine zU0 ?_ | refine zF ?_)
          | ((with_reducible refine acall_id ?_); refine ACall.val hLk rfl rfl ?_)
          | ((with_reducible refine acall_id ?_); refine ACall.val spans0_c rfl rfl ?_)
          | ((with_reducible refine acall_id ?_); refine ACall.val (span_c 100000 (-1)) rfl rfl ?_)
          | ((with_reducible refine acall_id ?_); refine ACall.told (hTell _) (p := 11) (q := 8) (r := 49) ren118 (by decide) (by decide) (by decide) (by decide) (by decide) (by decide) rfl (t := .non) (.inr rfl) (t_of rfl rfl rfl fun k hk => by (repeat (first | rw [upd_hi (by decide)] | rw [newS_hi (by decide)])); exact l3_d hk) rfl ?_)
          | with_reducible (first | refine zX ?_ | refine zD fun _ => ?_ | refine zD0 ?_ | refine zN ?_ | refine zF0 ?_ | refine zX0 ?_ | refine z1 ?_ | refine z2 ?_ | refine z3 ?_ | refine z4 ?_ | refine z5 ?_ | refine z6 ?_ | refine z7 ?_ | refine z8 ?_ | refine y1 ?_ | refine y2 ?_ | refine y3 ?_ | refine y4 ?_ | refine y5 ?_ | refine y6 ?_ | refine y7 ?_ | refine y8 ?_ | refine Rt.p (fun _ => ?_) fun _ => ?_)
          | ((with_reducible apply w_ixM); (focus exact rfl); (focus exact rfl); case' hk => intro y hy) | ((with_reducible (first | apply w_val | apply q_ends)); (focus exact rfl)))
        exact q_loop (pre ++ [o], post, ⟨A.lo, A.hi, A.F, T.f, A.D⟩, g8, .nsl) ⟨by show PK = _; rw [hpp]; simp, hR, .inl ⟨h0, rfl⟩, (fun _ h => rfl), by show A.D.length ≤ (pre ++ [o]).length; simp; omega⟩ (by simp) (slots_cons rfl (slots_cons (by show AV.int .i64 _ = AV.int .i64 _; refine int_eq ?_; simp) slots_nil)) (l3_slots rfl rfl rfl rfl fun k hk => by (repeat (first | rw [upd_hi (by decide)] | rw [newS_hi (by decide)])); exact t_d8 hk) (by repeat' (first | exact kept_nil | apply kept_cons | rfl)) (by repeat' (first | exact kept_nil | apply kept_cons | rfl))
    · have h0 : c.ls.length ≠ 0 := fun h => by
        have hP := hP0 h
        rw [hpp] at hP
        have hp0 : pre = [] := by
          cases pre with
          | nil => rfl
          | cons x y => have := congrArg List.length hP; simp at this
        have := hLV0 h hp0
        cases this
      obtain ⟨m, hm⟩ : ∃ m, c.ls.length = m + 1 := ⟨c.ls.length - 1, by omega⟩
      have hT : stepA c A o = stepT A o (tellX c o (allS c o) (oneT A)) := by rw [stepA, hl]; rfl
      have hTell := fun g11 gq : Nat => tell_c c okc o ⟨g11, gq, gr, m + 1, hs, .non⟩ (oneT A) rfl hm.symm ho2 (by omega)
      rw [hT] at hR
      generalize tellX c o (allS c o) (oneT A) = T at *
      rw [hm]
      by_cases hX : 0 ≤ T.hi
      · have hs2 : stepT A o T = ⟨min A.lo T.lo, max A.hi T.hi, T.F, T.f, A.D ++ [o]⟩ := by rw [stepT, if_pos hX]
        rw [hs2] at hR
        repeat' (first
          | with_reducible (first | refine Rd.p ?_ | refine w_alt ?_ ?_ | refine zE ?_ | refine zE0 ?_)
          | (refine w_ixE (f := fun l => [AV.slc 1 (iR l) .non]) hgo rfl rfl ?_)
          | with_reducible (first | refine zI fun y hy => ?_ | refine zL ?_ | refine zS ?_ | refine zA fun _ => ?_ | refine zV ?_ | refine zC ?_ | refine zG ?_ | refine zU ?_ | refine zG0 ?_ | refine zU0 ?_ | refine zF ?_)
          | ((with_reducible refine acall_id ?_); refine ACall.val hLk rfl rfl ?_)
          | ((with_reducible refine acall_id ?_); refine ACall.spansL (by omega) (by decide) (fun gq => ?_))
          | ((with_reducible refine acall_id ?_); refine ACall.val (span_c 100000 (-1)) rfl rfl ?_)
          | ((with_reducible refine acall_id ?_); refine ACall.told (hTell _ _) (p := 11) (q := 71) (r := 49) ren11 (by decide) (by decide) (by decide) (by decide) (by decide) (by decide) rfl (t := .non) (.inr rfl) (t_of rfl rfl rfl fun k hk => by (repeat (first | rw [upd_hi (by decide)] | rw [newS_hi (by decide)])); exact l3_d hk) rfl ?_)
          | with_reducible (first | refine zX ?_ | refine zD fun _ => ?_ | refine zD0 ?_ | refine zN ?_ | refine zF0 ?_ | refine zX0 ?_ | refine z1 ?_ | refine z2 ?_ | refine z3 ?_ | refine z4 ?_ | refine z5 ?_ | refine z6 ?_ | refine z7 ?_ | refine z8 ?_ | refine y1 ?_ | refine y2 ?_ | refine y3 ?_ | refine y4 ?_ | refine y5 ?_ | refine y6 ?_ | refine y7 ?_ | refine y8 ?_ | refine Rt.p (fun _ => ?_) fun _ => ?_)
          | ((with_reducible apply w_ixM); (focus exact rfl); (focus exact rfl); case' hk => intro y hy) | ((with_reducible (first | apply w_val | apply q_ends)); (focus exact rfl)))
        rename_i gq g11 g8n
        refine w_frzG [(4, .ref 4 g4 0), (5, .ref 5 g5 0), (9, .slc 1 (llR PK) .non), (11, .ref 11 g11 0), (8, .slc 1 (llR (A.D ++ [o])) (.own 8 g8n)), (10, .int .i64 pre.length)] (l4 g4 g5 g8n g11 gr hs c (m + 1) (.slc 2 (sR (rowsP (m + 1) A.F)) t) (min A.lo T.lo) (max A.hi T.hi) T) rfl rfl (scal_rowZ _ _) ⟨rfl, rfl, rfl, rfl, rfl, rfl, trivial⟩ (frz_l4 rfl rfl rfl rfl rfl fun k hk => by (repeat (first | rw [upd_hi (by decide)] | rw [newS_hi (by decide)])); exact t_d11 hk) ?_
        intro e3 σ3
        repeat' (first
          | with_reducible (first | refine Rd.p ?_ | refine w_alt ?_ ?_ | refine zE ?_ | refine zE0 ?_)
          | with_reducible (first | refine zI fun y hy => ?_ | refine zL ?_ | refine zS ?_ | refine zA fun _ => ?_ | refine zV ?_ | refine zC ?_ | refine zG ?_ | refine zU ?_ | refine zG0 ?_ | refine zU0 ?_ | refine zF ?_)
          | with_reducible (first | refine zX ?_ | refine zD fun _ => ?_ | refine zD0 ?_ | refine zN ?_ | refine zF0 ?_ | refine zX0 ?_ | refine z1 ?_ | refine z2 ?_ | refine z3 ?_ | refine z4 ?_ | refine z5 ?_ | refine z6 ?_ | refine z7 ?_ | refine z8 ?_ | refine y1 ?_ | refine y2 ?_ | refine y3 ?_ | refine y4 ?_ | refine y5 ?_ | refine y6 ?_ | refine y7 ?_ | refine y8 ?_ | refine Rt.p (fun _ => ?_) fun _ => ?_)
          | ((with_reducible apply w_ixM); (focus exact rfl); (focus exact rfl); case' hk => intro y hy) | ((with_reducible (first | apply w_val | apply q_ends)); (focus exact rfl)))
        exact q_loop (pre ++ [o], post, ⟨min A.lo T.lo, max A.hi T.hi, T.F, T.f, A.D ++ [o]⟩, g8n, .slc 2 (sR (rowsP (m + 1) T.F)) .non) ⟨by show PK = _; rw [hpp]; simp, hR, .inr ⟨.non, rfl⟩, (fun _ h => by simp at h), by show (A.D ++ [o]).length ≤ (pre ++ [o]).length; simp; omega⟩ (by simp) (slots_cons rfl (slots_cons (by show AV.int .i64 _ = AV.int .i64 _; refine int_eq ?_; simp) slots_nil)) (l3_slots rfl rfl rfl rfl fun k hk => by (repeat (first | rw [upd_hi (by decide)] | rw [newS_hi (by decide)])); exact l4_d hk) (by repeat' (first | exact kept_nil | apply kept_cons | rfl)) (by repeat' (first | exact kept_nil | apply kept_cons | rfl))
      · have hs2 : stepT A o T = ⟨A.lo, A.hi, A.F, T.f, A.D⟩ := by rw [stepT, if_neg hX]
        rw [hs2] at hR
        repeat' (first
          | with_reducible (first | refine Rd.p ?_ | refine w_alt ?_ ?_ | refine zE ?_ | refine zE0 ?_)
          | (refine w_ixE (f := fun l => [AV.slc 1 (iR l) .non]) hgo rfl rfl ?_)
          | with_reducible (first | refine zI fun y hy => ?_ | refine zL ?_ | refine zS ?_ | refine zA fun _ => ?_ | refine zV ?_ | refine zC ?_ | refine zG ?_ | refine zU ?_ | refine zG0 ?_ | refine zU0 ?_ | refine zF ?_)
          | ((with_reducible refine acall_id ?_); refine ACall.val hLk rfl rfl ?_)
          | ((with_reducible refine acall_id ?_); refine ACall.spansL (by omega) (by decide) (fun gq => ?_))
          | ((with_reducible refine acall_id ?_); refine ACall.val (span_c 100000 (-1)) rfl rfl ?_)
          | ((with_reducible refine acall_id ?_); refine ACall.told (hTell _ _) (p := 11) (q := 71) (r := 49) ren11 (by decide) (by decide) (by decide) (by decide) (by decide) (by decide) rfl (t := .non) (.inr rfl) (t_of rfl rfl rfl fun k hk => by (repeat (first | rw [upd_hi (by decide)] | rw [newS_hi (by decide)])); exact l3_d hk) rfl ?_)
          | with_reducible (first | refine zX ?_ | refine zD fun _ => ?_ | refine zD0 ?_ | refine zN ?_ | refine zF0 ?_ | refine zX0 ?_ | refine z1 ?_ | refine z2 ?_ | refine z3 ?_ | refine z4 ?_ | refine z5 ?_ | refine z6 ?_ | refine z7 ?_ | refine z8 ?_ | refine y1 ?_ | refine y2 ?_ | refine y3 ?_ | refine y4 ?_ | refine y5 ?_ | refine y6 ?_ | refine y7 ?_ | refine y8 ?_ | refine Rt.p (fun _ => ?_) fun _ => ?_)
          | ((with_reducible apply w_ixM); (focus exact rfl); (focus exact rfl); case' hk => intro y hy) | ((with_reducible (first | apply w_val | apply q_ends)); (focus exact rfl)))
        exact q_loop (pre ++ [o], post, ⟨A.lo, A.hi, A.F, T.f, A.D⟩, g8, .slc 2 (sR (rowsP (m + 1) A.F)) t) ⟨by show PK = _; rw [hpp]; simp, hR, .inr ⟨t, rfl⟩, (fun _ h => by simp at h), by show A.D.length ≤ (pre ++ [o]).length; simp; omega⟩ (by simp) (slots_cons rfl (slots_cons (by show AV.int .i64 _ = AV.int .i64 _; refine int_eq ?_; simp) slots_nil)) (l3_slots rfl rfl rfl rfl fun k hk => by (repeat (first | rw [upd_hi (by decide)] | rw [newS_hi (by decide)])); exact t_d11 hk) (by repeat' (first | exact kept_nil | apply kept_cons | rfl)) (by repeat' (first | exact kept_nil | apply kept_cons | rfl))
end Go.Abs
