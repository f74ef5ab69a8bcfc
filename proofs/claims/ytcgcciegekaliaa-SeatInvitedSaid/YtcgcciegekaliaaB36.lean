/- A part of the proofs of the laws of this seat: contracts of the functions that they reach, each proved of the program's form in Lean. No condition beyond those that each contract names. -/
import Derived.Test.YtcgcciegekaliaaB0
import Derived.Test.YtcgcciegekaliaaB1
import Derived.Test.YtcgcciegekaliaaB2
import Derived.Test.YtcgcciegekaliaaB8
import Derived.Test.YtcgcciegekaliaaB9
import Derived.Test.YtcgcciegekaliaaB20
import Derived.Test.YtcgcciegekaliaaB21
import Derived.Test.YtcgcciegekaliaaB30
set_option linter.unusedVariables false
set_option linter.unusedSimpArgs false
set_option maxRecDepth 20000
set_option maxHeartbeats 4000000
/-! ### Bonds -/
namespace Go.Abs
open Go.Proofs
/-- aloeswood/seat.checkBond -/
def ir100 : IFn :=
  ⟨29, [(4, none)], (.seq (.ops [⟨(some 2), none, (.box 3 (.t 0))⟩,
    ⟨(some 4), none, (.mov (.k (.int .i64 0)))⟩])
  (.seq (.blk 0 (.seq (.ops [⟨(some 6), none, (.flA 0 (.t 2))⟩,
      ⟨(some 7), none, (.ld 1 false (.t 6))⟩,
      ⟨(some 8), none, (.callF 68 [(.t 7), (.k (.int .i64 1)), (.k (.int .i64 2))])⟩,
      ⟨(some 9), none, (.not (.t 8))⟩,
      ⟨(some 5), none, (.mov (.t 9))⟩])
    (.cnd (.t 5)
      (.seq (.ops [⟨(some 4), none, (.mov (.k (.int .i64 4)))⟩])
      .ret)
      (.seq (.seq (.ops [⟨(some 11), none, (.flA 1 (.t 2))⟩,
        ⟨(some 12), none, (.ld 1 false (.t 11))⟩,
        ⟨(some 13), none, (.mov (.t 1))⟩,
        ⟨(some 14), none, (.bin .sub (.t 13) (.k (.int .i64 1)))⟩,
        ⟨(some 15), none, (.callF 68 [(.t 12), (.k (.int .i64 0)), (.t 14)])⟩,
        ⟨(some 16), none, (.not (.t 15))⟩,
        ⟨(some 10), none, (.mov (.t 16))⟩])
      (.cnd (.t 10)
        .skip
        (.ops [⟨(some 17), none, (.flA 2 (.t 2))⟩,
          ⟨(some 18), none, (.ld 1 false (.t 17))⟩,
          ⟨(some 19), none, (.mov (.t 1))⟩,
          ⟨(some 20), none, (.bin .sub (.t 19) (.k (.int .i64 1)))⟩,
          ⟨(some 21), none, (.callF 68 [(.t 18), (.k (.int .i64 0)), (.t 20)])⟩,
          ⟨(some 22), none, (.not (.t 21))⟩,
          ⟨(some 10), none, (.mov (.t 22))⟩])))
      (.cnd (.t 10)
        (.seq (.ops [⟨(some 4), none, (.mov (.k (.int .i64 7)))⟩])
        .ret)
        (.seq (.ops [⟨(some 24), none, (.flA 1 (.t 2))⟩,
          ⟨(some 25), none, (.ld 1 false (.t 24))⟩,
          ⟨(some 26), none, (.flA 2 (.t 2))⟩,
          ⟨(some 27), none, (.ld 1 false (.t 26))⟩,
          ⟨(some 28), none, (.bin .eql (.t 25) (.t 27))⟩,
          ⟨(some 23), none, (.mov (.t 28))⟩])
        (.cnd (.t 23)
          (.seq (.ops [⟨(some 4), none, (.mov (.k (.int .i64 3)))⟩])
          .ret)
          .skip)))))))
  (.seq (.ops [⟨(some 4), none, (.mov (.k (.int .i64 0)))⟩])
  .ret)))⟩
def hint100 (P : Program) : Hint := {}

/-- aloeswood/aloeswoodref08.checkBond -/
def ir105 : IFn :=
  ⟨32, [(4, none)], (.seq (.ops [⟨(some 2), none, (.box 3 (.t 0))⟩,
    ⟨(some 4), none, (.mov (.k (.int .i64 0)))⟩])
  (.seq (.seq (.ops [⟨(some 5), none, (.flA 0 (.t 2))⟩,
    ⟨(some 6), none, (.ld 1 false (.t 5))⟩,
    ⟨(some 7), none, (.bin .neq (.t 6) (.k (.int .i64 1)))⟩,
    ⟨(some 8), none, (.mov (.t 7))⟩,
    ⟨(some 9), (some (8, true)), (.flA 0 (.t 2))⟩,
    ⟨(some 10), (some (8, true)), (.ld 1 false (.t 9))⟩,
    ⟨(some 11), (some (8, true)), (.bin .neq (.t 10) (.k (.int .i64 2)))⟩,
    ⟨(some 12), none, (.pick (.t 8) (.t 11) (.k (.bool false)))⟩])
  (.cnd (.t 12)
    (.seq (.ops [⟨(some 4), none, (.mov (.k (.int .i64 4)))⟩])
    .ret)
    .skip))
  (.seq (.seq (.ops [⟨(some 13), none, (.flA 1 (.t 2))⟩,
    ⟨(some 14), none, (.ld 1 false (.t 13))⟩,
    ⟨(some 15), none, (.mov (.t 1))⟩,
    ⟨(some 16), none, (.bin .sub (.t 15) (.k (.int .i64 1)))⟩,
    ⟨(some 17), none, (.callF 75 [(.t 14), (.k (.int .i64 0)), (.t 16)])⟩,
    ⟨(some 18), none, (.not (.t 17))⟩,
    ⟨(some 19), none, (.mov (.t 18))⟩,
    ⟨(some 20), (some (19, false)), (.flA 2 (.t 2))⟩,
    ⟨(some 21), (some (19, false)), (.ld 1 false (.t 20))⟩,
    ⟨(some 22), (some (19, false)), (.mov (.t 1))⟩,
    ⟨(some 23), (some (19, false)), (.bin .sub (.t 22) (.k (.int .i64 1)))⟩,
    ⟨(some 24), (some (19, false)), (.callF 75 [(.t 21), (.k (.int .i64 0)), (.t 23)])⟩,
    ⟨(some 25), (some (19, false)), (.not (.t 24))⟩,
    ⟨(some 26), none, (.pick (.t 19) (.k (.bool true)) (.t 25))⟩])
  (.cnd (.t 26)
    (.seq (.ops [⟨(some 4), none, (.mov (.k (.int .i64 7)))⟩])
    .ret)
    .skip))
  (.seq (.seq (.ops [⟨(some 27), none, (.flA 1 (.t 2))⟩,
    ⟨(some 28), none, (.ld 1 false (.t 27))⟩,
    ⟨(some 29), none, (.flA 2 (.t 2))⟩,
    ⟨(some 30), none, (.ld 1 false (.t 29))⟩,
    ⟨(some 31), none, (.bin .eql (.t 28) (.t 30))⟩])
  (.cnd (.t 31)
    (.seq (.ops [⟨(some 4), none, (.mov (.k (.int .i64 3)))⟩])
    .ret)
    .skip))
  (.seq (.ops [⟨(some 4), none, (.mov (.k (.int .i64 0)))⟩])
  .ret)))))⟩
def hint105 (P : Program) : Hint := {}

/-- aloeswood/seat.bound -/
def ir103 : IFn :=
  ⟨33, [(4, none)], (.seq (.ops [⟨(some 3), none, (.box 3 (.t 1))⟩,
    ⟨(some 4), none, (.mov (.k (.bool false)))⟩])
  (.seq (.ops [⟨(some 7), none, (.mov (.t 0))⟩,
    ⟨(some 8), none, (.flA 1 (.t 3))⟩,
    ⟨(some 9), none, (.ld 1 false (.t 8))⟩,
    ⟨(some 10), none, (.bin .shr (.t 7) (.t 9))⟩,
    ⟨(some 11), none, (.bin .and (.t 10) (.k (.int .i64 1)))⟩,
    ⟨(some 12), none, (.bin .eql (.t 11) (.k (.int .i64 1)))⟩,
    ⟨(some 13), none, (.mov (.t 0))⟩,
    ⟨(some 14), none, (.flA 2 (.t 3))⟩,
    ⟨(some 15), none, (.ld 1 false (.t 14))⟩,
    ⟨(some 16), none, (.bin .shr (.t 13) (.t 15))⟩,
    ⟨(some 17), none, (.bin .and (.t 16) (.k (.int .i64 1)))⟩,
    ⟨(some 18), none, (.bin .eql (.t 17) (.k (.int .i64 1)))⟩,
    ⟨(some 5), none, (.mov (.t 12))⟩,
    ⟨(some 6), none, (.mov (.t 18))⟩])
  (.seq (.seq (.ops [⟨(some 19), none, (.flA 0 (.t 3))⟩,
    ⟨(some 20), none, (.ld 1 false (.t 19))⟩,
    ⟨(some 21), none, (.bin .eql (.t 20) (.k (.int .i64 1)))⟩])
  (.cnd (.t 21)
    (.seq (.ops [⟨(some 22), none, (.mov (.t 5))⟩,
      ⟨(some 23), none, (.not (.t 22))⟩,
      ⟨(some 24), none, (.mov (.t 23))⟩,
      ⟨(some 25), (some (24, false)), (.mov (.t 6))⟩,
      ⟨(some 26), (some (24, false)), (.not (.t 25))⟩,
      ⟨(some 27), none, (.pick (.t 24) (.k (.bool true)) (.t 26))⟩,
      ⟨(some 4), none, (.mov (.t 27))⟩])
    .ret)
    .skip))
  (.seq (.ops [⟨(some 28), none, (.mov (.t 5))⟩,
    ⟨(some 29), none, (.not (.t 28))⟩,
    ⟨(some 30), none, (.mov (.t 29))⟩,
    ⟨(some 31), (some (30, false)), (.mov (.t 6))⟩,
    ⟨(some 32), none, (.pick (.t 30) (.k (.bool true)) (.t 31))⟩,
    ⟨(some 4), none, (.mov (.t 32))⟩])
  .ret))))⟩
def hint103 (P : Program) : Hint := {}

/-- aloeswood/aloeswoodref08.Holds -/
def ir106 : IFn :=
  ⟨31, [(4, none)], (.seq (.ops [⟨(some 3), none, (.box 3 (.t 1))⟩,
    ⟨(some 4), none, (.mov (.k (.bool false)))⟩])
  (.seq (.ops [⟨(some 7), none, (.mov (.t 0))⟩,
    ⟨(some 8), none, (.flA 1 (.t 3))⟩,
    ⟨(some 9), none, (.ld 1 false (.t 8))⟩,
    ⟨(some 12), none, (.mov (.t 0))⟩,
    ⟨(some 13), none, (.flA 2 (.t 3))⟩,
    ⟨(some 14), none, (.ld 1 false (.t 13))⟩,
    ⟨(some 10), none, (.callF 88 [(.t 7), (.t 9)])⟩,
    ⟨none, none, (.chk 1 false (.t 13) 14)⟩,
    ⟨(some 11), none, (.bin .geq (.t 10) (.k (.int .i64 0)))⟩,
    ⟨(some 15), none, (.callF 88 [(.t 12), (.t 14)])⟩,
    ⟨(some 16), none, (.bin .geq (.t 15) (.k (.int .i64 0)))⟩,
    ⟨(some 5), none, (.mov (.t 11))⟩,
    ⟨(some 6), none, (.mov (.t 16))⟩])
  (.seq (.seq (.ops [⟨(some 17), none, (.flA 0 (.t 3))⟩,
    ⟨(some 18), none, (.ld 1 false (.t 17))⟩,
    ⟨(some 19), none, (.bin .eql (.t 18) (.k (.int .i64 1)))⟩])
  (.cnd (.t 19)
    (.seq (.ops [⟨(some 20), none, (.mov (.t 5))⟩,
      ⟨(some 21), none, (.not (.t 20))⟩,
      ⟨(some 22), none, (.mov (.t 21))⟩,
      ⟨(some 23), (some (22, false)), (.mov (.t 6))⟩,
      ⟨(some 24), (some (22, false)), (.not (.t 23))⟩,
      ⟨(some 25), none, (.pick (.t 22) (.k (.bool true)) (.t 24))⟩,
      ⟨(some 4), none, (.mov (.t 25))⟩])
    .ret)
    .skip))
  (.seq (.ops [⟨(some 26), none, (.mov (.t 5))⟩,
    ⟨(some 27), none, (.not (.t 26))⟩,
    ⟨(some 28), none, (.mov (.t 27))⟩,
    ⟨(some 29), (some (28, false)), (.mov (.t 6))⟩,
    ⟨(some 30), none, (.pick (.t 28) (.k (.bool true)) (.t 29))⟩,
    ⟨(some 4), none, (.mov (.t 30))⟩])
  .ret))))⟩
def hint106 (P : Program) : Hint := {}

/-- aloeswood/aloeswoodkit.Has -/
def ir107 : IFn :=
  ⟨18, [(4, none)], (.seq (.ops [⟨(some 4), none, (.mov (.k (.bool false)))⟩])
  (.seq (.seq (.ops [⟨(some 5), none, (.mov (.k (.int .i64 0)))⟩])
  (.blk 0 (.loop (.seq (.seq (.ops [⟨(some 6), none, (.mov (.t 5))⟩,
        ⟨(some 7), none, (.mov (.t 0))⟩,
        ⟨(some 8), none, (.len false (.t 7))⟩,
        ⟨(some 9), none, (.bin .lss (.t 6) (.t 8))⟩])
      (.cnd (.t 9)
        .skip
        (.exit 0)))
      (.seq (.blk 1 (.seq (.ops [⟨(some 12), none, (.mov (.t 0))⟩,
          ⟨(some 13), none, (.mov (.t 5))⟩,
          ⟨(some 14), none, (.ixA 1 (.t 12) (.t 13))⟩,
          ⟨(some 15), none, (.ld 1 false (.t 14))⟩,
          ⟨(some 16), none, (.mov (.t 1))⟩,
          ⟨(some 17), none, (.bin .eql (.t 15) (.t 16))⟩])
        (.cnd (.t 17)
          (.seq (.ops [⟨(some 4), none, (.mov (.k (.bool true)))⟩])
          .ret)
          .skip)))
      (.ops [⟨(some 10), none, (.mov (.t 5))⟩,
        ⟨(some 11), none, (.bin .add (.t 10) (.k (.int .i64 1)))⟩,
        ⟨(some 5), none, (.mov (.t 11))⟩]))))))
  (.seq (.ops [⟨(some 4), none, (.mov (.k (.bool false)))⟩])
  .ret)))⟩
def hint107 (P : Program) : Hint := {}

/-- aloeswood/aloeswoodlaw08.keeps -/
def ir60 : IFn :=
  ⟨28, [(4, none)], (.seq (.ops [⟨(some 3), none, (.box 3 (.t 1))⟩,
    ⟨(some 4), none, (.mov (.k (.bool false)))⟩])
  (.seq (.ops [⟨(some 7), none, (.mov (.t 0))⟩,
    ⟨(some 8), none, (.flA 1 (.t 3))⟩,
    ⟨(some 9), none, (.ld 1 false (.t 8))⟩,
    ⟨(some 11), none, (.mov (.t 0))⟩,
    ⟨(some 12), none, (.flA 2 (.t 3))⟩,
    ⟨(some 13), none, (.ld 1 false (.t 12))⟩,
    ⟨(some 10), none, (.callF 107 [(.t 7), (.t 9)])⟩,
    ⟨none, none, (.chk 1 false (.t 12) 13)⟩,
    ⟨(some 14), none, (.callF 107 [(.t 11), (.t 13)])⟩,
    ⟨(some 5), none, (.mov (.t 10))⟩,
    ⟨(some 6), none, (.mov (.t 14))⟩])
  (.seq (.seq (.ops [⟨(some 15), none, (.flA 0 (.t 3))⟩,
    ⟨(some 16), none, (.ld 1 false (.t 15))⟩,
    ⟨(some 17), none, (.bin .eql (.t 16) (.k (.int .i64 1)))⟩])
  (.cnd (.t 17)
    (.seq (.ops [⟨(some 18), none, (.mov (.t 5))⟩,
      ⟨(some 19), none, (.mov (.t 18))⟩,
      ⟨(some 20), (some (19, true)), (.mov (.t 6))⟩,
      ⟨(some 21), none, (.pick (.t 19) (.t 20) (.k (.bool false)))⟩,
      ⟨(some 22), none, (.not (.t 21))⟩,
      ⟨(some 4), none, (.mov (.t 22))⟩])
    .ret)
    .skip))
  (.seq (.ops [⟨(some 23), none, (.mov (.t 6))⟩,
    ⟨(some 24), none, (.mov (.t 23))⟩,
    ⟨(some 25), (some (24, false)), (.mov (.t 5))⟩,
    ⟨(some 26), (some (24, false)), (.not (.t 25))⟩,
    ⟨(some 27), none, (.pick (.t 24) (.k (.bool true)) (.t 26))⟩,
    ⟨(some 4), none, (.mov (.t 27))⟩])
  .ret))))⟩
def hint60 (P : Program) : Hint := {}

/-- aloeswood/aloeswoodlaw08.before -/
def ir51 : IFn :=
  ⟨36, [(4, none)], (.seq (.ops [⟨(some 4), none, (.mov (.k (.bool false)))⟩])
  (.seq (.seq (.ops [⟨(some 5), none, (.mov (.k (.int .i64 0)))⟩])
  (.blk 0 (.loop (.seq (.seq (.ops [⟨(some 6), none, (.mov (.t 5))⟩,
        ⟨(some 7), none, (.mov (.t 0))⟩,
        ⟨(some 8), none, (.len false (.t 7))⟩,
        ⟨(some 9), none, (.bin .lss (.t 6) (.t 8))⟩,
        ⟨(some 10), none, (.mov (.t 9))⟩,
        ⟨(some 11), (some (10, true)), (.mov (.t 5))⟩,
        ⟨(some 12), (some (10, true)), (.mov (.t 1))⟩,
        ⟨(some 13), (some (10, true)), (.len false (.t 12))⟩,
        ⟨(some 14), (some (10, true)), (.bin .lss (.t 11) (.t 13))⟩,
        ⟨(some 15), none, (.pick (.t 10) (.t 14) (.k (.bool false)))⟩])
      (.cnd (.t 15)
        .skip
        (.exit 0)))
      (.seq (.blk 1 (.seq (.ops [⟨(some 18), none, (.mov (.t 0))⟩,
          ⟨(some 19), none, (.mov (.t 5))⟩,
          ⟨(some 20), none, (.ixA 1 (.t 18) (.t 19))⟩,
          ⟨(some 21), none, (.ld 1 false (.t 20))⟩,
          ⟨(some 22), none, (.mov (.t 1))⟩,
          ⟨(some 23), none, (.mov (.t 5))⟩,
          ⟨(some 24), none, (.ixA 1 (.t 22) (.t 23))⟩,
          ⟨(some 25), none, (.ld 1 false (.t 24))⟩,
          ⟨(some 26), none, (.bin .neq (.t 21) (.t 25))⟩])
        (.cnd (.t 26)
          (.seq (.ops [⟨(some 27), none, (.mov (.t 0))⟩,
            ⟨(some 28), none, (.mov (.t 5))⟩,
            ⟨(some 29), none, (.ixA 1 (.t 27) (.t 28))⟩,
            ⟨(some 30), none, (.ld 1 false (.t 29))⟩,
            ⟨(some 31), none, (.mov (.t 1))⟩,
            ⟨(some 32), none, (.mov (.t 5))⟩,
            ⟨(some 33), none, (.ixA 1 (.t 31) (.t 32))⟩,
            ⟨(some 34), none, (.ld 1 false (.t 33))⟩,
            ⟨(some 35), none, (.bin .lss (.t 30) (.t 34))⟩,
            ⟨(some 4), none, (.mov (.t 35))⟩])
          .ret)
          .skip)))
      (.ops [⟨(some 16), none, (.mov (.t 5))⟩,
        ⟨(some 17), none, (.bin .add (.t 16) (.k (.int .i64 1)))⟩,
        ⟨(some 5), none, (.mov (.t 17))⟩]))))))
  (.seq (.ops [⟨(some 4), none, (.mov (.k (.bool false)))⟩])
  .ret)))⟩
def hint51 (P : Program) : Hint := {}

/-- aloeswood/seat.Invite$1 -/
def ir102 : IFn :=
  ⟨8, [(3, none)], (.seq (.ops [⟨(some 2), none, (.box 3 (.t 0))⟩,
    ⟨(some 3), none, (.mov (.k (.bool false)))⟩])
  (.seq (.ops [⟨(some 4), none, (.ld 1 false (.t 1))⟩,
    ⟨(some 5), none, (.ld 3 true (.t 2))⟩,
    ⟨(some 6), none, (.callF 103 [(.t 4), (.t 5)])⟩,
    ⟨(some 7), none, (.not (.t 6))⟩,
    ⟨(some 3), none, (.mov (.t 7))⟩])
  .ret))⟩
def hint102 (P : Program) : Hint := {}

/-- slices.IndexFunc[[]aloeswood/api.Bond,aloeswood/api.Bond] -/
def ir122 : IFn :=
  ⟨19, [(4, none)], (.seq (.ops [⟨(some 4), none, (.mov (.k (.int .i64 0)))⟩])
  (.seq (.seq (.ops [⟨(some 6), none, (.mov (.t 0))⟩,
    ⟨(some 7), none, (.len false (.t 6))⟩,
    ⟨(some 8), none, (.mov (.k (.int .i64 0)))⟩])
  (.blk 0 (.loop (.seq (.ops [⟨(some 9), none, (.bin .lss (.t 8) (.t 7))⟩])
      (.seq (.cnd (.t 9)
        .skip
        (.exit 0))
      (.seq (.blk 1 (.seq (.ops [⟨(some 10), none, (.mov (.t 8))⟩,
          ⟨(some 5), none, (.mov (.t 10))⟩])
        (.seq (.ops [⟨(some 11), none, (.mov (.t 1))⟩,
          ⟨(some 12), none, (.mov (.t 0))⟩,
          ⟨(some 13), none, (.mov (.t 5))⟩,
          ⟨(some 14), none, (.ixA 3 (.t 12) (.t 13))⟩,
          ⟨(some 15), none, (.ld 3 true (.t 14))⟩,
          ⟨(some 16), none, (.callV (.t 11) [(.t 15)])⟩])
        (.cnd (.t 16)
          (.seq (.ops [⟨(some 17), none, (.mov (.t 5))⟩,
            ⟨(some 4), none, (.mov (.t 17))⟩])
          .ret)
          .skip))))
      (.ops [⟨(some 18), none, (.bin .add (.t 8) (.k (.int .i64 1)))⟩,
        ⟨(some 8), none, (.mov (.t 18))⟩])))))))
  (.seq (.ops [⟨(some 4), none, (.mov (.k (.int .i64 (-1))))⟩])
  .ret)))⟩
def hint122 (P : Program) : Hint := {}

/-- slices.ContainsFunc[[]aloeswood/api.Bond,aloeswood/api.Bond] -/
def ir101 : IFn :=
  ⟨9, [(4, none)], (.seq (.ops [⟨(some 4), none, (.mov (.k (.bool false)))⟩])
  (.seq (.ops [⟨(some 5), none, (.mov (.t 0))⟩,
    ⟨(some 6), none, (.mov (.t 1))⟩,
    ⟨(some 7), none, (.callF 122 [(.t 5), (.t 6)])⟩,
    ⟨(some 8), none, (.bin .geq (.t 7) (.k (.int .i64 0)))⟩,
    ⟨(some 4), none, (.mov (.t 8))⟩])
  .ret))⟩
def hint101 (P : Program) : Hint := {}

abbrev bA (b : Bond) : AV := .agg [.int .i64 b.kind, .int .i64 b.a, .int .i64 b.b]
def bErr (b : Bond) (n : Int) : Int := if inB b.kind 1 2 = true then (if (inB b.a 0 (n - 1) && inB b.b 0 (n - 1)) = true then (if b.a = b.b then 3 else 0) else 7) else 4
theorem checkBond_c (b : Bond) (n : Int) (hn : 0 ≤ n ∧ n ≤ 1000) : Fn0 Try.prog 100 [bA b, .int .i64 n] (fun v => v = .int .i64 (bErr b n)) := by
  refine RawC.walk (H := hint100 Try.prog) ir100 Try.func100 rfl rfl rfl ?_
  unfold ir100
  repeat' (first
    | with_reducible (first | refine Rd.p ?_ | refine zE ?_ | refine zE0 ?_)
    | with_reducible (first | refine zI fun y hy => ?_ | refine zL ?_ | refine zS ?_ | refine zA fun _ => ?_ | refine zV ?_ | refine zC ?_ | refine zG ?_ | refine zU ?_ | refine zG0 ?_ | refine zU0 ?_ | refine zF ?_)
    | ((with_reducible refine acall_id ?_); refine ACall.val (in_c _ _ _) rfl rfl ?_)
    | with_reducible (first | refine zX ?_ | refine zD fun _ => ?_ | refine zD0 ?_ | refine zN ?_ | refine zF0 ?_ | refine zX0 ?_ | refine z1 ?_ | refine z2 ?_ | refine z3 ?_ | refine z4 ?_ | refine z5 ?_ | refine z6 ?_ | refine z7 ?_ | refine z8 ?_ | refine y1 ?_ | refine y2 ?_ | refine y3 ?_ | refine y4 ?_ | refine y5 ?_ | refine y6 ?_ | refine y7 ?_ | refine y8 ?_ | refine Rt.p (fun _ => ?_) fun _ => ?_)
    | ((with_reducible apply w_ixM); (focus exact rfl); (focus exact rfl); case' hk => intro y hy) | ((with_reducible (first | apply w_val | apply q_ends)); (focus exact rfl)))
  all_goals (refine congrArg (AV.int .i64) ?_; unfold bErr; simp_all)
theorem rcheckBond_c (b : Bond) (n : Int) (hn : 0 ≤ n ∧ n ≤ 1000) : Fn0 Try.prog 105 [bA b, .int .i64 n] (fun v => v = .int .i64 (bErr b n)) := by
  refine RawC.walk (H := hint105 Try.prog) ir105 Try.func105 rfl rfl rfl ?_
  unfold ir105
  repeat' (first
    | with_reducible (first | refine Rd.p ?_ | refine zE ?_ | refine zE0 ?_)
    | with_reducible (first | refine zI fun y hy => ?_ | refine zL ?_ | refine zS ?_ | refine zA fun _ => ?_ | refine zV ?_ | refine zC ?_ | refine zG ?_ | refine zU ?_ | refine zG0 ?_ | refine zU0 ?_ | refine zF ?_)
    | ((with_reducible refine acall_id ?_); refine ACall.val (within_c _ _ _) rfl rfl ?_)
    | with_reducible (first | refine zX ?_ | refine zD fun _ => ?_ | refine zD0 ?_ | refine zN ?_ | refine zF0 ?_ | refine zX0 ?_ | refine z1 ?_ | refine z2 ?_ | refine z3 ?_ | refine z4 ?_ | refine z5 ?_ | refine z6 ?_ | refine z7 ?_ | refine z8 ?_ | refine y1 ?_ | refine y2 ?_ | refine y3 ?_ | refine y4 ?_ | refine y5 ?_ | refine y6 ?_ | refine y7 ?_ | refine y8 ?_ | refine Rt.p (fun _ => ?_) fun _ => ?_)
    | ((with_reducible apply w_ixM); (focus exact rfl); (focus exact rfl); case' hk => intro y hy) | ((with_reducible (first | apply w_val | apply q_ends)); (focus exact rfl)))
  all_goals (refine congrArg (AV.int .i64) ?_; unfold bErr; have hk : inB b.kind 1 2 = decide (b.kind = 1 ∨ b.kind = 2) := by (unfold inB; exact decide_eq_decide.2 (by omega)))
  all_goals (rw [hk]; simp_all)
def bsErr (n : Int) : List Bond → Int
  | [] => 0
  | b :: bs => if bErr b n = 0 then bsErr n bs else bErr b n
/-- Whether a bond is kept, by who is there. -/
def bondB (b : Bond) (x y : Bool) : Bool := if b.kind = 1 then (!x || !y) else (!x || y)
abbrev bondS (set : Nat) (b : Bond) : Bool := bondB b (set.testBit b.a.toNat) (set.testBit b.b.toNat)
abbrev bondL (l : List Int) (b : Bond) : Bool := bondB b (decide (b.a ∈ l)) (decide (b.b ∈ l))
theorem bit_and (set : Nat) (hs : set < 2 ^ 62) {k : Int} (hk : 0 ≤ k ∧ k < 62) : decide (bitV .and .i64 ((set : Int).fdiv (2 ^ min k.toNat IntKind.i64.bits)) 1 = 1) = set.testBit k.toNat := by
  obtain ⟨j, rfl⟩ : ∃ j : Nat, k = j := ⟨k.toNat, by omega⟩
  rw [fdiv_pow set j (by omega)]
  have h1 : bitV .and .i64 ((set >>> j : Nat) : Int) ((1 : Nat) : Int) = ((set >>> j &&& 1 : Nat) : Int) := and_nat _ 1 (Nat.lt_of_le_of_lt (Nat.shiftRight_le _ _) hs) (by decide)
  rw [Nat.and_one_is_mod] at h1
  rw [show (1 : Int) = ((1 : Nat) : Int) from rfl, h1]
  have e2 : set.testBit j = decide (set >>> j % 2 = 1) := by simp [Nat.testBit, Nat.and_comm, Nat.and_one_is_mod]
  rw [Int.toNat_natCast, e2]
  exact decide_eq_decide.2 (by omega)
theorem bound_c (set : Nat) (b : Bond) (hs : set < 2 ^ 62) (ha : 0 ≤ b.a ∧ b.a < 62) (hb : 0 ≤ b.b ∧ b.b < 62) : Fn0 Try.prog 103 [.int .i64 set, bA b] (fun v => v = .bool (bondS set b)) := by
  have h1 := bit_and set hs ha
  have h2 := bit_and set hs hb
  refine RawC.walk (H := hint103 Try.prog) ir103 Try.func103 rfl rfl rfl ?_
  unfold ir103
  repeat' (first
    | with_reducible (first | refine Rd.p ?_ | refine zE ?_ | refine zE0 ?_)
    | with_reducible (first | refine zI fun y hy => ?_ | refine zL ?_ | refine zS ?_ | refine zA fun _ => ?_ | refine zV ?_ | refine zC ?_ | refine zG ?_ | refine zU ?_ | refine zG0 ?_ | refine zU0 ?_ | refine zF ?_)
    | with_reducible (first | refine zX ?_ | refine zD fun _ => ?_ | refine zD0 ?_ | refine zN ?_ | refine zF0 ?_ | refine zX0 ?_ | refine z1 ?_ | refine z2 ?_ | refine z3 ?_ | refine z4 ?_ | refine z5 ?_ | refine z6 ?_ | refine z7 ?_ | refine z8 ?_ | refine y1 ?_ | refine y2 ?_ | refine y3 ?_ | refine y4 ?_ | refine y5 ?_ | refine y6 ?_ | refine y7 ?_ | refine y8 ?_ | refine Rt.p (fun _ => ?_) fun _ => ?_)
    | ((with_reducible apply w_ixM); (focus exact rfl); (focus exact rfl); case' hk => intro y hy) | ((with_reducible (first | apply w_val | apply q_ends)); (focus exact rfl)))
  all_goals (refine congrArg AV.bool ?_; simp_all [bondB])
theorem Holds_c (l : List Int) (b : Bond) (hl : l.length < 1000000) : Fn0 Try.prog 106 [.slc 1 (iR l) .non, bA b] (fun v => v = .bool (bondL l b)) := by
  have h1 : decide (0 ≤ idxI l b.a) = decide (b.a ∈ l) := decide_eq_decide.2 idx_mem
  have h2 : decide (0 ≤ idxI l b.b) = decide (b.b ∈ l) := decide_eq_decide.2 idx_mem
  refine RawC.walk (H := hint106 Try.prog) ir106 Try.func106 rfl rfl rfl ?_
  unfold ir106
  repeat' (first
    | with_reducible (first | refine Rd.p ?_ | refine zE ?_ | refine zE0 ?_)
    | with_reducible (first | refine zI fun y hy => ?_ | refine zL ?_ | refine zS ?_ | refine zA fun _ => ?_ | refine zV ?_ | refine zC ?_ | refine zG ?_ | refine zU ?_ | refine zG0 ?_ | refine zU0 ?_ | refine zF ?_)
    | ((with_reducible refine acall_id ?_); refine ACall.val (rseat_c _ _ hl) rfl rfl ?_)
    | with_reducible (first | refine zX ?_ | refine zD fun _ => ?_ | refine zD0 ?_ | refine zN ?_ | refine zF0 ?_ | refine zX0 ?_ | refine z1 ?_ | refine z2 ?_ | refine z3 ?_ | refine z4 ?_ | refine z5 ?_ | refine z6 ?_ | refine z7 ?_ | refine z8 ?_ | refine y1 ?_ | refine y2 ?_ | refine y3 ?_ | refine y4 ?_ | refine y5 ?_ | refine y6 ?_ | refine y7 ?_ | refine y8 ?_ | refine Rt.p (fun _ => ?_) fun _ => ?_)
    | ((with_reducible apply w_ixM); (focus exact rfl); (focus exact rfl); case' hk => intro y hy) | ((with_reducible (first | apply w_val | apply q_ends)); (focus exact rfl)))
  all_goals (refine congrArg AV.bool ?_; simp_all [bondB])
theorem has_c (l : List Int) (k : Int) (hl : l.length < 1000000) : Fn0 Try.prog 107 [.slc 1 (iR l) .non, .int .i64 k] (fun v => v = .bool (decide (k ∈ l))) := by
  refine RawC.walk (H := hint107 Try.prog) ir107 Try.func107 rfl rfl rfl ?_
  unfold ir107
  repeat' (first
    | with_reducible (first | refine Rd.p ?_ | refine zE ?_ | refine zE0 ?_)
    | with_reducible (first | refine zI fun y hy => ?_ | refine zL ?_ | refine zS ?_ | refine zA fun _ => ?_ | refine zV ?_ | refine zC ?_ | refine zG ?_ | refine zU ?_ | refine zG0 ?_ | refine zU0 ?_ | refine zF ?_)
    | with_reducible (first | refine zX ?_ | refine zD fun _ => ?_ | refine zD0 ?_ | refine zN ?_ | refine zF0 ?_ | refine zX0 ?_ | refine z1 ?_ | refine z2 ?_ | refine z3 ?_ | refine z4 ?_ | refine z5 ?_ | refine z6 ?_ | refine z7 ?_ | refine z8 ?_ | refine y1 ?_ | refine y2 ?_ | refine y3 ?_ | refine y4 ?_ | refine y5 ?_ | refine y6 ?_ | refine y7 ?_ | refine y8 ?_ | refine Rt.p (fun _ => ?_) fun _ => ?_)
    | ((with_reducible apply w_ixM); (focus exact rfl); (focus exact rfl); case' hk => intro y hy) | ((with_reducible (first | apply w_val | apply q_ends)); (focus exact rfl)))
  refine w_loopK [0, 1] [] (fun x : List Int × List Int => l = x.1 ++ x.2 ∧ k ∉ x.1) (fun x => x.2.length) (fun x => [(5, .int .i64 x.1.length)]) (fun _ => []) ([], l) ⟨rfl, by simp⟩ ⟨rfl, trivial⟩ trivial ?_
  rintro ⟨pre, post⟩ ⟨hp, hb⟩ e σ
  dsimp only at hp hb ⊢
  have hlen := congrArg List.length hp
  cases post with
  | nil =>
    simp only [List.append_nil, List.length_append, List.length_nil] at hlen
    repeat' (first
      | with_reducible (first | refine Rd.p ?_ | refine zE ?_ | refine zE0 ?_)
      | with_reducible (first | refine zI fun y hy => ?_ | refine zL ?_ | refine zS ?_ | refine zA fun _ => ?_ | refine zV ?_ | refine zC ?_ | refine zG ?_ | refine zU ?_ | refine zG0 ?_ | refine zU0 ?_ | refine zF ?_)
      | with_reducible (first | refine zX ?_ | refine zD fun _ => ?_ | refine zD0 ?_ | refine zN ?_ | refine zF0 ?_ | refine zX0 ?_ | refine z1 ?_ | refine z2 ?_ | refine z3 ?_ | refine z4 ?_ | refine z5 ?_ | refine z6 ?_ | refine z7 ?_ | refine z8 ?_ | refine y1 ?_ | refine y2 ?_ | refine y3 ?_ | refine y4 ?_ | refine y5 ?_ | refine y6 ?_ | refine y7 ?_ | refine y8 ?_ | refine Rt.p (fun _ => ?_) fun _ => ?_)
      | ((with_reducible apply w_ixM); (focus exact rfl); (focus exact rfl); case' hk => intro y hy) | ((with_reducible (first | apply w_val | apply q_ends)); (focus exact rfl)))
    refine congrArg AV.bool (decide_eq_false ?_).symm
    rw [hp, List.append_nil]; exact hb
  | cons c post =>
    simp only [List.length_append, List.length_cons] at hlen
    repeat' (first
      | with_reducible (first | refine Rd.p ?_ | refine zE ?_ | refine zE0 ?_)
      | (refine w_ixP hp rfl rfl ?_)
      | with_reducible (first | refine zI fun y hy => ?_ | refine zL ?_ | refine zS ?_ | refine zA fun _ => ?_ | refine zV ?_ | refine zC ?_ | refine zG ?_ | refine zU ?_ | refine zG0 ?_ | refine zU0 ?_ | refine zF ?_)
      | with_reducible (first | refine zX ?_ | refine zD fun _ => ?_ | refine zD0 ?_ | refine zN ?_ | refine zF0 ?_ | refine zX0 ?_ | refine z1 ?_ | refine z2 ?_ | refine z3 ?_ | refine z4 ?_ | refine z5 ?_ | refine z6 ?_ | refine z7 ?_ | refine z8 ?_ | refine y1 ?_ | refine y2 ?_ | refine y3 ?_ | refine y4 ?_ | refine y5 ?_ | refine y6 ?_ | refine y7 ?_ | refine y8 ?_ | refine Rt.p (fun _ => ?_) fun _ => ?_)
      | ((with_reducible apply w_ixM); (focus exact rfl); (focus exact rfl); case' hk => intro y hy) | ((with_reducible (first | apply w_val | apply q_ends)); (focus exact rfl)))
    · rename_i h
      exact congrArg AV.bool (decide_eq_true (by rw [hp, ← h]; simp)).symm
    · rename_i h
      refine zQ (pre ++ [c], post) ?_ ?_
      · dsimp only
        refine ⟨by rw [hp]; simp, ?_⟩
        simp [hb]; exact fun hc => h hc.symm
      · simp
theorem lkeeps_c (l : List Int) (b : Bond) (hl : l.length < 1000000) : Fn0 Try.prog 60 [.slc 1 (iR l) .non, bA b] (fun v => v = .bool (bondL l b)) := by
  refine RawC.walk (H := hint60 Try.prog) ir60 Try.func60 rfl rfl rfl ?_
  unfold ir60
  repeat' (first
    | with_reducible (first | refine Rd.p ?_ | refine zE ?_ | refine zE0 ?_)
    | with_reducible (first | refine zI fun y hy => ?_ | refine zL ?_ | refine zS ?_ | refine zA fun _ => ?_ | refine zV ?_ | refine zC ?_ | refine zG ?_ | refine zU ?_ | refine zG0 ?_ | refine zU0 ?_ | refine zF ?_)
    | ((with_reducible refine acall_id ?_); refine ACall.val (has_c _ _ hl) rfl rfl ?_)
    | with_reducible (first | refine zX ?_ | refine zD fun _ => ?_ | refine zD0 ?_ | refine zN ?_ | refine zF0 ?_ | refine zX0 ?_ | refine z1 ?_ | refine z2 ?_ | refine z3 ?_ | refine z4 ?_ | refine z5 ?_ | refine z6 ?_ | refine z7 ?_ | refine z8 ?_ | refine y1 ?_ | refine y2 ?_ | refine y3 ?_ | refine y4 ?_ | refine y5 ?_ | refine y6 ?_ | refine y7 ?_ | refine y8 ?_ | refine Rt.p (fun _ => ?_) fun _ => ?_)
    | ((with_reducible apply w_ixM); (focus exact rfl); (focus exact rfl); case' hk => intro y hy) | ((with_reducible (first | apply w_val | apply q_ends)); (focus exact rfl)))
  all_goals (refine congrArg AV.bool ?_; simp_all [bondB])
  all_goals (try (cases decide (b.a ∈ l) <;> simp))
theorem inv1_c (g : Nat) (set : Nat) (x : Bond) (hs : set < 2 ^ 62) (ha : 0 ≤ x.a ∧ x.a < 62) (hb : 0 ≤ x.b ∧ x.b < 62) : RawC Try.prog 102 [bA x, .ref 1000 g 0] (sg [(1000, (g, .row [.int .i64 set]))]) (SR (fun _ : Unit => fun av => av = .bool (!bondS set x)) (fun _ => [(1000, (g, .row [.int .i64 set]))])) := by
  refine RawC.walk (H := hint102 Try.prog) ir102 Try.func102 rfl rfl rfl ?_
  unfold ir102
  repeat' (first
    | with_reducible (first | refine Rd.p ?_ | refine zE ?_ | refine zE0 ?_)
    | with_reducible (first | refine zI fun y hy => ?_ | refine zL ?_ | refine zS ?_ | refine zA fun _ => ?_ | refine zV ?_ | refine zC ?_ | refine zG ?_ | refine zU ?_ | refine zG0 ?_ | refine zU0 ?_ | refine zF ?_)
    | ((with_reducible refine acall_id ?_); refine ACall.val (bound_c _ _ hs ha hb) rfl rfl ?_)
    | with_reducible (first | refine zX ?_ | refine zD fun _ => ?_ | refine zD0 ?_ | refine zN ?_ | refine zF0 ?_ | refine zX0 ?_ | refine z1 ?_ | refine z2 ?_ | refine z3 ?_ | refine z4 ?_ | refine z5 ?_ | refine z6 ?_ | refine z7 ?_ | refine z8 ?_ | refine y1 ?_ | refine y2 ?_ | refine y3 ?_ | refine y4 ?_ | refine y5 ?_ | refine y6 ?_ | refine y7 ?_ | refine y8 ?_ | refine Rt.p (fun _ => ?_) fun _ => ?_)
    | ((with_reducible apply w_ixM); (focus exact rfl); (focus exact rfl); case' hk => intro y hy) | ((with_reducible (first | apply w_val | apply q_ends)); (focus exact rfl)))
  exact ⟨(), rfl, rfl, trivial⟩
theorem idxB_c (g : Nat) (l : List Bond) (set : Nat) (hs : set < 2 ^ 62) (hl : l.length < 1000) (hb : ∀ x ∈ l, (0 ≤ x.a ∧ x.a < 62) ∧ 0 ≤ x.b ∧ x.b < 62) : RawC Try.prog 122 [.slc 3 (bR l) .non, .clo (.func 102) [] [.ref 1000 g 0]] (sg [(1000, (g, .row [.int .i64 set]))])
    (SR (fun k : Int => fun av => av = .int .i64 k ∧ (0 ≤ k ↔ l.any (fun x => !bondS set x) = true)) (fun _ => [(1000, (g, .row [.int .i64 set]))])) := by
  refine RawC.walk (H := hint122 Try.prog) ir122 Try.func122 rfl rfl rfl ?_
  unfold ir122
  repeat' (first
    | with_reducible (first | refine Rd.p ?_ | refine zE ?_ | refine zE0 ?_)
    | with_reducible (first | refine zI fun y hy => ?_ | refine zL ?_ | refine zS ?_ | refine zA fun _ => ?_ | refine zV ?_ | refine zC ?_ | refine zG ?_ | refine zU ?_ | refine zG0 ?_ | refine zU0 ?_ | refine zF ?_)
    | with_reducible (first | refine zX ?_ | refine zD fun _ => ?_ | refine zD0 ?_ | refine zN ?_ | refine zF0 ?_ | refine zX0 ?_ | refine z1 ?_ | refine z2 ?_ | refine z3 ?_ | refine z4 ?_ | refine z5 ?_ | refine z6 ?_ | refine z7 ?_ | refine z8 ?_ | refine y1 ?_ | refine y2 ?_ | refine y3 ?_ | refine y4 ?_ | refine y5 ?_ | refine y6 ?_ | refine y7 ?_ | refine y8 ?_ | refine Rt.p (fun _ => ?_) fun _ => ?_)
    | ((with_reducible apply w_ixM); (focus exact rfl); (focus exact rfl); case' hk => intro y hy) | ((with_reducible (first | apply w_val | apply q_ends)); (focus exact rfl)))
  refine w_loopK [0, 1, 7] [1000] (fun x : List Bond × List Bond => l = x.1 ++ x.2 ∧ x.1.any (fun x => !bondS set x) = false) (fun x => x.2.length) (fun x => [(8, .int .i64 x.1.length)]) (fun _ => []) ([], l) ⟨rfl, rfl⟩ ⟨rfl, trivial⟩ trivial ?_
  rintro ⟨pre, post⟩ ⟨hp, hq⟩ e σ
  dsimp only at hp hq ⊢
  have hlen := congrArg List.length hp
  cases post with
  | nil =>
    simp only [List.append_nil, List.length_append, List.length_nil] at hlen
    repeat' (first
      | with_reducible (first | refine Rd.p ?_ | refine zE ?_ | refine zE0 ?_)
      | with_reducible (first | refine zI fun y hy => ?_ | refine zL ?_ | refine zS ?_ | refine zA fun _ => ?_ | refine zV ?_ | refine zC ?_ | refine zG ?_ | refine zU ?_ | refine zG0 ?_ | refine zU0 ?_ | refine zF ?_)
      | with_reducible (first | refine zX ?_ | refine zD fun _ => ?_ | refine zD0 ?_ | refine zN ?_ | refine zF0 ?_ | refine zX0 ?_ | refine z1 ?_ | refine z2 ?_ | refine z3 ?_ | refine z4 ?_ | refine z5 ?_ | refine z6 ?_ | refine z7 ?_ | refine z8 ?_ | refine y1 ?_ | refine y2 ?_ | refine y3 ?_ | refine y4 ?_ | refine y5 ?_ | refine y6 ?_ | refine y7 ?_ | refine y8 ?_ | refine Rt.p (fun _ => ?_) fun _ => ?_)
      | ((with_reducible apply w_ixM); (focus exact rfl); (focus exact rfl); case' hk => intro y hy) | ((with_reducible (first | apply w_val | apply q_ends)); (focus exact rfl)))
    refine ⟨-1, ⟨rfl, ?_⟩, rfl, trivial⟩
    rw [hp, List.append_nil, hq]; simp
  | cons c post =>
    simp only [List.length_append, List.length_cons] at hlen
    have hc := hb c (by rw [hp]; simp)
    repeat' (first
      | with_reducible (first | refine Rd.p ?_ | refine zE ?_ | refine zE0 ?_)
      | (refine w_ixP hp rfl rfl ?_)
      | with_reducible (first | refine zI fun y hy => ?_ | refine zL ?_ | refine zS ?_ | refine zA fun _ => ?_ | refine zV ?_ | refine zC ?_ | refine zG ?_ | refine zU ?_ | refine zG0 ?_ | refine zU0 ?_ | refine zF ?_)
      | ((with_reducible refine acall_id ?_); refine ACall.liftS (inv1_c _ _ c hs hc.1 hc.2) [(1000, 1000)] none rfl rfl rfl ⟨⟨_, rfl⟩, trivial⟩ (fun _ => rfl) ?_; rintro _ _ rfl)
      | with_reducible (first | refine zX ?_ | refine zD fun _ => ?_ | refine zD0 ?_ | refine zN ?_ | refine zF0 ?_ | refine zX0 ?_ | refine z1 ?_ | refine z2 ?_ | refine z3 ?_ | refine z4 ?_ | refine z5 ?_ | refine z6 ?_ | refine z7 ?_ | refine z8 ?_ | refine y1 ?_ | refine y2 ?_ | refine y3 ?_ | refine y4 ?_ | refine y5 ?_ | refine y6 ?_ | refine y7 ?_ | refine y8 ?_ | refine Rt.p (fun _ => ?_) fun _ => ?_)
      | ((with_reducible apply w_ixM); (focus exact rfl); (focus exact rfl); case' hk => intro y hy) | ((with_reducible (first | apply w_val | apply q_ends)); (focus exact rfl)))
    · rename_i h
      refine ⟨pre.length, ⟨rfl, ?_⟩, rfl, trivial⟩
      rw [hp]; simp [h]
    · rename_i h
      refine zQ (pre ++ [c], post) ?_ ?_
      · dsimp only
        refine ⟨by rw [hp]; simp, ?_⟩
        rw [List.any_append, hq]; simp [h]
      · simp
theorem conB_c (g : Nat) (l : List Bond) (set : Nat) (hs : set < 2 ^ 62) (hl : l.length < 1000) (hb : ∀ x ∈ l, (0 ≤ x.a ∧ x.a < 62) ∧ 0 ≤ x.b ∧ x.b < 62) : RawC Try.prog 101 [.slc 3 (bR l) .non, .clo (.func 102) [] [.ref 1000 g 0]] (sg [(1000, (g, .row [.int .i64 set]))])
    (SR (fun _ : Unit => fun av => av = .bool (l.any (fun x => !bondS set x))) (fun _ => [(1000, (g, .row [.int .i64 set]))])) := by
  refine RawC.walk (H := hint101 Try.prog) ir101 Try.func101 rfl rfl rfl ?_
  unfold ir101
  repeat' (first
    | with_reducible (first | refine Rd.p ?_ | refine zE ?_ | refine zE0 ?_)
    | with_reducible (first | refine zI fun y hy => ?_ | refine zL ?_ | refine zS ?_ | refine zA fun _ => ?_ | refine zV ?_ | refine zC ?_ | refine zG ?_ | refine zU ?_ | refine zG0 ?_ | refine zU0 ?_ | refine zF ?_)
    | ((with_reducible refine acall_id ?_); refine ACall.liftS (idxB_c _ _ _ hs hl hb) [(1000, 1000)] none rfl rfl rfl ⟨⟨_, rfl⟩, trivial⟩ (fun _ => rfl) ?_; rintro k _ ⟨rfl, hk⟩)
    | with_reducible (first | refine zX ?_ | refine zD fun _ => ?_ | refine zD0 ?_ | refine zN ?_ | refine zF0 ?_ | refine zX0 ?_ | refine z1 ?_ | refine z2 ?_ | refine z3 ?_ | refine z4 ?_ | refine z5 ?_ | refine z6 ?_ | refine z7 ?_ | refine z8 ?_ | refine y1 ?_ | refine y2 ?_ | refine y3 ?_ | refine y4 ?_ | refine y5 ?_ | refine y6 ?_ | refine y7 ?_ | refine y8 ?_ | refine Rt.p (fun _ => ?_) fun _ => ?_)
    | ((with_reducible apply w_ixM); (focus exact rfl); (focus exact rfl); case' hk => intro y hy) | ((with_reducible (first | apply w_val | apply q_ends)); (focus exact rfl)))
  exact ⟨(), congrArg AV.bool (by rw [Bool.eq_iff_iff]; simpa using hk), rfl, trivial⟩
end Go.Abs
