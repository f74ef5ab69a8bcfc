/- A part of the proofs of the laws of this seat: contracts of the functions that they reach, each proved of the program's form in Lean. No condition beyond those that each contract names. -/
import Derived.Test.YtcgcciegekaliaaB0
import Derived.Test.YtcgcciegekaliaaB2
set_option linter.unusedVariables false
set_option linter.unusedSimpArgs false
set_option maxRecDepth 20000
set_option maxHeartbeats 4000000
/-! ### Lists of guests -/
namespace Go.Abs
open Go.Proofs
/-- aloeswood/aloeswoodref08.named -/
def ir110 : IFn :=
  ⟨28, [(2, none)], (.seq (.ops [⟨(some 2), none, (.mov (.k (.bool false)))⟩])
  (.seq (.seq (.ops [⟨(some 3), none, (.mov (.k (.int .i64 0)))⟩])
  (.blk 0 (.loop (.seq (.seq (.ops [⟨(some 4), none, (.mov (.t 3))⟩,
        ⟨(some 5), none, (.mov (.t 0))⟩,
        ⟨(some 6), none, (.len true (.t 5))⟩,
        ⟨(some 7), none, (.bin .lss (.t 4) (.t 6))⟩])
      (.cnd (.t 7)
        .skip
        (.exit 0)))
      (.seq (.blk 1 (.seq (.ops [⟨(some 10), none, (.mov (.t 0))⟩,
          ⟨(some 11), none, (.mov (.t 3))⟩,
          ⟨(some 12), none, (.ixS (.t 10) (.t 11))⟩,
          ⟨(some 13), none, (.bin .lss (.t 12) (.k (.int .u8 97)))⟩,
          ⟨(some 14), none, (.mov (.t 13))⟩,
          ⟨(some 15), (some (14, false)), (.mov (.t 0))⟩,
          ⟨(some 16), (some (14, false)), (.mov (.t 3))⟩,
          ⟨(some 17), (some (14, false)), (.ixS (.t 15) (.t 16))⟩,
          ⟨(some 18), (some (14, false)), (.bin .gtr (.t 17) (.k (.int .u8 122)))⟩,
          ⟨(some 19), none, (.pick (.t 14) (.k (.bool true)) (.t 18))⟩])
        (.cnd (.t 19)
          (.seq (.ops [⟨(some 2), none, (.mov (.k (.bool false)))⟩])
          .ret)
          .skip)))
      (.ops [⟨(some 8), none, (.mov (.t 3))⟩,
        ⟨(some 9), none, (.bin .add (.t 8) (.k (.int .i64 1)))⟩,
        ⟨(some 3), none, (.mov (.t 9))⟩]))))))
  (.seq (.ops [⟨(some 20), none, (.mov (.t 0))⟩,
    ⟨(some 21), none, (.len true (.t 20))⟩,
    ⟨(some 22), none, (.bin .geq (.t 21) (.k (.int .i64 1)))⟩,
    ⟨(some 23), none, (.mov (.t 22))⟩,
    ⟨(some 24), (some (23, true)), (.mov (.t 0))⟩,
    ⟨(some 25), (some (23, true)), (.len true (.t 24))⟩,
    ⟨(some 26), (some (23, true)), (.bin .leq (.t 25) (.k (.int .i64 8)))⟩,
    ⟨(some 27), none, (.pick (.t 23) (.t 26) (.k (.bool false)))⟩,
    ⟨(some 2), none, (.mov (.t 27))⟩])
  .ret)))⟩
def hint110 (P : Program) : Hint := {}

/-- aloeswood/aloeswoodref08.checkGuest -/
def ir79 : IFn :=
  ⟨29, [(2, none)], (.seq (.ops [⟨(some 1), none, (.box 5 (.t 0))⟩,
    ⟨(some 2), none, (.mov (.k (.int .i64 0)))⟩])
  (.seq (.seq (.ops [⟨(some 3), none, (.flA 0 (.t 1))⟩,
    ⟨(some 4), none, (.ld 1 false (.t 3))⟩,
    ⟨(some 5), none, (.callF 110 [(.t 4)])⟩,
    ⟨(some 6), none, (.not (.t 5))⟩])
  (.cnd (.t 6)
    (.seq (.ops [⟨(some 2), none, (.mov (.k (.int .i64 3)))⟩])
    .ret)
    .skip))
  (.seq (.seq (.ops [⟨(some 7), none, (.flA 1 (.t 1))⟩,
    ⟨(some 8), none, (.ld 1 false (.t 7))⟩,
    ⟨(some 9), none, (.callF 75 [(.t 8), (.k (.int .i64 0)), (.k (.int .i64 9))])⟩,
    ⟨(some 10), none, (.not (.t 9))⟩,
    ⟨(some 11), none, (.mov (.t 10))⟩,
    ⟨(some 12), (some (11, false)), (.flA 2 (.t 1))⟩,
    ⟨(some 13), (some (11, false)), (.ld 1 false (.t 12))⟩,
    ⟨(some 14), (some (11, false)), (.callF 75 [(.t 13), (.k (.int .i64 0)), (.k (.int .i64 1000))])⟩,
    ⟨(some 15), (some (11, false)), (.not (.t 14))⟩,
    ⟨(some 16), none, (.pick (.t 11) (.k (.bool true)) (.t 15))⟩,
    ⟨(some 17), none, (.mov (.t 16))⟩,
    ⟨(some 18), (some (17, false)), (.flA 3 (.t 1))⟩,
    ⟨(some 19), (some (17, false)), (.ld 1 false (.t 18))⟩,
    ⟨(some 20), (some (17, false)), (.callF 75 [(.t 19), (.k (.int .i64 0)), (.k (.int .i64 255))])⟩,
    ⟨(some 21), (some (17, false)), (.not (.t 20))⟩,
    ⟨(some 22), none, (.pick (.t 17) (.k (.bool true)) (.t 21))⟩,
    ⟨(some 23), none, (.mov (.t 22))⟩,
    ⟨(some 24), (some (23, false)), (.flA 4 (.t 1))⟩,
    ⟨(some 25), (some (23, false)), (.ld 1 false (.t 24))⟩,
    ⟨(some 26), (some (23, false)), (.callF 75 [(.t 25), (.k (.int .i64 0)), (.k (.int .i64 255))])⟩,
    ⟨(some 27), (some (23, false)), (.not (.t 26))⟩,
    ⟨(some 28), none, (.pick (.t 23) (.k (.bool true)) (.t 27))⟩])
  (.cnd (.t 28)
    (.seq (.ops [⟨(some 2), none, (.mov (.k (.int .i64 2)))⟩])
    .ret)
    .skip))
  (.seq (.ops [⟨(some 2), none, (.mov (.k (.int .i64 0)))⟩])
  .ret))))⟩
def hint79 (P : Program) : Hint := {}

/-- aloeswood/aloeswoodref08.checkGuests -/
def ir91 : IFn :=
  ⟨36, [(2, none)], (.seq (.ops [⟨(some 2), none, (.mov (.k (.int .i64 0)))⟩])
  (.seq (.seq (.ops [⟨(some 3), none, (.mov (.k (.int .i64 0)))⟩])
  (.blk 0 (.loop (.seq (.seq (.ops [⟨(some 6), none, (.mov (.t 3))⟩,
        ⟨(some 7), none, (.mov (.t 0))⟩,
        ⟨(some 8), none, (.len false (.t 7))⟩,
        ⟨(some 9), none, (.bin .lss (.t 6) (.t 8))⟩])
      (.cnd (.t 9)
        .skip
        (.exit 0)))
      (.seq (.blk 1 (.seq (.seq (.ops [⟨(some 12), none, (.mov (.t 0))⟩,
          ⟨(some 13), none, (.mov (.t 3))⟩,
          ⟨(some 14), none, (.ixA 5 (.t 12) (.t 13))⟩,
          ⟨(some 15), none, (.ld 5 true (.t 14))⟩,
          ⟨(some 16), none, (.callF 79 [(.t 15)])⟩,
          ⟨(some 4), none, (.mov (.t 16))⟩])
        (.seq (.ops [⟨(some 17), none, (.mov (.t 4))⟩,
          ⟨(some 18), none, (.bin .neq (.t 17) (.k (.int .i64 0)))⟩])
        (.cnd (.t 18)
          (.seq (.ops [⟨(some 19), none, (.mov (.t 4))⟩,
            ⟨(some 2), none, (.mov (.t 19))⟩])
          .ret)
          .skip)))
        (.seq (.ops [⟨(some 5), none, (.mov (.k (.int .i64 0)))⟩])
        (.blk 2 (.loop (.seq (.seq (.ops [⟨(some 20), none, (.mov (.t 5))⟩,
              ⟨(some 21), none, (.mov (.t 3))⟩,
              ⟨(some 22), none, (.bin .lss (.t 20) (.t 21))⟩])
            (.cnd (.t 22)
              .skip
              (.exit 2)))
            (.seq (.blk 3 (.seq (.ops [⟨(some 25), none, (.mov (.t 0))⟩,
                ⟨(some 26), none, (.mov (.t 5))⟩,
                ⟨(some 27), none, (.ixA 5 (.t 25) (.t 26))⟩,
                ⟨(some 28), none, (.flA 0 (.t 27))⟩,
                ⟨(some 29), none, (.ld 1 false (.t 28))⟩,
                ⟨(some 30), none, (.mov (.t 0))⟩,
                ⟨(some 31), none, (.mov (.t 3))⟩,
                ⟨(some 32), none, (.ixA 5 (.t 30) (.t 31))⟩,
                ⟨(some 33), none, (.flA 0 (.t 32))⟩,
                ⟨(some 34), none, (.ld 1 false (.t 33))⟩,
                ⟨(some 35), none, (.bin .eql (.t 29) (.t 34))⟩])
              (.cnd (.t 35)
                (.seq (.ops [⟨(some 2), none, (.mov (.k (.int .i64 9)))⟩])
                .ret)
                .skip)))
            (.ops [⟨(some 23), none, (.mov (.t 5))⟩,
              ⟨(some 24), none, (.bin .add (.t 23) (.k (.int .i64 1)))⟩,
              ⟨(some 5), none, (.mov (.t 24))⟩]))))))))
      (.ops [⟨(some 10), none, (.mov (.t 3))⟩,
        ⟨(some 11), none, (.bin .add (.t 10) (.k (.int .i64 1)))⟩,
        ⟨(some 3), none, (.mov (.t 11))⟩]))))))
  (.seq (.ops [⟨(some 2), none, (.mov (.k (.int .i64 0)))⟩])
  .ret)))⟩
def hint91 (P : Program) : Hint := {}

/-- aloeswood/aloeswoodref08.checkKnown -/
def ir73 : IFn :=
  ⟨8, [(2, none)], (.seq (.ops [⟨(some 2), none, (.mov (.k (.int .i64 0)))⟩])
  (.seq (.seq (.ops [⟨(some 3), none, (.mov (.t 0))⟩,
    ⟨(some 4), none, (.len false (.t 3))⟩,
    ⟨(some 5), none, (.bin .gtr (.t 4) (.k (.int .i64 10)))⟩])
  (.cnd (.t 5)
    (.seq (.ops [⟨(some 2), none, (.mov (.k (.int .i64 8)))⟩])
    .ret)
    .skip))
  (.seq (.ops [⟨(some 6), none, (.mov (.t 0))⟩,
    ⟨(some 7), none, (.callF 91 [(.t 6)])⟩,
    ⟨(some 2), none, (.mov (.t 7))⟩])
  .ret)))⟩
def hint73 (P : Program) : Hint := {}

/-- aloeswood/seat.checkGuests -/
def ir66 : IFn :=
  ⟨24, [(2, none)], (.seq (.ops [⟨(some 2), none, (.mov (.k (.int .i64 0)))⟩])
  (.seq (.seq (.ops [⟨(some 6), none, (.mov (.t 0))⟩,
    ⟨(some 7), none, (.len false (.t 6))⟩,
    ⟨(some 8), none, (.mov (.k (.int .i64 0)))⟩])
  (.blk 0 (.loop (.seq (.ops [⟨(some 9), none, (.bin .lss (.t 8) (.t 7))⟩])
      (.seq (.cnd (.t 9)
        .skip
        (.exit 0))
      (.seq (.blk 1 (.seq (.ops [⟨(some 10), none, (.mov (.t 8))⟩,
          ⟨(some 11), none, (.ixA 5 (.t 6) (.t 8))⟩,
          ⟨(some 12), none, (.ld 5 true (.t 11))⟩,
          ⟨(some 4), none, (.new [(.str ByteArray.empty), (.int .i64 0), (.int .i64 0), (.int .i64 0), (.int .i64 0)])⟩,
          ⟨(some 3), none, (.mov (.t 10))⟩,
          ⟨none, none, (.st 5 (.t 4) (.t 12))⟩])
        (.seq (.seq (.ops [⟨(some 13), none, (.ld 5 true (.t 4))⟩,
          ⟨(some 14), none, (.callF 78 [(.t 13)])⟩,
          ⟨(some 5), none, (.mov (.t 14))⟩])
        (.seq (.ops [⟨(some 15), none, (.mov (.t 5))⟩,
          ⟨(some 16), none, (.bin .neq (.t 15) (.k (.int .i64 0)))⟩])
        (.cnd (.t 16)
          (.seq (.ops [⟨(some 17), none, (.mov (.t 5))⟩,
            ⟨(some 2), none, (.mov (.t 17))⟩])
          .ret)
          .skip)))
        (.seq (.ops [⟨(some 18), none, (.mov (.t 0))⟩,
          ⟨(some 19), none, (.mov (.t 3))⟩,
          ⟨(some 20), none, (.slS 5 (.t 18) none (some (.t 19)) none)⟩,
          ⟨(some 21), none, (.mkf (.func 109) [] [(.t 4)])⟩,
          ⟨(some 22), none, (.callF 108 [(.t 20), (.t 21)])⟩])
        (.cnd (.t 22)
          (.seq (.ops [⟨(some 2), none, (.mov (.k (.int .i64 9)))⟩])
          .ret)
          .skip)))))
      (.ops [⟨(some 23), none, (.bin .add (.t 8) (.k (.int .i64 1)))⟩,
        ⟨(some 8), none, (.mov (.t 23))⟩])))))))
  (.seq (.ops [⟨(some 2), none, (.mov (.k (.int .i64 0)))⟩])
  .ret)))⟩
def hint66 (P : Program) : Hint := {}

/-- aloeswood/seat.checkGuests$1 -/
def ir109 : IFn :=
  ⟨9, [(3, none)], (.seq (.ops [⟨(some 2), none, (.box 5 (.t 0))⟩,
    ⟨(some 3), none, (.mov (.k (.bool false)))⟩])
  (.seq (.ops [⟨(some 4), none, (.flA 0 (.t 2))⟩,
    ⟨(some 5), none, (.ld 1 false (.t 4))⟩,
    ⟨(some 6), none, (.flA 0 (.t 1))⟩,
    ⟨(some 7), none, (.ld 1 false (.t 6))⟩,
    ⟨(some 8), none, (.bin .eql (.t 5) (.t 7))⟩,
    ⟨(some 3), none, (.mov (.t 8))⟩])
  .ret))⟩
def hint109 (P : Program) : Hint := {}

/-- slices.IndexFunc[[]aloeswood/api.Guest,aloeswood/api.Guest] -/
def ir123 : IFn :=
  ⟨19, [(4, none)], (.seq (.ops [⟨(some 4), none, (.mov (.k (.int .i64 0)))⟩])
  (.seq (.seq (.ops [⟨(some 6), none, (.mov (.t 0))⟩,
    ⟨(some 7), none, (.len false (.t 6))⟩,
    ⟨(some 8), none, (.mov (.k (.int .i64 0)))⟩])
  (.blk 0 (.loop (.seq (.ops [⟨(some 9), none, (.bin .lss (.t 8) (.t 7))⟩])
      (.seq (.cnd (.t 9)
        .skip
        (.exit 0))
      (.seq (.blk 1 (.seq (.ops [⟨(some 10), none, (.mov (.t 8))⟩,
          ⟨(some 5), none, (.mov (.t 10))⟩])
        (.seq (.ops [⟨(some 11), none, (.mov (.t 1))⟩,
          ⟨(some 12), none, (.mov (.t 0))⟩,
          ⟨(some 13), none, (.mov (.t 5))⟩,
          ⟨(some 14), none, (.ixA 5 (.t 12) (.t 13))⟩,
          ⟨(some 15), none, (.ld 5 true (.t 14))⟩,
          ⟨(some 16), none, (.callV (.t 11) [(.t 15)])⟩])
        (.cnd (.t 16)
          (.seq (.ops [⟨(some 17), none, (.mov (.t 5))⟩,
            ⟨(some 4), none, (.mov (.t 17))⟩])
          .ret)
          .skip))))
      (.ops [⟨(some 18), none, (.bin .add (.t 8) (.k (.int .i64 1)))⟩,
        ⟨(some 8), none, (.mov (.t 18))⟩])))))))
  (.seq (.ops [⟨(some 4), none, (.mov (.k (.int .i64 (-1))))⟩])
  .ret)))⟩
def hint123 (P : Program) : Hint := {}

/-- slices.ContainsFunc[[]aloeswood/api.Guest,aloeswood/api.Guest] -/
def ir108 : IFn :=
  ⟨9, [(4, none)], (.seq (.ops [⟨(some 4), none, (.mov (.k (.bool false)))⟩])
  (.seq (.ops [⟨(some 5), none, (.mov (.t 0))⟩,
    ⟨(some 6), none, (.mov (.t 1))⟩,
    ⟨(some 7), none, (.callF 123 [(.t 5), (.t 6)])⟩,
    ⟨(some 8), none, (.bin .geq (.t 7) (.k (.int .i64 0)))⟩,
    ⟨(some 4), none, (.mov (.t 8))⟩])
  .ret))⟩
def hint108 (P : Program) : Hint := {}

/-- aloeswood/seat.eats -/
def ir70 : IFn :=
  ⟨19, [(4, none)], (.seq (.ops [⟨(some 2), none, (.box 5 (.t 0))⟩,
    ⟨(some 3), none, (.box 3 (.t 1))⟩,
    ⟨(some 4), none, (.mov (.k (.int .i64 0)))⟩])
  (.seq (.blk 0 (.seq (.ops [⟨(some 6), none, (.flA 1 (.t 3))⟩,
      ⟨(some 7), none, (.ld 1 false (.t 6))⟩,
      ⟨(some 8), none, (.flA 3 (.t 2))⟩,
      ⟨(some 9), none, (.ld 1 false (.t 8))⟩,
      ⟨(some 10), none, (.bin .and (.t 7) (.t 9))⟩,
      ⟨(some 11), none, (.bin .neq (.t 10) (.k (.int .i64 0)))⟩,
      ⟨(some 5), none, (.mov (.t 11))⟩])
    (.cnd (.t 5)
      (.seq (.ops [⟨(some 4), none, (.mov (.k (.int .i64 2)))⟩])
      .ret)
      (.seq (.ops [⟨(some 13), none, (.flA 1 (.t 3))⟩,
        ⟨(some 14), none, (.ld 1 false (.t 13))⟩,
        ⟨(some 15), none, (.flA 4 (.t 2))⟩,
        ⟨(some 16), none, (.ld 1 false (.t 15))⟩,
        ⟨(some 17), none, (.bin .and (.t 14) (.t 16))⟩,
        ⟨(some 18), none, (.bin .neq (.t 17) (.k (.int .i64 0)))⟩,
        ⟨(some 12), none, (.mov (.t 18))⟩])
      (.cnd (.t 12)
        (.seq (.ops [⟨(some 4), none, (.mov (.k (.int .i64 3)))⟩])
        .ret)
        .skip)))))
  (.seq (.ops [⟨(some 4), none, (.mov (.k (.int .i64 1)))⟩])
  .ret)))⟩
def hint70 (P : Program) : Hint := {}

/-- aloeswood/aloeswoodref08.eats -/
def ir80 : IFn :=
  ⟨17, [(4, none)], (.seq (.ops [⟨(some 2), none, (.box 5 (.t 0))⟩,
    ⟨(some 3), none, (.box 3 (.t 1))⟩,
    ⟨(some 4), none, (.mov (.k (.int .i64 0)))⟩])
  (.seq (.seq (.ops [⟨(some 5), none, (.flA 1 (.t 3))⟩,
    ⟨(some 6), none, (.ld 1 false (.t 5))⟩,
    ⟨(some 7), none, (.flA 3 (.t 2))⟩,
    ⟨(some 8), none, (.ld 1 false (.t 7))⟩,
    ⟨(some 9), none, (.bin .and (.t 6) (.t 8))⟩,
    ⟨(some 10), none, (.bin .neq (.t 9) (.k (.int .i64 0)))⟩])
  (.cnd (.t 10)
    (.seq (.ops [⟨(some 4), none, (.mov (.k (.int .i64 2)))⟩])
    .ret)
    .skip))
  (.seq (.seq (.ops [⟨(some 11), none, (.flA 1 (.t 3))⟩,
    ⟨(some 12), none, (.ld 1 false (.t 11))⟩,
    ⟨(some 13), none, (.flA 4 (.t 2))⟩,
    ⟨(some 14), none, (.ld 1 false (.t 13))⟩,
    ⟨(some 15), none, (.bin .and (.t 12) (.t 14))⟩,
    ⟨(some 16), none, (.bin .neq (.t 15) (.k (.int .i64 0)))⟩])
  (.cnd (.t 16)
    (.seq (.ops [⟨(some 4), none, (.mov (.k (.int .i64 3)))⟩])
    .ret)
    .skip))
  (.seq (.ops [⟨(some 4), none, (.mov (.k (.int .i64 1)))⟩])
  .ret))))⟩
def hint80 (P : Program) : Hint := {}

/-- aloeswood/seat.Eats -/
def ir26 : IFn :=
  ⟨21, [(4, none), (5, none)], (.seq (.ops [⟨(some 2), none, (.box 5 (.t 0))⟩,
    ⟨(some 3), none, (.box 3 (.t 1))⟩,
    ⟨(some 4), none, (.mov (.k (.int .i64 0)))⟩,
    ⟨(some 5), none, (.mov (.k (.int .i64 0)))⟩])
  (.seq (.seq (.ops [⟨(some 8), none, (.ld 5 true (.t 2))⟩,
    ⟨(some 9), none, (.callF 78 [(.t 8)])⟩,
    ⟨(some 6), none, (.mov (.t 9))⟩])
  (.seq (.ops [⟨(some 10), none, (.mov (.t 6))⟩,
    ⟨(some 11), none, (.bin .neq (.t 10) (.k (.int .i64 0)))⟩])
  (.cnd (.t 11)
    (.seq (.ops [⟨(some 12), none, (.mov (.t 6))⟩,
      ⟨(some 4), none, (.mov (.k (.int .i64 0)))⟩,
      ⟨(some 5), none, (.mov (.t 12))⟩])
    .ret)
    .skip)))
  (.seq (.seq (.ops [⟨(some 13), none, (.ld 3 true (.t 3))⟩,
    ⟨(some 14), none, (.callF 67 [(.t 13)])⟩,
    ⟨(some 7), none, (.mov (.t 14))⟩])
  (.seq (.ops [⟨(some 15), none, (.mov (.t 7))⟩,
    ⟨(some 16), none, (.bin .neq (.t 15) (.k (.int .i64 0)))⟩])
  (.cnd (.t 16)
    (.seq (.ops [⟨(some 17), none, (.mov (.t 7))⟩,
      ⟨(some 4), none, (.mov (.k (.int .i64 0)))⟩,
      ⟨(some 5), none, (.mov (.t 17))⟩])
    .ret)
    .skip)))
  (.seq (.ops [⟨(some 18), none, (.ld 5 true (.t 2))⟩,
    ⟨(some 19), none, (.ld 3 true (.t 3))⟩,
    ⟨(some 20), none, (.callF 70 [(.t 18), (.t 19)])⟩,
    ⟨(some 4), none, (.mov (.t 20))⟩,
    ⟨(some 5), none, (.mov (.k (.int .i64 0)))⟩])
  .ret))))⟩
def hint26 (P : Program) : Hint := {}

/-- aloeswood/aloeswoodref08.Eats -/
def ir27 : IFn :=
  ⟨21, [(4, none), (5, none)], (.seq (.ops [⟨(some 2), none, (.box 5 (.t 0))⟩,
    ⟨(some 3), none, (.box 3 (.t 1))⟩,
    ⟨(some 4), none, (.mov (.k (.int .i64 0)))⟩,
    ⟨(some 5), none, (.mov (.k (.int .i64 0)))⟩])
  (.seq (.seq (.ops [⟨(some 8), none, (.ld 5 true (.t 2))⟩,
    ⟨(some 9), none, (.callF 79 [(.t 8)])⟩,
    ⟨(some 6), none, (.mov (.t 9))⟩])
  (.seq (.ops [⟨(some 10), none, (.mov (.t 6))⟩,
    ⟨(some 11), none, (.bin .neq (.t 10) (.k (.int .i64 0)))⟩])
  (.cnd (.t 11)
    (.seq (.ops [⟨(some 12), none, (.mov (.t 6))⟩,
      ⟨(some 4), none, (.mov (.k (.int .i64 0)))⟩,
      ⟨(some 5), none, (.mov (.t 12))⟩])
    .ret)
    .skip)))
  (.seq (.seq (.ops [⟨(some 13), none, (.ld 3 true (.t 3))⟩,
    ⟨(some 14), none, (.callF 74 [(.t 13)])⟩,
    ⟨(some 7), none, (.mov (.t 14))⟩])
  (.seq (.ops [⟨(some 15), none, (.mov (.t 7))⟩,
    ⟨(some 16), none, (.bin .neq (.t 15) (.k (.int .i64 0)))⟩])
  (.cnd (.t 16)
    (.seq (.ops [⟨(some 17), none, (.mov (.t 7))⟩,
      ⟨(some 4), none, (.mov (.k (.int .i64 0)))⟩,
      ⟨(some 5), none, (.mov (.t 17))⟩])
    .ret)
    .skip)))
  (.seq (.ops [⟨(some 18), none, (.ld 5 true (.t 2))⟩,
    ⟨(some 19), none, (.ld 3 true (.t 3))⟩,
    ⟨(some 20), none, (.callF 80 [(.t 18), (.t 19)])⟩,
    ⟨(some 4), none, (.mov (.t 20))⟩,
    ⟨(some 5), none, (.mov (.k (.int .i64 0)))⟩])
  .ret))))⟩
def hint27 (P : Program) : Hint := {}

theorem named_c (s : ByteArray) (hs : s.size ≤ 1000) : Fn0 Try.prog 110 [.str s] (fun v => v = .bool (namedB s)) := by
  refine RawC.walk (H := hint110 Try.prog) ir110 Try.func110 rfl rfl rfl ?_
  unfold ir110
  repeat' (first
    | with_reducible (first | refine Rd.p ?_ | refine zE ?_ | refine zE0 ?_)
    | with_reducible (first | refine zI fun y hy => ?_ | refine zL ?_ | refine zS ?_ | refine zA fun _ => ?_ | refine zV ?_ | refine zC ?_ | refine zG ?_ | refine zU ?_ | refine zG0 ?_ | refine zU0 ?_ | refine zF ?_)
    | with_reducible (first | refine zX ?_ | refine zD fun _ => ?_ | refine zD0 ?_ | refine zN ?_ | refine zF0 ?_ | refine zX0 ?_ | refine z1 ?_ | refine z2 ?_ | refine z3 ?_ | refine z4 ?_ | refine z5 ?_ | refine z6 ?_ | refine z7 ?_ | refine z8 ?_ | refine y1 ?_ | refine y2 ?_ | refine y3 ?_ | refine y4 ?_ | refine y5 ?_ | refine y6 ?_ | refine y7 ?_ | refine y8 ?_ | refine Rt.p (fun _ => ?_) fun _ => ?_)
    | ((with_reducible apply w_ixM); (focus exact rfl); (focus exact rfl); case' hk => intro y hy) | ((with_reducible (first | apply w_val | apply q_ends)); (focus exact rfl)))
  have hsz : s.data.toList.length = s.size := by simp
  refine w_loopK [0] [] (fun x : List UInt8 × List UInt8 => s.data.toList = x.1 ++ x.2 ∧ x.1.all letB = true) (fun x => x.2.length) (fun x => [(3, .int .i64 x.1.length)]) (fun _ => []) ([], s.data.toList) ⟨rfl, rfl⟩ ⟨rfl, trivial⟩ trivial ?_
  rintro ⟨pre, post⟩ ⟨hl, hb⟩ e σ
  dsimp only at hl hb ⊢
  have hlen := congrArg List.length hl
  cases post with
  | nil =>
    simp only [List.append_nil, List.length_append, List.length_nil] at hlen
    repeat' (first
      | with_reducible (first | refine Rd.p ?_ | refine zE ?_ | refine zE0 ?_)
      | with_reducible (first | refine zI fun y hy => ?_ | refine zL ?_ | refine zS ?_ | refine zA fun _ => ?_ | refine zV ?_ | refine zC ?_ | refine zG ?_ | refine zU ?_ | refine zG0 ?_ | refine zU0 ?_ | refine zF ?_)
      | with_reducible (first | refine zX ?_ | refine zD fun _ => ?_ | refine zD0 ?_ | refine zN ?_ | refine zF0 ?_ | refine zX0 ?_ | refine z1 ?_ | refine z2 ?_ | refine z3 ?_ | refine z4 ?_ | refine z5 ?_ | refine z6 ?_ | refine z7 ?_ | refine z8 ?_ | refine y1 ?_ | refine y2 ?_ | refine y3 ?_ | refine y4 ?_ | refine y5 ?_ | refine y6 ?_ | refine y7 ?_ | refine y8 ?_ | refine Rt.p (fun _ => ?_) fun _ => ?_)
      | ((with_reducible apply w_ixM); (focus exact rfl); (focus exact rfl); case' hk => intro y hy) | ((with_reducible (first | apply w_val | apply q_ends)); (focus exact rfl)))
    all_goals (refine congrArg AV.bool ?_; unfold namedB inB; rw [hl, List.append_nil, hb]; simp; omega)
  | cons c post =>
    simp only [List.length_append, List.length_cons] at hlen
    have hc : s.data.toList.getD ((pre.length : Int)).toNat 0 = c := by rw [hl]; simp
    have hn : letB c = decide (97 ≤ (c.toNat : Int) ∧ (c.toNat : Int) ≤ 122) := rfl
    have hbad : letB c = false → namedB s = false := fun h => by unfold namedB; rw [hl]; simp [h]
    repeat' (first
      | with_reducible (first | refine Rd.p ?_ | refine zE ?_ | refine zE0 ?_)
      | with_reducible (first | refine zI fun y hy => ?_ | refine zL ?_ | refine zS ?_ | refine zA fun _ => ?_ | refine zV ?_ | refine zC ?_ | refine zG ?_ | refine zU ?_ | refine zG0 ?_ | refine zU0 ?_ | refine zF ?_)
      | with_reducible (first | refine zX ?_ | refine zD fun _ => ?_ | refine zD0 ?_ | refine zN ?_ | refine zF0 ?_ | refine zX0 ?_ | refine z1 ?_ | refine z2 ?_ | refine z3 ?_ | refine z4 ?_ | refine z5 ?_ | refine z6 ?_ | refine z7 ?_ | refine z8 ?_ | refine y1 ?_ | refine y2 ?_ | refine y3 ?_ | refine y4 ?_ | refine y5 ?_ | refine y6 ?_ | refine y7 ?_ | refine y8 ?_ | refine Rt.p (fun _ => ?_) fun _ => ?_)
      | ((with_reducible apply w_ixM); (focus exact rfl); (focus exact rfl); case' hk => intro y hy) | ((with_reducible (first | apply w_val | apply q_ends)); (focus exact rfl)))
    all_goals rw [hc] at *
    · exact congrArg AV.bool (hbad (by rw [hn]; simp; omega)).symm
    · exact congrArg AV.bool (hbad (by rw [hn]; simp; omega)).symm
    · refine zQ (pre ++ [c], post) ?_ ?_
      · dsimp only
        refine ⟨by rw [hl]; simp, ?_⟩
        rw [List.all_append, hb]; simp [hn]; omega
      · simp
theorem rcheckGuest_c (g : Guest) (hs : g.name.size ≤ 1000) : Fn0 Try.prog 79 [gA g] (fun v => v = .int .i64 (gErr g)) := by
  refine RawC.walk (H := hint79 Try.prog) ir79 Try.func79 rfl rfl rfl ?_
  unfold ir79
  repeat' (first
    | with_reducible (first | refine Rd.p ?_ | refine zE ?_ | refine zE0 ?_)
    | with_reducible (first | refine zI fun y hy => ?_ | refine zL ?_ | refine zS ?_ | refine zA fun _ => ?_ | refine zV ?_ | refine zC ?_ | refine zG ?_ | refine zU ?_ | refine zG0 ?_ | refine zU0 ?_ | refine zF ?_)
    | ((with_reducible refine acall_id ?_); refine ACall.val (within_c _ _ _) rfl rfl ?_)
    | ((with_reducible refine acall_id ?_); refine ACall.val (named_c _ hs) rfl rfl ?_)
    | with_reducible (first | refine zX ?_ | refine zD fun _ => ?_ | refine zD0 ?_ | refine zN ?_ | refine zF0 ?_ | refine zX0 ?_ | refine z1 ?_ | refine z2 ?_ | refine z3 ?_ | refine z4 ?_ | refine z5 ?_ | refine z6 ?_ | refine z7 ?_ | refine z8 ?_ | refine y1 ?_ | refine y2 ?_ | refine y3 ?_ | refine y4 ?_ | refine y5 ?_ | refine y6 ?_ | refine y7 ?_ | refine y8 ?_ | refine Rt.p (fun _ => ?_) fun _ => ?_)
    | ((with_reducible apply w_ixM); (focus exact rfl); (focus exact rfl); case' hk => intro y hy) | ((with_reducible (first | apply w_val | apply q_ends)); (focus exact rfl)))
  all_goals (rw [gErr_eq]; simp_all [tupV, untag, untagL, gOK])
theorem cg1_c (g : Nat) (x y : Guest) : RawC Try.prog 109 [gA x, .ref 1000 g 0] (sg [(1000, (g, .row (Guest.row y)))]) (SR (fun _ : Unit => fun av => av = .bool (decide (x.name = y.name))) (fun _ => [(1000, (g, .row (Guest.row y)))])) := by
  refine RawC.walk (H := hint109 Try.prog) ir109 Try.func109 rfl rfl rfl ?_
  unfold ir109
  repeat' (first
    | with_reducible (first | refine Rd.p ?_ | refine zE ?_ | refine zE0 ?_)
    | with_reducible (first | refine zI fun y hy => ?_ | refine zL ?_ | refine zS ?_ | refine zA fun _ => ?_ | refine zV ?_ | refine zC ?_ | refine zG ?_ | refine zU ?_ | refine zG0 ?_ | refine zU0 ?_ | refine zF ?_)
    | with_reducible (first | refine zX ?_ | refine zD fun _ => ?_ | refine zD0 ?_ | refine zN ?_ | refine zF0 ?_ | refine zX0 ?_ | refine z1 ?_ | refine z2 ?_ | refine z3 ?_ | refine z4 ?_ | refine z5 ?_ | refine z6 ?_ | refine z7 ?_ | refine z8 ?_ | refine y1 ?_ | refine y2 ?_ | refine y3 ?_ | refine y4 ?_ | refine y5 ?_ | refine y6 ?_ | refine y7 ?_ | refine y8 ?_ | refine Rt.p (fun _ => ?_) fun _ => ?_)
    | ((with_reducible apply w_ixM); (focus exact rfl); (focus exact rfl); case' hk => intro y hy) | ((with_reducible (first | apply w_val | apply q_ends)); (focus exact rfl)))
  exact ⟨(), rfl, rfl, trivial⟩
theorem idxG_c (g : Nat) (l : List Guest) (y : Guest) (hl : l.length < 1000) : RawC Try.prog 123 [.slc 5 (gR l) .non, .clo (.func 109) [] [.ref 1000 g 0]] (sg [(1000, (g, .row (Guest.row y)))])
    (SR (fun k : Int => fun av => av = .int .i64 k ∧ (0 ≤ k ↔ l.any (fun x => decide (x.name = y.name)) = true)) (fun _ => [(1000, (g, .row (Guest.row y)))])) := by
  refine RawC.walk (H := hint123 Try.prog) ir123 Try.func123 rfl rfl rfl ?_
  unfold ir123
  repeat' (first
    | with_reducible (first | refine Rd.p ?_ | refine zE ?_ | refine zE0 ?_)
    | with_reducible (first | refine zI fun y hy => ?_ | refine zL ?_ | refine zS ?_ | refine zA fun _ => ?_ | refine zV ?_ | refine zC ?_ | refine zG ?_ | refine zU ?_ | refine zG0 ?_ | refine zU0 ?_ | refine zF ?_)
    | with_reducible (first | refine zX ?_ | refine zD fun _ => ?_ | refine zD0 ?_ | refine zN ?_ | refine zF0 ?_ | refine zX0 ?_ | refine z1 ?_ | refine z2 ?_ | refine z3 ?_ | refine z4 ?_ | refine z5 ?_ | refine z6 ?_ | refine z7 ?_ | refine z8 ?_ | refine y1 ?_ | refine y2 ?_ | refine y3 ?_ | refine y4 ?_ | refine y5 ?_ | refine y6 ?_ | refine y7 ?_ | refine y8 ?_ | refine Rt.p (fun _ => ?_) fun _ => ?_)
    | ((with_reducible apply w_ixM); (focus exact rfl); (focus exact rfl); case' hk => intro y hy) | ((with_reducible (first | apply w_val | apply q_ends)); (focus exact rfl)))
  refine w_loopK [0, 1, 7] [1000] (fun x : List Guest × List Guest => l = x.1 ++ x.2 ∧ x.1.any (fun x => decide (x.name = y.name)) = false) (fun x => x.2.length) (fun x => [(8, .int .i64 x.1.length)]) (fun _ => []) ([], l) ⟨rfl, rfl⟩ ⟨rfl, trivial⟩ trivial ?_
  rintro ⟨pre, post⟩ ⟨hl, hb⟩ e σ
  dsimp only at hl hb ⊢
  have hlen := congrArg List.length hl
  cases post with
  | nil =>
    simp only [List.append_nil, List.length_append, List.length_nil] at hlen
    repeat' (first
      | with_reducible (first | refine Rd.p ?_ | refine zE ?_ | refine zE0 ?_)
      | with_reducible (first | refine zI fun y hy => ?_ | refine zL ?_ | refine zS ?_ | refine zA fun _ => ?_ | refine zV ?_ | refine zC ?_ | refine zG ?_ | refine zU ?_ | refine zG0 ?_ | refine zU0 ?_ | refine zF ?_)
      | with_reducible (first | refine zX ?_ | refine zD fun _ => ?_ | refine zD0 ?_ | refine zN ?_ | refine zF0 ?_ | refine zX0 ?_ | refine z1 ?_ | refine z2 ?_ | refine z3 ?_ | refine z4 ?_ | refine z5 ?_ | refine z6 ?_ | refine z7 ?_ | refine z8 ?_ | refine y1 ?_ | refine y2 ?_ | refine y3 ?_ | refine y4 ?_ | refine y5 ?_ | refine y6 ?_ | refine y7 ?_ | refine y8 ?_ | refine Rt.p (fun _ => ?_) fun _ => ?_)
      | ((with_reducible apply w_ixM); (focus exact rfl); (focus exact rfl); case' hk => intro y hy) | ((with_reducible (first | apply w_val | apply q_ends)); (focus exact rfl)))
    refine ⟨-1, ⟨rfl, ?_⟩, rfl, trivial⟩
    rw [hl, List.append_nil, hb]; simp
  | cons c post =>
    simp only [List.length_append, List.length_cons] at hlen
    repeat' (first
      | with_reducible (first | refine Rd.p ?_ | refine zE ?_ | refine zE0 ?_)
      | (refine w_ixP hl rfl rfl ?_)
      | with_reducible (first | refine zI fun y hy => ?_ | refine zL ?_ | refine zS ?_ | refine zA fun _ => ?_ | refine zV ?_ | refine zC ?_ | refine zG ?_ | refine zU ?_ | refine zG0 ?_ | refine zU0 ?_ | refine zF ?_)
      | ((with_reducible refine acall_id ?_); refine ACall.liftS (cg1_c _ _ _) [(1000, 1000)] none rfl rfl rfl ⟨⟨_, rfl⟩, trivial⟩ (fun _ => rfl) ?_; rintro _ _ rfl)
      | with_reducible (first | refine zX ?_ | refine zD fun _ => ?_ | refine zD0 ?_ | refine zN ?_ | refine zF0 ?_ | refine zX0 ?_ | refine z1 ?_ | refine z2 ?_ | refine z3 ?_ | refine z4 ?_ | refine z5 ?_ | refine z6 ?_ | refine z7 ?_ | refine z8 ?_ | refine y1 ?_ | refine y2 ?_ | refine y3 ?_ | refine y4 ?_ | refine y5 ?_ | refine y6 ?_ | refine y7 ?_ | refine y8 ?_ | refine Rt.p (fun _ => ?_) fun _ => ?_)
      | ((with_reducible apply w_ixM); (focus exact rfl); (focus exact rfl); case' hk => intro y hy) | ((with_reducible (first | apply w_val | apply q_ends)); (focus exact rfl)))
    · rename_i h
      refine ⟨pre.length, ⟨rfl, ?_⟩, rfl, trivial⟩
      rw [hl]; simp [h]
    · rename_i h
      refine zQ (pre ++ [c], post) ?_ ?_
      · dsimp only
        refine ⟨by rw [hl]; simp, ?_⟩
        rw [List.any_append, hb]; simp [h]
      · simp
theorem conG_c (g : Nat) (l : List Guest) (y : Guest) (hl : l.length < 1000) : RawC Try.prog 108 [.slc 5 (gR l) .non, .clo (.func 109) [] [.ref 1000 g 0]] (sg [(1000, (g, .row (Guest.row y)))])
    (SR (fun _ : Unit => fun av => av = .bool (l.any (fun x => decide (x.name = y.name)))) (fun _ => [(1000, (g, .row (Guest.row y)))])) := by
  refine RawC.walk (H := hint108 Try.prog) ir108 Try.func108 rfl rfl rfl ?_
  unfold ir108
  repeat' (first
    | with_reducible (first | refine Rd.p ?_ | refine zE ?_ | refine zE0 ?_)
    | with_reducible (first | refine zI fun y hy => ?_ | refine zL ?_ | refine zS ?_ | refine zA fun _ => ?_ | refine zV ?_ | refine zC ?_ | refine zG ?_ | refine zU ?_ | refine zG0 ?_ | refine zU0 ?_ | refine zF ?_)
    | ((with_reducible refine acall_id ?_); refine ACall.liftS (idxG_c _ _ _ hl) [(1000, 1000)] none rfl rfl rfl ⟨⟨_, rfl⟩, trivial⟩ (fun _ => rfl) ?_; rintro k _ ⟨rfl, hk⟩)
    | with_reducible (first | refine zX ?_ | refine zD fun _ => ?_ | refine zD0 ?_ | refine zN ?_ | refine zF0 ?_ | refine zX0 ?_ | refine z1 ?_ | refine z2 ?_ | refine z3 ?_ | refine z4 ?_ | refine z5 ?_ | refine z6 ?_ | refine z7 ?_ | refine z8 ?_ | refine y1 ?_ | refine y2 ?_ | refine y3 ?_ | refine y4 ?_ | refine y5 ?_ | refine y6 ?_ | refine y7 ?_ | refine y8 ?_ | refine Rt.p (fun _ => ?_) fun _ => ?_)
    | ((with_reducible apply w_ixM); (focus exact rfl); (focus exact rfl); case' hk => intro y hy) | ((with_reducible (first | apply w_val | apply q_ends)); (focus exact rfl)))
  exact ⟨(), congrArg AV.bool (by rw [Bool.eq_iff_iff]; simpa using hk), rfl, trivial⟩
theorem checkGuests_c (l : List Guest) (hl : l.length < 1000) (hs : ∀ g ∈ l, g.name.size ≤ 1000) : Fn0 Try.prog 66 [.slc 5 (gR l) .non] (fun v => v = .int .i64 (gsErr [] l)) := by
  refine RawC.walk (H := hint66 Try.prog) ir66 Try.func66 rfl rfl rfl ?_
  unfold ir66
  repeat' (first
    | with_reducible (first | refine Rd.p ?_ | refine zE ?_ | refine zE0 ?_)
    | with_reducible (first | refine zI fun y hy => ?_ | refine zL ?_ | refine zS ?_ | refine zA fun _ => ?_ | refine zV ?_ | refine zC ?_ | refine zG ?_ | refine zU ?_ | refine zG0 ?_ | refine zU0 ?_ | refine zF ?_)
    | with_reducible (first | refine zX ?_ | refine zD fun _ => ?_ | refine zD0 ?_ | refine zN ?_ | refine zF0 ?_ | refine zX0 ?_ | refine z1 ?_ | refine z2 ?_ | refine z3 ?_ | refine z4 ?_ | refine z5 ?_ | refine z6 ?_ | refine z7 ?_ | refine z8 ?_ | refine y1 ?_ | refine y2 ?_ | refine y3 ?_ | refine y4 ?_ | refine y5 ?_ | refine y6 ?_ | refine y7 ?_ | refine y8 ?_ | refine Rt.p (fun _ => ?_) fun _ => ?_)
    | ((with_reducible apply w_ixM); (focus exact rfl); (focus exact rfl); case' hk => intro y hy) | ((with_reducible (first | apply w_val | apply q_ends)); (focus exact rfl)))
  refine w_loopK [0, 6, 7] [] (fun x : List Guest × List Guest => l = x.1 ++ x.2 ∧ gsErr [] l = gsErr x.1 x.2) (fun x => x.2.length) (fun x => [(8, .int .i64 x.1.length)]) (fun _ => []) ([], l) ⟨rfl, rfl⟩ ⟨rfl, trivial⟩ trivial ?_
  rintro ⟨pre, post⟩ ⟨hl, hb⟩ e σ
  dsimp only at hl hb ⊢
  have hlen := congrArg List.length hl
  cases post with
  | nil =>
    simp only [List.append_nil, List.length_append, List.length_nil] at hlen
    repeat' (first
      | with_reducible (first | refine Rd.p ?_ | refine zE ?_ | refine zE0 ?_)
      | with_reducible (first | refine zI fun y hy => ?_ | refine zL ?_ | refine zS ?_ | refine zA fun _ => ?_ | refine zV ?_ | refine zC ?_ | refine zG ?_ | refine zU ?_ | refine zG0 ?_ | refine zU0 ?_ | refine zF ?_)
      | with_reducible (first | refine zX ?_ | refine zD fun _ => ?_ | refine zD0 ?_ | refine zN ?_ | refine zF0 ?_ | refine zX0 ?_ | refine z1 ?_ | refine z2 ?_ | refine z3 ?_ | refine z4 ?_ | refine z5 ?_ | refine z6 ?_ | refine z7 ?_ | refine z8 ?_ | refine y1 ?_ | refine y2 ?_ | refine y3 ?_ | refine y4 ?_ | refine y5 ?_ | refine y6 ?_ | refine y7 ?_ | refine y8 ?_ | refine Rt.p (fun _ => ?_) fun _ => ?_)
      | ((with_reducible apply w_ixM); (focus exact rfl); (focus exact rfl); case' hk => intro y hy) | ((with_reducible (first | apply w_val | apply q_ends)); (focus exact rfl)))
    rw [hb]; rfl
  | cons c post =>
    simp only [List.length_append, List.length_cons] at hlen
    have ht : (l.drop ((0 : Int)).toNat).take ((pre.length : Int) - 0).toNat = pre := by rw [hl]; simp
    simp only [gsErr] at hb
    repeat' (first
      | with_reducible (first | refine Rd.p ?_ | refine zE ?_ | refine zE0 ?_)
      | (refine w_ixP hl rfl rfl ?_)
      | with_reducible (first | refine zI fun y hy => ?_ | refine zL ?_ | refine zS ?_ | refine zA fun _ => ?_ | refine zV ?_ | refine zC ?_ | refine zG ?_ | refine zU ?_ | refine zG0 ?_ | refine zU0 ?_ | refine zF ?_)
      | ((with_reducible refine acall_id ?_); refine ACall.val (checkGuest_c c (hs c (by rw [hl]; simp))) rfl rfl ?_)
      | ((with_reducible refine acall_id ?_); refine ACall.liftS (conG_c _ _ _ (by simp; omega)) [(1000, 4)] none rfl rfl rfl ⟨⟨_, rfl⟩, trivial⟩ (fun _ => rfl) ?_; rintro _ _ rfl)
      | with_reducible (first | refine zX ?_ | refine zD fun _ => ?_ | refine zD0 ?_ | refine zN ?_ | refine zF0 ?_ | refine zX0 ?_ | refine z1 ?_ | refine z2 ?_ | refine z3 ?_ | refine z4 ?_ | refine z5 ?_ | refine z6 ?_ | refine z7 ?_ | refine z8 ?_ | refine y1 ?_ | refine y2 ?_ | refine y3 ?_ | refine y4 ?_ | refine y5 ?_ | refine y6 ?_ | refine y7 ?_ | refine y8 ?_ | refine Rt.p (fun _ => ?_) fun _ => ?_)
      | ((with_reducible apply w_ixM); (focus exact rfl); (focus exact rfl); case' hk => intro y hy) | ((with_reducible (first | apply w_val | apply q_ends)); (focus exact rfl)))
    · rw [hb, if_neg ‹gErr c ≠ 0›]; rfl
    · rename_i h1 _ h2
      rw [ht] at h2
      rw [hb, if_pos (Decidable.not_not.1 h1), if_pos h2]; rfl
    · rename_i h1 _ h2
      rw [ht] at h2
      refine zQ (pre ++ [c], post) ?_ ?_
      · dsimp only
        refine ⟨by rw [hl]; simp, ?_⟩
        rw [hb, if_pos (Decidable.not_not.1 h1), if_neg (by simp [h2])]
      · simp
theorem rcheckGuests_c (l : List Guest) (hl : l.length < 1000) (hs : ∀ g ∈ l, g.name.size ≤ 1000) : Fn0 Try.prog 91 [.slc 5 (gR l) .non] (fun v => v = .int .i64 (gsErr [] l)) := by
  refine RawC.walk (H := hint91 Try.prog) ir91 Try.func91 rfl rfl rfl ?_
  unfold ir91
  repeat' (first
    | with_reducible (first | refine Rd.p ?_ | refine zE ?_ | refine zE0 ?_)
    | with_reducible (first | refine zI fun y hy => ?_ | refine zL ?_ | refine zS ?_ | refine zA fun _ => ?_ | refine zV ?_ | refine zC ?_ | refine zG ?_ | refine zU ?_ | refine zG0 ?_ | refine zU0 ?_ | refine zF ?_)
    | with_reducible (first | refine zX ?_ | refine zD fun _ => ?_ | refine zD0 ?_ | refine zN ?_ | refine zF0 ?_ | refine zX0 ?_ | refine z1 ?_ | refine z2 ?_ | refine z3 ?_ | refine z4 ?_ | refine z5 ?_ | refine z6 ?_ | refine z7 ?_ | refine z8 ?_ | refine y1 ?_ | refine y2 ?_ | refine y3 ?_ | refine y4 ?_ | refine y5 ?_ | refine y6 ?_ | refine y7 ?_ | refine y8 ?_ | refine Rt.p (fun _ => ?_) fun _ => ?_)
    | ((with_reducible apply w_ixM); (focus exact rfl); (focus exact rfl); case' hk => intro y hy) | ((with_reducible (first | apply w_val | apply q_ends)); (focus exact rfl)))
  refine w_loopK [0] [] (fun x : List Guest × List Guest => l = x.1 ++ x.2 ∧ gsErr [] l = gsErr x.1 x.2) (fun x => x.2.length) (fun x => [(3, .int .i64 x.1.length)]) (fun _ => []) ([], l) ⟨rfl, rfl⟩ ⟨rfl, trivial⟩ trivial ?_
  rintro ⟨pre, post⟩ ⟨hl, hb⟩ e σ
  dsimp only at hl hb ⊢
  have hlen := congrArg List.length hl
  cases post with
  | nil =>
    simp only [List.append_nil, List.length_append, List.length_nil] at hlen
    repeat' (first
      | with_reducible (first | refine Rd.p ?_ | refine zE ?_ | refine zE0 ?_)
      | with_reducible (first | refine zI fun y hy => ?_ | refine zL ?_ | refine zS ?_ | refine zA fun _ => ?_ | refine zV ?_ | refine zC ?_ | refine zG ?_ | refine zU ?_ | refine zG0 ?_ | refine zU0 ?_ | refine zF ?_)
      | with_reducible (first | refine zX ?_ | refine zD fun _ => ?_ | refine zD0 ?_ | refine zN ?_ | refine zF0 ?_ | refine zX0 ?_ | refine z1 ?_ | refine z2 ?_ | refine z3 ?_ | refine z4 ?_ | refine z5 ?_ | refine z6 ?_ | refine z7 ?_ | refine z8 ?_ | refine y1 ?_ | refine y2 ?_ | refine y3 ?_ | refine y4 ?_ | refine y5 ?_ | refine y6 ?_ | refine y7 ?_ | refine y8 ?_ | refine Rt.p (fun _ => ?_) fun _ => ?_)
      | ((with_reducible apply w_ixM); (focus exact rfl); (focus exact rfl); case' hk => intro y hy) | ((with_reducible (first | apply w_val | apply q_ends)); (focus exact rfl)))
    rw [hb]; rfl
  | cons c post =>
    simp only [List.length_append, List.length_cons] at hlen
    simp only [gsErr] at hb
    repeat' (first
      | with_reducible (first | refine Rd.p ?_ | refine zE ?_ | refine zE0 ?_)
      | (refine w_ixP hl rfl rfl ?_)
      | with_reducible (first | refine zI fun y hy => ?_ | refine zL ?_ | refine zS ?_ | refine zA fun _ => ?_ | refine zV ?_ | refine zC ?_ | refine zG ?_ | refine zU ?_ | refine zG0 ?_ | refine zU0 ?_ | refine zF ?_)
      | ((with_reducible refine acall_id ?_); refine ACall.val (rcheckGuest_c c (hs c (by rw [hl]; simp))) rfl rfl ?_)
      | with_reducible (first | refine zX ?_ | refine zD fun _ => ?_ | refine zD0 ?_ | refine zN ?_ | refine zF0 ?_ | refine zX0 ?_ | refine z1 ?_ | refine z2 ?_ | refine z3 ?_ | refine z4 ?_ | refine z5 ?_ | refine z6 ?_ | refine z7 ?_ | refine z8 ?_ | refine y1 ?_ | refine y2 ?_ | refine y3 ?_ | refine y4 ?_ | refine y5 ?_ | refine y6 ?_ | refine y7 ?_ | refine y8 ?_ | refine Rt.p (fun _ => ?_) fun _ => ?_)
      | ((with_reducible apply w_ixM); (focus exact rfl); (focus exact rfl); case' hk => intro y hy) | ((with_reducible (first | apply w_val | apply q_ends)); (focus exact rfl)))
    · rw [hb, if_neg ‹gErr c ≠ 0›]; rfl
    rename_i h1
    rw [if_pos (Decidable.not_not.1 h1)] at hb
    refine w_loopK [0, 3] [] (fun x : List Guest × List Guest => pre = x.1 ++ x.2 ∧ x.1.any (fun x => decide (x.name = c.name)) = false) (fun x => x.2.length) (fun x => [(5, .int .i64 x.1.length)]) (fun _ => []) ([], pre) ⟨rfl, rfl⟩ ⟨rfl, trivial⟩ trivial ?_
    rintro ⟨pre1, post1⟩ ⟨hl1, hb1⟩ e σ
    dsimp only at hl1 hb1 ⊢
    have hlen1 := congrArg List.length hl1
    cases post1 with
    | nil =>
      simp only [List.append_nil, List.length_append, List.length_nil] at hlen1
      repeat' (first
        | with_reducible (first | refine Rd.p ?_ | refine zE ?_ | refine zE0 ?_)
        | with_reducible (first | refine zI fun y hy => ?_ | refine zL ?_ | refine zS ?_ | refine zA fun _ => ?_ | refine zV ?_ | refine zC ?_ | refine zG ?_ | refine zU ?_ | refine zG0 ?_ | refine zU0 ?_ | refine zF ?_)
        | with_reducible (first | refine zX ?_ | refine zD fun _ => ?_ | refine zD0 ?_ | refine zN ?_ | refine zF0 ?_ | refine zX0 ?_ | refine z1 ?_ | refine z2 ?_ | refine z3 ?_ | refine z4 ?_ | refine z5 ?_ | refine z6 ?_ | refine z7 ?_ | refine z8 ?_ | refine y1 ?_ | refine y2 ?_ | refine y3 ?_ | refine y4 ?_ | refine y5 ?_ | refine y6 ?_ | refine y7 ?_ | refine y8 ?_ | refine Rt.p (fun _ => ?_) fun _ => ?_)
        | ((with_reducible apply w_ixM); (focus exact rfl); (focus exact rfl); case' hk => intro y hy) | ((with_reducible (first | apply w_val | apply q_ends)); (focus exact rfl)))
      refine zQ (pre ++ [c], post) ?_ ?_
      · dsimp only
        refine ⟨by rw [hl]; simp, ?_⟩
        rw [hb, if_neg (by rw [hl1, List.append_nil, hb1]; simp)]
      · simp
    | cons c1 post1 =>
      simp only [List.length_append, List.length_cons] at hlen1
      have hl2 : l = pre1 ++ c1 :: (post1 ++ c :: post) := by rw [hl, hl1]; simp
      repeat' (first
        | with_reducible (first | refine Rd.p ?_ | refine zE ?_ | refine zE0 ?_)
        | (first | refine w_ixP hl2 rfl rfl ?_ | refine w_ixP hl rfl rfl ?_)
        | with_reducible (first | refine zI fun y hy => ?_ | refine zL ?_ | refine zS ?_ | refine zA fun _ => ?_ | refine zV ?_ | refine zC ?_ | refine zG ?_ | refine zU ?_ | refine zG0 ?_ | refine zU0 ?_ | refine zF ?_)
        | with_reducible (first | refine zX ?_ | refine zD fun _ => ?_ | refine zD0 ?_ | refine zN ?_ | refine zF0 ?_ | refine zX0 ?_ | refine z1 ?_ | refine z2 ?_ | refine z3 ?_ | refine z4 ?_ | refine z5 ?_ | refine z6 ?_ | refine z7 ?_ | refine z8 ?_ | refine y1 ?_ | refine y2 ?_ | refine y3 ?_ | refine y4 ?_ | refine y5 ?_ | refine y6 ?_ | refine y7 ?_ | refine y8 ?_ | refine Rt.p (fun _ => ?_) fun _ => ?_)
        | ((with_reducible apply w_ixM); (focus exact rfl); (focus exact rfl); case' hk => intro y hy) | ((with_reducible (first | apply w_val | apply q_ends)); (focus exact rfl)))
      · rename_i h2
        rw [hb, if_pos (by rw [hl1]; simp [h2])]; rfl
      · rename_i h2
        refine zQ (pre1 ++ [c1], post1) ?_ ?_
        · dsimp only
          refine ⟨by rw [hl1]; simp, ?_⟩
          rw [List.any_append, hb1]; simp [h2]
        · simp
theorem checkKnown_c (l : List Guest) (hl : l.length < 1000) (hs : ∀ g ∈ l, g.name.size ≤ 1000) : Fn0 Try.prog 73 [.slc 5 (gR l) .non] (fun v => v = .int .i64 (if 10 < l.length then 8 else gsErr [] l)) := by
  refine RawC.walk (H := hint73 Try.prog) ir73 Try.func73 rfl rfl rfl ?_
  unfold ir73
  repeat' (first
    | with_reducible (first | refine Rd.p ?_ | refine zE ?_ | refine zE0 ?_)
    | with_reducible (first | refine zI fun y hy => ?_ | refine zL ?_ | refine zS ?_ | refine zA fun _ => ?_ | refine zV ?_ | refine zC ?_ | refine zG ?_ | refine zU ?_ | refine zG0 ?_ | refine zU0 ?_ | refine zF ?_)
    | ((with_reducible refine acall_id ?_); refine ACall.val (rcheckGuests_c l hl hs) rfl rfl ?_)
    | with_reducible (first | refine zX ?_ | refine zD fun _ => ?_ | refine zD0 ?_ | refine zN ?_ | refine zF0 ?_ | refine zX0 ?_ | refine z1 ?_ | refine z2 ?_ | refine z3 ?_ | refine z4 ?_ | refine z5 ?_ | refine z6 ?_ | refine z7 ?_ | refine z8 ?_ | refine y1 ?_ | refine y2 ?_ | refine y3 ?_ | refine y4 ?_ | refine y5 ?_ | refine y6 ?_ | refine y7 ?_ | refine y8 ?_ | refine Rt.p (fun _ => ?_) fun _ => ?_)
    | ((with_reducible apply w_ixM); (focus exact rfl); (focus exact rfl); case' hk => intro y hy) | ((with_reducible (first | apply w_val | apply q_ends)); (focus exact rfl)))
  · exact congrArg (AV.int .i64) (if_pos (by omega)).symm
  · exact congrArg (AV.int .i64) (if_neg (by omega)).symm
def eatsV (g : Guest) (d : Dish) : Int := if bitV .and .i64 d.parts g.never ≠ 0 then 2 else if bitV .and .i64 d.parts g.maybe ≠ 0 then 3 else 1
theorem eats_c (g : Guest) (d : Dish) : Fn0 Try.prog 70 [gA g, dA d] (fun v => v = .int .i64 (eatsV g d)) := by
  refine RawC.walk (H := hint70 Try.prog) ir70 Try.func70 rfl rfl rfl ?_
  unfold ir70
  repeat' (first
    | with_reducible (first | refine Rd.p ?_ | refine zE ?_ | refine zE0 ?_)
    | with_reducible (first | refine zI fun y hy => ?_ | refine zL ?_ | refine zS ?_ | refine zA fun _ => ?_ | refine zV ?_ | refine zC ?_ | refine zG ?_ | refine zU ?_ | refine zG0 ?_ | refine zU0 ?_ | refine zF ?_)
    | with_reducible (first | refine zX ?_ | refine zD fun _ => ?_ | refine zD0 ?_ | refine zN ?_ | refine zF0 ?_ | refine zX0 ?_ | refine z1 ?_ | refine z2 ?_ | refine z3 ?_ | refine z4 ?_ | refine z5 ?_ | refine z6 ?_ | refine z7 ?_ | refine z8 ?_ | refine y1 ?_ | refine y2 ?_ | refine y3 ?_ | refine y4 ?_ | refine y5 ?_ | refine y6 ?_ | refine y7 ?_ | refine y8 ?_ | refine Rt.p (fun _ => ?_) fun _ => ?_)
    | ((with_reducible apply w_ixM); (focus exact rfl); (focus exact rfl); case' hk => intro y hy) | ((with_reducible (first | apply w_val | apply q_ends)); (focus exact rfl)))
  all_goals (simp_all [tupV, untag, untagL, eatsV])
theorem reats_c (g : Guest) (d : Dish) : Fn0 Try.prog 80 [gA g, dA d] (fun v => v = .int .i64 (eatsV g d)) := by
  refine RawC.walk (H := hint80 Try.prog) ir80 Try.func80 rfl rfl rfl ?_
  unfold ir80
  repeat' (first
    | with_reducible (first | refine Rd.p ?_ | refine zE ?_ | refine zE0 ?_)
    | with_reducible (first | refine zI fun y hy => ?_ | refine zL ?_ | refine zS ?_ | refine zA fun _ => ?_ | refine zV ?_ | refine zC ?_ | refine zG ?_ | refine zU ?_ | refine zG0 ?_ | refine zU0 ?_ | refine zF ?_)
    | with_reducible (first | refine zX ?_ | refine zD fun _ => ?_ | refine zD0 ?_ | refine zN ?_ | refine zF0 ?_ | refine zX0 ?_ | refine z1 ?_ | refine z2 ?_ | refine z3 ?_ | refine z4 ?_ | refine z5 ?_ | refine z6 ?_ | refine z7 ?_ | refine z8 ?_ | refine y1 ?_ | refine y2 ?_ | refine y3 ?_ | refine y4 ?_ | refine y5 ?_ | refine y6 ?_ | refine y7 ?_ | refine y8 ?_ | refine Rt.p (fun _ => ?_) fun _ => ?_)
    | ((with_reducible apply w_ixM); (focus exact rfl); (focus exact rfl); case' hk => intro y hy) | ((with_reducible (first | apply w_val | apply q_ends)); (focus exact rfl)))
  all_goals (simp_all [tupV, untag, untagL, eatsV])
/-- Eats: the verdict and the error. -/
def eatsP (g : Guest) (d : Dish) : Int × Int := if gErr g ≠ 0 then (0, gErr g) else if dErr d ≠ 0 then (0, dErr d) else (eatsV g d, 0)
theorem Eats_c (g : Guest) (d : Dish) (hs : g.name.size ≤ 1000) : Fn0 Try.prog 26 [gA g, dA d] (fun v => v = .tup [.int .i64 (eatsP g d).1, .int .i64 (eatsP g d).2]) := by
  refine RawC.walk (H := hint26 Try.prog) ir26 Try.func26 rfl rfl rfl ?_
  unfold ir26
  repeat' (first
    | with_reducible (first | refine Rd.p ?_ | refine zE ?_ | refine zE0 ?_)
    | with_reducible (first | refine zI fun y hy => ?_ | refine zL ?_ | refine zS ?_ | refine zA fun _ => ?_ | refine zV ?_ | refine zC ?_ | refine zG ?_ | refine zU ?_ | refine zG0 ?_ | refine zU0 ?_ | refine zF ?_)
    | ((with_reducible refine acall_id ?_); refine ACall.val (checkGuest_c _ hs) rfl rfl ?_)
    | ((with_reducible refine acall_id ?_); refine ACall.val (checkDish_c _) rfl rfl ?_)
    | ((with_reducible refine acall_id ?_); refine ACall.val (eats_c _ _) rfl rfl ?_)
    | with_reducible (first | refine zX ?_ | refine zD fun _ => ?_ | refine zD0 ?_ | refine zN ?_ | refine zF0 ?_ | refine zX0 ?_ | refine z1 ?_ | refine z2 ?_ | refine z3 ?_ | refine z4 ?_ | refine z5 ?_ | refine z6 ?_ | refine z7 ?_ | refine z8 ?_ | refine y1 ?_ | refine y2 ?_ | refine y3 ?_ | refine y4 ?_ | refine y5 ?_ | refine y6 ?_ | refine y7 ?_ | refine y8 ?_ | refine Rt.p (fun _ => ?_) fun _ => ?_)
    | ((with_reducible apply w_ixM); (focus exact rfl); (focus exact rfl); case' hk => intro y hy) | ((with_reducible (first | apply w_val | apply q_ends)); (focus exact rfl)))
  all_goals (simp_all [tupV, untag, untagL, eatsP])
theorem rEats_c (g : Guest) (d : Dish) (hs : g.name.size ≤ 1000) : Fn0 Try.prog 27 [gA g, dA d] (fun v => v = .tup [.int .i64 (eatsP g d).1, .int .i64 (eatsP g d).2]) := by
  refine RawC.walk (H := hint27 Try.prog) ir27 Try.func27 rfl rfl rfl ?_
  unfold ir27
  repeat' (first
    | with_reducible (first | refine Rd.p ?_ | refine zE ?_ | refine zE0 ?_)
    | with_reducible (first | refine zI fun y hy => ?_ | refine zL ?_ | refine zS ?_ | refine zA fun _ => ?_ | refine zV ?_ | refine zC ?_ | refine zG ?_ | refine zU ?_ | refine zG0 ?_ | refine zU0 ?_ | refine zF ?_)
    | ((with_reducible refine acall_id ?_); refine ACall.val (rcheckGuest_c _ hs) rfl rfl ?_)
    | ((with_reducible refine acall_id ?_); refine ACall.val (rcheckDish_c _) rfl rfl ?_)
    | ((with_reducible refine acall_id ?_); refine ACall.val (reats_c _ _) rfl rfl ?_)
    | with_reducible (first | refine zX ?_ | refine zD fun _ => ?_ | refine zD0 ?_ | refine zN ?_ | refine zF0 ?_ | refine zX0 ?_ | refine z1 ?_ | refine z2 ?_ | refine z3 ?_ | refine z4 ?_ | refine z5 ?_ | refine z6 ?_ | refine z7 ?_ | refine z8 ?_ | refine y1 ?_ | refine y2 ?_ | refine y3 ?_ | refine y4 ?_ | refine y5 ?_ | refine y6 ?_ | refine y7 ?_ | refine y8 ?_ | refine Rt.p (fun _ => ?_) fun _ => ?_)
    | ((with_reducible apply w_ixM); (focus exact rfl); (focus exact rfl); case' hk => intro y hy) | ((with_reducible (first | apply w_val | apply q_ends)); (focus exact rfl)))
  all_goals (simp_all [tupV, untag, untagL, eatsP])
end Go.Abs
