/- A part of the proofs of the laws of this seat: contracts of the functions that they reach, each proved of the program's form in Lean. No condition beyond those that each contract names. -/
import Derived.Test.YtmekfgjlcaonjaaC4
import Derived.Test.YtmekfgjlcaonjaaC3
import Derived.Test.YtmekfgjlcaonjaaC2
import Derived.Test.YtmekfgjlcaonjaaC1
import Derived.Test.YtmekfgjlcaonjaaB
set_option linter.unusedVariables false
set_option linter.unusedSimpArgs false
set_option maxRecDepth 20000
set_option maxHeartbeats 4000000
namespace Go.Abs
open Go.Proofs
/-- cmp.isNaN[int] -/
def ir129 : IFn :=
  ⟨6, [(2, none)], (.seq (.ops [⟨(some 2), none, (.mov (.k (.bool false)))⟩])
  (.seq (.ops [⟨(some 3), none, (.mov (.t 0))⟩,
    ⟨(some 4), none, (.mov (.t 0))⟩,
    ⟨(some 5), none, (.bin .neq (.t 3) (.t 4))⟩,
    ⟨(some 2), none, (.mov (.t 5))⟩])
  .ret))⟩
def hint129 (P : Program) : Hint := {}
/-- cmp.Less[int] -/
def ir139 : IFn :=
  ⟨17, [(4, none)], (.seq (.ops [⟨(some 4), none, (.mov (.k (.bool false)))⟩])
  (.seq (.ops [⟨(some 5), none, (.mov (.t 0))⟩,
    ⟨(some 6), none, (.callF 129 [(.t 5)])⟩,
    ⟨(some 7), none, (.mov (.t 6))⟩,
    ⟨(some 8), (some (7, true)), (.mov (.t 1))⟩,
    ⟨(some 9), (some (7, true)), (.callF 129 [(.t 8)])⟩,
    ⟨(some 10), (some (7, true)), (.not (.t 9))⟩,
    ⟨(some 11), none, (.pick (.t 7) (.t 10) (.k (.bool false)))⟩,
    ⟨(some 12), none, (.mov (.t 11))⟩,
    ⟨(some 13), (some (12, false)), (.mov (.t 0))⟩,
    ⟨(some 14), (some (12, false)), (.mov (.t 1))⟩,
    ⟨(some 15), (some (12, false)), (.bin .lss (.t 13) (.t 14))⟩,
    ⟨(some 16), none, (.pick (.t 12) (.k (.bool true)) (.t 15))⟩,
    ⟨(some 4), none, (.mov (.t 16))⟩])
  .ret))⟩
def hint139 (P : Program) : Hint := {}
/-- slices.insertionSortOrdered[int] -/
def ir133 : IFn :=
  ⟨49, [], (.seq (.ops [⟨(some 8), none, (.mov (.t 1))⟩,
    ⟨(some 9), none, (.bin .add (.t 8) (.k (.int .i64 1)))⟩,
    ⟨(some 6), none, (.mov (.t 9))⟩])
  (.blk 0 (.loop (.seq (.seq (.ops [⟨(some 10), none, (.mov (.t 6))⟩,
        ⟨(some 11), none, (.mov (.t 2))⟩,
        ⟨(some 12), none, (.bin .lss (.t 10) (.t 11))⟩])
      (.cnd (.t 12)
        .skip
        (.exit 0)))
      (.seq (.blk 1 (.seq (.ops [⟨(some 15), none, (.mov (.t 6))⟩,
          ⟨(some 7), none, (.mov (.t 15))⟩])
        (.blk 2 (.loop (.seq (.seq (.ops [⟨(some 16), none, (.mov (.t 7))⟩,
              ⟨(some 17), none, (.mov (.t 1))⟩,
              ⟨(some 18), none, (.bin .gtr (.t 16) (.t 17))⟩,
              ⟨(some 19), none, (.mov (.t 18))⟩,
              ⟨(some 20), (some (19, true)), (.mov (.t 0))⟩,
              ⟨(some 21), (some (19, true)), (.mov (.t 7))⟩,
              ⟨(some 22), (some (19, true)), (.ixA 1 (.t 20) (.t 21))⟩,
              ⟨(some 23), (some (19, true)), (.ld 1 false (.t 22))⟩,
              ⟨(some 24), (some (19, true)), (.mov (.t 0))⟩,
              ⟨(some 25), (some (19, true)), (.mov (.t 7))⟩,
              ⟨(some 26), (some (19, true)), (.bin .sub (.t 25) (.k (.int .i64 1)))⟩,
              ⟨(some 27), (some (19, true)), (.ixA 1 (.t 24) (.t 26))⟩,
              ⟨(some 28), (some (19, true)), (.ld 1 false (.t 27))⟩,
              ⟨(some 29), (some (19, true)), (.callF 139 [(.t 23), (.t 28)])⟩,
              ⟨(some 30), none, (.pick (.t 19) (.t 29) (.k (.bool false)))⟩])
            (.cnd (.t 30)
              .skip
              (.exit 2)))
            (.seq (.blk 3 (.ops [⟨(some 33), none, (.mov (.t 0))⟩,
                ⟨(some 34), none, (.mov (.t 7))⟩,
                ⟨(some 35), none, (.mov (.t 0))⟩,
                ⟨(some 36), none, (.mov (.t 7))⟩,
                ⟨(some 37), none, (.bin .sub (.t 36) (.k (.int .i64 1)))⟩,
                ⟨(some 38), none, (.mov (.t 0))⟩,
                ⟨(some 39), none, (.mov (.t 7))⟩,
                ⟨(some 40), none, (.bin .sub (.t 39) (.k (.int .i64 1)))⟩,
                ⟨(some 41), none, (.ixA 1 (.t 38) (.t 40))⟩,
                ⟨(some 42), none, (.ld 1 false (.t 41))⟩,
                ⟨(some 43), none, (.mov (.t 0))⟩,
                ⟨(some 44), none, (.mov (.t 7))⟩,
                ⟨(some 45), none, (.ixA 1 (.t 43) (.t 44))⟩,
                ⟨(some 46), none, (.ld 1 false (.t 45))⟩,
                ⟨(some 47), none, (.ixA 1 (.t 33) (.t 34))⟩,
                ⟨none, none, (.st 1 (.t 47) (.t 42))⟩,
                ⟨(some 48), none, (.ixA 1 (.t 35) (.t 37))⟩,
                ⟨none, none, (.st 1 (.t 48) (.t 46))⟩]))
            (.ops [⟨(some 31), none, (.mov (.t 7))⟩,
              ⟨(some 32), none, (.bin .sub (.t 31) (.k (.int .i64 1)))⟩,
              ⟨(some 7), none, (.mov (.t 32))⟩])))))))
      (.ops [⟨(some 13), none, (.mov (.t 6))⟩,
        ⟨(some 14), none, (.bin .add (.t 13) (.k (.int .i64 1)))⟩,
        ⟨(some 6), none, (.mov (.t 14))⟩]))))))⟩
def hint133 (P : Program) : Hint := {}
/-- slices.pdqsortOrdered[int] -/
def ir123 : IFn :=
  ⟨134, [], (.seq (.ops [⟨(some 8), none, (.mov (.k (.bool true)))⟩])
  (.seq (.ops [⟨(some 9), none, (.mov (.k (.bool true)))⟩])
  (.blk 0 (.loop (.blk 1 (.seq (.ops [⟨(some 19), none, (.mov (.t 2))⟩,
          ⟨(some 20), none, (.mov (.t 1))⟩,
          ⟨(some 21), none, (.bin .sub (.t 19) (.t 20))⟩,
          ⟨(some 10), none, (.mov (.t 21))⟩])
        (.seq (.seq (.ops [⟨(some 22), none, (.mov (.t 10))⟩,
          ⟨(some 23), none, (.bin .leq (.t 22) (.k (.int .i64 12)))⟩])
        (.cnd (.t 23)
          (.seq (.ops [⟨(some 24), none, (.mov (.t 0))⟩,
            ⟨(some 25), none, (.mov (.t 1))⟩,
            ⟨(some 26), none, (.mov (.t 2))⟩,
            ⟨(some 27), none, (.callF 133 [(.t 24), (.t 25), (.t 26)])⟩])
          .ret)
          .skip))
        (.seq (.seq (.ops [⟨(some 28), none, (.mov (.t 3))⟩,
          ⟨(some 29), none, (.bin .eql (.t 28) (.k (.int .i64 0)))⟩])
        (.cnd (.t 29)
          (.seq (.ops [⟨(some 30), none, (.mov (.t 0))⟩,
            ⟨(some 31), none, (.mov (.t 1))⟩,
            ⟨(some 32), none, (.mov (.t 2))⟩,
            ⟨(some 33), none, (.callF 134 [(.t 30), (.t 31), (.t 32)])⟩])
          .ret)
          .skip))
        (.seq (.seq (.ops [⟨(some 34), none, (.mov (.t 8))⟩,
          ⟨(some 35), none, (.not (.t 34))⟩])
        (.cnd (.t 35)
          (.seq (.ops [⟨(some 36), none, (.mov (.t 0))⟩,
            ⟨(some 37), none, (.mov (.t 1))⟩,
            ⟨(some 38), none, (.mov (.t 2))⟩,
            ⟨(some 39), none, (.callF 135 [(.t 36), (.t 37), (.t 38)])⟩])
          (.ops [⟨(some 40), none, (.mov (.t 3))⟩,
            ⟨(some 41), none, (.bin .sub (.t 40) (.k (.int .i64 1)))⟩,
            ⟨(some 3), none, (.mov (.t 41))⟩]))
          .skip))
        (.seq (.ops [⟨(some 43), none, (.mov (.t 0))⟩,
          ⟨(some 44), none, (.mov (.t 1))⟩,
          ⟨(some 45), none, (.mov (.t 2))⟩,
          ⟨(some 46), none, (.callF 136 [(.t 43), (.t 44), (.t 45)])⟩,
          ⟨(some 42), none, (.mov (.t 46))⟩,
          ⟨(some 47), none, (.ext 0 (.t 42))⟩,
          ⟨(some 48), none, (.ext 1 (.t 42))⟩,
          ⟨(some 11), none, (.mov (.t 47))⟩,
          ⟨(some 12), none, (.mov (.t 48))⟩])
        (.seq (.seq (.ops [⟨(some 49), none, (.mov (.t 12))⟩,
          ⟨(some 50), none, (.bin .eql (.t 49) (.k (.int .i64 2)))⟩])
        (.cnd (.t 50)
          (.seq (.ops [⟨(some 51), none, (.mov (.t 0))⟩,
            ⟨(some 52), none, (.mov (.t 1))⟩,
            ⟨(some 53), none, (.mov (.t 2))⟩,
            ⟨(some 54), none, (.callF 137 [(.t 51), (.t 52), (.t 53)])⟩])
          (.seq (.ops [⟨(some 55), none, (.mov (.t 2))⟩,
            ⟨(some 56), none, (.bin .sub (.t 55) (.k (.int .i64 1)))⟩,
            ⟨(some 57), none, (.mov (.t 11))⟩,
            ⟨(some 58), none, (.mov (.t 1))⟩,
            ⟨(some 59), none, (.bin .sub (.t 57) (.t 58))⟩,
            ⟨(some 60), none, (.bin .sub (.t 56) (.t 59))⟩,
            ⟨(some 11), none, (.mov (.t 60))⟩])
          (.ops [⟨(some 12), none, (.mov (.k (.int .i64 1)))⟩])))
          .skip))
        (.seq (.seq (.ops [⟨(some 61), none, (.mov (.t 8))⟩,
          ⟨(some 62), none, (.mov (.t 61))⟩,
          ⟨(some 63), (some (62, true)), (.mov (.t 9))⟩,
          ⟨(some 64), none, (.pick (.t 62) (.t 63) (.k (.bool false)))⟩,
          ⟨(some 65), none, (.mov (.t 64))⟩,
          ⟨(some 66), (some (65, true)), (.mov (.t 12))⟩,
          ⟨(some 67), (some (65, true)), (.bin .eql (.t 66) (.k (.int .i64 1)))⟩,
          ⟨(some 68), none, (.pick (.t 65) (.t 67) (.k (.bool false)))⟩])
        (.cnd (.t 68)
          (.seq (.ops [⟨(some 69), none, (.mov (.t 0))⟩,
            ⟨(some 70), none, (.mov (.t 1))⟩,
            ⟨(some 71), none, (.mov (.t 2))⟩,
            ⟨(some 72), none, (.callF 138 [(.t 69), (.t 70), (.t 71)])⟩])
          (.cnd (.t 72)
            .ret
            .skip))
          .skip))
        (.seq (.seq (.ops [⟨(some 73), none, (.mov (.t 1))⟩,
          ⟨(some 74), none, (.bin .gtr (.t 73) (.k (.int .i64 0)))⟩,
          ⟨(some 75), none, (.mov (.t 74))⟩,
          ⟨(some 76), (some (75, true)), (.mov (.t 0))⟩,
          ⟨(some 77), (some (75, true)), (.mov (.t 1))⟩,
          ⟨(some 78), (some (75, true)), (.bin .sub (.t 77) (.k (.int .i64 1)))⟩,
          ⟨(some 79), (some (75, true)), (.ixA 1 (.t 76) (.t 78))⟩,
          ⟨(some 80), (some (75, true)), (.ld 1 false (.t 79))⟩,
          ⟨(some 81), (some (75, true)), (.mov (.t 0))⟩,
          ⟨(some 82), (some (75, true)), (.mov (.t 11))⟩,
          ⟨(some 83), (some (75, true)), (.ixA 1 (.t 81) (.t 82))⟩,
          ⟨(some 84), (some (75, true)), (.ld 1 false (.t 83))⟩,
          ⟨(some 85), (some (75, true)), (.callF 139 [(.t 80), (.t 84)])⟩,
          ⟨(some 86), (some (75, true)), (.not (.t 85))⟩,
          ⟨(some 87), none, (.pick (.t 75) (.t 86) (.k (.bool false)))⟩])
        (.cnd (.t 87)
          (.seq (.ops [⟨(some 88), none, (.mov (.t 0))⟩,
            ⟨(some 89), none, (.mov (.t 1))⟩,
            ⟨(some 90), none, (.mov (.t 2))⟩,
            ⟨(some 91), none, (.mov (.t 11))⟩,
            ⟨(some 92), none, (.callF 140 [(.t 88), (.t 89), (.t 90), (.t 91)])⟩,
            ⟨(some 13), none, (.mov (.t 92))⟩])
          (.seq (.ops [⟨(some 93), none, (.mov (.t 13))⟩,
            ⟨(some 1), none, (.mov (.t 93))⟩])
          (.exit 1)))
          .skip))
        (.seq (.ops [⟨(some 95), none, (.mov (.t 0))⟩,
          ⟨(some 96), none, (.mov (.t 1))⟩,
          ⟨(some 97), none, (.mov (.t 2))⟩,
          ⟨(some 98), none, (.mov (.t 11))⟩,
          ⟨(some 99), none, (.callF 141 [(.t 95), (.t 96), (.t 97), (.t 98)])⟩,
          ⟨(some 94), none, (.mov (.t 99))⟩,
          ⟨(some 100), none, (.ext 0 (.t 94))⟩,
          ⟨(some 101), none, (.ext 1 (.t 94))⟩,
          ⟨(some 14), none, (.mov (.t 100))⟩,
          ⟨(some 15), none, (.mov (.t 101))⟩])
        (.seq (.ops [⟨(some 102), none, (.mov (.t 15))⟩,
          ⟨(some 9), none, (.mov (.t 102))⟩])
        (.seq (.ops [⟨(some 103), none, (.mov (.t 14))⟩,
          ⟨(some 104), none, (.mov (.t 1))⟩,
          ⟨(some 105), none, (.bin .sub (.t 103) (.t 104))⟩,
          ⟨(some 106), none, (.mov (.t 2))⟩,
          ⟨(some 107), none, (.mov (.t 14))⟩,
          ⟨(some 108), none, (.bin .sub (.t 106) (.t 107))⟩,
          ⟨(some 16), none, (.mov (.t 105))⟩,
          ⟨(some 17), none, (.mov (.t 108))⟩])
        (.seq (.ops [⟨(some 109), none, (.mov (.t 10))⟩,
          ⟨(some 110), none, (.bin .quo (.t 109) (.k (.int .i64 8)))⟩,
          ⟨(some 18), none, (.mov (.t 110))⟩])
        (.seq (.ops [⟨(some 111), none, (.mov (.t 16))⟩,
          ⟨(some 112), none, (.mov (.t 17))⟩,
          ⟨(some 113), none, (.bin .lss (.t 111) (.t 112))⟩])
        (.cnd (.t 113)
          (.seq (.ops [⟨(some 114), none, (.mov (.t 16))⟩,
            ⟨(some 115), none, (.mov (.t 18))⟩,
            ⟨(some 116), none, (.bin .geq (.t 114) (.t 115))⟩,
            ⟨(some 8), none, (.mov (.t 116))⟩])
          (.seq (.ops [⟨(some 117), none, (.mov (.t 0))⟩,
            ⟨(some 118), none, (.mov (.t 1))⟩,
            ⟨(some 119), none, (.mov (.t 14))⟩,
            ⟨(some 120), none, (.mov (.t 3))⟩,
            ⟨(some 121), none, (.callF 123 [(.t 117), (.t 118), (.t 119), (.t 120)])⟩])
          (.ops [⟨(some 122), none, (.mov (.t 14))⟩,
            ⟨(some 123), none, (.bin .add (.t 122) (.k (.int .i64 1)))⟩,
            ⟨(some 1), none, (.mov (.t 123))⟩])))
          (.seq (.ops [⟨(some 124), none, (.mov (.t 17))⟩,
            ⟨(some 125), none, (.mov (.t 18))⟩,
            ⟨(some 126), none, (.bin .geq (.t 124) (.t 125))⟩,
            ⟨(some 8), none, (.mov (.t 126))⟩])
          (.seq (.ops [⟨(some 127), none, (.mov (.t 0))⟩,
            ⟨(some 128), none, (.mov (.t 14))⟩,
            ⟨(some 129), none, (.bin .add (.t 128) (.k (.int .i64 1)))⟩,
            ⟨(some 130), none, (.mov (.t 2))⟩,
            ⟨(some 131), none, (.mov (.t 3))⟩,
            ⟨(some 132), none, (.callF 123 [(.t 127), (.t 129), (.t 130), (.t 131)])⟩])
          (.ops [⟨(some 133), none, (.mov (.t 14))⟩,
            ⟨(some 2), none, (.mov (.t 133))⟩]))))))))))))))))))))))⟩
def hint123 (P : Program) : Hint := {}
/-- math/bits.Len64 -/
def ir143 : IFn :=
  ⟨25, [(2, none)], (.seq (.ops [⟨(some 2), none, (.mov (.k (.int .i64 0)))⟩])
  (.seq (.seq (.ops [⟨(some 3), none, (.mov (.t 0))⟩,
    ⟨(some 4), none, (.bin .geq (.t 3) (.k (.int .u64 4294967296)))⟩])
  (.cnd (.t 4)
    (.seq (.ops [⟨(some 5), none, (.mov (.t 0))⟩,
      ⟨(some 6), none, (.bin .shr (.t 5) (.k (.int .u64 32)))⟩,
      ⟨(some 0), none, (.mov (.t 6))⟩])
    (.ops [⟨(some 2), none, (.mov (.k (.int .i64 32)))⟩]))
    .skip))
  (.seq (.seq (.ops [⟨(some 7), none, (.mov (.t 0))⟩,
    ⟨(some 8), none, (.bin .geq (.t 7) (.k (.int .u64 65536)))⟩])
  (.cnd (.t 8)
    (.seq (.ops [⟨(some 9), none, (.mov (.t 0))⟩,
      ⟨(some 10), none, (.bin .shr (.t 9) (.k (.int .u64 16)))⟩,
      ⟨(some 0), none, (.mov (.t 10))⟩])
    (.ops [⟨(some 11), none, (.mov (.t 2))⟩,
      ⟨(some 12), none, (.bin .add (.t 11) (.k (.int .i64 16)))⟩,
      ⟨(some 2), none, (.mov (.t 12))⟩]))
    .skip))
  (.seq (.seq (.ops [⟨(some 13), none, (.mov (.t 0))⟩,
    ⟨(some 14), none, (.bin .geq (.t 13) (.k (.int .u64 256)))⟩])
  (.cnd (.t 14)
    (.seq (.ops [⟨(some 15), none, (.mov (.t 0))⟩,
      ⟨(some 16), none, (.bin .shr (.t 15) (.k (.int .u64 8)))⟩,
      ⟨(some 0), none, (.mov (.t 16))⟩])
    (.ops [⟨(some 17), none, (.mov (.t 2))⟩,
      ⟨(some 18), none, (.bin .add (.t 17) (.k (.int .i64 8)))⟩,
      ⟨(some 2), none, (.mov (.t 18))⟩]))
    .skip))
  (.seq (.ops [⟨(some 19), none, (.mov (.t 2))⟩,
    ⟨(some 20), none, (.mov (.t 0))⟩,
    ⟨(some 21), none, (.cvI .u8 (.t 20))⟩,
    ⟨(some 22), none, (.ixS (.k (.str ⟨#[0, 1, 2, 2, 3, 3, 3, 3, 4, 4, 4, 4, 4, 4, 4, 4, 5, 5, 5, 5, 5, 5, 5, 5, 5, 5, 5, 5, 5, 5, 5, 5, 6, 6, 6, 6, 6, 6, 6, 6, 6, 6, 6, 6, 6, 6, 6, 6, 6, 6, 6, 6, 6, 6, 6, 6, 6, 6, 6, 6, 6, 6, 6, 6, 7, 7, 7, 7, 7, 7, 7, 7, 7, 7, 7, 7, 7, 7, 7, 7, 7, 7, 7, 7, 7, 7, 7, 7, 7, 7, 7, 7, 7, 7, 7, 7, 7, 7, 7, 7, 7, 7, 7, 7, 7, 7, 7, 7, 7, 7, 7, 7, 7, 7, 7, 7, 7, 7, 7, 7, 7, 7, 7, 7, 7, 7, 7, 7, 8, 8, 8, 8, 8, 8, 8, 8, 8, 8, 8, 8, 8, 8, 8, 8, 8, 8, 8, 8, 8, 8, 8, 8, 8, 8, 8, 8, 8, 8, 8, 8, 8, 8, 8, 8, 8, 8, 8, 8, 8, 8, 8, 8, 8, 8, 8, 8, 8, 8, 8, 8, 8, 8, 8, 8, 8, 8, 8, 8, 8, 8, 8, 8, 8, 8, 8, 8, 8, 8, 8, 8, 8, 8, 8, 8, 8, 8, 8, 8, 8, 8, 8, 8, 8, 8, 8, 8, 8, 8, 8, 8, 8, 8, 8, 8, 8, 8, 8, 8, 8, 8, 8, 8, 8, 8, 8, 8, 8, 8, 8, 8, 8, 8, 8, 8, 8, 8, 8, 8, 8, 8, 8, 8, 8, 8, 8, 8]⟩)) (.t 21))⟩,
    ⟨(some 23), none, (.cvI .i64 (.t 22))⟩,
    ⟨(some 24), none, (.bin .add (.t 19) (.t 23))⟩,
    ⟨(some 2), none, (.mov (.t 24))⟩])
  .ret)))))⟩
def hint143 (P : Program) : Hint := {}
/-- math/bits.Len -/
def ir124 : IFn :=
  ⟨8, [(2, none)], (.seq (.ops [⟨(some 2), none, (.mov (.k (.int .i64 0)))⟩])
  (.seq (.cnd (.k (.bool false))
    (.seq (.ops [⟨(some 3), none, (.mov (.t 0))⟩,
      ⟨(some 4), none, (.cvI .u32 (.t 3))⟩,
      ⟨(some 5), none, (.callF 142 [(.t 4)])⟩,
      ⟨(some 2), none, (.mov (.t 5))⟩])
    .ret)
    .skip)
  (.seq (.ops [⟨(some 6), none, (.mov (.t 0))⟩,
    ⟨(some 7), none, (.callF 143 [(.t 6)])⟩,
    ⟨(some 2), none, (.mov (.t 7))⟩])
  .ret)))⟩
def hint124 (P : Program) : Hint := {}
/-- slices.Sort[[]int,int] -/
def ir88 : IFn :=
  ⟨11, [], (.seq (.ops [⟨(some 3), none, (.mov (.t 0))⟩,
    ⟨(some 4), none, (.len false (.t 3))⟩,
    ⟨(some 2), none, (.mov (.t 4))⟩])
  (.ops [⟨(some 5), none, (.mov (.t 0))⟩,
    ⟨(some 6), none, (.mov (.t 2))⟩,
    ⟨(some 7), none, (.mov (.t 2))⟩,
    ⟨(some 8), none, (.cvI .u64 (.t 7))⟩,
    ⟨(some 9), none, (.callF 124 [(.t 8)])⟩,
    ⟨(some 10), none, (.callF 123 [(.t 5), (.k (.int .i64 0)), (.t 6), (.t 9)])⟩]))⟩
def hint88 (P : Program) : Hint := {}
theorem isNaN_s (x : Int) : Fn0 Try.prog 129 [.int .i64 x] (fun v => v = .bool false) := by
  refine RawC.walk (H := hint129 Try.prog) ir129 Try.func129 rfl rfl rfl ?_
  unfold ir129
  repeat' (first
    | with_reducible (first | refine Rd.p ?_ | refine w_alt ?_ ?_ | refine zE ?_ | refine zE0 ?_)
    | with_reducible (first | refine zI fun y hy => ?_ | refine zL ?_ | refine zS ?_ | refine zA fun _ => ?_ | refine zV ?_ | refine zC ?_ | refine zG ?_ | refine zU ?_ | refine zG0 ?_ | refine zU0 ?_ | refine zF ?_)
    | with_reducible (first | refine zX ?_ | refine zD fun _ => ?_ | refine zD0 ?_ | refine zN ?_ | refine zF0 ?_ | refine zX0 ?_ | refine z1 ?_ | refine z2 ?_ | refine z3 ?_ | refine z4 ?_ | refine z5 ?_ | refine z6 ?_ | refine z7 ?_ | refine z8 ?_ | refine y1 ?_ | refine y2 ?_ | refine y3 ?_ | refine y4 ?_ | refine y5 ?_ | refine y6 ?_ | refine y7 ?_ | refine y8 ?_ | refine Rt.p (fun _ => ?_) fun _ => ?_)
    | ((with_reducible apply w_ixM); (focus exact rfl); (focus exact rfl); case' hk => intro y hy) | ((with_reducible (first | apply w_val | apply q_ends)); (focus exact rfl)))
  exact congrArg AV.bool (decide_eq_false (by simp))
theorem less_s (x y : Int) : Fn0 Try.prog 139 [.int .i64 x, .int .i64 y] (fun v => v = .bool (decide (x < y))) := by
  refine RawC.walk (H := hint139 Try.prog) ir139 Try.func139 rfl rfl rfl ?_
  unfold ir139
  repeat' (first
    | with_reducible (first | refine Rd.p ?_ | refine w_alt ?_ ?_ | refine zE ?_ | refine zE0 ?_)
    | with_reducible (first | refine zI fun y hy => ?_ | refine zL ?_ | refine zS ?_ | refine zA fun _ => ?_ | refine zV ?_ | refine zC ?_ | refine zG ?_ | refine zU ?_ | refine zG0 ?_ | refine zU0 ?_ | refine zF ?_)
    | ((with_reducible refine acall_id ?_); refine ACall.val (isNaN_s _) rfl rfl ?_)
    | with_reducible (first | refine zX ?_ | refine zD fun _ => ?_ | refine zD0 ?_ | refine zN ?_ | refine zF0 ?_ | refine zX0 ?_ | refine z1 ?_ | refine z2 ?_ | refine z3 ?_ | refine z4 ?_ | refine z5 ?_ | refine z6 ?_ | refine z7 ?_ | refine z8 ?_ | refine y1 ?_ | refine y2 ?_ | refine y3 ?_ | refine y4 ?_ | refine y5 ?_ | refine y6 ?_ | refine y7 ?_ | refine y8 ?_ | refine Rt.p (fun _ => ?_) fun _ => ?_)
    | ((with_reducible apply w_ixM); (focus exact rfl); (focus exact rfl); case' hk => intro y hy) | ((with_reducible (first | apply w_val | apply q_ends)); (focus exact rfl)))
  rfl
theorem w_ldA {P : Program} {K : (Nat → AV) → Sig → Prop} {e : Nat → AV} {σ : Sig} {x : IOpd} {d : Nat} {r : List IStep} {i g off : Nat} {xs : List Int} {v : Int} (hv : xs[off]? = some v) (hx : x.ev e = .ref i g off) (hσ : σ i = (g, .row (xs.map (AV.int .i64))))
    (hk : stepsW P r K (upd e d (.int .i64 v)) σ) : stepsW P (⟨some d, none, .ld 1 false x⟩ :: r) K e σ := by
  have hl := (List.getElem?_eq_some_iff.1 hv).1
  refine w_ldI hx hσ hl ?_
  have : xs.getD off 0 = v := by rw [List.getD_eq_getElem?_getD, hv]; rfl
  rw [this]; exact hk
def SrtP (xs ys : List Int) : Prop := List.Perm ys xs ∧ ys.Pairwise (· ≤ ·)
theorem ins_s (xs : List Int) (g : Nat) (hl : xs.length ≤ 12) :
    RawC Try.prog 133 [.msl 1000 g xs.length 1, .int .i64 0, .int .i64 xs.length] (sg [(1000, (g, .row (xs.map (AV.int .i64))))])
      (SR (fun ys v => v = .tup [] ∧ SrtP xs ys) (fun ys => [(1000, (g, .row (ys.map (AV.int .i64))))])) := by
  cases xs with
  | nil =>
    refine RawC.walk (H := hint133 Try.prog) ir133 Try.func133 rfl rfl rfl ?_
    unfold ir133
    have h0 : ([] : List Int).length = 0 := rfl
    repeat' (first
      | with_reducible (first | refine Rd.p ?_ | refine w_alt ?_ ?_ | refine zE ?_ | refine zE0 ?_)
      | (refine w_unr 1 ?_)
      | with_reducible (first | refine zI fun y hy => ?_ | refine zL ?_ | refine zS ?_ | refine zA fun _ => ?_ | refine zV ?_ | refine zC ?_ | refine zG ?_ | refine zU ?_ | refine zG0 ?_ | refine zU0 ?_ | refine zF ?_)
      | with_reducible (first | refine zX ?_ | refine zD fun _ => ?_ | refine zD0 ?_ | refine zN ?_ | refine zF0 ?_ | refine zX0 ?_ | refine z1 ?_ | refine z2 ?_ | refine z3 ?_ | refine z4 ?_ | refine z5 ?_ | refine z6 ?_ | refine z7 ?_ | refine z8 ?_ | refine y1 ?_ | refine y2 ?_ | refine y3 ?_ | refine y4 ?_ | refine y5 ?_ | refine y6 ?_ | refine y7 ?_ | refine y8 ?_ | refine Rt.p (fun _ => ?_) fun _ => ?_)
      | ((with_reducible apply w_ixM); (focus exact rfl); (focus exact rfl); case' hk => intro y hy) | ((with_reducible (first | apply w_val | apply q_ends)); (focus exact rfl)))
    exact ⟨[], ⟨rfl, .refl _, .nil⟩, rfl, trivial⟩
  | cons a0 r0 =>
    have hl0 : (a0 :: r0).length = r0.length + 1 := rfl
    refine RawC.walk (H := hint133 Try.prog) ir133 Try.func133 rfl rfl rfl ?_
    unfold ir133
    repeat' (first
      | with_reducible (first | refine Rd.p ?_ | refine w_alt ?_ ?_ | refine zE ?_ | refine zE0 ?_)
      | with_reducible (first | refine zI fun y hy => ?_ | refine zL ?_ | refine zS ?_ | refine zA fun _ => ?_ | refine zV ?_ | refine zC ?_ | refine zG ?_ | refine zU ?_ | refine zG0 ?_ | refine zU0 ?_ | refine zF ?_)
      | with_reducible (first | refine zX ?_ | refine zD fun _ => ?_ | refine zD0 ?_ | refine zN ?_ | refine zF0 ?_ | refine zX0 ?_ | refine z1 ?_ | refine z2 ?_ | refine z3 ?_ | refine z4 ?_ | refine z5 ?_ | refine z6 ?_ | refine z7 ?_ | refine z8 ?_ | refine y1 ?_ | refine y2 ?_ | refine y3 ?_ | refine y4 ?_ | refine y5 ?_ | refine y6 ?_ | refine y7 ?_ | refine y8 ?_ | refine Rt.p (fun _ => ?_) fun _ => ?_)
      | ((with_reducible apply w_ixM); (focus exact rfl); (focus exact rfl); case' hk => intro y hy) | ((with_reducible (first | apply w_val | apply q_ends)); (focus exact rfl)))
    refine w_loopK [0, 1, 2] [] (fun x : List Int × List Int => List.Perm (x.1 ++ x.2) (a0 :: r0) ∧ x.1.Pairwise (· ≤ ·) ∧ x.1.length + x.2.length = (a0 :: r0).length) (fun x => x.2.length) (fun x => [(6, .int .i64 x.1.length)]) (fun x => [(1000, (g, .row ((x.1 ++ x.2).map (AV.int .i64))))]) ([a0], r0) ⟨.refl _, List.pairwise_singleton _ _, by simp; omega⟩ ⟨rfl, trivial⟩ ⟨rfl, trivial⟩ ?_
    rintro ⟨p, q⟩ ⟨hp, hs, hlen⟩ e σ
    dsimp only at hp hs hlen ⊢
    cases q with
    | nil =>
      simp only [List.length_nil] at hlen
      repeat' (first
        | with_reducible (first | refine Rd.p ?_ | refine w_alt ?_ ?_ | refine zE ?_ | refine zE0 ?_)
        | with_reducible (first | refine zI fun y hy => ?_ | refine zL ?_ | refine zS ?_ | refine zA fun _ => ?_ | refine zV ?_ | refine zC ?_ | refine zG ?_ | refine zU ?_ | refine zG0 ?_ | refine zU0 ?_ | refine zF ?_)
        | with_reducible (first | refine zX ?_ | refine zD fun _ => ?_ | refine zD0 ?_ | refine zN ?_ | refine zF0 ?_ | refine zX0 ?_ | refine z1 ?_ | refine z2 ?_ | refine z3 ?_ | refine z4 ?_ | refine z5 ?_ | refine z6 ?_ | refine z7 ?_ | refine z8 ?_ | refine y1 ?_ | refine y2 ?_ | refine y3 ?_ | refine y4 ?_ | refine y5 ?_ | refine y6 ?_ | refine y7 ?_ | refine y8 ?_ | refine Rt.p (fun _ => ?_) fun _ => ?_)
        | ((with_reducible apply w_ixM); (focus exact rfl); (focus exact rfl); case' hk => intro y hy) | ((with_reducible (first | apply w_val | apply q_ends)); (focus exact rfl)))
      exact ⟨p ++ [], ⟨rfl, hp, by simpa using hs⟩, rfl, trivial⟩
    | cons v0 q =>
      simp only [List.length_cons] at hlen
      repeat' (first
        | with_reducible (first | refine Rd.p ?_ | refine w_alt ?_ ?_ | refine zE ?_ | refine zE0 ?_)
        | with_reducible (first | refine zI fun y hy => ?_ | refine zL ?_ | refine zS ?_ | refine zA fun _ => ?_ | refine zV ?_ | refine zC ?_ | refine zG ?_ | refine zU ?_ | refine zG0 ?_ | refine zU0 ?_ | refine zF ?_)
        | with_reducible (first | refine zX ?_ | refine zD fun _ => ?_ | refine zD0 ?_ | refine zN ?_ | refine zF0 ?_ | refine zX0 ?_ | refine z1 ?_ | refine z2 ?_ | refine z3 ?_ | refine z4 ?_ | refine z5 ?_ | refine z6 ?_ | refine z7 ?_ | refine z8 ?_ | refine y1 ?_ | refine y2 ?_ | refine y3 ?_ | refine y4 ?_ | refine y5 ?_ | refine y6 ?_ | refine y7 ?_ | refine y8 ?_ | refine Rt.p (fun _ => ?_) fun _ => ?_)
        | ((with_reducible apply w_ixM); (focus exact rfl); (focus exact rfl); case' hk => intro y hy) | ((with_reducible (first | apply w_val | apply q_ends)); (focus exact rfl)))
      refine w_loopK [0, 1, 2, 6] [] (fun x : List Int × Int × List Int => List.Perm (x.1 ++ x.2.1 :: (x.2.2 ++ q)) (a0 :: r0) ∧ (x.1 ++ x.2.2).Pairwise (· ≤ ·) ∧ (∀ b ∈ x.2.2, x.2.1 ≤ b) ∧ x.1.length + x.2.2.length = p.length) (fun x => x.1.length) (fun x => [(7, .int .i64 x.1.length)]) (fun x => [(1000, (g, .row ((x.1 ++ x.2.1 :: (x.2.2 ++ q)).map (AV.int .i64))))]) (p, v0, []) ⟨by simpa using hp, by simpa using hs, (fun b hb => by cases hb), by simp⟩ ⟨rfl, trivial⟩ ⟨rfl, trivial⟩ ?_
      rintro ⟨A, v, B⟩ ⟨h1, h2, h3, h4⟩ e σ
      dsimp only at h1 h2 h3 h4 ⊢
      rcases List.eq_nil_or_concat A with rfl | ⟨A', u, rfl⟩
      · have h0 : ([] : List Int).length = 0 := rfl
        repeat' (first
          | with_reducible (first | refine Rd.p ?_ | refine w_alt ?_ ?_ | refine zE ?_ | refine zE0 ?_)
          | with_reducible (first | refine zI fun y hy => ?_ | refine zL ?_ | refine zS ?_ | refine zA fun _ => ?_ | refine zV ?_ | refine zC ?_ | refine zG ?_ | refine zU ?_ | refine zG0 ?_ | refine zU0 ?_ | refine zF ?_)
          | with_reducible (first | refine zX ?_ | refine zD fun _ => ?_ | refine zD0 ?_ | refine zN ?_ | refine zF0 ?_ | refine zX0 ?_ | refine z1 ?_ | refine z2 ?_ | refine z3 ?_ | refine z4 ?_ | refine z5 ?_ | refine z6 ?_ | refine z7 ?_ | refine z8 ?_ | refine y1 ?_ | refine y2 ?_ | refine y3 ?_ | refine y4 ?_ | refine y5 ?_ | refine y6 ?_ | refine y7 ?_ | refine y8 ?_ | refine Rt.p (fun _ => ?_) fun _ => ?_)
          | ((with_reducible apply w_ixM); (focus exact rfl); (focus exact rfl); case' hk => intro y hy) | ((with_reducible (first | apply w_val | apply q_ends)); (focus exact rfl)))
        refine q_loop (v :: B, q) ?_ ?_ ?_ (slots_cons rfl slots_nil) (by repeat' (first | exact kept_nil | apply kept_cons | rfl)) (by repeat' (first | exact kept_nil | apply kept_cons | rfl))
        · exact ⟨h1, List.pairwise_cons.2 ⟨h3, h2⟩, by simp at h4 ⊢; omega⟩
        · simp
        · refine slots_cons ?_ slots_nil
          show AV.int .i64 _ = AV.int .i64 _
          refine int_eq ?_; simp at h4 ⊢; omega
      · rw [List.concat_eq_append] at *
        have hal : (A' ++ [u]).length = A'.length + 1 := by simp
        rw [hal] at h4
        have e1 : (A' ++ [u] ++ v :: (B ++ q))[(((A' ++ [u]).length : Nat) : Int).toNat * 1]? = some v := by simp
        have e2 : (A' ++ [u] ++ v :: (B ++ q))[((((A' ++ [u]).length : Nat) : Int) - 1).toNat * 1]? = some u := by rw [hal]; simp
        repeat' (first
          | with_reducible (first | refine Rd.p ?_ | refine w_alt ?_ ?_ | refine zE ?_ | refine zE0 ?_)
          | (first | refine w_ldA e1 rfl rfl ?_ | refine w_ldA e2 rfl rfl ?_)
          | (refine w_stI rfl rfl rfl (by first | (simp; done) | (simp; omega)) ?_)
          | with_reducible (first | refine zI fun y hy => ?_ | refine zL ?_ | refine zS ?_ | refine zA fun _ => ?_ | refine zV ?_ | refine zC ?_ | refine zG ?_ | refine zU ?_ | refine zG0 ?_ | refine zU0 ?_ | refine zF ?_)
          | ((with_reducible refine acall_id ?_); refine ACall.val (less_s _ _) rfl rfl ?_)
          | with_reducible (first | refine zX ?_ | refine zD fun _ => ?_ | refine zD0 ?_ | refine zN ?_ | refine zF0 ?_ | refine zX0 ?_ | refine z1 ?_ | refine z2 ?_ | refine z3 ?_ | refine z4 ?_ | refine z5 ?_ | refine z6 ?_ | refine z7 ?_ | refine z8 ?_ | refine y1 ?_ | refine y2 ?_ | refine y3 ?_ | refine y4 ?_ | refine y5 ?_ | refine y6 ?_ | refine y7 ?_ | refine y8 ?_ | refine Rt.p (fun _ => ?_) fun _ => ?_)
          | ((with_reducible apply w_ixM); (focus exact rfl); (focus exact rfl); case' hk => intro y hy) | ((with_reducible (first | apply w_val | apply q_ends)); (focus exact rfl)))
        · rename_i hvu
          refine q_loop (A', v, u :: B) ?_ ?_ ?_ (slots_cons ?_ slots_nil) (by repeat' (first | exact kept_nil | apply kept_cons | rfl)) (by repeat' (first | exact kept_nil | apply kept_cons | rfl))
          · refine ⟨?_, by simpa using h2, ?_, by simp; omega⟩
            · refine List.Perm.trans ?_ h1
              rw [List.append_assoc]
              exact List.Perm.append_left _ (List.Perm.swap _ _ _)
            · intro b hb
              rcases List.mem_cons.1 hb with rfl | hb
              · exact Int.le_of_lt hvu
              · exact h3 b hb
          · dsimp only; rw [hal]; omega
          · refine slots_cons ?_ slots_nil
            show AV.int .i64 _ = AV.int .i64 _
            refine int_eq ?_; dsimp only; rw [hal]; omega
          · show (_, Res.row _) = _
            refine congrArg (fun z => (g, Res.row (List.map (AV.int .i64) z))) ?_
            have n1 : (((A' ++ [u]).length : Nat) : Int).toNat * 1 = A'.length + 1 := by rw [hal]; omega
            have n2 : ((((A' ++ [u]).length : Nat) : Int) - 1).toNat * 1 = A'.length := by rw [hal]; omega
            rw [n1, n2]
            simp
        · rename_i hvu
          have hs2 : (A' ++ [u] ++ v :: B).Pairwise (· ≤ ·) := by
            rw [List.pairwise_append] at h2 ⊢
            refine ⟨h2.1, List.pairwise_cons.2 ⟨h3, h2.2.1⟩, fun a ha b hb => ?_⟩
            rcases List.mem_cons.1 hb with rfl | hb
            · have h5 := List.pairwise_append.1 h2.1
              rcases List.mem_append.1 ha with ha | ha
              · have := h5.2.2 a ha u (by simp); omega
              · simp at ha; subst ha; omega
            · exact h2.2.2 a ha b hb
          refine q_loop (A' ++ [u] ++ v :: B, q) ?_ ?_ ?_ (slots_cons ?_ slots_nil) (by repeat' (first | exact kept_nil | apply kept_cons | rfl)) (by repeat' (first | exact kept_nil | apply kept_cons | rfl))
          · exact ⟨by simpa using h1, hs2, by simp; omega⟩
          · simp
          · refine slots_cons ?_ slots_nil
            show AV.int .i64 _ = AV.int .i64 _
            refine int_eq ?_; simp; omega
          · show (_, Res.row _) = _
            refine congrArg (fun z => (g, Res.row (List.map (AV.int .i64) z))) ?_
            simp
theorem ins_call {σ : Sig} {d j : Nat} {Q : AV → Sig → Prop} (xs : List Int) (g : Nat) (hl : xs.length ≤ 12) (hσ : σ j = (g, .row (xs.map (AV.int .i64)))) (hj : renOK [(1000, j)] = true) (hQ : ∀ ys, SrtP xs ys → Q (.tup []) (upd σ j (g, .row (ys.map (AV.int .i64))))) :
    ACall Try.prog 133 [.msl j g xs.length 1, .int .i64 0, .int .i64 xs.length] σ d Q := by
  refine ACall.liftS (ins_s xs g hl) [(1000, j)] none hj ?_ ?_ ⟨⟨_, by rw [hσ]⟩, trivial⟩ (fun _ => rfl) ?_
  · show _ = ren _ _ :: _
    have : lk (flipL [(1000, j)]) j = some 1000 := by simp [flipL, lk]
    simp only [ren, this]; rfl
  · show _ = [(1000, ((σ j).1, renR _ (σ j).2))]
    rw [hσ]; simp only [renR, renL_int]
  · rintro ys av ⟨rfl, hys⟩
    show Q (.tup []) (upd σ j (g, renR _ (.row _)))
    simp only [renR, renL_int]; exact hQ ys hys
theorem pdq_s (xs : List Int) (g : Nat) (lim : Int) (hl : xs.length ≤ 12) :
    RawC Try.prog 123 [.msl 1000 g xs.length 1, .int .i64 0, .int .i64 xs.length, .int .i64 lim] (sg [(1000, (g, .row (xs.map (AV.int .i64))))])
      (SR (fun ys v => v = .tup [] ∧ SrtP xs ys) (fun ys => [(1000, (g, .row (ys.map (AV.int .i64))))])) := by
  refine RawC.walk (H := hint123 Try.prog) ir123 Try.func123 rfl rfl rfl ?_
  unfold ir123
  repeat' (first
    | with_reducible (first | refine Rd.p ?_ | refine w_alt ?_ ?_ | refine zE ?_ | refine zE0 ?_)
    | (refine w_unr 1 ?_)
    | with_reducible (first | refine zI fun y hy => ?_ | refine zL ?_ | refine zS ?_ | refine zA fun _ => ?_ | refine zV ?_ | refine zC ?_ | refine zG ?_ | refine zU ?_ | refine zG0 ?_ | refine zU0 ?_ | refine zF ?_)
    | ((with_reducible refine acall_id ?_); (refine ins_call xs g hl rfl rfl ?_; intro ys hys))
    | with_reducible (first | refine zX ?_ | refine zD fun _ => ?_ | refine zD0 ?_ | refine zN ?_ | refine zF0 ?_ | refine zX0 ?_ | refine z1 ?_ | refine z2 ?_ | refine z3 ?_ | refine z4 ?_ | refine z5 ?_ | refine z6 ?_ | refine z7 ?_ | refine z8 ?_ | refine y1 ?_ | refine y2 ?_ | refine y3 ?_ | refine y4 ?_ | refine y5 ?_ | refine y6 ?_ | refine y7 ?_ | refine y8 ?_ | refine Rt.p (fun _ => ?_) fun _ => ?_)
    | ((with_reducible apply w_ixM); (focus exact rfl); (focus exact rfl); case' hk => intro y hy) | ((with_reducible (first | apply w_val | apply q_ends)); (focus exact rfl)))
  exact ⟨ys, ⟨rfl, hys⟩, rfl, trivial⟩
theorem pdq_call {σ : Sig} {d j : Nat} {Q : AV → Sig → Prop} (xs : List Int) (g : Nat) (lim : Int) (hl : xs.length ≤ 12) (hσ : σ j = (g, .row (xs.map (AV.int .i64)))) (hj : renOK [(1000, j)] = true) (hQ : ∀ ys, SrtP xs ys → Q (.tup []) (upd σ j (g, .row (ys.map (AV.int .i64))))) :
    ACall Try.prog 123 [.msl j g xs.length 1, .int .i64 0, .int .i64 xs.length, .int .i64 lim] σ d Q := by
  refine ACall.liftS (pdq_s xs g lim hl) [(1000, j)] none hj ?_ ?_ ⟨⟨_, by rw [hσ]⟩, trivial⟩ (fun _ => rfl) ?_
  · show _ = ren _ _ :: _
    have : lk (flipL [(1000, j)]) j = some 1000 := by simp [flipL, lk]
    simp only [ren, this]; rfl
  · show _ = [(1000, ((σ j).1, renR _ (σ j).2))]
    rw [hσ]; simp only [renR, renL_int]
  · rintro ys av ⟨rfl, hys⟩
    show Q (.tup []) (upd σ j (g, renR _ (.row _)))
    simp only [renR, renL_int]; exact hQ ys hys
theorem len64_s (n : Nat) (hn : n ≤ 12) : Fn0 Try.prog 143 [.int .u64 n] (fun v => ∃ x, v = .int .i64 x) := by
  rcases (by omega : n = 0 ∨ n = 1 ∨ n = 2 ∨ n = 3 ∨ n = 4 ∨ n = 5 ∨ n = 6 ∨ n = 7 ∨ n = 8 ∨ n = 9 ∨ n = 10 ∨ n = 11 ∨ n = 12) with rfl | rfl | rfl | rfl | rfl | rfl | rfl | rfl | rfl | rfl | rfl | rfl | rfl
  all_goals
    refine RawC.walk (H := hint143 Try.prog) ir143 Try.func143 rfl rfl rfl ?_
    unfold ir143
    repeat' (first
      | with_reducible (first | refine Rd.p ?_ | refine w_alt ?_ ?_ | refine zE ?_ | refine zE0 ?_)
      | with_reducible (first | refine zI fun y hy => ?_ | refine zL ?_ | refine zS ?_ | refine zA fun _ => ?_)
      | ((with_reducible apply w_ixM); (focus exact rfl); (focus exact rfl); (focus ((repeat' (with_reducible (first | exact trivial | apply And.intro))) <;> (first | decide | (constructor <;> decide) | exact sd))); case' hk => intro y hy) | ((with_reducible apply w_slM); (focus exact rfl); (focus exact rfl); (focus exact rfl); (focus ((repeat' (with_reducible (first | exact trivial | apply And.intro))) <;> (first | decide | (constructor <;> decide) | exact sd)))) | ((with_reducible apply w_val); (focus exact rfl); (focus ((repeat' (with_reducible (first | exact trivial | apply And.intro))) <;> (first | decide | (constructor <;> decide) | exact sd)))) | ((with_reducible apply w_det); (focus exact fun _ => rfl); (focus ((repeat' (with_reducible (first | exact trivial | apply And.intro))) <;> (first | decide | (constructor <;> decide) | exact sd))); case' hk => intro _) | ((with_reducible apply w_det0); (focus exact fun _ => rfl); (focus ((repeat' (with_reducible (first | exact trivial | apply And.intro))) <;> (first | decide | (constructor <;> decide) | exact sd)))) | ((with_reducible apply q_ends); (focus exact rfl); (focus ((repeat' (with_reducible (first | exact trivial | apply And.intro))) <;> (first | decide | (constructor <;> decide) | exact sd))))
      | with_reducible (first | refine zI fun y hy => ?_ | refine zL ?_ | refine zS ?_ | refine zA fun _ => ?_ | refine zV ?_ | refine zC ?_ | refine zG ?_ | refine zU ?_ | refine zG0 ?_ | refine zU0 ?_ | refine zF ?_)
      | with_reducible (first | refine zX ?_ | refine zD fun _ => ?_ | refine zD0 ?_ | refine zN ?_ | refine zF0 ?_ | refine zX0 ?_ | refine z1 ?_ | refine z2 ?_ | refine z3 ?_ | refine z4 ?_ | refine z5 ?_ | refine z6 ?_ | refine z7 ?_ | refine z8 ?_ | refine y1 ?_ | refine y2 ?_ | refine y3 ?_ | refine y4 ?_ | refine y5 ?_ | refine y6 ?_ | refine y7 ?_ | refine y8 ?_ | refine Rt.p (fun _ => ?_) fun _ => ?_)
      | ((with_reducible apply w_ixM); (focus exact rfl); (focus exact rfl); case' hk => intro y hy) | ((with_reducible (first | apply w_val | apply q_ends)); (focus exact rfl)))
    all_goals first | exact ⟨_, rfl⟩ | decide | (constructor <;> decide)
theorem len_s (n : Nat) (hn : n ≤ 12) : Fn0 Try.prog 124 [.int .u64 n] (fun v => ∃ x, v = .int .i64 x) := by
  refine RawC.walk (H := hint124 Try.prog) ir124 Try.func124 rfl rfl rfl ?_
  unfold ir124
  repeat' (first
    | with_reducible (first | refine Rd.p ?_ | refine w_alt ?_ ?_ | refine zE ?_ | refine zE0 ?_)
    | with_reducible (first | refine zI fun y hy => ?_ | refine zL ?_ | refine zS ?_ | refine zA fun _ => ?_ | refine zV ?_ | refine zC ?_ | refine zG ?_ | refine zU ?_ | refine zG0 ?_ | refine zU0 ?_ | refine zF ?_)
    | ((with_reducible refine acall_id ?_); refine ACall.fn0 (len64_s n hn) rfl ?_; rintro _ ⟨x, rfl⟩)
    | with_reducible (first | refine zX ?_ | refine zD fun _ => ?_ | refine zD0 ?_ | refine zN ?_ | refine zF0 ?_ | refine zX0 ?_ | refine z1 ?_ | refine z2 ?_ | refine z3 ?_ | refine z4 ?_ | refine z5 ?_ | refine z6 ?_ | refine z7 ?_ | refine z8 ?_ | refine y1 ?_ | refine y2 ?_ | refine y3 ?_ | refine y4 ?_ | refine y5 ?_ | refine y6 ?_ | refine y7 ?_ | refine y8 ?_ | refine Rt.p (fun _ => ?_) fun _ => ?_)
    | ((with_reducible apply w_ixM); (focus exact rfl); (focus exact rfl); case' hk => intro y hy) | ((with_reducible (first | apply w_val | apply q_ends)); (focus exact rfl)))
  exact ⟨_, rfl⟩
theorem sort_s (xs : List Int) (g : Nat) (hl : xs.length ≤ 12) :
    RawC Try.prog 88 [.msl 1000 g xs.length 1] (sg [(1000, (g, .row (xs.map (AV.int .i64))))])
      (SR (fun ys v => v = .tup [] ∧ SrtP xs ys) (fun ys => [(1000, (g, .row (ys.map (AV.int .i64))))])) := by
  refine RawC.walk (H := hint88 Try.prog) ir88 Try.func88 rfl rfl rfl ?_
  unfold ir88
  repeat' (first
    | with_reducible (first | refine Rd.p ?_ | refine w_alt ?_ ?_ | refine zE ?_ | refine zE0 ?_)
    | (refine w_cvU rfl ⟨by omega, by omega⟩ ?_)
    | with_reducible (first | refine zI fun y hy => ?_ | refine zL ?_ | refine zS ?_ | refine zA fun _ => ?_ | refine zV ?_ | refine zC ?_ | refine zG ?_ | refine zU ?_ | refine zG0 ?_ | refine zU0 ?_ | refine zF ?_)
    | ((with_reducible refine acall_id ?_); refine ACall.fn0 (len_s xs.length hl) rfl ?_; rintro _ ⟨x, rfl⟩)
    | ((with_reducible refine acall_id ?_); (refine pdq_call xs g _ hl rfl rfl ?_; intro ys hys))
    | with_reducible (first | refine zX ?_ | refine zD fun _ => ?_ | refine zD0 ?_ | refine zN ?_ | refine zF0 ?_ | refine zX0 ?_ | refine z1 ?_ | refine z2 ?_ | refine z3 ?_ | refine z4 ?_ | refine z5 ?_ | refine z6 ?_ | refine z7 ?_ | refine z8 ?_ | refine y1 ?_ | refine y2 ?_ | refine y3 ?_ | refine y4 ?_ | refine y5 ?_ | refine y6 ?_ | refine y7 ?_ | refine y8 ?_ | refine Rt.p (fun _ => ?_) fun _ => ?_)
    | ((with_reducible apply w_ixM); (focus exact rfl); (focus exact rfl); case' hk => intro y hy) | ((with_reducible (first | apply w_val | apply q_ends)); (focus exact rfl)))
  exact ⟨ys, ⟨rfl, hys⟩, rfl, trivial⟩
theorem sort_call {σ : Sig} {d j : Nat} {Q : AV → Sig → Prop} (xs : List Int) (g : Nat) (hl : xs.length ≤ 12) (hσ : σ j = (g, .row (xs.map (AV.int .i64)))) (hj : renOK [(1000, j)] = true) (hQ : ∀ ys, SrtP xs ys → Q (.tup []) (upd σ j (g, .row (ys.map (AV.int .i64))))) :
    ACall Try.prog 88 [.msl j g xs.length 1] σ d Q := by
  refine ACall.liftS (sort_s xs g hl) [(1000, j)] none hj ?_ ?_ ⟨⟨_, by rw [hσ]⟩, trivial⟩ (fun _ => rfl) ?_
  · show _ = ren _ _ :: _
    have : lk (flipL [(1000, j)]) j = some 1000 := by simp [flipL, lk]
    simp only [ren, this]; rfl
  · show _ = [(1000, ((σ j).1, renR _ (σ j).2))]
    rw [hσ]; simp only [renR, renL_int]
  · rintro ys av ⟨rfl, hys⟩
    show Q (.tup []) (upd σ j (g, renR _ (.row _)))
    simp only [renR, renL_int]; exact hQ ys hys
theorem sort0_s : Fn0 Try.prog 88 [.nsl] (fun v => v = .tup []) := by
  have h1 : Fn0 Try.prog 123 [.nsl, .int .i64 0, .int .i64 0, .int .i64 0] (fun v => v = .tup []) := by
    have h2 : Fn0 Try.prog 133 [.nsl, .int .i64 0, .int .i64 0] (fun v => v = .tup []) := by
      refine RawC.walk (H := hint133 Try.prog) ir133 Try.func133 rfl rfl rfl ?_
      unfold ir133
      repeat' (first
        | with_reducible (first | refine Rd.p ?_ | refine w_alt ?_ ?_ | refine zE ?_ | refine zE0 ?_)
        | (refine w_unr 1 ?_)
        | with_reducible (first | refine zI fun y hy => ?_ | refine zL ?_ | refine zS ?_ | refine zA fun _ => ?_ | refine zV ?_ | refine zC ?_ | refine zG ?_ | refine zU ?_ | refine zG0 ?_ | refine zU0 ?_ | refine zF ?_)
        | with_reducible (first | refine zX ?_ | refine zD fun _ => ?_ | refine zD0 ?_ | refine zN ?_ | refine zF0 ?_ | refine zX0 ?_ | refine z1 ?_ | refine z2 ?_ | refine z3 ?_ | refine z4 ?_ | refine z5 ?_ | refine z6 ?_ | refine z7 ?_ | refine z8 ?_ | refine y1 ?_ | refine y2 ?_ | refine y3 ?_ | refine y4 ?_ | refine y5 ?_ | refine y6 ?_ | refine y7 ?_ | refine y8 ?_ | refine Rt.p (fun _ => ?_) fun _ => ?_)
        | ((with_reducible apply w_ixM); (focus exact rfl); (focus exact rfl); case' hk => intro y hy) | ((with_reducible (first | apply w_val | apply q_ends)); (focus exact rfl)))
      rfl
    refine RawC.walk (H := hint123 Try.prog) ir123 Try.func123 rfl rfl rfl ?_
    unfold ir123
    repeat' (first
      | with_reducible (first | refine Rd.p ?_ | refine w_alt ?_ ?_ | refine zE ?_ | refine zE0 ?_)
      | (refine w_unr 1 ?_)
      | with_reducible (first | refine zI fun y hy => ?_ | refine zL ?_ | refine zS ?_ | refine zA fun _ => ?_ | refine zV ?_ | refine zC ?_ | refine zG ?_ | refine zU ?_ | refine zG0 ?_ | refine zU0 ?_ | refine zF ?_)
      | ((with_reducible refine acall_id ?_); refine ACall.val h2 rfl rfl ?_)
      | with_reducible (first | refine zX ?_ | refine zD fun _ => ?_ | refine zD0 ?_ | refine zN ?_ | refine zF0 ?_ | refine zX0 ?_ | refine z1 ?_ | refine z2 ?_ | refine z3 ?_ | refine z4 ?_ | refine z5 ?_ | refine z6 ?_ | refine z7 ?_ | refine z8 ?_ | refine y1 ?_ | refine y2 ?_ | refine y3 ?_ | refine y4 ?_ | refine y5 ?_ | refine y6 ?_ | refine y7 ?_ | refine y8 ?_ | refine Rt.p (fun _ => ?_) fun _ => ?_)
      | ((with_reducible apply w_ixM); (focus exact rfl); (focus exact rfl); case' hk => intro y hy) | ((with_reducible (first | apply w_val | apply q_ends)); (focus exact rfl)))
    rfl
  have h0 : Fn0 Try.prog 124 [.int .u64 0] (fun v => v = .int .i64 0) := by
    have h3 : Fn0 Try.prog 143 [.int .u64 0] (fun v => v = .int .i64 0) := by
      refine RawC.walk (H := hint143 Try.prog) ir143 Try.func143 rfl rfl rfl ?_
      unfold ir143
      repeat' (first
        | with_reducible (first | refine Rd.p ?_ | refine w_alt ?_ ?_ | refine zE ?_ | refine zE0 ?_)
        | with_reducible (first | refine zI fun y hy => ?_ | refine zL ?_ | refine zS ?_ | refine zA fun _ => ?_)
        | ((with_reducible apply w_ixM); (focus exact rfl); (focus exact rfl); (focus ((repeat' (with_reducible (first | exact trivial | apply And.intro))) <;> (first | decide | (constructor <;> decide) | exact sd))); case' hk => intro y hy) | ((with_reducible apply w_slM); (focus exact rfl); (focus exact rfl); (focus exact rfl); (focus ((repeat' (with_reducible (first | exact trivial | apply And.intro))) <;> (first | decide | (constructor <;> decide) | exact sd)))) | ((with_reducible apply w_val); (focus exact rfl); (focus ((repeat' (with_reducible (first | exact trivial | apply And.intro))) <;> (first | decide | (constructor <;> decide) | exact sd)))) | ((with_reducible apply w_det); (focus exact fun _ => rfl); (focus ((repeat' (with_reducible (first | exact trivial | apply And.intro))) <;> (first | decide | (constructor <;> decide) | exact sd))); case' hk => intro _) | ((with_reducible apply w_det0); (focus exact fun _ => rfl); (focus ((repeat' (with_reducible (first | exact trivial | apply And.intro))) <;> (first | decide | (constructor <;> decide) | exact sd)))) | ((with_reducible apply q_ends); (focus exact rfl); (focus ((repeat' (with_reducible (first | exact trivial | apply And.intro))) <;> (first | decide | (constructor <;> decide) | exact sd))))
        | with_reducible (first | refine zI fun y hy => ?_ | refine zL ?_ | refine zS ?_ | refine zA fun _ => ?_ | refine zV ?_ | refine zC ?_ | refine zG ?_ | refine zU ?_ | refine zG0 ?_ | refine zU0 ?_ | refine zF ?_)
        | with_reducible (first | refine zX ?_ | refine zD fun _ => ?_ | refine zD0 ?_ | refine zN ?_ | refine zF0 ?_ | refine zX0 ?_ | refine z1 ?_ | refine z2 ?_ | refine z3 ?_ | refine z4 ?_ | refine z5 ?_ | refine z6 ?_ | refine z7 ?_ | refine z8 ?_ | refine y1 ?_ | refine y2 ?_ | refine y3 ?_ | refine y4 ?_ | refine y5 ?_ | refine y6 ?_ | refine y7 ?_ | refine y8 ?_ | refine Rt.p (fun _ => ?_) fun _ => ?_)
        | ((with_reducible apply w_ixM); (focus exact rfl); (focus exact rfl); case' hk => intro y hy) | ((with_reducible (first | apply w_val | apply q_ends)); (focus exact rfl)))
      rfl
    refine RawC.walk (H := hint124 Try.prog) ir124 Try.func124 rfl rfl rfl ?_
    unfold ir124
    repeat' (first
      | with_reducible (first | refine Rd.p ?_ | refine w_alt ?_ ?_ | refine zE ?_ | refine zE0 ?_)
      | with_reducible (first | refine zI fun y hy => ?_ | refine zL ?_ | refine zS ?_ | refine zA fun _ => ?_ | refine zV ?_ | refine zC ?_ | refine zG ?_ | refine zU ?_ | refine zG0 ?_ | refine zU0 ?_ | refine zF ?_)
      | ((with_reducible refine acall_id ?_); refine ACall.val h3 rfl rfl ?_)
      | with_reducible (first | refine zX ?_ | refine zD fun _ => ?_ | refine zD0 ?_ | refine zN ?_ | refine zF0 ?_ | refine zX0 ?_ | refine z1 ?_ | refine z2 ?_ | refine z3 ?_ | refine z4 ?_ | refine z5 ?_ | refine z6 ?_ | refine z7 ?_ | refine z8 ?_ | refine y1 ?_ | refine y2 ?_ | refine y3 ?_ | refine y4 ?_ | refine y5 ?_ | refine y6 ?_ | refine y7 ?_ | refine y8 ?_ | refine Rt.p (fun _ => ?_) fun _ => ?_)
      | ((with_reducible apply w_ixM); (focus exact rfl); (focus exact rfl); case' hk => intro y hy) | ((with_reducible (first | apply w_val | apply q_ends)); (focus exact rfl)))
    rfl
  refine RawC.walk (H := hint88 Try.prog) ir88 Try.func88 rfl rfl rfl ?_
  unfold ir88
  repeat' (first
    | with_reducible (first | refine Rd.p ?_ | refine w_alt ?_ ?_ | refine zE ?_ | refine zE0 ?_)
    | with_reducible (first | refine zI fun y hy => ?_ | refine zL ?_ | refine zS ?_ | refine zA fun _ => ?_ | refine zV ?_ | refine zC ?_ | refine zG ?_ | refine zU ?_ | refine zG0 ?_ | refine zU0 ?_ | refine zF ?_)
    | ((with_reducible refine acall_id ?_); refine ACall.val h0 rfl rfl ?_)
    | ((with_reducible refine acall_id ?_); refine ACall.val h1 rfl rfl ?_)
    | with_reducible (first | refine zX ?_ | refine zD fun _ => ?_ | refine zD0 ?_ | refine zN ?_ | refine zF0 ?_ | refine zX0 ?_ | refine z1 ?_ | refine z2 ?_ | refine z3 ?_ | refine z4 ?_ | refine z5 ?_ | refine z6 ?_ | refine z7 ?_ | refine z8 ?_ | refine y1 ?_ | refine y2 ?_ | refine y3 ?_ | refine y4 ?_ | refine y5 ?_ | refine y6 ?_ | refine y7 ?_ | refine y8 ?_ | refine Rt.p (fun _ => ?_) fun _ => ?_)
    | ((with_reducible apply w_ixM); (focus exact rfl); (focus exact rfl); case' hk => intro y hy) | ((with_reducible (first | apply w_val | apply q_ends)); (focus exact rfl)))
  rfl
end Go.Abs
